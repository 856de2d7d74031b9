/- Functions that one statement reaches: of each a plain function, and the proof that calls come to it. Conditions: those that each contract names. Written by a program of this repository. -/
import Derived.Test.YtojdaolclcmalaaVPlayAsksa
import Derived.Test.YtojdaolclcmalaaQFnExactPlayAsksx2
import Derived.Test.YtojdaolclcmalaaQFnExactPlayAsksx6
import Derived.Test.YtojdaolclcmalaaQFnExactPlayAsksx7
import Derived.Test.YtojdaolclcmalaaQFnExactPlayAsksx8
namespace Go.Proofs.Ytojdaolclcmalaa.QFnExactPlayAsks
open Go.RowKit Go.Proofs.YtojdaolclcmalaaW.PrintWords Go.Proofs.YtojdaolclcmalaaW.PrintLast Go.Proofs.YtojdaolclcmalaaW.PrintMore
attribute [local go_sem] max2_int min2_int max_two min_two max_three min_three max_four min_four Go.Proofs.YtojdaolclcmalaaW.PrintMore2.isSome_setCell   -- for this text's walks alone
set_option linter.unusedVariables false
set_option linter.unusedSimpArgs false

/-! ### spec_l5Ask: function 57 -/
/-- What an ask makes of a part, and what it is told. -/
def spec_l5Ask.f (k : Nat) (l0_0 : List S81) (l0_1 : List S78) (a0_2 : Int) (a1_0 : Int) (a1_1 : Int) (a1_2 : Int) (l1_3 : List ByteArray) : Option (List S81 × List S78 × Int × Int × Int) :=
 (spec_l5Code.f k l0_0 l0_1 a0_2 a1_0 a1_1 a1_2 l1_3).bind fun c => if c.1 = 0 then
  (spec_l5Batch.f a0_2 0 0 0 [] a1_0 a1_1 a1_2 l1_3).bind fun b => if l0_1.length < 1000000 then (if l0_0.length < 1000000 then
   (spec_l5Add.f k l0_0 b.1 b.2.1 b.2.2.1 b.2.2.2.1 b.2.2.2.2).bind fun ps => some (ps, l0_1 ++ [(⟨b.1, b.2.1, b.2.2.1, b.2.2.2.1, b.2.2.2.2⟩ : S78)], wrap64 (a0_2 + (b.2.2.2.2.length : Int)), c.1, c.2) else none) else none
 else some (l0_0, l0_1, a0_2, c.1, c.2)
theorem spec_l5Ask.mono : ∀ a0 a1 a2 a3 a4 a5 a6 k, LeO (spec_l5Ask.f k a0 a1 a2 a3 a4 a5 a6) (spec_l5Ask.f (k + 1) a0 a1 a2 a3 a4 a5 a6) := fun _ _ _ _ _ _ _ _ =>
 LeO.bind (spec_l5Code.mono _ _ _ _ _ _ _ _) (fun _ => LeO.ite (LeO.bind (LeO.refl _) (fun _ => LeO.ite (LeO.ite (LeO.bind (spec_l5Add.mono _ _ _ _ _ _ _) (fun _ => LeO.refl _)) (LeO.refl _)) (LeO.refl _))) (LeO.refl _))

set_option maxHeartbeats 8000000 in
set_option maxRecDepth 100000 in
theorem spec_l5Ask.calls (k : Nat) (P0_0_ : Nat → Prop) (A0_0 : Option Addr) (c0_0 : Nat) (l0_0 : List S81) (P0_1_ : Nat → Prop) (A0_1 : Option Addr) (c0_1 : Nat) (l0_1 : List S78) (a0_2 : Int) (a1_0 : Int) (a1_1 : Int) (a1_2 : Int) (A1_3 : Option Addr) (c1_3 : Nat) (l1_3 : List ByteArray) (r1 : List S81) (r2 : List S78) (r3 : Int) (r4 : Int) (r5 : Int) (w : World)
    (hs0_0 : Kd.V k81 81 w w.heap.size (fun k_ => P0_0_ k_) (.slice A0_0 l0_0.length c0_0) l0_0) (hs0_1 : Kd.V k78 78 w w.heap.size (fun k_ => P0_1_ k_) (.slice A0_1 l0_1.length c0_1) l0_1) (hr1_3 : Kd.C Kd.string w A1_3 l1_3.length l1_3) (hc1_3 : l1_3.length ≤ c1_3) (h : spec_l5Ask.f k l0_0 l0_1 a0_2 a1_0 a1_1 a1_2 l1_3 = some (r1, r2, r3, r4, r5)) :
    Calls Try.prog 57 #[.agg #[.slice A0_0 l0_0.length c0_0, .slice A0_1 l0_1.length c0_1, .int .i64 a0_2], .agg #[.int .i64 a1_0, .int .i64 a1_1, .int .i64 a1_2, .slice A1_3 l1_3.length c1_3]] w fun e w' => ∃ v0_ v1_ : Value, e = .returned (.tuple #[.agg #[v0_, v1_, .int .i64 r3], .int .i64 r4, .int .i64 r5]) ∧ Kd.V k81 81 w' w.heap.size (fun k_ => ((P0_0_ k_ ∨ P0_1_ k_) ∨ w.heap.size ≤ k_)) v0_ r1 ∧ Kd.V k78 78 w' w.heap.size (fun k_ => ((P0_0_ k_ ∨ P0_1_ k_) ∨ w.heap.size ≤ k_)) v1_ r2 ∧ Below w.heap.size w w' := by
  have hu33 := Try.underlying33
  have hu57 := Try.underlying57
  have hu78 := Try.underlying78
  have HV0 := am_ hs0_0
  have HV1 := am_ hs0_1
  have HR3 := am_ hr1_3
  have HC3 := am_ hc1_3
  have HB := am_ (Below.refl w.heap.size w)
  unfold spec_l5Ask.f at h
  obtain ⟨⟨q1, q2⟩, AC, h1⟩ := bnd_ h
  dsimp only at h1
  clear hs0_0 hs0_1 hr1_3 hc1_3 h
  obtain ⟨hq, h2⟩ | ⟨hq, h2⟩ := ite_ h1
  rotate_left
  · obtain ⟨rfl, rfl, rfl, rfl, rfl⟩ : l0_0 = r1 ∧ l0_1 = r2 ∧ a0_2 = r3 ∧ q1 = r4 ∧ q2 = r5 := by simpa using h2
    have hqb : (q1 != 0) = true := bne_iff_ne.mpr hq
    clear hq h1 h2
    go_enter Try.func57, Try.ntmps57
    go_wp2_with (first | ((with_reducible refine gate_dst (N := 2) rfl ?_); refine be_ (N := 2) #[.slice A0_0 l0_0.length c0_0, .slice A0_1 l0_1.length c0_1, .int .i64 a0_2] 33 ?_; intro gb2 hg w2 hbox hb; have BK2 := am_ hbox; have GE2 := ge_ hg; replace HB := nb_ hb; clear hb hbox hg) | ((with_reducible refine gate_dst (N := 3) rfl ?_); refine be_ (N := 3) #[.int .i64 a1_0, .int .i64 a1_1, .int .i64 a1_2, .slice A1_3 l1_3.length c1_3] 57 ?_; intro gb3 hg w3 hbox hb; have BK3 := am_ hbox; have GE3 := ge1_ hg GE2; replace HB := nc_ GE2 hb; have N23 := nl_ BK2 hg; replace BK2 := bK_ BK2 hb; clear hb hbox hg) | ((with_reducible refine gate_dst (N := 4) rfl ?_); refine be_ (N := 4) #[.slice none 0 0, .slice none 0 0, .int .i64 0] 33 ?_; intro gb4 hg w4 hbox hb; have BK4 := am_ hbox; have GE4 := ge2_ hg GE2 GE3; replace HB := nc2_ GE2 GE3 hb; have N24 := nl_ BK2 hg; have N42 := ng_ BK2 hg; have N34 := nl_ BK3 hg; replace BK2 := bK_ BK2 hb; replace BK3 := bK_ BK3 hb; clear hb hbox hg; obtain ⟨hcp_0, hcp_1, hcp_2, hfp_0, hfp_1, hfp_2⟩ := cf3_ BK2.out; obtain ⟨hca_0, hca_1, hca_2, hca_3, hfa_0, hfa_1, hfa_2, hfa_3⟩ := cf4_ BK3.out) | ((with_reducible refine gate_callee (f := 83) rfl ?_); refine gl_ 13 Try.func83 #[.agg #[.slice A0_0 l0_0.length c0_0, .slice A0_1 l0_1.length c0_1, .int .i64 a0_2], .agg #[.int .i64 a1_0, .int .i64 a1_1, .int .i64 a1_2, .slice A1_3 l1_3.length c1_3]] rfl ma_ ?_; (with_reducible refine (spec_l5Code.calls k A0_0 c0_0 l0_0 A0_1 c0_1 l0_1 a0_2 a1_0 a1_1 a1_2 A1_3 c1_3 l1_3 q1 q2 _ ?s1 ?s2 ?s3 ?s4 ?s5 ?s6 AC.out).mono ?_); (case s1 => exact Kd.C_below (Kd.V_reads' HV0.out).2.2 HB.out); (case s2 => exact (Kd.V_reads' HV0.out).2.1); (case s3 => exact Kd.C_below (Kd.V_reads' HV1.out).2.2 HB.out); (case s4 => exact (Kd.V_reads' HV1.out).2.1); (case s5 => exact Kd.C_below HR3.out HB.out); (case s6 => exact HC3.out); rintro e_ w6 ⟨rfl, hb6⟩; refine ⟨_, rfl, ?_⟩; replace BK2 := am_ (blk_below BK2.out hb6); replace BK3 := am_ (blk_below BK3.out hb6); replace BK4 := am_ (blk_below BK4.out hb6); replace HB := am_ (below_step HB.out hb6); clear hb6 hcp_0 hcp_1 hcp_2 hfp_0 hfp_1 hfp_2 hca_0 hca_1 hca_2 hca_3 hfa_0 hfa_1 hfa_2 hfa_3; obtain ⟨hcp_0, hcp_1, hcp_2, hfp_0, hfp_1, hfp_2⟩ := cf3_ BK2.out; obtain ⟨hca_0, hca_1, hca_2, hca_3, hfa_0, hfa_1, hfa_2, hfa_3⟩ := cf4_ BK3.out; obtain ⟨hcr_0, hcr_1, hcr_2, hfr_0, hfr_1, hfr_2⟩ := cf3_ BK4.out) | ((with_reducible refine gate_store (t := 33) (p := 4) rfl ?_); refine store_event (t := 33) (p := 4) (v := ?vo_4) (w1 := (((w6.setCell ⟨gb4, 0, none⟩ (.slice A0_0 l0_0.length c0_0)).setCell ⟨gb4, 1, none⟩ (.slice A0_1 l0_1.length c0_1)).setCell ⟨gb4, 2, none⟩ (.int .i64 a0_2))) ?hg ?ho ?hn ?hr ?_; (case ho => rfl); (case hg => rfl); (case hn => rfl); (case hr => first | (go_simp; done) | (go_simp; rfl)); intro w7 hw_; have BKn := am_ (show w7.heap[gb4]? = some (.cells #[.slice A0_0 l0_0.length c0_0, .slice A0_1 l0_1.length c0_1, .int .i64 a0_2] 33 (0, 0)) from by rw [hw_]; exact blk_put (cs := #[.slice A0_0 l0_0.length c0_0, .slice A0_1 l0_1.length c0_1, .int .i64 0]) (blk_put (cs := #[.slice A0_0 l0_0.length c0_0, .slice none 0 0, .int .i64 0]) (blk_put (cs := #[.slice none 0 0, .slice none 0 0, .int .i64 0]) BK4.out 0 _ rfl) 1 _ rfl) 2 _ rfl); have HBn := am_ (show Below w.heap.size w w7 from by rw [hw_]; exact below_set (below_set (below_set HB.out GE4.out) GE4.out) GE4.out); clear hw_))
    refine bodyPost_ret (results_ctt rfl _ _ gb4 33 #[.slice A0_0 l0_0.length c0_0, .slice A0_1 l0_1.length c0_1, .int .i64 a0_2] (0, 0) _ rfl BKn.out Try.underlying33 rfl (by kernel_rfl)) rfl ?_
    exact ⟨_, _, er_, Kd.V_mono (Kd.V_below HV0.out HBn.out) (fun _ hk => .inl (.inl hk)), Kd.V_mono (Kd.V_below HV1.out HBn.out) (fun _ hk => .inl (.inr hk)), HBn.out⟩
  · obtain ⟨⟨b0, b1, b2, b3, b4⟩, AB, h3⟩ := bnd_ h2
    obtain ⟨hl1, h4⟩ := ifs_ h3
    obtain ⟨hl0, h5⟩ := ifs_ h4
    obtain ⟨ps, AP, h6⟩ := bnd_ h5
    dsimp only at AP h6
    obtain ⟨rfl, hr2, hr3, rfl, rfl⟩ : ps = r1 ∧ l0_1 ++ [(⟨b0, b1, b2, b3, b4⟩ : S78)] = r2 ∧ wrap64 (a0_2 + (b4.length : Int)) = r3 ∧ q1 = r4 ∧ q2 = r5 := by simpa using h6
    have hqb : (q1 != 0) = false := bne_eq_false_iff_eq.mpr hq
    have HR2 := am_ hr2
    have HR3E := am_ hr3
    have HL1 := am_ hl1
    have HL0 := am_ hl0
    clear hq h1 h2 h3 h4 h5 h6 hr2 hr3 hl1 hl0
    go_enter Try.func57, Try.ntmps57
    go_upto_region 5 with (first | ((with_reducible refine gate_dst (N := 2) rfl ?_); refine be_ (N := 2) #[.slice A0_0 l0_0.length c0_0, .slice A0_1 l0_1.length c0_1, .int .i64 a0_2] 33 ?_; intro gb2 hg w2 hbox hb; have BK2 := am_ hbox; have GE2 := ge_ hg; replace HB := nb_ hb; clear hb hbox hg) | ((with_reducible refine gate_dst (N := 3) rfl ?_); refine be_ (N := 3) #[.int .i64 a1_0, .int .i64 a1_1, .int .i64 a1_2, .slice A1_3 l1_3.length c1_3] 57 ?_; intro gb3 hg w3 hbox hb; have BK3 := am_ hbox; have GE3 := ge1_ hg GE2; replace HB := nc_ GE2 hb; have N23 := nl_ BK2 hg; replace BK2 := bK_ BK2 hb; clear hb hbox hg) | ((with_reducible refine gate_dst (N := 4) rfl ?_); refine be_ (N := 4) #[.slice none 0 0, .slice none 0 0, .int .i64 0] 33 ?_; intro gb4 hg w4 hbox hb; have BK4 := am_ hbox; have GE4 := ge2_ hg GE2 GE3; replace HB := nc2_ GE2 GE3 hb; have N24 := nl_ BK2 hg; have N42 := ng_ BK2 hg; have N34 := nl_ BK3 hg; replace BK2 := bK_ BK2 hb; replace BK3 := bK_ BK3 hb; clear hb hbox hg; obtain ⟨hcp_0, hcp_1, hcp_2, hfp_0, hfp_1, hfp_2⟩ := cf3_ BK2.out; obtain ⟨hca_0, hca_1, hca_2, hca_3, hfa_0, hfa_1, hfa_2, hfa_3⟩ := cf4_ BK3.out) | ((with_reducible refine gate_callee (f := 83) rfl ?_); refine gl_ 13 Try.func83 #[.agg #[.slice A0_0 l0_0.length c0_0, .slice A0_1 l0_1.length c0_1, .int .i64 a0_2], .agg #[.int .i64 a1_0, .int .i64 a1_1, .int .i64 a1_2, .slice A1_3 l1_3.length c1_3]] rfl ma_ ?_; (with_reducible refine (spec_l5Code.calls k A0_0 c0_0 l0_0 A0_1 c0_1 l0_1 a0_2 a1_0 a1_1 a1_2 A1_3 c1_3 l1_3 q1 q2 _ ?s1 ?s2 ?s3 ?s4 ?s5 ?s6 AC.out).mono ?_); (case s1 => exact Kd.C_below (Kd.V_reads' HV0.out).2.2 HB.out); (case s2 => exact (Kd.V_reads' HV0.out).2.1); (case s3 => exact Kd.C_below (Kd.V_reads' HV1.out).2.2 HB.out); (case s4 => exact (Kd.V_reads' HV1.out).2.1); (case s5 => exact Kd.C_below HR3.out HB.out); (case s6 => exact HC3.out); rintro e_ w6 ⟨rfl, hb6⟩; refine ⟨_, rfl, ?_⟩; replace BK2 := am_ (blk_below BK2.out hb6); replace BK3 := am_ (blk_below BK3.out hb6); replace BK4 := am_ (blk_below BK4.out hb6); replace HB := am_ (below_step HB.out hb6); clear hb6 hcp_0 hcp_1 hcp_2 hfp_0 hfp_1 hfp_2 hca_0 hca_1 hca_2 hca_3 hfa_0 hfa_1 hfa_2 hfa_3; obtain ⟨hcp_0, hcp_1, hcp_2, hfp_0, hfp_1, hfp_2⟩ := cf3_ BK2.out; obtain ⟨hca_0, hca_1, hca_2, hca_3, hfa_0, hfa_1, hfa_2, hfa_3⟩ := cf4_ BK3.out; obtain ⟨hcr_0, hcr_1, hcr_2, hfr_0, hfr_1, hfr_2⟩ := cf3_ BK4.out) | ((with_reducible refine gate_callee (f := 56) rfl ?_); refine gl_ 25 Try.func56 #[.agg #[.int .i64 a0_2, .int .i64 0, .int .i64 0, .int .i64 0, .slice none 0 0], .agg #[.int .i64 a1_0, .int .i64 a1_1, .int .i64 a1_2, .slice A1_3 l1_3.length c1_3]] rfl ma_ ?_; refine (spec_l5Batch.calls a0_2 0 0 0 none 0 [] a1_0 a1_1 a1_2 A1_3 c1_3 l1_3 b0 b1 b2 b3 b4 _ (Kd.C_nil _ _) (Nat.le_refl _) ?s5 ?s6 AB.out).mono ?_; (case s5 => exact Kd.C_below HR3.out HB.out); (case s6 => exact HC3.out); rintro e_ w8 ⟨v25, rfl, ho_, hb8⟩; refine ⟨_, rfl, ?_⟩; obtain ⟨A25, c25, rfl⟩ := Kd.R_slice ho_; have HLR := am_ (Kd.R_reads' ho_).2.1; have HFR := am_ (Kd.R_F (Kd.R_mono (ok' := fun k => w.heap.size ≤ k ∧ k ≠ gb2 ∧ k ≠ gb4) (Kd.R_bound ho_) (fun k hk => ⟨Nat.le_trans HB.out.size hk.2.1, fun he => by have := blk_lt BK2.out; have := hk.2.1; omega, fun he => by have := blk_lt BK4.out; have := hk.2.1; omega⟩))); clear ho_; replace BK2 := am_ (blk_below BK2.out hb8); replace BK3 := am_ (blk_below BK3.out hb8); replace BK4 := am_ (blk_below BK4.out hb8); replace HB := am_ (below_step HB.out hb8); clear hb8 hcp_0 hcp_1 hcp_2 hfp_0 hfp_1 hfp_2 hca_0 hca_1 hca_2 hca_3 hfa_0 hfa_1 hfa_2 hfa_3 hcr_0 hcr_1 hcr_2 hfr_0 hfr_1 hfr_2) | ((with_reducible refine gate_dst (N := 9) rfl ?_); refine be_ (N := 9) #[.int .i64 0, .int .i64 0, .int .i64 0, .int .i64 0, .slice none 0 0] 78 ?_; intro gb9 hg w9 hbox hb; have HG9 := am_ hg; have BK9 := am_ hbox; have GE9 := am_ (show w.heap.size ≤ gb9 from by rw [hg]; exact HB.out.size); have N29 := am_ (show gb2 ≠ gb9 from by rw [hg]; exact Nat.ne_of_lt (blk_lt BK2.out)); have N49 := am_ (show gb4 ≠ gb9 from by rw [hg]; exact Nat.ne_of_lt (blk_lt BK4.out)); replace HFR := am_ (Kd.F_below (Kd.F_elderB HFR.out gb9 (by rw [hg]; exact Nat.le_refl _)) hb); replace BK2 := am_ (blk_below BK2.out hb); replace BK4 := am_ (blk_below BK4.out hb); replace HB := am_ (below_step HB.out hb); clear hb hbox hg; obtain ⟨hcb_0, hcb_1, hcb_2, hcb_3, hcb_4, hfb_0, hfb_1, hfb_2, hfb_3, hfb_4⟩ := cf5_ BK9.out) | ((with_reducible refine gate_store (t := 78) (p := 9) rfl ?_); refine store_event (t := 78) (p := 9) (v := ?vo_9) (w1 := (((((w9.setCell ⟨gb9, 0, none⟩ (.int .i64 b0)).setCell ⟨gb9, 1, none⟩ (.int .i64 b1)).setCell ⟨gb9, 2, none⟩ (.int .i64 b2)).setCell ⟨gb9, 3, none⟩ (.int .i64 b3)).setCell ⟨gb9, 4, none⟩ (.slice A25 b4.length c25))) ?hg ?ho ?hn ?hr ?_; (case ho => rfl); (case hg => rfl); (case hn => rfl); (case hr => first | (go_simp; done) | (go_simp; rfl)); intro w10 hw_; have BKn := am_ (show w10.heap[gb9]? = some (.cells #[.int .i64 b0, .int .i64 b1, .int .i64 b2, .int .i64 b3, .slice A25 b4.length c25] 78 (0, 0)) from by rw [hw_]; exact blk_put (cs := #[.int .i64 b0, .int .i64 b1, .int .i64 b2, .int .i64 b3, .slice none 0 0]) (blk_put (cs := #[.int .i64 b0, .int .i64 b1, .int .i64 b2, .int .i64 0, .slice none 0 0]) (blk_put (cs := #[.int .i64 b0, .int .i64 b1, .int .i64 0, .int .i64 0, .slice none 0 0]) (blk_put (cs := #[.int .i64 b0, .int .i64 0, .int .i64 0, .int .i64 0, .slice none 0 0]) (blk_put (cs := #[.int .i64 0, .int .i64 0, .int .i64 0, .int .i64 0, .slice none 0 0]) BK9.out 0 _ rfl) 1 _ rfl) 2 _ rfl) 3 _ rfl) 4 _ rfl); have BK2n := am_ (show w10.heap[gb2]? = some (.cells #[.slice A0_0 l0_0.length c0_0, .slice A0_1 l0_1.length c0_1, .int .i64 a0_2] 33 (0, 0)) from by rw [hw_]; exact blk_far (blk_far (blk_far (blk_far (blk_far BK2.out N29.out _) N29.out _) N29.out _) N29.out _) N29.out _); have BK4n := am_ (show w10.heap[gb4]? = some (.cells #[.slice none 0 0, .slice none 0 0, .int .i64 0] 33 (0, 0)) from by rw [hw_]; exact blk_far (blk_far (blk_far (blk_far (blk_far BK4.out N49.out _) N49.out _) N49.out _) N49.out _) N49.out _); have HBn := am_ (show Below w.heap.size w w10 from by rw [hw_]; exact below_set (below_set (below_set (below_set (below_set HB.out GE9.out) GE9.out) GE9.out) GE9.out) GE9.out); have HFn := am_ (show Kd.F Kd.string w10 (fun k => (w.heap.size ≤ k ∧ k ≠ gb2 ∧ k ≠ gb4) ∧ k ≠ gb9) A25 b4.length b4 from by rw [hw_]; exact Kd.F_far (p := ⟨gb9, _, none⟩) (Kd.F_far (p := ⟨gb9, _, none⟩) (Kd.F_far (p := ⟨gb9, _, none⟩) (Kd.F_far (p := ⟨gb9, _, none⟩) (Kd.F_far (p := ⟨gb9, _, none⟩) HFR.out (fun _ hk => hk.2) _) (fun _ hk => hk.2) _) (fun _ hk => hk.2) _) (fun _ hk => hk.2) _) (fun _ hk => hk.2) _); clear hw_ BK2 BK3 BK4 BK9 HB HFR HG9 hcb_0 hcb_1 hcb_2 hcb_3 hcb_4 hfb_0 hfb_1 hfb_2 hfb_3 hfb_4; have BK2 := BK2n; have BK4 := BK4n; have BK9 := BKn; have HB := HBn; have HFR := HFn; clear BK2n BK4n BKn HBn HFn))
    clear hqb
    obtain ⟨hcp_0, hcp_1, hcp_2, hfp_0, hfp_1, hfp_2⟩ := cf3_ BK2.out
    obtain ⟨hcb_0, hcb_1, hcb_2, hcb_3, hcb_4, hfb_0, hfb_1, hfb_2, hfb_3, hfb_4⟩ := cf5_ BK9.out
    refine start_ (n := 9) (S := fun w' => w'.cell? ⟨gb2, 1, none⟩ = some (.slice A0_1 l0_1.length c0_1) ∧ w'.cell? ⟨gb9, 0, none⟩ = some (.int .i64 b0) ∧ w'.cell? ⟨gb9, 1, none⟩ = some (.int .i64 b1) ∧ w'.cell? ⟨gb9, 2, none⟩ = some (.int .i64 b2) ∧ w'.cell? ⟨gb9, 3, none⟩ = some (.int .i64 b3) ∧ w'.cell? ⟨gb9, 4, none⟩ = some (.slice A25 b4.length c25)) (ds := [8]) #[false, false, false, false, false, false, false, false, false] (by kernel_rfl) rfl rfl ⟨hcp_1, hcb_0, hcb_1, hcb_2, hcb_3, hcb_4⟩ (fun hHeld => ?_)
    replace BK2 := am_ (blk_drew BK2.out)
    replace BK4 := am_ (blk_drew BK4.out)
    replace BK9 := am_ (blk_drew BK9.out)
    replace HFR := am_ (Kd.F_drew HFR.out)
    replace HB := am_ (below_drew1 HB.out)
    clear hcp_0 hcp_1 hcp_2 hfp_0 hfp_1 hfp_2 hcb_0 hcb_1 hcb_2 hcb_3 hcb_4 hfb_0 hfb_1 hfb_2 hfb_3 hfb_4
    generalize w10.drew = wr at BK2 BK4 BK9 HFR HB hHeld ⊢
    have HBw := am_ (Below.refl wr.heap.size wr)
    have HH := am_ hHeld
    have HSr := am_ HB.out.size
    have HOK := am_ (show ∀ k_, wr.heap.size ≤ k_ → (fun k_ => (P0_1_ k_ ∧ k_ < w.heap.size) ∨ w.heap.size ≤ k_ ∧ k_ ≠ gb2 ∧ k_ ≠ gb4) k_ from fun k_ hk => .inr ⟨Nat.le_trans HB.out.size hk, fun he => by have := blk_lt BK2.out; omega, fun he => by have := blk_lt BK4.out; omega⟩)
    have HVL := am_ (Kd.F_below (Kd.F_bound (Kd.V_F HV1.out)) HB.out)
    have HEL := am_ (k78_mkF wr (fun k_ => (w.heap.size ≤ k_ ∧ k_ ≠ gb2 ∧ k_ ≠ gb4) ∧ k_ < wr.heap.size) ⟨b0, b1, b2, b3, b4⟩ HLR.out (Kd.F_mono (Kd.F_bound HFR.out) (fun k_ hk => ⟨hk.1.1, hk.2⟩)))
    refine px_ 1 27 ?_
    refine tx_ 2 28 ?_
    refine tx_ 4 30 ?_
    refine join_ (σ := Value × Value × Value) 3 #[true, true, true, true, true, true, false, false, false] (fun s_ => [(26, s_.1), (29, s_.2.1), (31, s_.2.2)]) (fun s_ w' => (w'.cell? ⟨gb2, 1, none⟩ = some (.slice A0_1 l0_1.length c0_1) ∧ w'.cell? ⟨gb9, 0, none⟩ = some (.int .i64 b0) ∧ w'.cell? ⟨gb9, 1, none⟩ = some (.int .i64 b1) ∧ w'.cell? ⟨gb9, 2, none⟩ = some (.int .i64 b2) ∧ w'.cell? ⟨gb9, 3, none⟩ = some (.int .i64 b3) ∧ w'.cell? ⟨gb9, 4, none⟩ = some (.slice A25 b4.length c25)) ∧ Kd.N k78 78 w' wr.heap.size (fun k_ => (P0_1_ k_ ∧ k_ < w.heap.size) ∨ w.heap.size ≤ k_ ∧ k_ ≠ gb2 ∧ k_ ≠ gb4) s_.2.1 l0_1 ∧ Kd.N k78 78 w' wr.heap.size (fun k_ => (fun k_ => (P0_1_ k_ ∧ k_ < w.heap.size) ∨ w.heap.size ≤ k_ ∧ k_ ≠ gb2 ∧ k_ ≠ gb4) k_ ∧ some k_ ≠ s_.2.1.ownBlock) s_.2.2 [⟨b0, b1, b2, b3, b4⟩] ∧ Below wr.heap.size wr w') ?_ ?_
    rotate_left
    · intro hCont
      refine two_ (i := 0) (j := 5) (Ni := some 26) (Nj := some 31) #[true, true, true, false, true, false, false, false, false] #[false, true, true, false, true, true, false, false, false] rfl rfl rfl rfl (by kernel_rfl) (by decide) (by decide) (fun K hK => ?_) (fun K hK => ?_)
      · skip
        refine Kd.N_lit_step k78 (w0 := wr) wr.heap.size 78 ?hg (N' := 26) ?hd (xs := ([] : List S78)) (inner := []) (ok := (fun k_ => (P0_1_ k_ ∧ k_ < w.heap.size) ∨ w.heap.size ≤ k_ ∧ k_ ≠ gb2 ∧ k_ ≠ gb4)) (okp := fun _ => False) ?hr ?hp (fun _ hk => hk.elim) (HOK.out _ HBw.out.size) (Below.refl _ _) (Nat.le_refl _) (by simp) ?_
        (case hd => rfl)
        (case hg => rfl)
        (case hr => first | (go_simp; done) | (go_simp; rfl))
        (case hp => exact (Reps.none _ _))
        intro v26 wa ho hb _ hnew_
        have HO1 := am_ (Kd.N_lower ho HBw.out.size)
        replace HBw := am_ (below_step HBw.out hb)
        clear ho hb hnew_
        refine hK.out _ _ (hc_ HH) fun hHeld => ?_
        clear hK K
        refine norm_ (a' := ?_) ?_ ?_
        rotate_left
        · show Act.put _ (some 26) _ = _
          simp only [Act.put, List.setIfInBounds_toArray, List.set_cons_zero, List.set_cons_succ, i64_w, i32_w]
          rfl
        refine two_ (i := 3) (j := 5) (Ni := some 29) (Nj := some 31) #[true, true, true, true, true, false, false, false, false] #[true, true, true, false, true, true, false, false, false] rfl rfl rfl rfl (by kernel_rfl) (by decide) (by decide) (fun K hK => ?_) (fun K hK => ?_)
        · skip
          refine Kd.N_append_rows_step k78 (w0 := wr) wr.heap.size (by rfl) (.tmp 26) (.tmp 28) 31 78 (.agg #[(.int .i64 0), (.int .i64 0), (.int .i64 0), (.int .i64 0), (.slice none 0 0)]) 56 rfl Try.underlying31 info78 rfl (by decide) (by omega) v26 [] l0_1 A0_1 l0_1.length c0_1 (fun k_ => (P0_1_ k_ ∧ k_ < w.heap.size) ∨ w.heap.size ≤ k_ ∧ k_ ≠ gb2 ∧ k_ ≠ gb4) (fun k_ => P0_1_ k_ ∧ k_ < w.heap.size) rfl rfl ?aO ?aR (fun k_ hk => ⟨.inl hk, fun he => by have := Kd.N_base HO1.out k_ he.symm; have := hk.2; have := HSr.out; omega⟩) ?aF ?aB ?aS ?aL ?_
          (case aO => exact HO1.out)
          (case aR => exact Kd.F_below HVL.out HBw.out)
          (case aF => exact fun k_ hk => HOK.out k_ (Nat.le_trans HBw.out.size hk))
          (case aB => exact HBw.out)
          (case aS => exact HBw.out.size)
          (case aL => have := HL1.out; simp only [List.length_nil]; omega)
          intro v29 wb ho hb hg_ hat_
          rw [List.nil_append] at ho
          have HO3 := am_ ho
          replace HBw := am_ hb
          clear ho hb hg_ hat_ HO1
          refine hK.out _ _ (hc_ HH) fun hHeld => ?_
          clear hK K
          refine norm_ (a' := ?_) ?_ ?_
          rotate_left
          · show Act.put _ (some 29) _ = _
            simp only [Act.put, List.setIfInBounds_toArray, List.set_cons_zero, List.set_cons_succ, i64_w, i32_w]
            rfl
          refine ox_ 5 31 fun K hK => ?_
          refine Kd.N_lit_step k78 (w0 := wb) wb.heap.size 78 ?hg (N' := 31) ?hd (xs := ([⟨b0, b1, b2, b3, b4⟩] : List S78)) (inner := [.int .i64 b0, .int .i64 b1, .int .i64 b2, .int .i64 b3, .slice A25 b4.length c25]) (ok := (fun k_ => (fun k_ => (P0_1_ k_ ∧ k_ < w.heap.size) ∨ w.heap.size ≤ k_ ∧ k_ ≠ gb2 ∧ k_ ≠ gb4) k_ ∧ some k_ ≠ (v29 : Value).ownBlock)) (okp := (fun k_ => (w.heap.size ≤ k_ ∧ k_ ≠ gb2 ∧ k_ ≠ gb4) ∧ k_ < wr.heap.size)) ?hr ?hp (fun k_ hk => ⟨.inr hk.1, fun he => by have := Kd.N_base HO3.out k_ he.symm; have := hk.2; omega⟩) ⟨HOK.out _ HBw.out.size, fun he => by have := Kd.N_lt HO3.out _ he.symm; omega⟩ (Below.refl _ _) (Nat.le_refl _) (by simp) ?_
          (case hd => rfl)
          (case hg => rfl)
          (case hr => first | (go_simp; done) | (go_simp; rfl))
          (case hp => exact (Reps.none _ _).snoc (Kd.FK_below HEL.out HBw.out) rfl)
          intro v31 we ho hb _ hnew_
          replace HO3 := am_ (Kd.N_below HO3.out hb)
          have HO2 := am_ (Kd.N_lower ho HBw.out.size)
          replace HBw := am_ (below_step HBw.out hb)
          clear ho hb hnew_
          refine hK.out _ _ (hc_ HH) fun hHeld => ?_
          clear hK K
          refine norm_ (a' := ?_) ?_ ?_
          rotate_left
          · show Act.put _ (some 31) _ = _
            simp only [Act.put, List.setIfInBounds_toArray, List.set_cons_zero, List.set_cons_succ, i64_w, i32_w]
            rfl
          exact norm_ (by simp only [putAll, Act.put, List.setIfInBounds_toArray, List.set_cons_zero, List.set_cons_succ]) (hCont (v26, v29, v31) _ ⟨hHeld, HO3.out, HO2.out, HBw.out⟩)
        · skip
          refine Kd.N_lit_step k78 (w0 := wa) wa.heap.size 78 ?hg (N' := 31) ?hd (xs := ([⟨b0, b1, b2, b3, b4⟩] : List S78)) (inner := [.int .i64 b0, .int .i64 b1, .int .i64 b2, .int .i64 b3, .slice A25 b4.length c25]) (ok := (fun k_ => (fun k_ => (P0_1_ k_ ∧ k_ < w.heap.size) ∨ w.heap.size ≤ k_ ∧ k_ ≠ gb2 ∧ k_ ≠ gb4) k_ ∧ some k_ ≠ (v26 : Value).ownBlock)) (okp := (fun k_ => (w.heap.size ≤ k_ ∧ k_ ≠ gb2 ∧ k_ ≠ gb4) ∧ k_ < wr.heap.size)) ?hr ?hp (fun k_ hk => ⟨.inr hk.1, fun he => by have := Kd.N_base HO1.out k_ he.symm; have := hk.2; omega⟩) ⟨HOK.out _ HBw.out.size, fun he => by have := Kd.N_lt HO1.out _ he.symm; omega⟩ (Below.refl _ _) (Nat.le_refl _) (by simp) ?_
          (case hd => rfl)
          (case hg => rfl)
          (case hr => first | (go_simp; done) | (go_simp; rfl))
          (case hp => exact (Reps.none _ _).snoc (Kd.FK_below HEL.out HBw.out) rfl)
          intro v31 wb ho hb _ hnew_
          replace HO1 := am_ (Kd.N_below HO1.out hb)
          have HO2 := am_ (Kd.N_lower ho HBw.out.size)
          replace HBw := am_ (below_step HBw.out hb)
          clear ho hb hnew_
          refine hK.out _ _ (hc_ HH) fun hHeld => ?_
          clear hK K
          refine norm_ (a' := ?_) ?_ ?_
          rotate_left
          · show Act.put _ (some 31) _ = _
            simp only [Act.put, List.setIfInBounds_toArray, List.set_cons_zero, List.set_cons_succ, i64_w, i32_w]
            rfl
          refine ox_ 3 29 fun K hK => ?_
          refine Kd.N_append_rows_step k78 (w0 := wr) wr.heap.size (by rfl) (.tmp 26) (.tmp 28) 31 78 (.agg #[(.int .i64 0), (.int .i64 0), (.int .i64 0), (.int .i64 0), (.slice none 0 0)]) 56 rfl Try.underlying31 info78 rfl (by decide) (by omega) v26 [] l0_1 A0_1 l0_1.length c0_1 (fun k_ => (P0_1_ k_ ∧ k_ < w.heap.size) ∨ w.heap.size ≤ k_ ∧ k_ ≠ gb2 ∧ k_ ≠ gb4) (fun k_ => P0_1_ k_ ∧ k_ < w.heap.size) rfl rfl ?aO ?aR (fun k_ hk => ⟨.inl hk, fun he => by have := Kd.N_base HO1.out k_ he.symm; have := hk.2; have := HSr.out; omega⟩) ?aF ?aB ?aS ?aL ?_
          (case aO => exact HO1.out)
          (case aR => exact Kd.F_below HVL.out HBw.out)
          (case aF => exact fun k_ hk => HOK.out k_ (Nat.le_trans HBw.out.size hk))
          (case aB => exact HBw.out)
          (case aS => exact HBw.out.size)
          (case aL => have := HL1.out; simp only [List.length_nil]; omega)
          intro v29 we ho hb hg_ hat_
          rw [List.nil_append] at ho
          have HO3 := am_ ho
          replace HO2 := am_ (Kd.N_afterv HO2.out hg_ hat_)
          replace HBw := am_ hb
          clear ho hb hg_ hat_ HO1
          refine hK.out _ _ (hc_ HH) fun hHeld => ?_
          clear hK K
          refine norm_ (a' := ?_) ?_ ?_
          rotate_left
          · show Act.put _ (some 29) _ = _
            simp only [Act.put, List.setIfInBounds_toArray, List.set_cons_zero, List.set_cons_succ, i64_w, i32_w]
            rfl
          exact norm_ (by simp only [putAll, Act.put, List.setIfInBounds_toArray, List.set_cons_zero, List.set_cons_succ]) (hCont (v26, v29, v31) _ ⟨hHeld, HO3.out, HO2.out, HBw.out⟩)
      · skip
        refine Kd.N_lit_step k78 (w0 := wr) wr.heap.size 78 ?hg (N' := 31) ?hd (xs := ([⟨b0, b1, b2, b3, b4⟩] : List S78)) (inner := [.int .i64 b0, .int .i64 b1, .int .i64 b2, .int .i64 b3, .slice A25 b4.length c25]) (ok := (fun k_ => (P0_1_ k_ ∧ k_ < w.heap.size) ∨ w.heap.size ≤ k_ ∧ k_ ≠ gb2 ∧ k_ ≠ gb4)) (okp := (fun k_ => (w.heap.size ≤ k_ ∧ k_ ≠ gb2 ∧ k_ ≠ gb4) ∧ k_ < wr.heap.size)) ?hr ?hp (fun k_ hk => .inr hk.1) (HOK.out _ HBw.out.size) (Below.refl _ _) (Nat.le_refl _) (by simp) ?_
        (case hd => rfl)
        (case hg => rfl)
        (case hr => first | (go_simp; done) | (go_simp; rfl))
        (case hp => exact (Reps.none _ _).snoc (Kd.FK_below HEL.out HBw.out) rfl)
        intro v31 wa ho hb _ hnew_
        have HO2 := am_ (Kd.N_lower ho HBw.out.size)
        replace HBw := am_ (below_step HBw.out hb)
        clear ho hb hnew_
        refine hK.out _ _ (hc_ HH) fun hHeld => ?_
        clear hK K
        refine norm_ (a' := ?_) ?_ ?_
        rotate_left
        · show Act.put _ (some 31) _ = _
          simp only [Act.put, List.setIfInBounds_toArray, List.set_cons_zero, List.set_cons_succ, i64_w, i32_w]
          rfl
        refine ox_ 0 26 fun K hK => ?_
        refine Kd.N_lit_step k78 (w0 := wa) wa.heap.size 78 ?hg (N' := 26) ?hd (xs := ([] : List S78)) (inner := []) (ok := (fun k_ => (P0_1_ k_ ∧ k_ < w.heap.size) ∨ w.heap.size ≤ k_ ∧ k_ ≠ gb2 ∧ k_ ≠ gb4)) (okp := fun _ => False) ?hr ?hp (fun _ hk => hk.elim) (HOK.out _ HBw.out.size) (Below.refl _ _) (Nat.le_refl _) (by simp) ?_
        (case hd => rfl)
        (case hg => rfl)
        (case hr => first | (go_simp; done) | (go_simp; rfl))
        (case hp => exact (Reps.none _ _))
        intro v26 wb ho hb _ hnew_
        replace HO2 := am_ (Kd.N_elder' HO2.out (Kd.N_base ho) hb)
        have HO1 := am_ (Kd.N_lower ho HBw.out.size)
        replace HBw := am_ (below_step HBw.out hb)
        clear ho hb hnew_
        refine hK.out _ _ (hc_ HH) fun hHeld => ?_
        clear hK K
        refine norm_ (a' := ?_) ?_ ?_
        rotate_left
        · show Act.put _ (some 26) _ = _
          simp only [Act.put, List.setIfInBounds_toArray, List.set_cons_zero, List.set_cons_succ, i64_w, i32_w]
          rfl
        refine ox_ 3 29 fun K hK => ?_
        refine Kd.N_append_rows_step k78 (w0 := wr) wr.heap.size (by rfl) (.tmp 26) (.tmp 28) 31 78 (.agg #[(.int .i64 0), (.int .i64 0), (.int .i64 0), (.int .i64 0), (.slice none 0 0)]) 56 rfl Try.underlying31 info78 rfl (by decide) (by omega) v26 [] l0_1 A0_1 l0_1.length c0_1 (fun k_ => (P0_1_ k_ ∧ k_ < w.heap.size) ∨ w.heap.size ≤ k_ ∧ k_ ≠ gb2 ∧ k_ ≠ gb4) (fun k_ => P0_1_ k_ ∧ k_ < w.heap.size) rfl rfl ?aO ?aR (fun k_ hk => ⟨.inl hk, fun he => by have := Kd.N_base HO1.out k_ he.symm; have := hk.2; have := HSr.out; omega⟩) ?aF ?aB ?aS ?aL ?_
        (case aO => exact HO1.out)
        (case aR => exact Kd.F_below HVL.out HBw.out)
        (case aF => exact fun k_ hk => HOK.out k_ (Nat.le_trans HBw.out.size hk))
        (case aB => exact HBw.out)
        (case aS => exact HBw.out.size)
        (case aL => have := HL1.out; simp only [List.length_nil]; omega)
        intro v29 we ho hb hg_ hat_
        rw [List.nil_append] at ho
        have HO3 := am_ ho
        replace HO2 := am_ (Kd.N_afterv HO2.out hg_ hat_)
        replace HBw := am_ hb
        clear ho hb hg_ hat_ HO1
        refine hK.out _ _ (hc_ HH) fun hHeld => ?_
        clear hK K
        refine norm_ (a' := ?_) ?_ ?_
        rotate_left
        · show Act.put _ (some 29) _ = _
          simp only [Act.put, List.setIfInBounds_toArray, List.set_cons_zero, List.set_cons_succ, i64_w, i32_w]
          rfl
        exact norm_ (by simp only [putAll, Act.put, List.setIfInBounds_toArray, List.set_cons_zero, List.set_cons_succ]) (hCont (v26, v29, v31) _ ⟨hHeld, HO3.out, HO2.out, HBw.out⟩)
    rintro ⟨v26, v29, v31⟩ we ⟨hS_, h0_, h1_, h2_⟩
    have HO3 := am_ h0_
    have HO2 := am_ h1_
    have HBe := am_ h2_
    have hHeld := hS_
    clear h0_ h1_ h2_ hS_ HBw
    refine norm_ (a' := ?_) ?_ ?_
    rotate_left
    · simp only [putAll, Act.put, List.setIfInBounds_toArray, List.set_cons_zero, List.set_cons_succ]
      rfl
    obtain ⟨A31, c31, e31⟩ := Kd.N_slice HO2.out
    subst e31
    refine ox_ 6 32 fun K hK => ?_
    refine Kd.N_append_rows_step k78 (w0 := wr) wr.heap.size (by rfl) (.tmp 29) (.tmp 31) 31 78 (.agg #[(.int .i64 0), (.int .i64 0), (.int .i64 0), (.int .i64 0), (.slice none 0 0)]) 56 rfl Try.underlying31 info78 rfl (by decide) (by omega) v29 l0_1 [⟨b0, b1, b2, b3, b4⟩] A31 _ c31 (fun k_ => (P0_1_ k_ ∧ k_ < w.heap.size) ∨ w.heap.size ≤ k_ ∧ k_ ≠ gb2 ∧ k_ ≠ gb4) (fun k_ => (fun k_ => (P0_1_ k_ ∧ k_ < w.heap.size) ∨ w.heap.size ≤ k_ ∧ k_ ≠ gb2 ∧ k_ ≠ gb4) k_ ∧ some k_ ≠ v29.ownBlock) rfl rfl ?aO ?aR (fun _ hk => hk) ?aF ?aB ?aS ?aL ?_
    (case aO => exact HO3.out)
    (case aR => exact Kd.N_F HO2.out)
    (case aF => exact fun k_ hk => HOK.out k_ (Nat.le_trans HBe.out.size hk))
    (case aB => exact HBe.out)
    (case aS => exact HBe.out.size)
    (case aL => have := HL1.out; simp only [List.length_singleton]; omega)
    intro v32 wf ho hb hg_ _
    rw [HR2.out] at ho
    have HO5 := am_ (Kd.N_lower ho HB.out.size)
    have HBf := am_ hb
    clear ho hb hg_ HO3 HO2 HBe
    obtain ⟨A32, c32, e32⟩ := Kd.N_slice HO5.out
    subst e32
    refine hK.out _ _ ⟨pw_cell_below HBf.out (blk_cell BK2.out 1), pw_cell_below HBf.out (blk_cell BK9.out 0), pw_cell_below HBf.out (blk_cell BK9.out 1), pw_cell_below HBf.out (blk_cell BK9.out 2), pw_cell_below HBf.out (blk_cell BK9.out 3), pw_cell_below HBf.out (blk_cell BK9.out 4)⟩ (fun hHeld => ?_)
    clear hK K
    refine norm_ (a' := ?_) ?_ ?_
    rotate_left
    · show Act.put _ (some 32) _ = _
      simp only [Act.put, List.setIfInBounds_toArray, List.set_cons_zero, List.set_cons_succ, i64_w, i32_w]
      rfl
    refine px_ 7 33 ?_
    refine last_ (i := 8) (N := none) #[true, true, true, true, true, true, true, true, true] rfl rfl (by kernel_rfl) (by decide) (fun K hK => ?_)
    have hs_ := hHeld.1
    have hfs_ : wf.frozen? ⟨gb2, 1, none⟩ = false := blk_frozen (blk_below BK2.out HBf.out) 1
    refine skip_ (w1 := ?_) (by rfl) rfl ?_ ?_
    rotate_left
    · go_simp
      rfl
    refine hK.out _ _ ?_
    clear hK K
    refine done_ (by kernel_rfl) ?_
    have HLOG := am_ (show Kd.N k78 78 (wf.setCell ⟨gb2, 1, none⟩ (.slice A32 r2.length c32)) w.heap.size (fun k_ => (P0_1_ k_ ∧ k_ < w.heap.size) ∨ w.heap.size ≤ k_ ∧ k_ ≠ gb2 ∧ k_ ≠ gb4) (.slice A32 r2.length c32) r2 from Kd.N_far (p := ⟨gb2, 1, none⟩) HO5.out (fun k_ hk => hk.elim (fun h_ he => by have := h_.2; have := GE2.out; have : k_ = gb2 := he; omega) (fun h_ => h_.2.1)) _)
    have BK2n := am_ (show (wf.setCell ⟨gb2, 1, none⟩ (.slice A32 r2.length c32)).heap[gb2]? = some (.cells #[.slice A0_0 l0_0.length c0_0, .slice A32 r2.length c32, .int .i64 a0_2] 33 (0, 0)) from blk_put (cs := #[.slice A0_0 l0_0.length c0_0, .slice A0_1 l0_1.length c0_1, .int .i64 a0_2]) (blk_below BK2.out HBf.out) 1 _ rfl)
    have BK4n := am_ (show (wf.setCell ⟨gb2, 1, none⟩ (.slice A32 r2.length c32)).heap[gb4]? = some (.cells #[.slice none 0 0, .slice none 0 0, .int .i64 0] 33 (0, 0)) from blk_far (blk_below BK4.out HBf.out) N42.out _)
    have BK9n := am_ (show (wf.setCell ⟨gb2, 1, none⟩ (.slice A32 r2.length c32)).heap[gb9]? = some (.cells #[.int .i64 b0, .int .i64 b1, .int .i64 b2, .int .i64 b3, .slice A25 b4.length c25] 78 (0, 0)) from blk_far (blk_below BK9.out HBf.out) (Ne.symm N29.out) _)
    have HBn := am_ (show Below w.heap.size w (wf.setCell ⟨gb2, 1, none⟩ (.slice A32 r2.length c32)) from below_set (below_step HB.out HBf.out) GE2.out)
    clear hHeld BK2 BK4 BK9 HB HBf HO5 HVL HEL HFR HOK HSr
    generalize wf.setCell ⟨gb2, 1, none⟩ (.slice A32 r2.length c32) = wz at HLOG BK2n BK4n BK9n HBn ⊢
    have BK2 := BK2n
    have BK4 := BK4n
    have BK9 := BK9n
    have HB := HBn
    clear BK2n BK4n BK9n HBn
    obtain ⟨hcp_0, hcp_1, hcp_2, hfp_0, hfp_1, hfp_2⟩ := cf3_ BK2.out
    obtain ⟨hcb_0, hcb_1, hcb_2, hcb_3, hcb_4, hfb_0, hfb_1, hfb_2, hfb_3, hfb_4⟩ := cf5_ BK9.out
    go_wp2_with fail
    refine start_ (n := 8) (S := fun w' => w'.cell? ⟨gb2, 0, none⟩ = some (.slice A0_0 l0_0.length c0_0) ∧ w'.cell? ⟨gb9, 0, none⟩ = some (.int .i64 b0) ∧ w'.cell? ⟨gb9, 1, none⟩ = some (.int .i64 b1) ∧ w'.cell? ⟨gb9, 2, none⟩ = some (.int .i64 b2) ∧ w'.cell? ⟨gb9, 3, none⟩ = some (.int .i64 b3) ∧ w'.cell? ⟨gb9, 4, none⟩ = some (.slice A25 b4.length c25)) (ds := [7]) #[false, false, false, false, false, false, false, false] (by kernel_rfl) rfl rfl ⟨hcp_0, hcb_0, hcb_1, hcb_2, hcb_3, hcb_4⟩ (fun hHeld => ?_)
    replace BK2 := am_ (blk_drew BK2.out)
    replace BK4 := am_ (blk_drew BK4.out)
    replace BK9 := am_ (blk_drew BK9.out)
    replace HLOG := am_ (Kd.N_drew HLOG.out)
    replace HB := am_ (below_drew1 HB.out)
    clear hcp_0 hcp_1 hcp_2 hfp_0 hfp_1 hfp_2 hcb_0 hcb_1 hcb_2 hcb_3 hcb_4 hfb_0 hfb_1 hfb_2 hfb_3 hfb_4
    generalize wz.drew = wr at BK2 BK4 BK9 HLOG HB hHeld ⊢
    have HBw := am_ (Below.refl wr.heap.size wr)
    have HH := am_ hHeld
    have HSr := am_ HB.out.size
    have HOK := am_ (show ∀ k_, wr.heap.size ≤ k_ → (fun k_ => (P0_0_ k_ ∧ k_ < w.heap.size) ∨ w.heap.size ≤ k_ ∧ k_ ≠ gb2 ∧ k_ ≠ gb4) k_ from fun k_ hk => .inr ⟨Nat.le_trans HB.out.size hk, fun he => by have := blk_lt BK2.out; omega, fun he => by have := blk_lt BK4.out; omega⟩)
    have HVP := am_ (Kd.F_below (Kd.F_bound (Kd.V_F HV0.out)) HB.out)
    refine px_ 1 35 ?_
    refine tx_ 2 36 ?_
    refine tx_ 4 38 ?_
    refine ox_ 0 34 fun K hK => ?_
    refine Kd.N_lit_step k81 (w0 := wr) wr.heap.size 81 ?hg (N' := 34) ?hd (xs := ([] : List S81)) (inner := []) (ok := (fun k_ => (P0_0_ k_ ∧ k_ < w.heap.size) ∨ w.heap.size ≤ k_ ∧ k_ ≠ gb2 ∧ k_ ≠ gb4)) (okp := fun _ => False) ?hr ?hp (fun _ hk => hk.elim) (HOK.out _ (Nat.le_refl _)) (Below.refl _ _) (Nat.le_refl _) (by simp) ?_
    (case hd => rfl)
    (case hg => rfl)
    (case hr => first | (go_simp; done) | (go_simp; rfl))
    (case hp => exact (Reps.none _ _))
    intro v34 wa ho hb _ hnew_
    have HO1 := am_ ho
    replace HBw := am_ hb
    clear ho hb hnew_
    refine hK.out _ _ (hc_ HH) fun hHeld => ?_
    clear hK K
    refine norm_ (a' := ?_) ?_ ?_
    rotate_left
    · show Act.put _ (some 34) _ = _
      simp only [Act.put, List.setIfInBounds_toArray, List.set_cons_zero, List.set_cons_succ, i64_w, i32_w]
      rfl
    refine ox_ 3 37 fun K hK => ?_
    refine Kd.N_append_rows_step k81 (w0 := wr) wr.heap.size (by rfl) (.tmp 34) (.tmp 36) 30 81 (.agg #[(.int .i64 0), (.int .i64 0), (.int .i64 0), (.slice none 0 0)]) 48 rfl Try.underlying30 info81 rfl (by decide) (by omega) v34 [] l0_0 A0_0 l0_0.length c0_0 (fun k_ => (P0_0_ k_ ∧ k_ < w.heap.size) ∨ w.heap.size ≤ k_ ∧ k_ ≠ gb2 ∧ k_ ≠ gb4) (fun k_ => P0_0_ k_ ∧ k_ < w.heap.size) rfl rfl ?aO ?aR (fun k_ hk => ⟨.inl hk, fun he => by have := Kd.N_base HO1.out k_ he.symm; have := hk.2; have := HSr.out; omega⟩) ?aF ?aB ?aS ?aL ?_
    (case aO => exact HO1.out)
    (case aR => exact Kd.F_below HVP.out HBw.out)
    (case aF => exact fun k_ hk => HOK.out k_ (Nat.le_trans HBw.out.size hk))
    (case aB => exact HBw.out)
    (case aS => exact HBw.out.size)
    (case aL => have := HL0.out; simp only [List.length_nil]; omega)
    intro v37 wb ho hb hg_ hat_
    rw [List.nil_append] at ho
    have HO3 := am_ ho
    replace HBw := am_ hb
    clear ho hb hg_ hat_ HO1
    refine hK.out _ _ (hc_ HH) fun hHeld => ?_
    clear hK K
    refine norm_ (a' := ?_) ?_ ?_
    rotate_left
    · show Act.put _ (some 37) _ = _
      simp only [Act.put, List.setIfInBounds_toArray, List.set_cons_zero, List.set_cons_succ, i64_w, i32_w]
      rfl
    refine ox_ 5 39 fun K hK => ?_
    refine gs_ Try.func84 #[v37, .agg #[.int .i64 b0, .int .i64 b1, .int .i64 b2, .int .i64 b3, .slice A25 b4.length c25]] rfl ma_ ?_
    refine (spec_l5Add.calls k wr.heap.size (fun k_ => (P0_0_ k_ ∧ k_ < w.heap.size) ∨ w.heap.size ≤ k_ ∧ k_ ≠ gb2 ∧ k_ ≠ gb4) v37 l0_0 b0 b1 b2 b3 A25 c25 b4 ps _ HO3.out (fun k_ hk => HOK.out k_ (Nat.le_trans HBw.out.size hk)) HBw.out.size AP.out).mono ?_
    rintro e_ wd ⟨v39, rfl, ho, hg_, hat_⟩
    refine ⟨_, rfl, ?_⟩
    have HBd := am_ (Below.grown HBw.out hg_ HBw.out.size (Kd.N_base HO3.out))
    have HO4 := am_ (Kd.N_lower ho HSr.out)
    clear ho hg_ hat_ HO3 HBw
    obtain ⟨A39, c39, e39⟩ := Kd.N_slice HO4.out
    subst e39
    refine hK.out _ _ ⟨pw_cell_below HBd.out (blk_cell BK2.out 0), pw_cell_below HBd.out (blk_cell BK9.out 0), pw_cell_below HBd.out (blk_cell BK9.out 1), pw_cell_below HBd.out (blk_cell BK9.out 2), pw_cell_below HBd.out (blk_cell BK9.out 3), pw_cell_below HBd.out (blk_cell BK9.out 4)⟩ (fun hHeld => ?_)
    clear hK K
    refine norm_ (a' := ?_) ?_ ?_
    rotate_left
    · show Act.put _ (some 39) _ = _
      simp only [Act.put, List.setIfInBounds_toArray, List.set_cons_zero, List.set_cons_succ, i64_w, i32_w]
      rfl
    refine px_ 6 40 ?_
    refine last_ (i := 7) (N := none) #[true, true, true, true, true, true, true, true] rfl rfl (by kernel_rfl) (by decide) (fun K hK => ?_)
    have hs_ := hHeld.1
    have hfs_ : wd.frozen? ⟨gb2, 0, none⟩ = false := blk_frozen (blk_below BK2.out HBd.out) 0
    refine skip_ (w1 := ?_) (by rfl) rfl ?_ ?_
    rotate_left
    · go_simp
      rfl
    refine hK.out _ _ ?_
    clear hK K
    refine done_ (by kernel_rfl) ?_
    have HLOGn := am_ (show Kd.N k78 78 (wd.setCell ⟨gb2, 0, none⟩ (.slice A39 ps.length c39)) w.heap.size (fun k_ => (P0_1_ k_ ∧ k_ < w.heap.size) ∨ w.heap.size ≤ k_ ∧ k_ ≠ gb2 ∧ k_ ≠ gb4) (.slice A32 r2.length c32) r2 from Kd.N_far (p := ⟨gb2, 0, none⟩) (Kd.N_below HLOG.out HBd.out) (fun k_ hk => hk.elim (fun h_ he => by have := h_.2; have := GE2.out; have : k_ = gb2 := he; omega) (fun h_ => h_.2.1)) _)
    have HPROD := am_ (show Kd.N k81 81 (wd.setCell ⟨gb2, 0, none⟩ (.slice A39 ps.length c39)) w.heap.size (fun k_ => (P0_0_ k_ ∧ k_ < w.heap.size) ∨ w.heap.size ≤ k_ ∧ k_ ≠ gb2 ∧ k_ ≠ gb4) (.slice A39 ps.length c39) ps from Kd.N_far (p := ⟨gb2, 0, none⟩) HO4.out (fun k_ hk => hk.elim (fun h_ he => by have := h_.2; have := GE2.out; have : k_ = gb2 := he; omega) (fun h_ => h_.2.1)) _)
    have BK2n := am_ (show (wd.setCell ⟨gb2, 0, none⟩ (.slice A39 ps.length c39)).heap[gb2]? = some (.cells #[.slice A39 ps.length c39, .slice A32 r2.length c32, .int .i64 a0_2] 33 (0, 0)) from blk_put (cs := #[.slice A0_0 l0_0.length c0_0, .slice A32 r2.length c32, .int .i64 a0_2]) (blk_below BK2.out HBd.out) 0 _ rfl)
    have BK4n := am_ (show (wd.setCell ⟨gb2, 0, none⟩ (.slice A39 ps.length c39)).heap[gb4]? = some (.cells #[.slice none 0 0, .slice none 0 0, .int .i64 0] 33 (0, 0)) from blk_far (blk_below BK4.out HBd.out) N42.out _)
    have BK9n := am_ (show (wd.setCell ⟨gb2, 0, none⟩ (.slice A39 ps.length c39)).heap[gb9]? = some (.cells #[.int .i64 b0, .int .i64 b1, .int .i64 b2, .int .i64 b3, .slice A25 b4.length c25] 78 (0, 0)) from blk_far (blk_below BK9.out HBd.out) (Ne.symm N29.out) _)
    have HBn := am_ (show Below w.heap.size w (wd.setCell ⟨gb2, 0, none⟩ (.slice A39 ps.length c39)) from below_set (below_step HB.out HBd.out) GE2.out)
    clear hHeld BK2 BK4 BK9 HB HBd HO4 HVP HOK HSr HLOG
    generalize wd.setCell ⟨gb2, 0, none⟩ (.slice A39 ps.length c39) = wy at HLOGn HPROD BK2n BK4n BK9n HBn ⊢
    have BK2 := BK2n
    have BK4 := BK4n
    have BK9 := BK9n
    have HB := HBn
    have HLOG := HLOGn
    clear BK2n BK4n BK9n HBn HLOGn
    obtain ⟨hcp_0, hcp_1, hcp_2, hfp_0, hfp_1, hfp_2⟩ := cf3_ BK2.out
    obtain ⟨hcb_0, hcb_1, hcb_2, hcb_3, hcb_4, hfb_0, hfb_1, hfb_2, hfb_3, hfb_4⟩ := cf5_ BK9.out
    have hnx' := HR3E.out
    go_upto_region 8 with fail
    rw [hnx']
    have HLOGn := am_ (show Kd.N k78 78 (wy.setCell ⟨gb2, 2, none⟩ (.int .i64 r3)) w.heap.size (fun k_ => (P0_1_ k_ ∧ k_ < w.heap.size) ∨ w.heap.size ≤ k_ ∧ k_ ≠ gb2 ∧ k_ ≠ gb4) (.slice A32 r2.length c32) r2 from Kd.N_far (p := ⟨gb2, 2, none⟩) HLOG.out (fun k_ hk => hk.elim (fun h_ he => by have := h_.2; have := GE2.out; have : k_ = gb2 := he; omega) (fun h_ => h_.2.1)) _)
    have HPRODn := am_ (show Kd.N k81 81 (wy.setCell ⟨gb2, 2, none⟩ (.int .i64 r3)) w.heap.size (fun k_ => (P0_0_ k_ ∧ k_ < w.heap.size) ∨ w.heap.size ≤ k_ ∧ k_ ≠ gb2 ∧ k_ ≠ gb4) (.slice A39 ps.length c39) ps from Kd.N_far (p := ⟨gb2, 2, none⟩) HPROD.out (fun k_ hk => hk.elim (fun h_ he => by have := h_.2; have := GE2.out; have : k_ = gb2 := he; omega) (fun h_ => h_.2.1)) _)
    have BK2n := am_ (show (wy.setCell ⟨gb2, 2, none⟩ (.int .i64 r3)).heap[gb2]? = some (.cells #[.slice A39 ps.length c39, .slice A32 r2.length c32, .int .i64 r3] 33 (0, 0)) from blk_put (cs := #[.slice A39 ps.length c39, .slice A32 r2.length c32, .int .i64 a0_2]) BK2.out 2 _ rfl)
    have BK4n := am_ (show (wy.setCell ⟨gb2, 2, none⟩ (.int .i64 r3)).heap[gb4]? = some (.cells #[.slice none 0 0, .slice none 0 0, .int .i64 0] 33 (0, 0)) from blk_far BK4.out N42.out _)
    have HBn := am_ (show Below w.heap.size w (wy.setCell ⟨gb2, 2, none⟩ (.int .i64 r3)) from below_set HB.out GE2.out)
    clear hnx' BK2 BK4 BK9 HB HLOG HPROD hcp_0 hcp_1 hcp_2 hfp_0 hfp_1 hfp_2 hcb_0 hcb_1 hcb_2 hcb_3 hcb_4 hfb_0 hfb_1 hfb_2 hfb_3 hfb_4
    generalize wy.setCell ⟨gb2, 2, none⟩ (.int .i64 r3) = wx at HLOGn HPRODn BK2n BK4n HBn ⊢
    have BK2 := BK2n
    have BK4 := BK4n
    have HB := HBn
    have HLOG := HLOGn
    have HPROD := HPRODn
    clear BK2n BK4n HBn HLOGn HPRODn
    obtain ⟨hcp_0, hcp_1, hcp_2, hfp_0, hfp_1, hfp_2⟩ := cf3_ BK2.out
    obtain ⟨hcr_0, hcr_1, hcr_2, hfr_0, hfr_1, hfr_2⟩ := cf3_ BK4.out
    go_wp2_with (first | ((with_reducible refine gate_store (t := 33) (p := 4) rfl ?_); refine store_event (t := 33) (p := 4) (v := ?vo_44) (w1 := (((wx.setCell ⟨gb4, 0, none⟩ (.slice A39 ps.length c39)).setCell ⟨gb4, 1, none⟩ (.slice A32 r2.length c32)).setCell ⟨gb4, 2, none⟩ (.int .i64 r3))) ?hg ?ho ?hn ?hr ?_; (case ho => rfl); (case hg => rfl); (case hn => rfl); (case hr => first | (go_simp; done) | (go_simp; rfl)); intro wv hw_; have BKn := am_ (show wv.heap[gb4]? = some (.cells #[.slice A39 ps.length c39, .slice A32 r2.length c32, .int .i64 r3] 33 (0, 0)) from by rw [hw_]; exact blk_put (cs := #[.slice A39 ps.length c39, .slice A32 r2.length c32, .int .i64 0]) (blk_put (cs := #[.slice A39 ps.length c39, .slice none 0 0, .int .i64 0]) (blk_put (cs := #[.slice none 0 0, .slice none 0 0, .int .i64 0]) BK4.out 0 _ rfl) 1 _ rfl) 2 _ rfl); have HBn := am_ (show Below w.heap.size w wv from by rw [hw_]; exact below_set (below_set (below_set HB.out GE4.out) GE4.out) GE4.out); have HLn := am_ (show Kd.N k78 78 wv w.heap.size (fun k_ => (P0_1_ k_ ∧ k_ < w.heap.size) ∨ w.heap.size ≤ k_ ∧ k_ ≠ gb2 ∧ k_ ≠ gb4) (.slice A32 r2.length c32) r2 from by rw [hw_]; exact Kd.N_far (p := ⟨gb4, 2, none⟩) (Kd.N_far (p := ⟨gb4, 1, none⟩) (Kd.N_far (p := ⟨gb4, 0, none⟩) HLOG.out (fun k_ hk => hk.elim (fun h_ he => by have := h_.2; have := GE4.out; have : k_ = gb4 := he; omega) (fun h_ => h_.2.2)) _) (fun k_ hk => hk.elim (fun h_ he => by have := h_.2; have := GE4.out; have : k_ = gb4 := he; omega) (fun h_ => h_.2.2)) _) (fun k_ hk => hk.elim (fun h_ he => by have := h_.2; have := GE4.out; have : k_ = gb4 := he; omega) (fun h_ => h_.2.2)) _); have HPn := am_ (show Kd.N k81 81 wv w.heap.size (fun k_ => (P0_0_ k_ ∧ k_ < w.heap.size) ∨ w.heap.size ≤ k_ ∧ k_ ≠ gb2 ∧ k_ ≠ gb4) (.slice A39 ps.length c39) ps from by rw [hw_]; exact Kd.N_far (p := ⟨gb4, 2, none⟩) (Kd.N_far (p := ⟨gb4, 1, none⟩) (Kd.N_far (p := ⟨gb4, 0, none⟩) HPROD.out (fun k_ hk => hk.elim (fun h_ he => by have := h_.2; have := GE4.out; have : k_ = gb4 := he; omega) (fun h_ => h_.2.2)) _) (fun k_ hk => hk.elim (fun h_ he => by have := h_.2; have := GE4.out; have : k_ = gb4 := he; omega) (fun h_ => h_.2.2)) _) (fun k_ hk => hk.elim (fun h_ he => by have := h_.2; have := GE4.out; have : k_ = gb4 := he; omega) (fun h_ => h_.2.2)) _); clear hw_))
    refine bodyPost_ret (results_ctt rfl _ _ gb4 33 #[.slice A39 ps.length c39, .slice A32 r2.length c32, .int .i64 r3] (0, 0) _ rfl BKn.out Try.underlying33 rfl (by kernel_rfl)) rfl ?_
    exact ⟨_, _, er_, Kd.V_mono (Kd.N_V HPn.out) (fun _ hk => hk.elim (fun h_ => .inl (.inl h_.1)) (fun h_ => .inr h_.1)), Kd.V_mono (Kd.N_V HLn.out) (fun _ hk => hk.elim (fun h_ => .inl (.inr h_.1)) (fun h_ => .inr h_.1)), HBn.out⟩



/-! ### spec_l5Rebuild: function 67 -/
def spec_l5Rebuild.l0 : Nat → List (S78) → Int → Int → List (S81) → List (S78) → Int → Option ((List (S81)) × (List (S78)) × Int × Bool)
 | 0, _, _, _, _, _, _ => none
 | k + 1, x11, x12, x13, x166000, x166001, x166002 => if x13 < x12 then (if 0 ≤ x13 then (if x13 < (x11.length : Int) then ((spec_l5Ask.f k x166000 x166001 x166002 ((rd_T78 x11 x13).f2) ((rd_T78 x11 x13).f1) ((rd_T78 x11 x13).f3) ((rd_T78 x11 x13).f4)).bind fun bt168 => ((spec_GoodBatch.f k ((rd_T78 x11 x13).f0) ((rd_T78 x11 x13).f1) ((rd_T78 x11 x13).f2) ((rd_T78 x11 x13).f3) ((rd_T78 x11 x13).f4)).bind fun t178 => (if t178 = true then (if bt168.2.2.2.1 = 0 then (if ((rd_T78 x11 x13).f0) = x166002 then (spec_l5Rebuild.l0 k x11 x12 (wrap64 (x13 + 1)) bt168.1 bt168.2.1 bt168.2.2.1) else (some (([] : List (S81)), ([] : List (S78)), 0, false))) else (some (([] : List (S81)), ([] : List (S78)), 0, false))) else (some (([] : List (S81)), ([] : List (S78)), 0, false))))) else (none)) else (none)) else (some (x166000, x166001, x166002, true))
def spec_l5Rebuild.f (k : Nat) (l0 : List (S78)) : Option ((List (S81)) × (List (S78)) × Int × Bool) := spec_l5Rebuild.l0 k l0 (l0.length : Int) 0 ([] : List (S81)) ([] : List (S78)) 0
theorem spec_l5Rebuild.mono_l : ∀ k, (∀ y0 y1 y2 y3 y4 y5, LeO (spec_l5Rebuild.l0 k y0 y1 y2 y3 y4 y5) (spec_l5Rebuild.l0 (k + 1) y0 y1 y2 y3 y4 y5))
 | 0 => fun _ _ _ _ _ _ r h => by simp [spec_l5Rebuild.l0] at h
 | k + 1 => by
  have ih0 := spec_l5Rebuild.mono_l k
  ·intro y0 y1 y2 y3 y4 y5
   unfold spec_l5Rebuild.l0
   repeat' first
   | (with_reducible first | apply ih0 | apply spec_GoodBatch.mono | apply spec_l5Ask.mono | exact LeO.refl _ | exact LeO.none _ | refine LeO.ite ?_ ?_ | refine LeO.bind ?_ (fun _ => ?_))
theorem spec_l5Rebuild.mono : ∀ a0 k, LeO (spec_l5Rebuild.f k a0) (spec_l5Rebuild.f (k + 1) a0) := by
 intro a0 k
 have ih0 := spec_l5Rebuild.mono_l k
 unfold spec_l5Rebuild.f
 repeat' first
   | (with_reducible first | apply ih0 | apply spec_GoodBatch.mono | apply spec_l5Ask.mono | exact LeO.refl _ | exact LeO.none _ | refine LeO.ite ?_ ?_ | refine LeO.bind ?_ (fun _ => ?_))
set_option maxHeartbeats 8000000 in
set_option maxRecDepth 100000 in
theorem spec_l5Rebuild.calls (k : Nat) (A0 : Option Addr) (c0 : Nat) (l0 : List (S78)) (r1 : List (S81)) (r2 : List (S78)) (r3 : Int) (r4 : Bool) (w : World) (hr0 : Kd.C k78 w A0 l0.length l0) (hc0 : l0.length ≤ c0) (h : spec_l5Rebuild.f k l0 = some (r1, r2, r3, r4)) :
  Calls Try.prog 67 #[.slice A0 l0.length c0] w fun e w' => ∃ v0_ v1_ : Value, e = .returned (.tuple #[.agg #[v0_, v1_, .int .i64 r3], .bool r4]) ∧ Kd.V k81 81 w' w.heap.size (fun k_ => (w.heap.size ≤ k_)) v0_ r1 ∧ Kd.V k78 78 w' w.heap.size (fun k_ => (w.heap.size ≤ k_)) v1_ r2 ∧ Below w.heap.size w w' := by
 have hu33 := Try.underlying33
 have hu78 := Try.underlying78
 have hu57 := Try.underlying57
 have HR0 := am_ hr0
 have HC0 := am_ hc0
 clear hr0 hc0
 have HB := am_ (Below.refl w.heap.size w)
 have H : (spec_l5Rebuild.l0 k l0 (l0.length : Int) 0 ([] : List (S81)) ([] : List (S78)) 0) = some (r1, r2, r3, r4) := h
 clear h
 have H' := am_ H
 clear H
 go_enter Try.func67, Try.ntmps67
 go_wp2_with (first | ((with_reducible refine gate_dst (N := 2) rfl ?_); refine bq_ (N := 2) #[.slice none 0 0, .slice none 0 0, .int .i64 0] 33 ?_; intro gb164 hg w2 BK164 hb; have GE164 := ge_ hg; replace HB := nb_ hb; clear hb hg) | ((with_reducible refine gate_dst (N := 4) rfl ?_); refine bq_ (N := 4) #[.slice none 0 0, .slice none 0 0, .int .i64 0] 33 ?_; intro gb165 hg w3 BK165 hb; have GE165 := ge1_ hg GE164; replace HB := nc_ GE164 hb; have NB164_165 := nl_ BK164 hg; have NB165_164 := ng_ BK164 hg; replace BK164 := bK_ BK164 hb; clear hb hg; have hnb4 := NB165_164.out; have hnc4 := NB164_165.out; obtain ⟨hcz5_0, hcz5_1, hcz5_2, hfz5_0, hfz5_1, hfz5_2⟩ := cf3_ BK165.out))
 go_loopg [13] k (fun kq v13 w' => ∃ (x13_1 : Int) (x165002_1 : Int) (x166000_1 : List (S81)) (x166001_1 : List (S78)) (x166002_1 : Int) (u166000 : Value) (u166001 : Value), v13 = .int .i64 x13_1 ∧ Aside0 (spec_l5Rebuild.l0 kq l0 (l0.length : Int) x13_1 x166000_1 x166001_1 x166002_1 = some (r1, r2, r3, r4)) ∧ Aside0 (kq ≤ k) ∧ Aside0 (Kd.V k81 81 w' w.heap.size (fun k_ => (w.heap.size ≤ k_) ∧ k_ ≠ gb164 ∧ k_ ≠ gb165) u166000 x166000_1) ∧ Aside0 (Kd.V k78 78 w' w.heap.size (fun k_ => (w.heap.size ≤ k_) ∧ k_ ≠ gb164 ∧ k_ ≠ gb165) u166001 x166001_1) ∧ Aside0 (w'.heap[gb164]? = some (.cells #[(.slice none 0 0), (.slice none 0 0), .int .i64 x165002_1] 33 (0, 0))) ∧ Aside0 (w'.heap[gb165]? = some (.cells #[u166000, u166001, .int .i64 x166002_1] 33 (0, 0))) ∧ Aside0 (Below w.heap.size w w'))
 case atStart => exact ⟨(0), (0), (([] : List (S81))), (([] : List (S78))), (0), (.slice none 0 0), (.slice none 0 0), sr_, H', ⟨Nat.le_refl _⟩, ⟨Kd.V_nil _ _ _ _ _⟩, ⟨Kd.V_nil _ _ _ _ _⟩, ⟨uf_ BK164 NB164_165.out⟩, ⟨up_ BK165⟩, ⟨hs2_ GE164.out GE165.out⟩⟩
 case round =>
  clear H'
  try clear hcz5_0
  try clear hcz5_1
  try clear hcz5_2
  try clear hfz5_0
  try clear hfz5_1
  try clear hfz5_2
  obtain ⟨x13_1, x165002_1, x166000_1, x166001_1, x166002_1, u166000, u166001, rfl, HA, HK1, HO_166000, HO_166001, BK164, BK165, HB⟩ := hrel
  cases gk with
  | zero => exact absurd HA.out (by simp [spec_l5Rebuild.l0])
  | succ k1 =>
   have H := HA.out
   clear HA
   simp only [spec_l5Rebuild.l0] at H
   replace H := ite_ H
   obtain ⟨c6, H⟩ | ⟨c6, H⟩ := H
   rotate_left
   ·have c6b0 := decide_eq_false c6
    clear c6
    simp only [Option.some.injEq, Prod.mk.injEq] at H
    obtain ⟨rfl, rfl, rfl, rfl⟩ := H
    have hnb102 := NB165_164.out
    have hnc102 := NB164_165.out
    obtain ⟨hcz103_0, hcz103_1, hcz103_2, hfz103_0, hfz103_1, hfz103_2⟩ := cf3_ BK165.out
    obtain ⟨Ao104, co104, eo104⟩ := Kd.V_slice HO_166000.out
    subst eo104
    obtain ⟨hcz105_0, hcz105_1, hcz105_2, hfz105_0, hfz105_1, hfz105_2⟩ := cf3_ BK164.out
    obtain ⟨Ao106, co106, eo106⟩ := Kd.V_slice HO_166001.out
    subst eo106
    go_wp2
    refine bodyPost_ret (results_ct rfl _ _ gb164 33 #[.slice Ao104 x166000_1.length co104, .slice Ao106 x166001_1.length co106, .int .i64 x166002_1] (0, 0) _ rfl (up_ BK164) Try.underlying33 rfl (by kernel_rfl)) rfl ?_
    exact ⟨_, _, er_, Kd.V_mono (vF_ (Kd.V_mono HO_166000.out (fun k_ hk => (⟨hk, hk.2.1⟩ : _ ∧ k_ ≠ gb164)))) (fun _ hk => hk.1.1), Kd.V_mono (vF_ (Kd.V_mono HO_166001.out (fun k_ hk => (⟨hk, hk.2.1⟩ : _ ∧ k_ ≠ gb164)))) (fun _ hk => hk.1.1), hs2_ GE164.out GE165.out⟩
   have c6b0 := decide_eq_true c6
   clear c6
   replace H := ifs_ H
   obtain ⟨c7, H⟩ := H
   have c7b0 := decide_eq_true c7
   clear c7
   replace H := ifs_ H
   obtain ⟨c8, H⟩ := H
   have c8b0 := decide_eq_true c8
   clear c8
   replace H := bnd_ H
   obtain ⟨⟨t168, t171, t174, t175, t176⟩, A9, H⟩ := H
   replace H := red_ H
   replace H := bnd_ H
   obtain ⟨t178, A10, H⟩ := H
   replace H := ifb_ H
   obtain ⟨rfl, H⟩ | ⟨rfl, H⟩ := H
   rotate_left
   ·simp only [Option.some.injEq, Prod.mk.injEq] at H
    obtain ⟨rfl, rfl, rfl, rfl⟩ := H
    have p166 : 0 ≤ (x13_1 : Int) := oa_
    have q166 : x13_1 < (l0.length : Int) := oa_
    obtain ⟨ad166, A166_4, c166_4, e166, hx166_0, hx166_1, hx166_2, hx166_3, hx166_4, hl166_4, hi166_4⟩ := at_T78 HR0.out x13_1 p166 q166
    cases e166
    replace hx166_0 := pc_ HB.out hx166_0
    replace hx166_1 := pc_ HB.out hx166_1
    replace hx166_2 := pc_ HB.out hx166_2
    replace hx166_3 := pc_ HB.out hx166_3
    replace hx166_4 := pc_ HB.out hx166_4
    have HR166_4 := am_ hi166_4
    have HC166_4 := am_ hl166_4
    clear hi166_4 hl166_4
    replace p166 := eq_true p166
    replace q166 := eq_true q166
    go_wp2_with (first | ((with_reducible refine gate_dst (N := 6) rfl ?_); refine bq_ (N := 6) #[.int .i64 0, .int .i64 0, .int .i64 0, .int .i64 0, .slice none 0 0] 78 ?_; intro gb167 hg w81 BK167 hb; replace HO_166000 := am_ (Kd.V_below (Kd.V_elderB (vF_ HO_166000.out) gb167 (Nat.le_of_eq hg.symm)) hb); replace HO_166001 := am_ (Kd.V_below (Kd.V_elderB (vF_ HO_166001.out) gb167 (Nat.le_of_eq hg.symm)) hb); have GE167 := ge2_ hg GE164 GE165; replace HB := nc2_ GE164 GE165 hb; have NB164_167 := nl_ BK164 hg; have NB167_164 := ng_ BK164 hg; replace BK164 := bK_ BK164 hb; have NB165_167 := nl_ BK165 hg; have NB167_165 := ng_ BK165 hg; replace BK165 := bK_ BK165 hb; clear hb hg; have hnb82 := NB167_164.out; have hnc82 := NB164_167.out; have hnb83 := NB167_165.out; have hnc83 := NB165_167.out; obtain ⟨hcz84_0, hcz84_1, hcz84_2, hcz84_3, hcz84_4, hfz84_0, hfz84_1, hfz84_2, hfz84_3, hfz84_4⟩ := cf5_ BK167.out) | ((with_reducible refine gate_store (t := 78) (p := 6) rfl ?_); refine store_event (t := 78) (p := 6) (v := ?vo_w85) (w1 := (((((w81.setCell ⟨gb167, 0, none⟩ (.int .i64 ((rd_T78 l0 x13_1).f0))).setCell ⟨gb167, 1, none⟩ (.int .i64 ((rd_T78 l0 x13_1).f1))).setCell ⟨gb167, 2, none⟩ (.int .i64 ((rd_T78 l0 x13_1).f2))).setCell ⟨gb167, 3, none⟩ (.int .i64 ((rd_T78 l0 x13_1).f3))).setCell ⟨gb167, 4, none⟩ (.slice A166_4 ((rd_T78 l0 x13_1).f4).length c166_4))) ?hg ?ho ?hn ?hr ?_; (case ho => rfl); (case hg => rfl); (case hn => rfl); (case hr => first | (go_simp; done) | (go_simp; rfl)); intro w85 hw; have n0_ : Aside0 (Kd.V k81 81 w85 w.heap.size (fun k_ => (w.heap.size ≤ k_) ∧ k_ ≠ gb164 ∧ k_ ≠ gb165 ∧ k_ ≠ gb167) u166000 x166000_1) := ⟨(by rw [hw]; exact (Kd.V_mono (vF_ (Kd.V_mono HO_166000.out (fun k_ hk => (⟨hk, hk.2⟩ : _ ∧ k_ ≠ gb167)))) (fun _ hk => ⟨hk.1.1.1, ⟨hk.1.1.2.1, ⟨hk.1.1.2.2, hk.1.2⟩⟩⟩)))⟩; have n1_ : Aside0 (Kd.V k78 78 w85 w.heap.size (fun k_ => (w.heap.size ≤ k_) ∧ k_ ≠ gb164 ∧ k_ ≠ gb165 ∧ k_ ≠ gb167) u166001 x166001_1) := ⟨(by rw [hw]; exact (Kd.V_mono (vF_ (Kd.V_mono HO_166001.out (fun k_ hk => (⟨hk, hk.2⟩ : _ ∧ k_ ≠ gb167)))) (fun _ hk => ⟨hk.1.1.1, ⟨hk.1.1.2.1, ⟨hk.1.1.2.2, hk.1.2⟩⟩⟩)))⟩; have n2_ : Aside0 (w85.heap[gb164]? = some (.cells #[.slice none 0 0, .slice none 0 0, .int .i64 x165002_1] 33 (0, 0))) := ⟨(by rw [hw]; exact (uf_ BK164 NB164_167.out))⟩; have n3_ : Aside0 (w85.heap[gb165]? = some (.cells #[u166000, u166001, .int .i64 x166002_1] 33 (0, 0))) := ⟨(by rw [hw]; exact (uf_ BK165 NB165_167.out))⟩; have n4_ : Aside0 (w85.heap[gb167]? = some (.cells #[.int .i64 ((rd_T78 l0 x13_1).f0), .int .i64 ((rd_T78 l0 x13_1).f1), .int .i64 ((rd_T78 l0 x13_1).f2), .int .i64 ((rd_T78 l0 x13_1).f3), .slice A166_4 ((rd_T78 l0 x13_1).f4).length c166_4] 78 (0, 0))) := ⟨(by rw [hw]; exact (up_ BK167))⟩; have n5_ : Aside0 (Below w.heap.size w w85) := ⟨(by rw [hw]; exact (hs3_ GE164.out GE165.out GE167.out))⟩; clear hw; clear HO_166000; clear HO_166001; clear BK164; clear BK165; clear BK167; clear HB; have HO_166000 := n0_; have HO_166001 := n1_; have BK164 := n2_; have BK165 := n3_; have BK167 := n4_; have HB := n5_; clear n0_ n1_ n2_ n3_ n4_ n5_; have hnb86 := NB165_164.out; have hnc86 := NB164_165.out; obtain ⟨hcz87_0, hcz87_1, hcz87_2, hfz87_0, hfz87_1, hfz87_2⟩ := cf3_ BK165.out; obtain ⟨hcz88_0, hcz88_1, hcz88_2, hcz88_3, hcz88_4, hfz88_0, hfz88_1, hfz88_2, hfz88_3, hfz88_4⟩ := cf5_ BK167.out; obtain ⟨Ao89, co89, eo89⟩ := Kd.V_slice HO_166000.out; subst eo89; obtain ⟨Ao90, co90, eo90⟩ := Kd.V_slice HO_166001.out; subst eo90) | ((with_reducible refine gate_callee (f := 57) rfl ?_); refine gl_ 28 Try.func57 #[.agg #[.slice Ao89 x166000_1.length co89, .slice Ao90 x166001_1.length co90, .int .i64 x166002_1], .agg #[.int .i64 ((rd_T78 l0 x13_1).f2), .int .i64 ((rd_T78 l0 x13_1).f1), .int .i64 ((rd_T78 l0 x13_1).f3), .slice A166_4 ((rd_T78 l0 x13_1).f4).length c166_4]] rfl ma_ ?_; (with_reducible refine (spec_l5Ask.calls k1 (fun k_ => ((w.heap.size ≤ k_) ∧ (k_ ≠ gb164 ∧ (k_ ≠ gb165 ∧ k_ ≠ gb167)))) _ _ x166000_1 (fun k_ => ((w.heap.size ≤ k_) ∧ (k_ ≠ gb164 ∧ (k_ ≠ gb165 ∧ k_ ≠ gb167)))) _ _ x166001_1 x166002_1 ((rd_T78 l0 x13_1).f2) ((rd_T78 l0 x13_1).f1) ((rd_T78 l0 x13_1).f3) _ _ ((rd_T78 l0 x13_1).f4) t168 t171 t174 t175 t176 _ ?side1 ?side2 ?side3 ?side4 A9.out).mono ?_); (case side1 => exact HO_166000.out); (case side2 => exact HO_166001.out); (case side3 => exact cs_ ((Kd.C_below HR166_4.out HB.out))); (case side4 => exact HC166_4.out); rintro e w91 ⟨v169, v172, rfl, ho0, ho1, hb⟩; refine ⟨_, rfl, ?_⟩; replace HO_166000 := am_ (Kd.V_below (vF_ HO_166000.out) hb); replace HO_166001 := am_ (Kd.V_below (vF_ HO_166001.out) hb); have HO170 := am_ (Kd.V_lower (Kd.V_mono (ok' := fun k_ => (w.heap.size ≤ k_) ∧ k_ ≠ gb164 ∧ k_ ≠ gb165 ∧ k_ ≠ gb167) ho0 (fun k_ hk_ => ⟨Or.elim hk_ (fun hs_ => Or.elim hs_ (fun hs_ => hs_.1) (fun hs_ => hs_.1)) (fun hn_ => (Nat.le_trans (below_size (hs3_ GE164.out GE165.out GE167.out)) hn_)), Or.elim hk_ (fun hs_ => Or.elim hs_ (fun hs_ => hs_.2.1) (fun hs_ => hs_.2.1)) (fun hn_ => (Kd.freshB (g := gb164) (o := .cells #[.slice none 0 0, .slice none 0 0, .int .i64 x165002_1] 33 (0, 0)) (kb_ BK164.out) k_ hn_)), Or.elim hk_ (fun hs_ => Or.elim hs_ (fun hs_ => hs_.2.2.1) (fun hs_ => hs_.2.2.1)) (fun hn_ => (Kd.freshB (g := gb165) (o := .cells #[.slice Ao89 x166000_1.length co89, .slice Ao90 x166001_1.length co90, .int .i64 x166002_1] 33 (0, 0)) (kb_ BK165.out) k_ hn_)), Or.elim hk_ (fun hs_ => Or.elim hs_ (fun hs_ => hs_.2.2.2) (fun hs_ => hs_.2.2.2)) (fun hn_ => (Kd.freshB (g := gb167) (o := .cells #[.int .i64 ((rd_T78 l0 x13_1).f0), .int .i64 ((rd_T78 l0 x13_1).f1), .int .i64 ((rd_T78 l0 x13_1).f2), .int .i64 ((rd_T78 l0 x13_1).f3), .slice A166_4 ((rd_T78 l0 x13_1).f4).length c166_4] 78 (0, 0)) (kb_ BK167.out) k_ hn_))⟩)) (below_size (hs3_ GE164.out GE165.out GE167.out))); have HO173 := am_ (Kd.V_lower (Kd.V_mono (ok' := fun k_ => (w.heap.size ≤ k_) ∧ k_ ≠ gb164 ∧ k_ ≠ gb165 ∧ k_ ≠ gb167) ho1 (fun k_ hk_ => ⟨Or.elim hk_ (fun hs_ => Or.elim hs_ (fun hs_ => hs_.1) (fun hs_ => hs_.1)) (fun hn_ => (Nat.le_trans (below_size (hs3_ GE164.out GE165.out GE167.out)) hn_)), Or.elim hk_ (fun hs_ => Or.elim hs_ (fun hs_ => hs_.2.1) (fun hs_ => hs_.2.1)) (fun hn_ => (Kd.freshB (g := gb164) (o := .cells #[.slice none 0 0, .slice none 0 0, .int .i64 x165002_1] 33 (0, 0)) (kb_ BK164.out) k_ hn_)), Or.elim hk_ (fun hs_ => Or.elim hs_ (fun hs_ => hs_.2.2.1) (fun hs_ => hs_.2.2.1)) (fun hn_ => (Kd.freshB (g := gb165) (o := .cells #[.slice Ao89 x166000_1.length co89, .slice Ao90 x166001_1.length co90, .int .i64 x166002_1] 33 (0, 0)) (kb_ BK165.out) k_ hn_)), Or.elim hk_ (fun hs_ => Or.elim hs_ (fun hs_ => hs_.2.2.2) (fun hs_ => hs_.2.2.2)) (fun hn_ => (Kd.freshB (g := gb167) (o := .cells #[.int .i64 ((rd_T78 l0 x13_1).f0), .int .i64 ((rd_T78 l0 x13_1).f1), .int .i64 ((rd_T78 l0 x13_1).f2), .int .i64 ((rd_T78 l0 x13_1).f3), .slice A166_4 ((rd_T78 l0 x13_1).f4).length c166_4] 78 (0, 0)) (kb_ BK167.out) k_ hn_))⟩)) (below_size (hs3_ GE164.out GE165.out GE167.out))); replace BK164 := bK_ BK164 hb; replace BK165 := bK_ BK165 hb; replace BK167 := bK_ BK167 hb; replace HB := nc3_ GE164 GE165 GE167 hb; (try clear hb); (try clear hb2); (try clear hk); (try clear hi); (try clear ho0); (try clear ho1)) | ((with_reducible refine gate_dst (N := 7) rfl ?_); refine bq_ (N := 7) #[.slice none 0 0, .slice none 0 0, .int .i64 0] 33 ?_; intro gb177 hg w92 BK177 hb; replace HO_166000 := am_ (Kd.V_below (Kd.V_elderB (vF_ HO_166000.out) gb177 (Nat.le_of_eq hg.symm)) hb); replace HO_166001 := am_ (Kd.V_below (Kd.V_elderB (vF_ HO_166001.out) gb177 (Nat.le_of_eq hg.symm)) hb); replace HO170 := am_ (Kd.V_below (Kd.V_elderB (vF_ HO170.out) gb177 (Nat.le_of_eq hg.symm)) hb); replace HO173 := am_ (Kd.V_below (Kd.V_elderB (vF_ HO173.out) gb177 (Nat.le_of_eq hg.symm)) hb); have GE177 := ge3_ hg GE164 GE165 GE167; replace HB := nc3_ GE164 GE165 GE167 hb; have NB164_177 := nl_ BK164 hg; have NB177_164 := ng_ BK164 hg; replace BK164 := bK_ BK164 hb; have NB165_177 := nl_ BK165 hg; have NB177_165 := ng_ BK165 hg; replace BK165 := bK_ BK165 hb; have NB167_177 := nl_ BK167 hg; have NB177_167 := ng_ BK167 hg; replace BK167 := bK_ BK167 hb; clear hb hg; obtain ⟨Ao93, co93, eo93⟩ := Kd.V_slice HO170.out; subst eo93; have hnb94 := NB177_164.out; have hnc94 := NB164_177.out; have hnb95 := NB177_165.out; have hnc95 := NB165_177.out; have hnb96 := NB177_167.out; have hnc96 := NB167_177.out; obtain ⟨hcz97_0, hcz97_1, hcz97_2, hfz97_0, hfz97_1, hfz97_2⟩ := cf3_ BK177.out; obtain ⟨Ao98, co98, eo98⟩ := Kd.V_slice HO173.out; subst eo98; obtain ⟨hcz99_0, hcz99_1, hcz99_2, hcz99_3, hcz99_4, hfz99_0, hfz99_1, hfz99_2, hfz99_3, hfz99_4⟩ := cf5_ BK167.out) | ((with_reducible refine gate_callee (f := 55) rfl ?_); refine gl_ 33 Try.func55 #[.agg #[.int .i64 ((rd_T78 l0 x13_1).f0), .int .i64 ((rd_T78 l0 x13_1).f1), .int .i64 ((rd_T78 l0 x13_1).f2), .int .i64 ((rd_T78 l0 x13_1).f3), .slice A166_4 ((rd_T78 l0 x13_1).f4).length c166_4]] rfl ma_ ?_; (with_reducible refine (spec_GoodBatch.calls k1 ((rd_T78 l0 x13_1).f0) ((rd_T78 l0 x13_1).f1) ((rd_T78 l0 x13_1).f2) ((rd_T78 l0 x13_1).f3) _ _ ((rd_T78 l0 x13_1).f4) false _ ?side1 ?side2 A10.out).mono ?_); (case side1 => exact Kd.C_below HR166_4.out (hs4_ GE164.out GE165.out GE167.out GE177.out)); (case side2 => exact HC166_4.out); rintro e w100 ⟨rfl, hb⟩; refine ⟨_, rfl, ?_⟩; replace HO_166000 := am_ (Kd.V_below ((Kd.V_mono (vF_ (Kd.V_mono HO_166000.out (fun k_ hk => (⟨hk, hk.2⟩ : _ ∧ k_ ≠ gb177)))) (fun _ h_ => h_.1))) hb); replace HO_166001 := am_ (Kd.V_below ((Kd.V_mono (vF_ (Kd.V_mono HO_166001.out (fun k_ hk => (⟨hk, hk.2⟩ : _ ∧ k_ ≠ gb177)))) (fun _ h_ => h_.1))) hb); replace HO170 := am_ (Kd.V_below ((Kd.V_mono (vF_ (Kd.V_mono HO170.out (fun k_ hk => (⟨hk, hk.2⟩ : _ ∧ k_ ≠ gb177)))) (fun _ h_ => h_.1))) hb); replace HO173 := am_ (Kd.V_below ((Kd.V_mono (vF_ (Kd.V_mono HO173.out (fun k_ hk => (⟨hk, hk.2⟩ : _ ∧ k_ ≠ gb177)))) (fun _ h_ => h_.1))) hb); replace BK164 := am_ (blk_below (g := gb164) (o := .cells #[.slice none 0 0, .slice none 0 0, .int .i64 x165002_1] 33 (0, 0)) (uf_ BK164 NB164_177.out) hb); replace BK165 := am_ (blk_below (g := gb165) (o := .cells #[.slice Ao89 x166000_1.length co89, .slice Ao90 x166001_1.length co90, .int .i64 x166002_1] 33 (0, 0)) (uf_ BK165 NB165_177.out) hb); replace BK167 := am_ (blk_below (g := gb167) (o := .cells #[.int .i64 ((rd_T78 l0 x13_1).f0), .int .i64 ((rd_T78 l0 x13_1).f1), .int .i64 ((rd_T78 l0 x13_1).f2), .int .i64 ((rd_T78 l0 x13_1).f3), .slice A166_4 ((rd_T78 l0 x13_1).f4).length c166_4] 78 (0, 0)) (uf_ BK167 NB167_177.out) hb); replace BK177 := am_ (blk_below (g := gb177) (o := .cells #[.slice Ao93 t168.length co93, .slice Ao98 t171.length co98, .int .i64 t174] 33 (0, 0)) (up_ BK177) hb); replace HB := nc4_ GE164 GE165 GE167 GE177 hb; (try clear hb); (try clear hb2); (try clear hk); (try clear hi); obtain ⟨hcz101_0, hcz101_1, hcz101_2, hfz101_0, hfz101_1, hfz101_2⟩ := cf3_ BK164.out))
    refine bodyPost_ret (results_ct rfl _ _ gb164 33 #[.slice none 0 0, .slice none 0 0, .int .i64 0] (0, 0) _ rfl (up_ BK164) Try.underlying33 rfl (by kernel_rfl)) rfl ?_
    exact ⟨_, _, er_, Kd.V_nil _ _ _ _ _, Kd.V_nil _ _ _ _ _, hs4_ GE164.out GE165.out GE167.out GE177.out⟩
   replace H := ite_ H
   obtain ⟨c12, H⟩ | ⟨c12, H⟩ := H
   rotate_left
   ·have c12b0 : (t175 == 0) = false := beq_eq_false_iff_ne.mpr c12
    have c12b1 : (t175 != 0) = true := bne_iff_ne.mpr c12
    simp only [Option.some.injEq, Prod.mk.injEq] at H
    obtain ⟨rfl, rfl, rfl, rfl⟩ := H
    have p166 : 0 ≤ (x13_1 : Int) := oa_
    have q166 : x13_1 < (l0.length : Int) := oa_
    obtain ⟨ad166, A166_4, c166_4, e166, hx166_0, hx166_1, hx166_2, hx166_3, hx166_4, hl166_4, hi166_4⟩ := at_T78 HR0.out x13_1 p166 q166
    cases e166
    replace hx166_0 := pc_ HB.out hx166_0
    replace hx166_1 := pc_ HB.out hx166_1
    replace hx166_2 := pc_ HB.out hx166_2
    replace hx166_3 := pc_ HB.out hx166_3
    replace hx166_4 := pc_ HB.out hx166_4
    have HR166_4 := am_ hi166_4
    have HC166_4 := am_ hl166_4
    clear hi166_4 hl166_4
    replace p166 := eq_true p166
    replace q166 := eq_true q166
    go_wp2_with (first | ((with_reducible refine gate_dst (N := 6) rfl ?_); refine bq_ (N := 6) #[.int .i64 0, .int .i64 0, .int .i64 0, .int .i64 0, .slice none 0 0] 78 ?_; intro gb167 hg w60 BK167 hb; replace HO_166000 := am_ (Kd.V_below (Kd.V_elderB (vF_ HO_166000.out) gb167 (Nat.le_of_eq hg.symm)) hb); replace HO_166001 := am_ (Kd.V_below (Kd.V_elderB (vF_ HO_166001.out) gb167 (Nat.le_of_eq hg.symm)) hb); have GE167 := ge2_ hg GE164 GE165; replace HB := nc2_ GE164 GE165 hb; have NB164_167 := nl_ BK164 hg; have NB167_164 := ng_ BK164 hg; replace BK164 := bK_ BK164 hb; have NB165_167 := nl_ BK165 hg; have NB167_165 := ng_ BK165 hg; replace BK165 := bK_ BK165 hb; clear hb hg; have hnb61 := NB167_164.out; have hnc61 := NB164_167.out; have hnb62 := NB167_165.out; have hnc62 := NB165_167.out; obtain ⟨hcz63_0, hcz63_1, hcz63_2, hcz63_3, hcz63_4, hfz63_0, hfz63_1, hfz63_2, hfz63_3, hfz63_4⟩ := cf5_ BK167.out) | ((with_reducible refine gate_store (t := 78) (p := 6) rfl ?_); refine store_event (t := 78) (p := 6) (v := ?vo_w64) (w1 := (((((w60.setCell ⟨gb167, 0, none⟩ (.int .i64 ((rd_T78 l0 x13_1).f0))).setCell ⟨gb167, 1, none⟩ (.int .i64 ((rd_T78 l0 x13_1).f1))).setCell ⟨gb167, 2, none⟩ (.int .i64 ((rd_T78 l0 x13_1).f2))).setCell ⟨gb167, 3, none⟩ (.int .i64 ((rd_T78 l0 x13_1).f3))).setCell ⟨gb167, 4, none⟩ (.slice A166_4 ((rd_T78 l0 x13_1).f4).length c166_4))) ?hg ?ho ?hn ?hr ?_; (case ho => rfl); (case hg => rfl); (case hn => rfl); (case hr => first | (go_simp; done) | (go_simp; rfl)); intro w64 hw; have n0_ : Aside0 (Kd.V k81 81 w64 w.heap.size (fun k_ => (w.heap.size ≤ k_) ∧ k_ ≠ gb164 ∧ k_ ≠ gb165 ∧ k_ ≠ gb167) u166000 x166000_1) := ⟨(by rw [hw]; exact (Kd.V_mono (vF_ (Kd.V_mono HO_166000.out (fun k_ hk => (⟨hk, hk.2⟩ : _ ∧ k_ ≠ gb167)))) (fun _ hk => ⟨hk.1.1.1, ⟨hk.1.1.2.1, ⟨hk.1.1.2.2, hk.1.2⟩⟩⟩)))⟩; have n1_ : Aside0 (Kd.V k78 78 w64 w.heap.size (fun k_ => (w.heap.size ≤ k_) ∧ k_ ≠ gb164 ∧ k_ ≠ gb165 ∧ k_ ≠ gb167) u166001 x166001_1) := ⟨(by rw [hw]; exact (Kd.V_mono (vF_ (Kd.V_mono HO_166001.out (fun k_ hk => (⟨hk, hk.2⟩ : _ ∧ k_ ≠ gb167)))) (fun _ hk => ⟨hk.1.1.1, ⟨hk.1.1.2.1, ⟨hk.1.1.2.2, hk.1.2⟩⟩⟩)))⟩; have n2_ : Aside0 (w64.heap[gb164]? = some (.cells #[.slice none 0 0, .slice none 0 0, .int .i64 x165002_1] 33 (0, 0))) := ⟨(by rw [hw]; exact (uf_ BK164 NB164_167.out))⟩; have n3_ : Aside0 (w64.heap[gb165]? = some (.cells #[u166000, u166001, .int .i64 x166002_1] 33 (0, 0))) := ⟨(by rw [hw]; exact (uf_ BK165 NB165_167.out))⟩; have n4_ : Aside0 (w64.heap[gb167]? = some (.cells #[.int .i64 ((rd_T78 l0 x13_1).f0), .int .i64 ((rd_T78 l0 x13_1).f1), .int .i64 ((rd_T78 l0 x13_1).f2), .int .i64 ((rd_T78 l0 x13_1).f3), .slice A166_4 ((rd_T78 l0 x13_1).f4).length c166_4] 78 (0, 0))) := ⟨(by rw [hw]; exact (up_ BK167))⟩; have n5_ : Aside0 (Below w.heap.size w w64) := ⟨(by rw [hw]; exact (hs3_ GE164.out GE165.out GE167.out))⟩; clear hw; clear HO_166000; clear HO_166001; clear BK164; clear BK165; clear BK167; clear HB; have HO_166000 := n0_; have HO_166001 := n1_; have BK164 := n2_; have BK165 := n3_; have BK167 := n4_; have HB := n5_; clear n0_ n1_ n2_ n3_ n4_ n5_; have hnb65 := NB165_164.out; have hnc65 := NB164_165.out; obtain ⟨hcz66_0, hcz66_1, hcz66_2, hfz66_0, hfz66_1, hfz66_2⟩ := cf3_ BK165.out; obtain ⟨hcz67_0, hcz67_1, hcz67_2, hcz67_3, hcz67_4, hfz67_0, hfz67_1, hfz67_2, hfz67_3, hfz67_4⟩ := cf5_ BK167.out; obtain ⟨Ao68, co68, eo68⟩ := Kd.V_slice HO_166000.out; subst eo68; obtain ⟨Ao69, co69, eo69⟩ := Kd.V_slice HO_166001.out; subst eo69) | ((with_reducible refine gate_callee (f := 57) rfl ?_); refine gl_ 28 Try.func57 #[.agg #[.slice Ao68 x166000_1.length co68, .slice Ao69 x166001_1.length co69, .int .i64 x166002_1], .agg #[.int .i64 ((rd_T78 l0 x13_1).f2), .int .i64 ((rd_T78 l0 x13_1).f1), .int .i64 ((rd_T78 l0 x13_1).f3), .slice A166_4 ((rd_T78 l0 x13_1).f4).length c166_4]] rfl ma_ ?_; (with_reducible refine (spec_l5Ask.calls k1 (fun k_ => ((w.heap.size ≤ k_) ∧ (k_ ≠ gb164 ∧ (k_ ≠ gb165 ∧ k_ ≠ gb167)))) _ _ x166000_1 (fun k_ => ((w.heap.size ≤ k_) ∧ (k_ ≠ gb164 ∧ (k_ ≠ gb165 ∧ k_ ≠ gb167)))) _ _ x166001_1 x166002_1 ((rd_T78 l0 x13_1).f2) ((rd_T78 l0 x13_1).f1) ((rd_T78 l0 x13_1).f3) _ _ ((rd_T78 l0 x13_1).f4) t168 t171 t174 t175 t176 _ ?side1 ?side2 ?side3 ?side4 A9.out).mono ?_); (case side1 => exact HO_166000.out); (case side2 => exact HO_166001.out); (case side3 => exact cs_ ((Kd.C_below HR166_4.out HB.out))); (case side4 => exact HC166_4.out); rintro e w70 ⟨v169, v172, rfl, ho0, ho1, hb⟩; refine ⟨_, rfl, ?_⟩; replace HO_166000 := am_ (Kd.V_below (vF_ HO_166000.out) hb); replace HO_166001 := am_ (Kd.V_below (vF_ HO_166001.out) hb); have HO170 := am_ (Kd.V_lower (Kd.V_mono (ok' := fun k_ => (w.heap.size ≤ k_) ∧ k_ ≠ gb164 ∧ k_ ≠ gb165 ∧ k_ ≠ gb167) ho0 (fun k_ hk_ => ⟨Or.elim hk_ (fun hs_ => Or.elim hs_ (fun hs_ => hs_.1) (fun hs_ => hs_.1)) (fun hn_ => (Nat.le_trans (below_size (hs3_ GE164.out GE165.out GE167.out)) hn_)), Or.elim hk_ (fun hs_ => Or.elim hs_ (fun hs_ => hs_.2.1) (fun hs_ => hs_.2.1)) (fun hn_ => (Kd.freshB (g := gb164) (o := .cells #[.slice none 0 0, .slice none 0 0, .int .i64 x165002_1] 33 (0, 0)) (kb_ BK164.out) k_ hn_)), Or.elim hk_ (fun hs_ => Or.elim hs_ (fun hs_ => hs_.2.2.1) (fun hs_ => hs_.2.2.1)) (fun hn_ => (Kd.freshB (g := gb165) (o := .cells #[.slice Ao68 x166000_1.length co68, .slice Ao69 x166001_1.length co69, .int .i64 x166002_1] 33 (0, 0)) (kb_ BK165.out) k_ hn_)), Or.elim hk_ (fun hs_ => Or.elim hs_ (fun hs_ => hs_.2.2.2) (fun hs_ => hs_.2.2.2)) (fun hn_ => (Kd.freshB (g := gb167) (o := .cells #[.int .i64 ((rd_T78 l0 x13_1).f0), .int .i64 ((rd_T78 l0 x13_1).f1), .int .i64 ((rd_T78 l0 x13_1).f2), .int .i64 ((rd_T78 l0 x13_1).f3), .slice A166_4 ((rd_T78 l0 x13_1).f4).length c166_4] 78 (0, 0)) (kb_ BK167.out) k_ hn_))⟩)) (below_size (hs3_ GE164.out GE165.out GE167.out))); have HO173 := am_ (Kd.V_lower (Kd.V_mono (ok' := fun k_ => (w.heap.size ≤ k_) ∧ k_ ≠ gb164 ∧ k_ ≠ gb165 ∧ k_ ≠ gb167) ho1 (fun k_ hk_ => ⟨Or.elim hk_ (fun hs_ => Or.elim hs_ (fun hs_ => hs_.1) (fun hs_ => hs_.1)) (fun hn_ => (Nat.le_trans (below_size (hs3_ GE164.out GE165.out GE167.out)) hn_)), Or.elim hk_ (fun hs_ => Or.elim hs_ (fun hs_ => hs_.2.1) (fun hs_ => hs_.2.1)) (fun hn_ => (Kd.freshB (g := gb164) (o := .cells #[.slice none 0 0, .slice none 0 0, .int .i64 x165002_1] 33 (0, 0)) (kb_ BK164.out) k_ hn_)), Or.elim hk_ (fun hs_ => Or.elim hs_ (fun hs_ => hs_.2.2.1) (fun hs_ => hs_.2.2.1)) (fun hn_ => (Kd.freshB (g := gb165) (o := .cells #[.slice Ao68 x166000_1.length co68, .slice Ao69 x166001_1.length co69, .int .i64 x166002_1] 33 (0, 0)) (kb_ BK165.out) k_ hn_)), Or.elim hk_ (fun hs_ => Or.elim hs_ (fun hs_ => hs_.2.2.2) (fun hs_ => hs_.2.2.2)) (fun hn_ => (Kd.freshB (g := gb167) (o := .cells #[.int .i64 ((rd_T78 l0 x13_1).f0), .int .i64 ((rd_T78 l0 x13_1).f1), .int .i64 ((rd_T78 l0 x13_1).f2), .int .i64 ((rd_T78 l0 x13_1).f3), .slice A166_4 ((rd_T78 l0 x13_1).f4).length c166_4] 78 (0, 0)) (kb_ BK167.out) k_ hn_))⟩)) (below_size (hs3_ GE164.out GE165.out GE167.out))); replace BK164 := bK_ BK164 hb; replace BK165 := bK_ BK165 hb; replace BK167 := bK_ BK167 hb; replace HB := nc3_ GE164 GE165 GE167 hb; (try clear hb); (try clear hb2); (try clear hk); (try clear hi); (try clear ho0); (try clear ho1)) | ((with_reducible refine gate_dst (N := 7) rfl ?_); refine bq_ (N := 7) #[.slice none 0 0, .slice none 0 0, .int .i64 0] 33 ?_; intro gb177 hg w71 BK177 hb; replace HO_166000 := am_ (Kd.V_below (Kd.V_elderB (vF_ HO_166000.out) gb177 (Nat.le_of_eq hg.symm)) hb); replace HO_166001 := am_ (Kd.V_below (Kd.V_elderB (vF_ HO_166001.out) gb177 (Nat.le_of_eq hg.symm)) hb); replace HO170 := am_ (Kd.V_below (Kd.V_elderB (vF_ HO170.out) gb177 (Nat.le_of_eq hg.symm)) hb); replace HO173 := am_ (Kd.V_below (Kd.V_elderB (vF_ HO173.out) gb177 (Nat.le_of_eq hg.symm)) hb); have GE177 := ge3_ hg GE164 GE165 GE167; replace HB := nc3_ GE164 GE165 GE167 hb; have NB164_177 := nl_ BK164 hg; have NB177_164 := ng_ BK164 hg; replace BK164 := bK_ BK164 hb; have NB165_177 := nl_ BK165 hg; have NB177_165 := ng_ BK165 hg; replace BK165 := bK_ BK165 hb; have NB167_177 := nl_ BK167 hg; have NB177_167 := ng_ BK167 hg; replace BK167 := bK_ BK167 hb; clear hb hg; obtain ⟨Ao72, co72, eo72⟩ := Kd.V_slice HO170.out; subst eo72; have hnb73 := NB177_164.out; have hnc73 := NB164_177.out; have hnb74 := NB177_165.out; have hnc74 := NB165_177.out; have hnb75 := NB177_167.out; have hnc75 := NB167_177.out; obtain ⟨hcz76_0, hcz76_1, hcz76_2, hfz76_0, hfz76_1, hfz76_2⟩ := cf3_ BK177.out; obtain ⟨Ao77, co77, eo77⟩ := Kd.V_slice HO173.out; subst eo77; obtain ⟨hcz78_0, hcz78_1, hcz78_2, hcz78_3, hcz78_4, hfz78_0, hfz78_1, hfz78_2, hfz78_3, hfz78_4⟩ := cf5_ BK167.out) | ((with_reducible refine gate_callee (f := 55) rfl ?_); refine gl_ 33 Try.func55 #[.agg #[.int .i64 ((rd_T78 l0 x13_1).f0), .int .i64 ((rd_T78 l0 x13_1).f1), .int .i64 ((rd_T78 l0 x13_1).f2), .int .i64 ((rd_T78 l0 x13_1).f3), .slice A166_4 ((rd_T78 l0 x13_1).f4).length c166_4]] rfl ma_ ?_; (with_reducible refine (spec_GoodBatch.calls k1 ((rd_T78 l0 x13_1).f0) ((rd_T78 l0 x13_1).f1) ((rd_T78 l0 x13_1).f2) ((rd_T78 l0 x13_1).f3) _ _ ((rd_T78 l0 x13_1).f4) true _ ?side1 ?side2 A10.out).mono ?_); (case side1 => exact Kd.C_below HR166_4.out (hs4_ GE164.out GE165.out GE167.out GE177.out)); (case side2 => exact HC166_4.out); rintro e w79 ⟨rfl, hb⟩; refine ⟨_, rfl, ?_⟩; replace HO_166000 := am_ (Kd.V_below ((Kd.V_mono (vF_ (Kd.V_mono HO_166000.out (fun k_ hk => (⟨hk, hk.2⟩ : _ ∧ k_ ≠ gb177)))) (fun _ h_ => h_.1))) hb); replace HO_166001 := am_ (Kd.V_below ((Kd.V_mono (vF_ (Kd.V_mono HO_166001.out (fun k_ hk => (⟨hk, hk.2⟩ : _ ∧ k_ ≠ gb177)))) (fun _ h_ => h_.1))) hb); replace HO170 := am_ (Kd.V_below ((Kd.V_mono (vF_ (Kd.V_mono HO170.out (fun k_ hk => (⟨hk, hk.2⟩ : _ ∧ k_ ≠ gb177)))) (fun _ h_ => h_.1))) hb); replace HO173 := am_ (Kd.V_below ((Kd.V_mono (vF_ (Kd.V_mono HO173.out (fun k_ hk => (⟨hk, hk.2⟩ : _ ∧ k_ ≠ gb177)))) (fun _ h_ => h_.1))) hb); replace BK164 := am_ (blk_below (g := gb164) (o := .cells #[.slice none 0 0, .slice none 0 0, .int .i64 x165002_1] 33 (0, 0)) (uf_ BK164 NB164_177.out) hb); replace BK165 := am_ (blk_below (g := gb165) (o := .cells #[.slice Ao68 x166000_1.length co68, .slice Ao69 x166001_1.length co69, .int .i64 x166002_1] 33 (0, 0)) (uf_ BK165 NB165_177.out) hb); replace BK167 := am_ (blk_below (g := gb167) (o := .cells #[.int .i64 ((rd_T78 l0 x13_1).f0), .int .i64 ((rd_T78 l0 x13_1).f1), .int .i64 ((rd_T78 l0 x13_1).f2), .int .i64 ((rd_T78 l0 x13_1).f3), .slice A166_4 ((rd_T78 l0 x13_1).f4).length c166_4] 78 (0, 0)) (uf_ BK167 NB167_177.out) hb); replace BK177 := am_ (blk_below (g := gb177) (o := .cells #[.slice Ao72 t168.length co72, .slice Ao77 t171.length co77, .int .i64 t174] 33 (0, 0)) (up_ BK177) hb); replace HB := nc4_ GE164 GE165 GE167 GE177 hb; (try clear hb); (try clear hb2); (try clear hk); (try clear hi); obtain ⟨hcz80_0, hcz80_1, hcz80_2, hfz80_0, hfz80_1, hfz80_2⟩ := cf3_ BK164.out))
    refine bodyPost_ret (results_ct rfl _ _ gb164 33 #[.slice none 0 0, .slice none 0 0, .int .i64 0] (0, 0) _ rfl (up_ BK164) Try.underlying33 rfl (by kernel_rfl)) rfl ?_
    exact ⟨_, _, er_, Kd.V_nil _ _ _ _ _, Kd.V_nil _ _ _ _ _, hs4_ GE164.out GE165.out GE167.out GE177.out⟩
   have c12b0 : (t175 == 0) = true := beq_iff_eq.mpr c12
   have c12b1 : (t175 != 0) = false := bne_eq_false_iff_eq.mpr c12
   clear c12
   replace H := ite_ H
   obtain ⟨c13, H⟩ | ⟨c13, H⟩ := H
   rotate_left
   ·have c13b0 : (((rd_T78 l0 x13_1).f0) == x166002_1) = false := beq_eq_false_iff_ne.mpr c13
    have c13b1 : (((rd_T78 l0 x13_1).f0) != x166002_1) = true := bne_iff_ne.mpr c13
    simp only [Option.some.injEq, Prod.mk.injEq] at H
    obtain ⟨rfl, rfl, rfl, rfl⟩ := H
    have p166 : 0 ≤ (x13_1 : Int) := oa_
    have q166 : x13_1 < (l0.length : Int) := oa_
    obtain ⟨ad166, A166_4, c166_4, e166, hx166_0, hx166_1, hx166_2, hx166_3, hx166_4, hl166_4, hi166_4⟩ := at_T78 HR0.out x13_1 p166 q166
    cases e166
    replace hx166_0 := pc_ HB.out hx166_0
    replace hx166_1 := pc_ HB.out hx166_1
    replace hx166_2 := pc_ HB.out hx166_2
    replace hx166_3 := pc_ HB.out hx166_3
    replace hx166_4 := pc_ HB.out hx166_4
    have HR166_4 := am_ hi166_4
    have HC166_4 := am_ hl166_4
    clear hi166_4 hl166_4
    replace p166 := eq_true p166
    replace q166 := eq_true q166
    go_wp2_with (first | ((with_reducible refine gate_dst (N := 6) rfl ?_); refine bq_ (N := 6) #[.int .i64 0, .int .i64 0, .int .i64 0, .int .i64 0, .slice none 0 0] 78 ?_; intro gb167 hg w37 BK167 hb; replace HO_166000 := am_ (Kd.V_below (Kd.V_elderB (vF_ HO_166000.out) gb167 (Nat.le_of_eq hg.symm)) hb); replace HO_166001 := am_ (Kd.V_below (Kd.V_elderB (vF_ HO_166001.out) gb167 (Nat.le_of_eq hg.symm)) hb); have GE167 := ge2_ hg GE164 GE165; replace HB := nc2_ GE164 GE165 hb; have NB164_167 := nl_ BK164 hg; have NB167_164 := ng_ BK164 hg; replace BK164 := bK_ BK164 hb; have NB165_167 := nl_ BK165 hg; have NB167_165 := ng_ BK165 hg; replace BK165 := bK_ BK165 hb; clear hb hg; have hnb38 := NB167_164.out; have hnc38 := NB164_167.out; have hnb39 := NB167_165.out; have hnc39 := NB165_167.out; obtain ⟨hcz40_0, hcz40_1, hcz40_2, hcz40_3, hcz40_4, hfz40_0, hfz40_1, hfz40_2, hfz40_3, hfz40_4⟩ := cf5_ BK167.out) | ((with_reducible refine gate_store (t := 78) (p := 6) rfl ?_); refine store_event (t := 78) (p := 6) (v := ?vo_w41) (w1 := (((((w37.setCell ⟨gb167, 0, none⟩ (.int .i64 ((rd_T78 l0 x13_1).f0))).setCell ⟨gb167, 1, none⟩ (.int .i64 ((rd_T78 l0 x13_1).f1))).setCell ⟨gb167, 2, none⟩ (.int .i64 ((rd_T78 l0 x13_1).f2))).setCell ⟨gb167, 3, none⟩ (.int .i64 ((rd_T78 l0 x13_1).f3))).setCell ⟨gb167, 4, none⟩ (.slice A166_4 ((rd_T78 l0 x13_1).f4).length c166_4))) ?hg ?ho ?hn ?hr ?_; (case ho => rfl); (case hg => rfl); (case hn => rfl); (case hr => first | (go_simp; done) | (go_simp; rfl)); intro w41 hw; have n0_ : Aside0 (Kd.V k81 81 w41 w.heap.size (fun k_ => (w.heap.size ≤ k_) ∧ k_ ≠ gb164 ∧ k_ ≠ gb165 ∧ k_ ≠ gb167) u166000 x166000_1) := ⟨(by rw [hw]; exact (Kd.V_mono (vF_ (Kd.V_mono HO_166000.out (fun k_ hk => (⟨hk, hk.2⟩ : _ ∧ k_ ≠ gb167)))) (fun _ hk => ⟨hk.1.1.1, ⟨hk.1.1.2.1, ⟨hk.1.1.2.2, hk.1.2⟩⟩⟩)))⟩; have n1_ : Aside0 (Kd.V k78 78 w41 w.heap.size (fun k_ => (w.heap.size ≤ k_) ∧ k_ ≠ gb164 ∧ k_ ≠ gb165 ∧ k_ ≠ gb167) u166001 x166001_1) := ⟨(by rw [hw]; exact (Kd.V_mono (vF_ (Kd.V_mono HO_166001.out (fun k_ hk => (⟨hk, hk.2⟩ : _ ∧ k_ ≠ gb167)))) (fun _ hk => ⟨hk.1.1.1, ⟨hk.1.1.2.1, ⟨hk.1.1.2.2, hk.1.2⟩⟩⟩)))⟩; have n2_ : Aside0 (w41.heap[gb164]? = some (.cells #[.slice none 0 0, .slice none 0 0, .int .i64 x165002_1] 33 (0, 0))) := ⟨(by rw [hw]; exact (uf_ BK164 NB164_167.out))⟩; have n3_ : Aside0 (w41.heap[gb165]? = some (.cells #[u166000, u166001, .int .i64 x166002_1] 33 (0, 0))) := ⟨(by rw [hw]; exact (uf_ BK165 NB165_167.out))⟩; have n4_ : Aside0 (w41.heap[gb167]? = some (.cells #[.int .i64 ((rd_T78 l0 x13_1).f0), .int .i64 ((rd_T78 l0 x13_1).f1), .int .i64 ((rd_T78 l0 x13_1).f2), .int .i64 ((rd_T78 l0 x13_1).f3), .slice A166_4 ((rd_T78 l0 x13_1).f4).length c166_4] 78 (0, 0))) := ⟨(by rw [hw]; exact (up_ BK167))⟩; have n5_ : Aside0 (Below w.heap.size w w41) := ⟨(by rw [hw]; exact (hs3_ GE164.out GE165.out GE167.out))⟩; clear hw; clear HO_166000; clear HO_166001; clear BK164; clear BK165; clear BK167; clear HB; have HO_166000 := n0_; have HO_166001 := n1_; have BK164 := n2_; have BK165 := n3_; have BK167 := n4_; have HB := n5_; clear n0_ n1_ n2_ n3_ n4_ n5_; have hnb42 := NB165_164.out; have hnc42 := NB164_165.out; obtain ⟨hcz43_0, hcz43_1, hcz43_2, hfz43_0, hfz43_1, hfz43_2⟩ := cf3_ BK165.out; obtain ⟨hcz44_0, hcz44_1, hcz44_2, hcz44_3, hcz44_4, hfz44_0, hfz44_1, hfz44_2, hfz44_3, hfz44_4⟩ := cf5_ BK167.out; obtain ⟨Ao45, co45, eo45⟩ := Kd.V_slice HO_166000.out; subst eo45; obtain ⟨Ao46, co46, eo46⟩ := Kd.V_slice HO_166001.out; subst eo46) | ((with_reducible refine gate_callee (f := 57) rfl ?_); refine gl_ 28 Try.func57 #[.agg #[.slice Ao45 x166000_1.length co45, .slice Ao46 x166001_1.length co46, .int .i64 x166002_1], .agg #[.int .i64 ((rd_T78 l0 x13_1).f2), .int .i64 ((rd_T78 l0 x13_1).f1), .int .i64 ((rd_T78 l0 x13_1).f3), .slice A166_4 ((rd_T78 l0 x13_1).f4).length c166_4]] rfl ma_ ?_; (with_reducible refine (spec_l5Ask.calls k1 (fun k_ => ((w.heap.size ≤ k_) ∧ (k_ ≠ gb164 ∧ (k_ ≠ gb165 ∧ k_ ≠ gb167)))) _ _ x166000_1 (fun k_ => ((w.heap.size ≤ k_) ∧ (k_ ≠ gb164 ∧ (k_ ≠ gb165 ∧ k_ ≠ gb167)))) _ _ x166001_1 x166002_1 ((rd_T78 l0 x13_1).f2) ((rd_T78 l0 x13_1).f1) ((rd_T78 l0 x13_1).f3) _ _ ((rd_T78 l0 x13_1).f4) t168 t171 t174 t175 t176 _ ?side1 ?side2 ?side3 ?side4 A9.out).mono ?_); (case side1 => exact HO_166000.out); (case side2 => exact HO_166001.out); (case side3 => exact cs_ ((Kd.C_below HR166_4.out HB.out))); (case side4 => exact HC166_4.out); rintro e w47 ⟨v169, v172, rfl, ho0, ho1, hb⟩; refine ⟨_, rfl, ?_⟩; replace HO_166000 := am_ (Kd.V_below (vF_ HO_166000.out) hb); replace HO_166001 := am_ (Kd.V_below (vF_ HO_166001.out) hb); have HO170 := am_ (Kd.V_lower (Kd.V_mono (ok' := fun k_ => (w.heap.size ≤ k_) ∧ k_ ≠ gb164 ∧ k_ ≠ gb165 ∧ k_ ≠ gb167) ho0 (fun k_ hk_ => ⟨Or.elim hk_ (fun hs_ => Or.elim hs_ (fun hs_ => hs_.1) (fun hs_ => hs_.1)) (fun hn_ => (Nat.le_trans (below_size (hs3_ GE164.out GE165.out GE167.out)) hn_)), Or.elim hk_ (fun hs_ => Or.elim hs_ (fun hs_ => hs_.2.1) (fun hs_ => hs_.2.1)) (fun hn_ => (Kd.freshB (g := gb164) (o := .cells #[.slice none 0 0, .slice none 0 0, .int .i64 x165002_1] 33 (0, 0)) (kb_ BK164.out) k_ hn_)), Or.elim hk_ (fun hs_ => Or.elim hs_ (fun hs_ => hs_.2.2.1) (fun hs_ => hs_.2.2.1)) (fun hn_ => (Kd.freshB (g := gb165) (o := .cells #[.slice Ao45 x166000_1.length co45, .slice Ao46 x166001_1.length co46, .int .i64 x166002_1] 33 (0, 0)) (kb_ BK165.out) k_ hn_)), Or.elim hk_ (fun hs_ => Or.elim hs_ (fun hs_ => hs_.2.2.2) (fun hs_ => hs_.2.2.2)) (fun hn_ => (Kd.freshB (g := gb167) (o := .cells #[.int .i64 ((rd_T78 l0 x13_1).f0), .int .i64 ((rd_T78 l0 x13_1).f1), .int .i64 ((rd_T78 l0 x13_1).f2), .int .i64 ((rd_T78 l0 x13_1).f3), .slice A166_4 ((rd_T78 l0 x13_1).f4).length c166_4] 78 (0, 0)) (kb_ BK167.out) k_ hn_))⟩)) (below_size (hs3_ GE164.out GE165.out GE167.out))); have HO173 := am_ (Kd.V_lower (Kd.V_mono (ok' := fun k_ => (w.heap.size ≤ k_) ∧ k_ ≠ gb164 ∧ k_ ≠ gb165 ∧ k_ ≠ gb167) ho1 (fun k_ hk_ => ⟨Or.elim hk_ (fun hs_ => Or.elim hs_ (fun hs_ => hs_.1) (fun hs_ => hs_.1)) (fun hn_ => (Nat.le_trans (below_size (hs3_ GE164.out GE165.out GE167.out)) hn_)), Or.elim hk_ (fun hs_ => Or.elim hs_ (fun hs_ => hs_.2.1) (fun hs_ => hs_.2.1)) (fun hn_ => (Kd.freshB (g := gb164) (o := .cells #[.slice none 0 0, .slice none 0 0, .int .i64 x165002_1] 33 (0, 0)) (kb_ BK164.out) k_ hn_)), Or.elim hk_ (fun hs_ => Or.elim hs_ (fun hs_ => hs_.2.2.1) (fun hs_ => hs_.2.2.1)) (fun hn_ => (Kd.freshB (g := gb165) (o := .cells #[.slice Ao45 x166000_1.length co45, .slice Ao46 x166001_1.length co46, .int .i64 x166002_1] 33 (0, 0)) (kb_ BK165.out) k_ hn_)), Or.elim hk_ (fun hs_ => Or.elim hs_ (fun hs_ => hs_.2.2.2) (fun hs_ => hs_.2.2.2)) (fun hn_ => (Kd.freshB (g := gb167) (o := .cells #[.int .i64 ((rd_T78 l0 x13_1).f0), .int .i64 ((rd_T78 l0 x13_1).f1), .int .i64 ((rd_T78 l0 x13_1).f2), .int .i64 ((rd_T78 l0 x13_1).f3), .slice A166_4 ((rd_T78 l0 x13_1).f4).length c166_4] 78 (0, 0)) (kb_ BK167.out) k_ hn_))⟩)) (below_size (hs3_ GE164.out GE165.out GE167.out))); replace BK164 := bK_ BK164 hb; replace BK165 := bK_ BK165 hb; replace BK167 := bK_ BK167 hb; replace HB := nc3_ GE164 GE165 GE167 hb; (try clear hb); (try clear hb2); (try clear hk); (try clear hi); (try clear ho0); (try clear ho1)) | ((with_reducible refine gate_dst (N := 7) rfl ?_); refine bq_ (N := 7) #[.slice none 0 0, .slice none 0 0, .int .i64 0] 33 ?_; intro gb177 hg w48 BK177 hb; replace HO_166000 := am_ (Kd.V_below (Kd.V_elderB (vF_ HO_166000.out) gb177 (Nat.le_of_eq hg.symm)) hb); replace HO_166001 := am_ (Kd.V_below (Kd.V_elderB (vF_ HO_166001.out) gb177 (Nat.le_of_eq hg.symm)) hb); replace HO170 := am_ (Kd.V_below (Kd.V_elderB (vF_ HO170.out) gb177 (Nat.le_of_eq hg.symm)) hb); replace HO173 := am_ (Kd.V_below (Kd.V_elderB (vF_ HO173.out) gb177 (Nat.le_of_eq hg.symm)) hb); have GE177 := ge3_ hg GE164 GE165 GE167; replace HB := nc3_ GE164 GE165 GE167 hb; have NB164_177 := nl_ BK164 hg; have NB177_164 := ng_ BK164 hg; replace BK164 := bK_ BK164 hb; have NB165_177 := nl_ BK165 hg; have NB177_165 := ng_ BK165 hg; replace BK165 := bK_ BK165 hb; have NB167_177 := nl_ BK167 hg; have NB177_167 := ng_ BK167 hg; replace BK167 := bK_ BK167 hb; clear hb hg; obtain ⟨Ao49, co49, eo49⟩ := Kd.V_slice HO170.out; subst eo49; have hnb50 := NB177_164.out; have hnc50 := NB164_177.out; have hnb51 := NB177_165.out; have hnc51 := NB165_177.out; have hnb52 := NB177_167.out; have hnc52 := NB167_177.out; obtain ⟨hcz53_0, hcz53_1, hcz53_2, hfz53_0, hfz53_1, hfz53_2⟩ := cf3_ BK177.out; obtain ⟨Ao54, co54, eo54⟩ := Kd.V_slice HO173.out; subst eo54; obtain ⟨hcz55_0, hcz55_1, hcz55_2, hcz55_3, hcz55_4, hfz55_0, hfz55_1, hfz55_2, hfz55_3, hfz55_4⟩ := cf5_ BK167.out) | ((with_reducible refine gate_callee (f := 55) rfl ?_); refine gl_ 33 Try.func55 #[.agg #[.int .i64 ((rd_T78 l0 x13_1).f0), .int .i64 ((rd_T78 l0 x13_1).f1), .int .i64 ((rd_T78 l0 x13_1).f2), .int .i64 ((rd_T78 l0 x13_1).f3), .slice A166_4 ((rd_T78 l0 x13_1).f4).length c166_4]] rfl ma_ ?_; (with_reducible refine (spec_GoodBatch.calls k1 ((rd_T78 l0 x13_1).f0) ((rd_T78 l0 x13_1).f1) ((rd_T78 l0 x13_1).f2) ((rd_T78 l0 x13_1).f3) _ _ ((rd_T78 l0 x13_1).f4) true _ ?side1 ?side2 A10.out).mono ?_); (case side1 => exact Kd.C_below HR166_4.out (hs4_ GE164.out GE165.out GE167.out GE177.out)); (case side2 => exact HC166_4.out); rintro e w56 ⟨rfl, hb⟩; refine ⟨_, rfl, ?_⟩; replace HO_166000 := am_ (Kd.V_below ((Kd.V_mono (vF_ (Kd.V_mono HO_166000.out (fun k_ hk => (⟨hk, hk.2⟩ : _ ∧ k_ ≠ gb177)))) (fun _ h_ => h_.1))) hb); replace HO_166001 := am_ (Kd.V_below ((Kd.V_mono (vF_ (Kd.V_mono HO_166001.out (fun k_ hk => (⟨hk, hk.2⟩ : _ ∧ k_ ≠ gb177)))) (fun _ h_ => h_.1))) hb); replace HO170 := am_ (Kd.V_below ((Kd.V_mono (vF_ (Kd.V_mono HO170.out (fun k_ hk => (⟨hk, hk.2⟩ : _ ∧ k_ ≠ gb177)))) (fun _ h_ => h_.1))) hb); replace HO173 := am_ (Kd.V_below ((Kd.V_mono (vF_ (Kd.V_mono HO173.out (fun k_ hk => (⟨hk, hk.2⟩ : _ ∧ k_ ≠ gb177)))) (fun _ h_ => h_.1))) hb); replace BK164 := am_ (blk_below (g := gb164) (o := .cells #[.slice none 0 0, .slice none 0 0, .int .i64 x165002_1] 33 (0, 0)) (uf_ BK164 NB164_177.out) hb); replace BK165 := am_ (blk_below (g := gb165) (o := .cells #[.slice Ao45 x166000_1.length co45, .slice Ao46 x166001_1.length co46, .int .i64 x166002_1] 33 (0, 0)) (uf_ BK165 NB165_177.out) hb); replace BK167 := am_ (blk_below (g := gb167) (o := .cells #[.int .i64 ((rd_T78 l0 x13_1).f0), .int .i64 ((rd_T78 l0 x13_1).f1), .int .i64 ((rd_T78 l0 x13_1).f2), .int .i64 ((rd_T78 l0 x13_1).f3), .slice A166_4 ((rd_T78 l0 x13_1).f4).length c166_4] 78 (0, 0)) (uf_ BK167 NB167_177.out) hb); replace BK177 := am_ (blk_below (g := gb177) (o := .cells #[.slice Ao49 t168.length co49, .slice Ao54 t171.length co54, .int .i64 t174] 33 (0, 0)) (up_ BK177) hb); replace HB := nc4_ GE164 GE165 GE167 GE177 hb; (try clear hb); (try clear hb2); (try clear hk); (try clear hi); obtain ⟨hcz57_0, hcz57_1, hcz57_2, hcz57_3, hcz57_4, hfz57_0, hfz57_1, hfz57_2, hfz57_3, hfz57_4⟩ := cf5_ BK167.out; obtain ⟨hcz58_0, hcz58_1, hcz58_2, hfz58_0, hfz58_1, hfz58_2⟩ := cf3_ BK165.out; obtain ⟨hcz59_0, hcz59_1, hcz59_2, hfz59_0, hfz59_1, hfz59_2⟩ := cf3_ BK164.out))
    refine bodyPost_ret (results_ct rfl _ _ gb164 33 #[.slice none 0 0, .slice none 0 0, .int .i64 0] (0, 0) _ rfl (up_ BK164) Try.underlying33 rfl (by kernel_rfl)) rfl ?_
    exact ⟨_, _, er_, Kd.V_nil _ _ _ _ _, Kd.V_nil _ _ _ _ _, hs4_ GE164.out GE165.out GE167.out GE177.out⟩
   have c13b0 : (((rd_T78 l0 x13_1).f0) == x166002_1) = true := beq_iff_eq.mpr c13
   have c13b1 : (((rd_T78 l0 x13_1).f0) != x166002_1) = false := bne_eq_false_iff_eq.mpr c13
   clear c13
   have H' := am_ H
   clear H
   have p166 : 0 ≤ (x13_1 : Int) := oa_
   have q166 : x13_1 < (l0.length : Int) := oa_
   obtain ⟨ad166, A166_4, c166_4, e166, hx166_0, hx166_1, hx166_2, hx166_3, hx166_4, hl166_4, hi166_4⟩ := at_T78 HR0.out x13_1 p166 q166
   cases e166
   replace hx166_0 := pc_ HB.out hx166_0
   replace hx166_1 := pc_ HB.out hx166_1
   replace hx166_2 := pc_ HB.out hx166_2
   replace hx166_3 := pc_ HB.out hx166_3
   replace hx166_4 := pc_ HB.out hx166_4
   have HR166_4 := am_ hi166_4
   have HC166_4 := am_ hl166_4
   clear hi166_4 hl166_4
   replace p166 := eq_true p166
   replace q166 := eq_true q166
   go_wp2_with (first | ((with_reducible refine gate_dst (N := 6) rfl ?_); refine bq_ (N := 6) #[.int .i64 0, .int .i64 0, .int .i64 0, .int .i64 0, .slice none 0 0] 78 ?_; intro gb167 hg w14 BK167 hb; replace HO_166000 := am_ (Kd.V_below (Kd.V_elderB (vF_ HO_166000.out) gb167 (Nat.le_of_eq hg.symm)) hb); replace HO_166001 := am_ (Kd.V_below (Kd.V_elderB (vF_ HO_166001.out) gb167 (Nat.le_of_eq hg.symm)) hb); have GE167 := ge2_ hg GE164 GE165; replace HB := nc2_ GE164 GE165 hb; have NB164_167 := nl_ BK164 hg; have NB167_164 := ng_ BK164 hg; replace BK164 := bK_ BK164 hb; have NB165_167 := nl_ BK165 hg; have NB167_165 := ng_ BK165 hg; replace BK165 := bK_ BK165 hb; clear hb hg; have hnb15 := NB167_164.out; have hnc15 := NB164_167.out; have hnb16 := NB167_165.out; have hnc16 := NB165_167.out; obtain ⟨hcz17_0, hcz17_1, hcz17_2, hcz17_3, hcz17_4, hfz17_0, hfz17_1, hfz17_2, hfz17_3, hfz17_4⟩ := cf5_ BK167.out) | ((with_reducible refine gate_store (t := 78) (p := 6) rfl ?_); refine store_event (t := 78) (p := 6) (v := ?vo_w18) (w1 := (((((w14.setCell ⟨gb167, 0, none⟩ (.int .i64 ((rd_T78 l0 x13_1).f0))).setCell ⟨gb167, 1, none⟩ (.int .i64 ((rd_T78 l0 x13_1).f1))).setCell ⟨gb167, 2, none⟩ (.int .i64 ((rd_T78 l0 x13_1).f2))).setCell ⟨gb167, 3, none⟩ (.int .i64 ((rd_T78 l0 x13_1).f3))).setCell ⟨gb167, 4, none⟩ (.slice A166_4 ((rd_T78 l0 x13_1).f4).length c166_4))) ?hg ?ho ?hn ?hr ?_; (case ho => rfl); (case hg => rfl); (case hn => rfl); (case hr => first | (go_simp; done) | (go_simp; rfl)); intro w18 hw; have n0_ : Aside0 (Kd.V k81 81 w18 w.heap.size (fun k_ => (w.heap.size ≤ k_) ∧ k_ ≠ gb164 ∧ k_ ≠ gb165 ∧ k_ ≠ gb167) u166000 x166000_1) := ⟨(by rw [hw]; exact (Kd.V_mono (vF_ (Kd.V_mono HO_166000.out (fun k_ hk => (⟨hk, hk.2⟩ : _ ∧ k_ ≠ gb167)))) (fun _ hk => ⟨hk.1.1.1, ⟨hk.1.1.2.1, ⟨hk.1.1.2.2, hk.1.2⟩⟩⟩)))⟩; have n1_ : Aside0 (Kd.V k78 78 w18 w.heap.size (fun k_ => (w.heap.size ≤ k_) ∧ k_ ≠ gb164 ∧ k_ ≠ gb165 ∧ k_ ≠ gb167) u166001 x166001_1) := ⟨(by rw [hw]; exact (Kd.V_mono (vF_ (Kd.V_mono HO_166001.out (fun k_ hk => (⟨hk, hk.2⟩ : _ ∧ k_ ≠ gb167)))) (fun _ hk => ⟨hk.1.1.1, ⟨hk.1.1.2.1, ⟨hk.1.1.2.2, hk.1.2⟩⟩⟩)))⟩; have n2_ : Aside0 (w18.heap[gb164]? = some (.cells #[.slice none 0 0, .slice none 0 0, .int .i64 x165002_1] 33 (0, 0))) := ⟨(by rw [hw]; exact (uf_ BK164 NB164_167.out))⟩; have n3_ : Aside0 (w18.heap[gb165]? = some (.cells #[u166000, u166001, .int .i64 x166002_1] 33 (0, 0))) := ⟨(by rw [hw]; exact (uf_ BK165 NB165_167.out))⟩; have n4_ : Aside0 (w18.heap[gb167]? = some (.cells #[.int .i64 ((rd_T78 l0 x13_1).f0), .int .i64 ((rd_T78 l0 x13_1).f1), .int .i64 ((rd_T78 l0 x13_1).f2), .int .i64 ((rd_T78 l0 x13_1).f3), .slice A166_4 ((rd_T78 l0 x13_1).f4).length c166_4] 78 (0, 0))) := ⟨(by rw [hw]; exact (up_ BK167))⟩; have n5_ : Aside0 (Below w.heap.size w w18) := ⟨(by rw [hw]; exact (hs3_ GE164.out GE165.out GE167.out))⟩; clear hw; clear HO_166000; clear HO_166001; clear BK164; clear BK165; clear BK167; clear HB; have HO_166000 := n0_; have HO_166001 := n1_; have BK164 := n2_; have BK165 := n3_; have BK167 := n4_; have HB := n5_; clear n0_ n1_ n2_ n3_ n4_ n5_; have hnb19 := NB165_164.out; have hnc19 := NB164_165.out; obtain ⟨hcz20_0, hcz20_1, hcz20_2, hfz20_0, hfz20_1, hfz20_2⟩ := cf3_ BK165.out; obtain ⟨hcz21_0, hcz21_1, hcz21_2, hcz21_3, hcz21_4, hfz21_0, hfz21_1, hfz21_2, hfz21_3, hfz21_4⟩ := cf5_ BK167.out; obtain ⟨Ao22, co22, eo22⟩ := Kd.V_slice HO_166000.out; subst eo22; obtain ⟨Ao23, co23, eo23⟩ := Kd.V_slice HO_166001.out; subst eo23) | ((with_reducible refine gate_callee (f := 57) rfl ?_); refine gl_ 28 Try.func57 #[.agg #[.slice Ao22 x166000_1.length co22, .slice Ao23 x166001_1.length co23, .int .i64 x166002_1], .agg #[.int .i64 ((rd_T78 l0 x13_1).f2), .int .i64 ((rd_T78 l0 x13_1).f1), .int .i64 ((rd_T78 l0 x13_1).f3), .slice A166_4 ((rd_T78 l0 x13_1).f4).length c166_4]] rfl ma_ ?_; (with_reducible refine (spec_l5Ask.calls k1 (fun k_ => ((w.heap.size ≤ k_) ∧ (k_ ≠ gb164 ∧ (k_ ≠ gb165 ∧ k_ ≠ gb167)))) _ _ x166000_1 (fun k_ => ((w.heap.size ≤ k_) ∧ (k_ ≠ gb164 ∧ (k_ ≠ gb165 ∧ k_ ≠ gb167)))) _ _ x166001_1 x166002_1 ((rd_T78 l0 x13_1).f2) ((rd_T78 l0 x13_1).f1) ((rd_T78 l0 x13_1).f3) _ _ ((rd_T78 l0 x13_1).f4) t168 t171 t174 t175 t176 _ ?side1 ?side2 ?side3 ?side4 A9.out).mono ?_); (case side1 => exact HO_166000.out); (case side2 => exact HO_166001.out); (case side3 => exact cs_ ((Kd.C_below HR166_4.out HB.out))); (case side4 => exact HC166_4.out); rintro e w24 ⟨v169, v172, rfl, ho0, ho1, hb⟩; refine ⟨_, rfl, ?_⟩; replace HO_166000 := am_ (Kd.V_below (vF_ HO_166000.out) hb); replace HO_166001 := am_ (Kd.V_below (vF_ HO_166001.out) hb); have HO170 := am_ (Kd.V_lower (Kd.V_mono (ok' := fun k_ => (w.heap.size ≤ k_) ∧ k_ ≠ gb164 ∧ k_ ≠ gb165 ∧ k_ ≠ gb167) ho0 (fun k_ hk_ => ⟨Or.elim hk_ (fun hs_ => Or.elim hs_ (fun hs_ => hs_.1) (fun hs_ => hs_.1)) (fun hn_ => (Nat.le_trans (below_size (hs3_ GE164.out GE165.out GE167.out)) hn_)), Or.elim hk_ (fun hs_ => Or.elim hs_ (fun hs_ => hs_.2.1) (fun hs_ => hs_.2.1)) (fun hn_ => (Kd.freshB (g := gb164) (o := .cells #[.slice none 0 0, .slice none 0 0, .int .i64 x165002_1] 33 (0, 0)) (kb_ BK164.out) k_ hn_)), Or.elim hk_ (fun hs_ => Or.elim hs_ (fun hs_ => hs_.2.2.1) (fun hs_ => hs_.2.2.1)) (fun hn_ => (Kd.freshB (g := gb165) (o := .cells #[.slice Ao22 x166000_1.length co22, .slice Ao23 x166001_1.length co23, .int .i64 x166002_1] 33 (0, 0)) (kb_ BK165.out) k_ hn_)), Or.elim hk_ (fun hs_ => Or.elim hs_ (fun hs_ => hs_.2.2.2) (fun hs_ => hs_.2.2.2)) (fun hn_ => (Kd.freshB (g := gb167) (o := .cells #[.int .i64 ((rd_T78 l0 x13_1).f0), .int .i64 ((rd_T78 l0 x13_1).f1), .int .i64 ((rd_T78 l0 x13_1).f2), .int .i64 ((rd_T78 l0 x13_1).f3), .slice A166_4 ((rd_T78 l0 x13_1).f4).length c166_4] 78 (0, 0)) (kb_ BK167.out) k_ hn_))⟩)) (below_size (hs3_ GE164.out GE165.out GE167.out))); have HO173 := am_ (Kd.V_lower (Kd.V_mono (ok' := fun k_ => (w.heap.size ≤ k_) ∧ k_ ≠ gb164 ∧ k_ ≠ gb165 ∧ k_ ≠ gb167) ho1 (fun k_ hk_ => ⟨Or.elim hk_ (fun hs_ => Or.elim hs_ (fun hs_ => hs_.1) (fun hs_ => hs_.1)) (fun hn_ => (Nat.le_trans (below_size (hs3_ GE164.out GE165.out GE167.out)) hn_)), Or.elim hk_ (fun hs_ => Or.elim hs_ (fun hs_ => hs_.2.1) (fun hs_ => hs_.2.1)) (fun hn_ => (Kd.freshB (g := gb164) (o := .cells #[.slice none 0 0, .slice none 0 0, .int .i64 x165002_1] 33 (0, 0)) (kb_ BK164.out) k_ hn_)), Or.elim hk_ (fun hs_ => Or.elim hs_ (fun hs_ => hs_.2.2.1) (fun hs_ => hs_.2.2.1)) (fun hn_ => (Kd.freshB (g := gb165) (o := .cells #[.slice Ao22 x166000_1.length co22, .slice Ao23 x166001_1.length co23, .int .i64 x166002_1] 33 (0, 0)) (kb_ BK165.out) k_ hn_)), Or.elim hk_ (fun hs_ => Or.elim hs_ (fun hs_ => hs_.2.2.2) (fun hs_ => hs_.2.2.2)) (fun hn_ => (Kd.freshB (g := gb167) (o := .cells #[.int .i64 ((rd_T78 l0 x13_1).f0), .int .i64 ((rd_T78 l0 x13_1).f1), .int .i64 ((rd_T78 l0 x13_1).f2), .int .i64 ((rd_T78 l0 x13_1).f3), .slice A166_4 ((rd_T78 l0 x13_1).f4).length c166_4] 78 (0, 0)) (kb_ BK167.out) k_ hn_))⟩)) (below_size (hs3_ GE164.out GE165.out GE167.out))); replace BK164 := bK_ BK164 hb; replace BK165 := bK_ BK165 hb; replace BK167 := bK_ BK167 hb; replace HB := nc3_ GE164 GE165 GE167 hb; (try clear hb); (try clear hb2); (try clear hk); (try clear hi); (try clear ho0); (try clear ho1)) | ((with_reducible refine gate_dst (N := 7) rfl ?_); refine bq_ (N := 7) #[.slice none 0 0, .slice none 0 0, .int .i64 0] 33 ?_; intro gb177 hg w25 BK177 hb; replace HO_166000 := am_ (Kd.V_below (Kd.V_elderB (vF_ HO_166000.out) gb177 (Nat.le_of_eq hg.symm)) hb); replace HO_166001 := am_ (Kd.V_below (Kd.V_elderB (vF_ HO_166001.out) gb177 (Nat.le_of_eq hg.symm)) hb); replace HO170 := am_ (Kd.V_below (Kd.V_elderB (vF_ HO170.out) gb177 (Nat.le_of_eq hg.symm)) hb); replace HO173 := am_ (Kd.V_below (Kd.V_elderB (vF_ HO173.out) gb177 (Nat.le_of_eq hg.symm)) hb); have GE177 := ge3_ hg GE164 GE165 GE167; replace HB := nc3_ GE164 GE165 GE167 hb; have NB164_177 := nl_ BK164 hg; have NB177_164 := ng_ BK164 hg; replace BK164 := bK_ BK164 hb; have NB165_177 := nl_ BK165 hg; have NB177_165 := ng_ BK165 hg; replace BK165 := bK_ BK165 hb; have NB167_177 := nl_ BK167 hg; have NB177_167 := ng_ BK167 hg; replace BK167 := bK_ BK167 hb; clear hb hg; obtain ⟨Ao26, co26, eo26⟩ := Kd.V_slice HO170.out; subst eo26; have hnb27 := NB177_164.out; have hnc27 := NB164_177.out; have hnb28 := NB177_165.out; have hnc28 := NB165_177.out; have hnb29 := NB177_167.out; have hnc29 := NB167_177.out; obtain ⟨hcz30_0, hcz30_1, hcz30_2, hfz30_0, hfz30_1, hfz30_2⟩ := cf3_ BK177.out; obtain ⟨Ao31, co31, eo31⟩ := Kd.V_slice HO173.out; subst eo31; obtain ⟨hcz32_0, hcz32_1, hcz32_2, hcz32_3, hcz32_4, hfz32_0, hfz32_1, hfz32_2, hfz32_3, hfz32_4⟩ := cf5_ BK167.out) | ((with_reducible refine gate_callee (f := 55) rfl ?_); refine gl_ 33 Try.func55 #[.agg #[.int .i64 ((rd_T78 l0 x13_1).f0), .int .i64 ((rd_T78 l0 x13_1).f1), .int .i64 ((rd_T78 l0 x13_1).f2), .int .i64 ((rd_T78 l0 x13_1).f3), .slice A166_4 ((rd_T78 l0 x13_1).f4).length c166_4]] rfl ma_ ?_; (with_reducible refine (spec_GoodBatch.calls k1 ((rd_T78 l0 x13_1).f0) ((rd_T78 l0 x13_1).f1) ((rd_T78 l0 x13_1).f2) ((rd_T78 l0 x13_1).f3) _ _ ((rd_T78 l0 x13_1).f4) true _ ?side1 ?side2 A10.out).mono ?_); (case side1 => exact Kd.C_below HR166_4.out (hs4_ GE164.out GE165.out GE167.out GE177.out)); (case side2 => exact HC166_4.out); rintro e w33 ⟨rfl, hb⟩; refine ⟨_, rfl, ?_⟩; replace HO_166000 := am_ (Kd.V_below ((Kd.V_mono (vF_ (Kd.V_mono HO_166000.out (fun k_ hk => (⟨hk, hk.2⟩ : _ ∧ k_ ≠ gb177)))) (fun _ h_ => h_.1))) hb); replace HO_166001 := am_ (Kd.V_below ((Kd.V_mono (vF_ (Kd.V_mono HO_166001.out (fun k_ hk => (⟨hk, hk.2⟩ : _ ∧ k_ ≠ gb177)))) (fun _ h_ => h_.1))) hb); replace HO170 := am_ (Kd.V_below ((Kd.V_mono (vF_ (Kd.V_mono HO170.out (fun k_ hk => (⟨hk, hk.2⟩ : _ ∧ k_ ≠ gb177)))) (fun _ h_ => h_.1))) hb); replace HO173 := am_ (Kd.V_below ((Kd.V_mono (vF_ (Kd.V_mono HO173.out (fun k_ hk => (⟨hk, hk.2⟩ : _ ∧ k_ ≠ gb177)))) (fun _ h_ => h_.1))) hb); replace BK164 := am_ (blk_below (g := gb164) (o := .cells #[.slice none 0 0, .slice none 0 0, .int .i64 x165002_1] 33 (0, 0)) (uf_ BK164 NB164_177.out) hb); replace BK165 := am_ (blk_below (g := gb165) (o := .cells #[.slice Ao22 x166000_1.length co22, .slice Ao23 x166001_1.length co23, .int .i64 x166002_1] 33 (0, 0)) (uf_ BK165 NB165_177.out) hb); replace BK167 := am_ (blk_below (g := gb167) (o := .cells #[.int .i64 ((rd_T78 l0 x13_1).f0), .int .i64 ((rd_T78 l0 x13_1).f1), .int .i64 ((rd_T78 l0 x13_1).f2), .int .i64 ((rd_T78 l0 x13_1).f3), .slice A166_4 ((rd_T78 l0 x13_1).f4).length c166_4] 78 (0, 0)) (uf_ BK167 NB167_177.out) hb); replace BK177 := am_ (blk_below (g := gb177) (o := .cells #[.slice Ao26 t168.length co26, .slice Ao31 t171.length co31, .int .i64 t174] 33 (0, 0)) (up_ BK177) hb); replace HB := nc4_ GE164 GE165 GE167 GE177 hb; (try clear hb); (try clear hb2); (try clear hk); (try clear hi); obtain ⟨hcz34_0, hcz34_1, hcz34_2, hcz34_3, hcz34_4, hfz34_0, hfz34_1, hfz34_2, hfz34_3, hfz34_4⟩ := cf5_ BK167.out; obtain ⟨hcz35_0, hcz35_1, hcz35_2, hfz35_0, hfz35_1, hfz35_2⟩ := cf3_ BK165.out; obtain ⟨hcz36_0, hcz36_1, hcz36_2, hfz36_0, hfz36_1, hfz36_2⟩ := cf3_ BK177.out))
   go_roundg k1
   case measure => have := HK1.out; omega
   case rel => exact ⟨(wrap64 (x13_1 + 1)), (x165002_1), (t168), (t171), (t174), (.slice Ao26 t168.length co26), (.slice Ao31 t171.length co31), sr_, H', ⟨by have := HK1.out; omega⟩, ⟨Kd.V_mono (vF_ (Kd.V_mono HO170.out (fun k_ hk => (⟨hk, hk.1.2.2.1⟩ : _ ∧ k_ ≠ gb165)))) (fun _ hk => ⟨hk.1.1.1, ⟨hk.1.1.2.1, hk.1.1.2.2.1⟩⟩)⟩, ⟨Kd.V_mono (vF_ (Kd.V_mono HO173.out (fun k_ hk => (⟨hk, hk.1.2.2.1⟩ : _ ∧ k_ ≠ gb165)))) (fun _ hk => ⟨hk.1.1.1, ⟨hk.1.1.2.1, hk.1.1.2.2.1⟩⟩)⟩, ⟨uf_ BK164 NB164_165.out⟩, ⟨up_ BK165⟩, ⟨hs4_ GE164.out GE165.out GE167.out GE177.out⟩⟩

/-! ### spec_l5First: function 68 -/
def spec_l5First.f  : Option (Int × Int × Int × Int × List ByteArray) := some (0, 0, 0, 0, (([(⟨#[]⟩ : ByteArray)] : List ByteArray)))
set_option maxHeartbeats 8000000 in
set_option maxRecDepth 100000 in
theorem spec_l5First.calls  (r1 : Int) (r2 : Int) (r3 : Int) (r4 : Int) (r5 : List ByteArray) (w : World) (h : spec_l5First.f  = some (r1, r2, r3, r4, r5)) :
  Calls Try.prog 68 #[] w fun e w' => ∃ v4_ : Value, e = .returned (.agg #[.int .i64 r1, .int .i64 r2, .int .i64 r3, .int .i64 r4, v4_]) ∧ Kd.R Kd.string 9 w' w.heap.size (fun _ => True) v4_ r5 ∧ Below w.heap.size w w' := by
 have hu78 := Try.underlying78
 have HB := am_ (Below.refl w.heap.size w)
 have H : (some (0, 0, 0, 0, (([(⟨#[]⟩ : ByteArray)] : List ByteArray)))) = some (r1, r2, r3, r4, r5) := h
 clear h
 obtain ⟨y180, hy180⟩ : ∃ y_ : List ByteArray, y_ = (([(⟨#[]⟩ : ByteArray)] : List ByteArray)) := ⟨_, rfl⟩
 replace H : (some (0, 0, 0, 0, y180)) = some (r1, r2, r3, r4, r5) := by first | (rw [hy180]; with_reducible exact H) | (have H2_ := (Option.bind_some _ _).symm.trans H; rw [hy180]; with_reducible exact H2_) | (have H2_ := (Option.bind_some _ _).symm.trans H; with_reducible exact H2_) | with_reducible exact H | (rw [hy180]; exact H) | exact H
 have Ny180 := am_ hy180
 clear hy180
 simp only [Option.some.injEq, Prod.mk.injEq] at H
 obtain ⟨rfl, rfl, rfl, rfl, rfl⟩ := H
 go_enter Try.func68, Try.ntmps68
 go_wp2_with (first | ((with_reducible refine gate_dst (N := 0) rfl ?_); refine bq_ (N := 0) #[.int .i64 0, .int .i64 0, .int .i64 0, .int .i64 0, .slice none 0 0] 78 ?_; intro gb179 hg w1 BK179 hb; have GE179 := ge_ hg; replace HB := nb_ hb; clear hb hg) | ((with_reducible refine gate_dst (N := 1) rfl ?_); refine Kd.R_lit Kd.string _ 9 ?hg (N := 1) ?hd (xs := ([(⟨#[]⟩ : ByteArray)] : List ByteArray)) (inner := [.string (⟨#[]⟩ : ByteArray)]) (ok := fun _ => True) (okp := fun _ => True) ?hr ?hp (fun _ hk => hk) trivial (Below.refl _ _) (Nat.le_refl _) (by simp) ?_; (case hd => rfl); (case hg => rfl); (case hr => first | (go_simp; done) | (go_simp; rfl)); (case hp => exact (Reps.one (show Kd.M Kd.string _ _ _ (⟨#[]⟩ : ByteArray) [.string (⟨#[]⟩ : ByteArray)] from rfl) (Reps.none _ _))); intro v181 w2 ho3 hb hg_ hnew_; clear hg_ hnew_; (first | rw [← Ny180.out] at ho3 | (simp only [Int.reduceToNat] at ho3; rw [← Ny180.out] at ho3)); have HO182 := am_ (Kd.R_lower ho3 (below_size (hs_ GE179.out))); replace BK179 := bK_ BK179 hb; replace HB := nc_ GE179 hb; clear hb ho3; obtain ⟨Ao4, co4, eo4⟩ := Kd.R_slice HO182.out; subst eo4; obtain ⟨hcz5_0, hcz5_1, hcz5_2, hcz5_3, hcz5_4, hfz5_0, hfz5_1, hfz5_2, hfz5_3, hfz5_4⟩ := cf5_ BK179.out))
 refine bodyPost_ret (results_cell_row rfl _ _ gb179 78 #[.int .i64 0, .int .i64 0, .int .i64 0, .int .i64 0, .slice Ao4 y180.length co4] (0, 0) _ rfl (up_ BK179) Try.underlying78 rfl (by kernel_rfl)) rfl ?_
 exact ⟨_, er_, Kd.R_mono (rF_ (Kd.R_types HO182.out BK179.out (by decide))) (fun _ hk => trivial), hs_ GE179.out⟩

/-! ### spec_NewPart: function 35 -/
def spec_NewPart.f (k : Nat)  : Option ((List (S81)) × (List (S78)) × Int) := (spec_l5First.f).bind fun bt184 => ((spec_l5Rebuild.f k (([(⟨bt184.1, bt184.2.1, bt184.2.2.1, bt184.2.2.2.1, bt184.2.2.2.2⟩ : S78)] : List (S78)))).bind fun bt194 => (some (bt194.1, bt194.2.1, bt194.2.2.1)))
theorem spec_NewPart.mono : ∀ k, LeO (spec_NewPart.f k ) (spec_NewPart.f (k + 1) ) := by
 intro  k
 unfold spec_NewPart.f
 repeat' first
   | (with_reducible first | apply spec_l5Rebuild.mono | exact LeO.refl _ | exact LeO.none _ | refine LeO.ite ?_ ?_ | refine LeO.bind ?_ (fun _ => ?_))
set_option maxHeartbeats 8000000 in
set_option maxRecDepth 100000 in
theorem spec_NewPart.calls (k : Nat)  (r1 : List (S81)) (r2 : List (S78)) (r3 : Int) (w : World) (h : spec_NewPart.f k  = some (r1, r2, r3)) :
  Calls Try.prog 35 #[] w fun e w' => ∃ v0_ v1_ : Value, e = .returned (.agg #[v0_, v1_, .int .i64 r3]) ∧ Kd.V k81 81 w' w.heap.size (fun k_ => (w.heap.size ≤ k_)) v0_ r1 ∧ Kd.V k78 78 w' w.heap.size (fun k_ => (w.heap.size ≤ k_)) v1_ r2 ∧ Below w.heap.size w w' := by
 have hu33 := Try.underlying33
 have HB := am_ (Below.refl w.heap.size w)
 have H : ((spec_l5First.f).bind fun bt184 => ((spec_l5Rebuild.f k (([(⟨bt184.1, bt184.2.1, bt184.2.2.1, bt184.2.2.2.1, bt184.2.2.2.2⟩ : S78)] : List (S78)))).bind fun bt194 => (some (bt194.1, bt194.2.1, bt194.2.2.1)))) = some (r1, r2, r3) := h
 clear h
 replace H := bnd_ H
 obtain ⟨⟨t184, t185, t186, t187, t188⟩, A1, H⟩ := H
 replace H := red_ H
 obtain ⟨y191, hy191⟩ : ∃ y_ : List (S78), y_ = (([(⟨t184, t185, t186, t187, t188⟩ : S78)] : List (S78))) := ⟨_, rfl⟩
 replace H : ((spec_l5Rebuild.f k y191).bind fun bt194 => (some (bt194.1, bt194.2.1, bt194.2.2.1))) = some (r1, r2, r3) := by first | (rw [hy191]; with_reducible exact H) | (have H2_ := (Option.bind_some _ _).symm.trans H; rw [hy191]; with_reducible exact H2_) | (have H2_ := (Option.bind_some _ _).symm.trans H; with_reducible exact H2_) | with_reducible exact H | (rw [hy191]; exact H) | exact H
 have Ny191 := am_ hy191
 clear hy191
 replace H := bnd_ H
 obtain ⟨⟨t194, t197, t200, t201⟩, A2, H⟩ := H
 replace H := red_ H
 simp only [Option.some.injEq, Prod.mk.injEq] at H
 obtain ⟨rfl, rfl, rfl⟩ := H
 go_enter Try.func35, Try.ntmps35
 go_wp2_with (first | ((with_reducible refine gate_dst (N := 0) rfl ?_); refine bq_ (N := 0) #[.slice none 0 0, .slice none 0 0, .int .i64 0] 33 ?_; intro gb183 hg w3 BK183 hb; have GE183 := ge_ hg; replace HB := nb_ hb; clear hb hg) | ((with_reducible refine gate_callee (f := 68) rfl ?_); refine gl_ 4 Try.func68 #[] rfl ma_ ?_; (with_reducible refine (spec_l5First.calls  t184 t185 t186 t187 t188 _ A1.out).mono ?_); rintro e w4 ⟨v189, rfl, ho0, hb⟩; refine ⟨_, rfl, ?_⟩; have HO190 := am_ (Kd.R_lower (Kd.R_newM (M := fun k_ => (w.heap.size ≤ k_)) ho0 (below_size (hs_ GE183.out)) (fun k_ h_ => h_)) (below_size (hs_ GE183.out))); replace BK183 := bK_ BK183 hb; replace HB := nc_ GE183 hb; (try clear hb); (try clear hb2); (try clear hk); (try clear hi); (try clear ho0); obtain ⟨Ao5, co5, eo5⟩ := Kd.R_slice HO190.out; subst eo5) | ((with_reducible refine gate_dst (N := 5) rfl ?_); refine Kd.N_lit k78 _ 78 ?hg (N' := 5) ?hd (xs := ([(⟨t184, t185, t186, t187, t188⟩ : S78)] : List (S78))) (inner := [.int .i64 t184, .int .i64 t185, .int .i64 t186, .int .i64 t187, .slice Ao5 t188.length co5]) (ok := (fun k_ => (w.heap.size ≤ k_) ∧ k_ ≠ gb183)) (okp := (fun k_ => (w.heap.size ≤ k_) ∧ k_ ≠ gb183)) ?hr ?hp (fun _ hk => hk) ((show ∀ k_, w4.heap.size ≤ k_ → (fun k_ => (w.heap.size ≤ k_) ∧ k_ ≠ gb183) k_ from fun k_ hk => ⟨(Nat.le_trans (below_size (hs_ GE183.out)) hk), Kd.freshB (g := gb183) (o := .cells #[.slice none 0 0, .slice none 0 0, .int .i64 0] 33 (0, 0)) (kb_ BK183.out) k_ hk⟩) _ (Nat.le_refl _)) (Below.refl _ _) (Nat.le_refl _) (by simp) ?_; (case hd => rfl); (case hg => rfl); (case hr => first | (go_simp; done) | (go_simp; rfl)); (case hp => exact (Reps.c5 (show Kd.FK k78 _ _ (⟨t184, t185, t186, t187, t188⟩ : S78) [.int .i64 t184, .int .i64 t185, .int .i64 t186, .int .i64 t187, .slice Ao5 t188.length co5] from (k78_mkF _ _ (⟨t184, t185, t186, t187, t188⟩ : S78) (Kd.R_reads' (Kd.R_mono (ok' := (fun k_ => (w.heap.size ≤ k_) ∧ k_ ≠ gb183)) (Kd.R_types (HO190.out) BK183.out (by decide)) (fun k_ hk => ⟨hk.1.1, hk.2⟩))).2.1 (Kd.R_F (Kd.R_mono (ok' := (fun k_ => (w.heap.size ≤ k_) ∧ k_ ≠ gb183)) (Kd.R_types (HO190.out) BK183.out (by decide)) (fun k_ hk => ⟨hk.1.1, hk.2⟩))))) (Reps.none _ _))); intro v192 w6 ho7 hb hg_ hnew_; clear hg_ hnew_; (first | rw [← Ny191.out] at ho7 | (simp only [Int.reduceToNat] at ho7; rw [← Ny191.out] at ho7)); have HO193 := am_ (Kd.N_lower ho7 (below_size (hs_ GE183.out))); replace BK183 := bK_ BK183 hb; replace HB := nc_ GE183 hb; clear HO190; clear hb ho7; obtain ⟨Ao8, co8, eo8⟩ := Kd.N_slice HO193.out; subst eo8) | ((with_reducible refine gate_callee (f := 67) rfl ?_); refine gl_ 6 Try.func67 #[.slice Ao8 y191.length co8] rfl ma_ ?_; (with_reducible refine (spec_l5Rebuild.calls k _ _ y191 t194 t197 t200 t201 _ ?side1 ?side2 A2.out).mono ?_); (case side1 => exact cs_ ((Kd.N_reads' HO193.out).2.2)); (case side2 => exact (Kd.N_reads' HO193.out).2.1); rintro e w9 ⟨v195, v198, rfl, ho0, ho1, hb⟩; refine ⟨_, rfl, ?_⟩; have HO196 := am_ (Kd.V_lower (Kd.V_mono (ok' := fun k_ => (w.heap.size ≤ k_) ∧ some k_ ≠ (.slice Ao8 y191.length co8 : Value).ownBlock ∧ k_ ≠ gb183) ho0 (fun k_ hk_ => ⟨(Nat.le_trans (below_size (hs_ GE183.out)) hk_), (Kd.fresh' (Kd.N_lt (nF_ HO193.out)) k_ hk_), (Kd.freshB (g := gb183) (o := .cells #[.slice none 0 0, .slice none 0 0, .int .i64 0] 33 (0, 0)) (kb_ BK183.out) k_ hk_)⟩)) (below_size (hs_ GE183.out))); have HO199 := am_ (Kd.V_lower (Kd.V_mono (ok' := fun k_ => (w.heap.size ≤ k_) ∧ some k_ ≠ (.slice Ao8 y191.length co8 : Value).ownBlock ∧ k_ ≠ gb183) ho1 (fun k_ hk_ => ⟨(Nat.le_trans (below_size (hs_ GE183.out)) hk_), (Kd.fresh' (Kd.N_lt (nF_ HO193.out)) k_ hk_), (Kd.freshB (g := gb183) (o := .cells #[.slice none 0 0, .slice none 0 0, .int .i64 0] 33 (0, 0)) (kb_ BK183.out) k_ hk_)⟩)) (below_size (hs_ GE183.out))); replace HO193 := am_ (Kd.N_below (nF_ HO193.out) hb); replace BK183 := bK_ BK183 hb; replace HB := nc_ GE183 hb; (try clear hb); (try clear hb2); (try clear hk); (try clear hi); (try clear ho0); (try clear ho1)) | ((with_reducible refine gate_dst (N := 1) rfl ?_); refine bq_ (N := 1) #[.slice none 0 0, .slice none 0 0, .int .i64 0] 33 ?_; intro gb202 hg w10 BK202 hb; replace HO193 := am_ (Kd.N_below (Kd.N_elderB (nF_ HO193.out) gb202 (Nat.le_of_eq hg.symm)) hb); replace HO196 := am_ (Kd.V_below (Kd.V_elderB (vF_ HO196.out) gb202 (Nat.le_of_eq hg.symm)) hb); replace HO199 := am_ (Kd.V_below (Kd.V_elderB (vF_ HO199.out) gb202 (Nat.le_of_eq hg.symm)) hb); have GE202 := ge1_ hg GE183; replace HB := nc_ GE183 hb; have NB183_202 := nl_ BK183 hg; have NB202_183 := ng_ BK183 hg; replace BK183 := bK_ BK183 hb; clear hb hg; obtain ⟨Ao11, co11, eo11⟩ := Kd.V_slice HO196.out; subst eo11; have hnb12 := NB202_183.out; have hnc12 := NB183_202.out; obtain ⟨hcz13_0, hcz13_1, hcz13_2, hfz13_0, hfz13_1, hfz13_2⟩ := cf3_ BK202.out; obtain ⟨Ao14, co14, eo14⟩ := Kd.V_slice HO199.out; subst eo14; obtain ⟨hcz15_0, hcz15_1, hcz15_2, hfz15_0, hfz15_1, hfz15_2⟩ := cf3_ BK183.out))
 refine bodyPost_ret (results_cell_row rfl _ _ gb183 33 #[.slice Ao11 t194.length co11, .slice Ao14 t197.length co14, .int .i64 t200] (0, 0) _ rfl (by (with_reducible repeat (first | refine blk_drewN ?_ _ | refine blk_drew ?_ | refine blk_alloc ?_ _)); refine blk_put (cs := #[.slice Ao11 t194.length co11, .slice Ao14 t197.length co14, .int .i64 0]) ?_ 2 _ rfl; (with_reducible repeat (first | refine blk_drewN ?_ _ | refine blk_drew ?_ | refine blk_alloc ?_ _)); refine blk_put (cs := #[.slice Ao11 t194.length co11, .slice none 0 0, .int .i64 0]) ?_ 1 _ rfl; (with_reducible repeat (first | refine blk_drewN ?_ _ | refine blk_drew ?_ | refine blk_alloc ?_ _)); refine blk_put (cs := #[.slice none 0 0, .slice none 0 0, .int .i64 0]) ?_ 0 _ rfl; (with_reducible repeat (first | refine blk_drewN ?_ _ | refine blk_drew ?_ | refine blk_alloc ?_ _)); refine blk_far ?_ NB183_202.out _; (with_reducible repeat (first | refine blk_drewN ?_ _ | refine blk_drew ?_ | refine blk_alloc ?_ _)); refine blk_far ?_ NB183_202.out _; (with_reducible repeat (first | refine blk_drewN ?_ _ | refine blk_drew ?_ | refine blk_alloc ?_ _)); refine blk_far ?_ NB183_202.out _; (with_reducible repeat (first | refine blk_drewN ?_ _ | refine blk_drew ?_ | refine blk_alloc ?_ _)); exact BK183.out) Try.underlying33 rfl (by kernel_rfl)) rfl ?_
 exact ⟨_, _, er_, Kd.V_mono (vF_ (Kd.V_far (p := ⟨gb202, 2, none⟩) (Kd.V_far (p := ⟨gb202, 1, none⟩) (Kd.V_far (p := ⟨gb202, 0, none⟩) (Kd.V_mono (Kd.V_mono HO196.out (fun k_ hk => (⟨hk, hk.2⟩ : _ ∧ k_ ≠ gb202))) (fun k_ hk => (⟨hk, hk.1.1.2.2⟩ : _ ∧ k_ ≠ gb183))) (fun _ hk => hk.1.2) (.slice Ao11 t194.length co11)) (fun _ hk => hk.1.2) (.slice Ao14 t197.length co14)) (fun _ hk => hk.1.2) (.int .i64 t200))) (fun _ hk => hk.1.1.1.1), Kd.V_mono (vF_ (Kd.V_far (p := ⟨gb202, 2, none⟩) (Kd.V_far (p := ⟨gb202, 1, none⟩) (Kd.V_far (p := ⟨gb202, 0, none⟩) (Kd.V_mono (Kd.V_mono HO199.out (fun k_ hk => (⟨hk, hk.2⟩ : _ ∧ k_ ≠ gb202))) (fun k_ hk => (⟨hk, hk.1.1.2.2⟩ : _ ∧ k_ ≠ gb183))) (fun _ hk => hk.1.2) (.slice Ao11 t194.length co11)) (fun _ hk => hk.1.2) (.slice Ao14 t197.length co14)) (fun _ hk => hk.1.2) (.int .i64 t200))) (fun _ hk => hk.1.1.1.1), hs2_ GE183.out GE202.out⟩
end Go.Proofs.Ytojdaolclcmalaa.QFnExactPlayAsks
