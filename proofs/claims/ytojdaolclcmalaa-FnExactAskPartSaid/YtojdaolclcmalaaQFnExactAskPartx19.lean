/- Functions that one statement reaches: of each a plain function, and the proof that calls come to it. Conditions: those that each contract names. Written by a program of this repository. -/
import Derived.Test.YtojdaolclcmalaaVAskParta
import Derived.Test.YtojdaolclcmalaaQFnExactAskPartx1
import Derived.Test.YtojdaolclcmalaaQFnExactAskPartx3
import Derived.Test.YtojdaolclcmalaaQFnExactAskPartx5
import Derived.Test.YtojdaolclcmalaaQFnExactAskPartx14
import Derived.Test.YtojdaolclcmalaaQFnExactAskPartx15
import Derived.Test.YtojdaolclcmalaaQFnExactAskPartx16
import Derived.Test.YtojdaolclcmalaaQFnExactAskPartx17
import Derived.Test.YtojdaolclcmalaaQFnExactAskPartx18
namespace Go.Proofs.Ytojdaolclcmalaa.QFnExactAskPart
open Go.RowKit Go.Proofs.YtojdaolclcmalaaW.PrintWords Go.Proofs.YtojdaolclcmalaaW.PrintLast Go.Proofs.YtojdaolclcmalaaW.PrintMore
attribute [local go_sem] max2_int min2_int max_two min_two max_three min_three max_four min_four Go.Proofs.YtojdaolclcmalaaW.PrintMore2.isSome_setCell   -- for this text's walks alone
set_option linter.unusedVariables false
set_option linter.unusedSimpArgs false

/-! ### impl_AskPart: function 32 -/
theorem impl_AskPart_box {w0 w : World} {e0 e1 base g t : Nat} {z0 z1 z2 u0 u1 u2 v0 v1 : Value} {ok0 ok1 : Nat → Prop} {r1 : List S81} {r2 : List S78} (h0 : Kd.S k81 e0 w base ok0 v0 r1) (h1 : Kd.S k78 e1 w base ok1 v1 r2) (hbox : w.heap[g]? = some (.cells #[z0, z1, z2] t (0, 0))) (t0 : ∀ q, q ∈ e0 :: (k81).E → q ≠ t) (t1 : ∀ q, q ∈ e1 :: (k78).E → q ≠ t) (hb : Below w0.heap.size w0 w) (hg : w0.heap.size ≤ g) :
  Kd.S k81 e0 (((w.setCell ⟨g, 0, none⟩ u0).setCell ⟨g, 1, none⟩ u1).setCell ⟨g, 2, none⟩ u2) base ok0 v0 r1 ∧ Kd.S k78 e1 (((w.setCell ⟨g, 0, none⟩ u0).setCell ⟨g, 1, none⟩ u1).setCell ⟨g, 2, none⟩ u2) base ok1 v1 r2 ∧
   (((w.setCell ⟨g, 0, none⟩ u0).setCell ⟨g, 1, none⟩ u1).setCell ⟨g, 2, none⟩ u2).heap[g]? = some (.cells #[u0, u1, u2] t (0, 0)) ∧ Below w0.heap.size w0 (((w.setCell ⟨g, 0, none⟩ u0).setCell ⟨g, 1, none⟩ u1).setCell ⟨g, 2, none⟩ u2) := by
 have b1 := blk_put (cs := #[z0, z1, z2]) hbox 0 u0 rfl
 have b2 := blk_put (cs := #[u0, z1, z2]) b1 1 u1 rfl
 have b3 := blk_put (cs := #[u0, u1, z2]) b2 2 u2 rfl
 exact ⟨Kd.S_set (Kd.S_set (Kd.S_set h0 hbox t0 0 _) b1 t0 1 _) b2 t0 2 _, Kd.S_set (Kd.S_set (Kd.S_set h1 hbox t1 0 _) b1 t1 1 _) b2 t1 2 _, b3, below_set (below_set (below_set hb hg) hg) hg⟩
def impl_AskPart.g (k : Nat) (x : Bool) (l0_0 : List S81) (l0_1 : List S78) (a0_2 : Int) (a1_0 : Int) (a1_1 : Int) (a1_2 : Int) (l1_3 : List ByteArray) : Option (List S81 × List S78 × Int × Int × Int × Bool) :=
 if x = true then some ([], [], 0, 0, 0, false) else (impl_Part_codeOf.f k l0_0 l0_1 a0_2 a1_0 a1_1 a1_2 l1_3).bind fun c => if c.1 = 0 then (if l0_1.length < 1000000 then (impl_rebuild.f (l0_1 ++ [(⟨a0_2, a1_1, a1_0, a1_2, l1_3⟩ : S78)])).bind fun t => some (t.1, t.2.1, t.2.2.1, c.1, c.2, true) else none) else (impl_rebuild.f l0_1).bind fun t => some (t.1, t.2.1, t.2.2.1, c.1, c.2, true)
def impl_AskPart.f (k : Nat) (l0_0 : List S81) (l0_1 : List S78) (a0_2 : Int) (a1_0 : Int) (a1_1 : Int) (a1_2 : Int) (l1_3 : List ByteArray) : Option (List S81 × List S78 × Int × Int × Int × Bool) :=
 (impl_isPart.f k l0_0 l0_1 a0_2).bind fun t1 => if t1 = true then ((impl_in.f a1_0 0 65535).bind fun t2 => if t2 = true then ((impl_in.f a1_1 0 1000).bind fun t3 => if t3 = true then ((impl_in.f a1_2 0 65535).bind fun t4 => if t4 = true then ((impl_areRecords.f l1_3).bind fun t5 => impl_AskPart.g k (!t5) l0_0 l0_1 a0_2 a1_0 a1_1 a1_2 l1_3) else impl_AskPart.g k true l0_0 l0_1 a0_2 a1_0 a1_1 a1_2 l1_3) else impl_AskPart.g k true l0_0 l0_1 a0_2 a1_0 a1_1 a1_2 l1_3) else impl_AskPart.g k true l0_0 l0_1 a0_2 a1_0 a1_1 a1_2 l1_3) else impl_AskPart.g k true l0_0 l0_1 a0_2 a1_0 a1_1 a1_2 l1_3
theorem impl_AskPart.mono_g (k : Nat) (x : Bool) (l0_0 : List S81) (l0_1 : List S78) (a0_2 : Int) (a1_0 : Int) (a1_1 : Int) (a1_2 : Int) (l1_3 : List ByteArray) : LeO (impl_AskPart.g k x l0_0 l0_1 a0_2 a1_0 a1_1 a1_2 l1_3) (impl_AskPart.g (k + 1) x l0_0 l0_1 a0_2 a1_0 a1_1 a1_2 l1_3) := by
 have ih : ∀ _ : Unit, True := fun _ => trivial
 unfold impl_AskPart.g
 repeat' first
   | (with_reducible first | apply impl_Part_codeOf.mono | apply impl_isPart.mono | exact ih _ | exact LeO.refl _ | refine LeO.ite ?_ ?_ | refine LeO.bind ?_ (fun _ => ?_))
theorem impl_AskPart.mono : ∀ a0 a1 a2 a3 a4 a5 a6 k, LeO (impl_AskPart.f k a0 a1 a2 a3 a4 a5 a6) (impl_AskPart.f (k + 1) a0 a1 a2 a3 a4 a5 a6) := by
 intro a0 a1 a2 a3 a4 a5 a6 k
 have ih := fun x => impl_AskPart.mono_g k x a0 a1 a2 a3 a4 a5 a6
 unfold impl_AskPart.f
 repeat' first
   | (with_reducible first | apply impl_Part_codeOf.mono | apply impl_isPart.mono | exact ih _ | exact LeO.refl _ | refine LeO.ite ?_ ?_ | refine LeO.bind ?_ (fun _ => ?_))
set_option maxHeartbeats 8000000 in
set_option maxRecDepth 100000 in
theorem impl_AskPart.calls (k : Nat) (A0_0 : Option Addr) (c0_0 : Nat) (l0_0 : List S81) (A0_1 : Option Addr) (c0_1 : Nat) (l0_1 : List S78) (a0_2 : Int) (a1_0 : Int) (a1_1 : Int) (a1_2 : Int) (A1_3 : Option Addr) (c1_3 : Nat) (l1_3 : List ByteArray) (r1 : List S81) (r2 : List S78) (r3 : Int) (r4 : Int) (r5 : Int) (r6 : Bool) (w : World) (hr0_0 : Kd.C k81 w A0_0 l0_0.length l0_0) (hc0_0 : l0_0.length ≤ c0_0) (hr0_1 : Kd.C k78 w A0_1 l0_1.length l0_1) (hc0_1 : l0_1.length ≤ c0_1) (hr1_3 : Kd.C Kd.string w A1_3 l1_3.length l1_3) (hc1_3 : l1_3.length ≤ c1_3) (h : impl_AskPart.f k l0_0 l0_1 a0_2 a1_0 a1_1 a1_2 l1_3 = some (r1, r2, r3, r4, r5, r6)) :
    Calls Try.prog 32 #[.agg #[.slice A0_0 l0_0.length c0_0, .slice A0_1 l0_1.length c0_1, .int .i64 a0_2], .agg #[.int .i64 a1_0, .int .i64 a1_1, .int .i64 a1_2, .slice A1_3 l1_3.length c1_3]] w fun e w' => ∃ v0_ v1_ : Value, e = .returned (.tuple #[.agg #[v0_, v1_, .int .i64 r3], .int .i64 r4, .int .i64 r5, .bool r6]) ∧ Kd.S k81 81 w' w.heap.size (fun _ => True) v0_ r1 ∧ Kd.S k78 78 w' w.heap.size (fun _ => True) v1_ r2 ∧ Below w.heap.size w w' := by
  have hu33 := Try.underlying33
  have hu57 := Try.underlying57
  have hu78 := Try.underlying78
  have qA := am_ hr0_0
  have rA := am_ hc0_0
  have mA := am_ hr0_1
  have nA := am_ hc0_1
  have xA := am_ hr1_3
  have yA := am_ hc1_3
  have HB := am_ (Below.refl w.heap.size w)
  unfold impl_AskPart.f at h
  have HH := am_ h
  clear hr0_0 hc0_0 hr0_1 hc0_1 hr1_3 hc1_3 h
  go_enter Try.func32, Try.ntmps32
  go_upto_region 1 with (first | ((with_reducible refine gate_dst (N := 2) rfl ?_); refine be_ (N := 2) #[.slice A0_0 l0_0.length c0_0, .slice A0_1 l0_1.length c0_1, .int .i64 a0_2] 33 ?_; intro eA hg w2 hbox hb; have aA := am_ hbox; have sA := ge_ hg; replace HB := nb_ hb; clear hb hbox hg) | ((with_reducible refine gate_dst (N := 3) rfl ?_); refine be_ (N := 3) #[.int .i64 a1_0, .int .i64 a1_1, .int .i64 a1_2, .slice A1_3 l1_3.length c1_3] 57 ?_; intro jA hg w3 hbox hb; have bA := am_ hbox; have cB := ge1_ hg sA; replace HB := nc_ sA hb; have N23 := nl_ aA hg; replace aA := bK_ aA hb; clear hb hbox hg) | ((with_reducible refine gate_dst (N := 4) rfl ?_); refine be_ (N := 4) #[.slice none 0 0, .slice none 0 0, .int .i64 0] 33 ?_; intro hA hg w4 hbox hb; have dA := am_ hbox; have uA := ge2_ hg sA cB; replace HB := nc2_ sA cB hb; have N24 := nl_ aA hg; have N42 := ng_ aA hg; replace aA := bK_ aA hb; replace bA := bK_ bA hb; clear hb hbox hg))
  (try simp only [Act.put, List.setIfInBounds_toArray, List.set_cons_zero, List.set_cons_succ])
  go_cut [36] (fun gB wc => ∃ x : Bool, gB = .bool x ∧ Aside0 (impl_AskPart.g k x l0_0 l0_1 a0_2 a1_0 a1_1 a1_2 l1_3 = some (r1, r2, r3, r4, r5, r6)) ∧ Aside0 (wc.heap[eA]? = some (.cells #[.slice A0_0 l0_0.length c0_0, .slice A0_1 l0_1.length c0_1, .int .i64 a0_2] 33 (0, 0))) ∧ Aside0 (wc.heap[jA]? = some (.cells #[.int .i64 a1_0, .int .i64 a1_1, .int .i64 a1_2, .slice A1_3 l1_3.length c1_3] 57 (0, 0))) ∧ Aside0 (wc.heap[hA]? = some (.cells #[.slice none 0 0, .slice none 0 0, .int .i64 0] 33 (0, 0))) ∧ Aside0 (Below w.heap.size w wc))
  case first =>
    have H0 := HH.out
    clear HH
    obtain ⟨t1, A1, H1⟩ := bnd_ H0
    clear H0
    obtain ⟨rfl, H1x⟩ | ⟨rfl, H1x⟩ := ifb_ H1
    rotate_left
    · have HX := am_ H1x
      clear H1 H1x
      obtain ⟨hcp_0, hcp_1, hcp_2, hfp_0, hfp_1, hfp_2⟩ := cf3_ aA.out
      obtain ⟨hca_0, hca_1, hca_2, hca_3, hfa_0, hfa_1, hfa_2, hfa_3⟩ := cf4_ bA.out
      go_wp2_with (first | ((with_reducible refine gate_callee (f := 51) rfl ?_); refine gl_ 11 Try.func51 #[.agg #[.slice A0_0 l0_0.length c0_0, .slice A0_1 l0_1.length c0_1, .int .i64 a0_2]] rfl ma_ ?_; (with_reducible refine (impl_isPart.calls k A0_0 c0_0 l0_0 A0_1 c0_1 l0_1 a0_2 false _ (Kd.C_below qA.out HB.out) rA.out (Kd.C_below mA.out HB.out) nA.out A1.out).mono ?_); rintro e_ w6 ⟨rfl, cA⟩; refine ⟨_, rfl, ?_⟩; replace aA := am_ (blk_below aA.out cA); replace bA := am_ (blk_below bA.out cA); replace dA := am_ (blk_below dA.out cA); replace HB := am_ (below_step HB.out cA); clear cA; clear hcp_0 hcp_1 hcp_2 hfp_0 hfp_1 hfp_2 hca_0 hca_1 hca_2 hca_3 hfa_0 hfa_1 hfa_2 hfa_3; obtain ⟨hca_0, hca_1, hca_2, hca_3, hfa_0, hfa_1, hfa_2, hfa_3⟩ := cf4_ bA.out))
      go_meet
      exact ⟨_, er_, HX, ⟨by first | exact aA.out | (repeat (first | refine blk_drewN ?_ _)); exact aA.out⟩, ⟨by first | exact bA.out | (repeat (first | refine blk_drewN ?_ _)); exact bA.out⟩, ⟨by first | exact dA.out | (repeat (first | refine blk_drewN ?_ _)); exact dA.out⟩, ⟨by repeat (first | (with_reducible first | exact HB.out | apply pw_below_drewN) | exact HB.out)⟩⟩
    clear H1
    obtain ⟨t2, A2, H2⟩ := bnd_ H1x
    clear H1x
    obtain ⟨rfl, H2x⟩ | ⟨rfl, H2x⟩ := ifb_ H2
    rotate_left
    · have HX := am_ H2x
      clear H2 H2x
      obtain ⟨hcp_0, hcp_1, hcp_2, hfp_0, hfp_1, hfp_2⟩ := cf3_ aA.out
      obtain ⟨hca_0, hca_1, hca_2, hca_3, hfa_0, hfa_1, hfa_2, hfa_3⟩ := cf4_ bA.out
      go_wp2_with (first | ((with_reducible refine gate_callee (f := 51) rfl ?_); refine gl_ 11 Try.func51 #[.agg #[.slice A0_0 l0_0.length c0_0, .slice A0_1 l0_1.length c0_1, .int .i64 a0_2]] rfl ma_ ?_; (with_reducible refine (impl_isPart.calls k A0_0 c0_0 l0_0 A0_1 c0_1 l0_1 a0_2 true _ (Kd.C_below qA.out HB.out) rA.out (Kd.C_below mA.out HB.out) nA.out A1.out).mono ?_); rintro e_ w6 ⟨rfl, cA⟩; refine ⟨_, rfl, ?_⟩; replace aA := am_ (blk_below aA.out cA); replace bA := am_ (blk_below bA.out cA); replace dA := am_ (blk_below dA.out cA); replace HB := am_ (below_step HB.out cA); clear cA; clear hcp_0 hcp_1 hcp_2 hfp_0 hfp_1 hfp_2 hca_0 hca_1 hca_2 hca_3 hfa_0 hfa_1 hfa_2 hfa_3; obtain ⟨hca_0, hca_1, hca_2, hca_3, hfa_0, hfa_1, hfa_2, hfa_3⟩ := cf4_ bA.out) | (go_at_call 63; (with_reducible refine (impl_in.calls a1_0 0 65535 false _ A2.out).mono ?_); rintro e w' ⟨rfl, ⟨nd, rfl⟩⟩))
      go_meet
      exact ⟨_, er_, HX, ⟨by first | exact aA.out | (repeat (first | refine blk_drewN ?_ _)); exact aA.out⟩, ⟨by first | exact bA.out | (repeat (first | refine blk_drewN ?_ _)); exact bA.out⟩, ⟨by first | exact dA.out | (repeat (first | refine blk_drewN ?_ _)); exact dA.out⟩, ⟨by repeat (first | (with_reducible first | exact HB.out | apply pw_below_drewN) | exact HB.out)⟩⟩
    clear H2
    obtain ⟨t3, A3, H3⟩ := bnd_ H2x
    clear H2x
    obtain ⟨rfl, H3x⟩ | ⟨rfl, H3x⟩ := ifb_ H3
    rotate_left
    · have HX := am_ H3x
      clear H3 H3x
      obtain ⟨hcp_0, hcp_1, hcp_2, hfp_0, hfp_1, hfp_2⟩ := cf3_ aA.out
      obtain ⟨hca_0, hca_1, hca_2, hca_3, hfa_0, hfa_1, hfa_2, hfa_3⟩ := cf4_ bA.out
      go_wp2_with (first | ((with_reducible refine gate_callee (f := 51) rfl ?_); refine gl_ 11 Try.func51 #[.agg #[.slice A0_0 l0_0.length c0_0, .slice A0_1 l0_1.length c0_1, .int .i64 a0_2]] rfl ma_ ?_; (with_reducible refine (impl_isPart.calls k A0_0 c0_0 l0_0 A0_1 c0_1 l0_1 a0_2 true _ (Kd.C_below qA.out HB.out) rA.out (Kd.C_below mA.out HB.out) nA.out A1.out).mono ?_); rintro e_ w6 ⟨rfl, cA⟩; refine ⟨_, rfl, ?_⟩; replace aA := am_ (blk_below aA.out cA); replace bA := am_ (blk_below bA.out cA); replace dA := am_ (blk_below dA.out cA); replace HB := am_ (below_step HB.out cA); clear cA; clear hcp_0 hcp_1 hcp_2 hfp_0 hfp_1 hfp_2 hca_0 hca_1 hca_2 hca_3 hfa_0 hfa_1 hfa_2 hfa_3; obtain ⟨hca_0, hca_1, hca_2, hca_3, hfa_0, hfa_1, hfa_2, hfa_3⟩ := cf4_ bA.out) | (go_at_call 63; (with_reducible refine (impl_in.calls a1_0 0 65535 true _ A2.out).mono ?_); rintro e w' ⟨rfl, ⟨nd, rfl⟩⟩) | (go_at_call 63; (with_reducible refine (impl_in.calls a1_1 0 1000 false _ A3.out).mono ?_); rintro e w' ⟨rfl, ⟨nd, rfl⟩⟩))
      go_meet
      exact ⟨_, er_, HX, ⟨by first | exact aA.out | (repeat (first | refine blk_drewN ?_ _)); exact aA.out⟩, ⟨by first | exact bA.out | (repeat (first | refine blk_drewN ?_ _)); exact bA.out⟩, ⟨by first | exact dA.out | (repeat (first | refine blk_drewN ?_ _)); exact dA.out⟩, ⟨by repeat (first | (with_reducible first | exact HB.out | apply pw_below_drewN) | exact HB.out)⟩⟩
    clear H3
    obtain ⟨t4, A4, H4⟩ := bnd_ H3x
    clear H3x
    obtain ⟨rfl, H4x⟩ | ⟨rfl, H4x⟩ := ifb_ H4
    rotate_left
    · have HX := am_ H4x
      clear H4 H4x
      obtain ⟨hcp_0, hcp_1, hcp_2, hfp_0, hfp_1, hfp_2⟩ := cf3_ aA.out
      obtain ⟨hca_0, hca_1, hca_2, hca_3, hfa_0, hfa_1, hfa_2, hfa_3⟩ := cf4_ bA.out
      go_wp2_with (first | ((with_reducible refine gate_callee (f := 51) rfl ?_); refine gl_ 11 Try.func51 #[.agg #[.slice A0_0 l0_0.length c0_0, .slice A0_1 l0_1.length c0_1, .int .i64 a0_2]] rfl ma_ ?_; (with_reducible refine (impl_isPart.calls k A0_0 c0_0 l0_0 A0_1 c0_1 l0_1 a0_2 true _ (Kd.C_below qA.out HB.out) rA.out (Kd.C_below mA.out HB.out) nA.out A1.out).mono ?_); rintro e_ w6 ⟨rfl, cA⟩; refine ⟨_, rfl, ?_⟩; replace aA := am_ (blk_below aA.out cA); replace bA := am_ (blk_below bA.out cA); replace dA := am_ (blk_below dA.out cA); replace HB := am_ (below_step HB.out cA); clear cA; clear hcp_0 hcp_1 hcp_2 hfp_0 hfp_1 hfp_2 hca_0 hca_1 hca_2 hca_3 hfa_0 hfa_1 hfa_2 hfa_3; obtain ⟨hca_0, hca_1, hca_2, hca_3, hfa_0, hfa_1, hfa_2, hfa_3⟩ := cf4_ bA.out) | (go_at_call 63; (with_reducible refine (impl_in.calls a1_0 0 65535 true _ A2.out).mono ?_); rintro e w' ⟨rfl, ⟨nd, rfl⟩⟩) | (go_at_call 63; (with_reducible refine (impl_in.calls a1_1 0 1000 true _ A3.out).mono ?_); rintro e w' ⟨rfl, ⟨nd, rfl⟩⟩) | (go_at_call 63; (with_reducible refine (impl_in.calls a1_2 0 65535 false _ A4.out).mono ?_); rintro e w' ⟨rfl, ⟨nd, rfl⟩⟩))
      go_meet
      exact ⟨_, er_, HX, ⟨by first | exact aA.out | (repeat (first | refine blk_drewN ?_ _)); exact aA.out⟩, ⟨by first | exact bA.out | (repeat (first | refine blk_drewN ?_ _)); exact bA.out⟩, ⟨by first | exact dA.out | (repeat (first | refine blk_drewN ?_ _)); exact dA.out⟩, ⟨by repeat (first | (with_reducible first | exact HB.out | apply pw_below_drewN) | exact HB.out)⟩⟩
    clear H4
    obtain ⟨t5, A5, H5⟩ := bnd_ H4x
    have HX := am_ H5
    clear H4x H5
    obtain ⟨hcp_0, hcp_1, hcp_2, hfp_0, hfp_1, hfp_2⟩ := cf3_ aA.out
    obtain ⟨hca_0, hca_1, hca_2, hca_3, hfa_0, hfa_1, hfa_2, hfa_3⟩ := cf4_ bA.out
    go_wp2_with (first | ((with_reducible refine gate_callee (f := 51) rfl ?_); refine gl_ 11 Try.func51 #[.agg #[.slice A0_0 l0_0.length c0_0, .slice A0_1 l0_1.length c0_1, .int .i64 a0_2]] rfl ma_ ?_; (with_reducible refine (impl_isPart.calls k A0_0 c0_0 l0_0 A0_1 c0_1 l0_1 a0_2 true _ (Kd.C_below qA.out HB.out) rA.out (Kd.C_below mA.out HB.out) nA.out A1.out).mono ?_); rintro e_ w6 ⟨rfl, cA⟩; refine ⟨_, rfl, ?_⟩; replace aA := am_ (blk_below aA.out cA); replace bA := am_ (blk_below bA.out cA); replace dA := am_ (blk_below dA.out cA); replace HB := am_ (below_step HB.out cA); clear cA; clear hcp_0 hcp_1 hcp_2 hfp_0 hfp_1 hfp_2 hca_0 hca_1 hca_2 hca_3 hfa_0 hfa_1 hfa_2 hfa_3; obtain ⟨hca_0, hca_1, hca_2, hca_3, hfa_0, hfa_1, hfa_2, hfa_3⟩ := cf4_ bA.out) | (go_at_call 63; (with_reducible refine (impl_in.calls a1_0 0 65535 true _ A2.out).mono ?_); rintro e w' ⟨rfl, ⟨nd, rfl⟩⟩) | (go_at_call 63; (with_reducible refine (impl_in.calls a1_1 0 1000 true _ A3.out).mono ?_); rintro e w' ⟨rfl, ⟨nd, rfl⟩⟩) | (go_at_call 63; (with_reducible refine (impl_in.calls a1_2 0 65535 true _ A4.out).mono ?_); rintro e w' ⟨rfl, ⟨nd, rfl⟩⟩) | (go_at_call 64; (with_reducible refine (impl_areRecords.calls _ _ l1_3 t5 _ ?side1 ?side2 A5.out).mono ?_); (case side1 => repeat (first | exact Kd.C_below xA.out HB.out | (with_reducible refine Kd.C_alloc ?_ _) | (with_reducible refine Kd.C_drewN ?_ _) | (with_reducible refine Kd.C_drew ?_))); (case side2 => exact yA.out); rintro e w' ⟨rfl, ⟨nd, rfl⟩⟩))
    go_meet
    exact ⟨_, er_, HX, ⟨by first | exact aA.out | (repeat (first | refine blk_drewN ?_ _)); exact aA.out⟩, ⟨by first | exact bA.out | (repeat (first | refine blk_drewN ?_ _)); exact bA.out⟩, ⟨by first | exact dA.out | (repeat (first | refine blk_drewN ?_ _)); exact dA.out⟩, ⟨by repeat (first | (with_reducible first | exact HB.out | apply pw_below_drewN) | exact HB.out)⟩⟩
  case rest =>
    clear HH aA bA dA HB
    obtain ⟨x, rfl, HG, aA, bA, dA, HB⟩ := hcut
    obtain ⟨wa, rfl⟩ : ∃ wa : World, wa = wc := ⟨_, rfl⟩
    have H := HG.out
    clear HG
    unfold impl_AskPart.g at H
    obtain ⟨rfl, H1⟩ | ⟨rfl, H1⟩ := ifb_ H
    · obtain ⟨rfl, rfl, rfl, rfl, rfl, rfl⟩ : [] = r1 ∧ [] = r2 ∧ 0 = r3 ∧ 0 = r4 ∧ 0 = r5 ∧ false = r6 := by simpa using H1
      clear H H1
      obtain ⟨hcr_0, hcr_1, hcr_2, hfr_0, hfr_1, hfr_2⟩ := cf3_ dA.out
      go_wp2_with (first | ((with_reducible refine gate_store (t := 33) (p := 4) rfl ?_); refine store_event (t := 33) (p := 4) (v := ?vo_41) (w1 := (((wa.setCell ⟨hA, 0, none⟩ (.slice none 0 0)).setCell ⟨hA, 1, none⟩ (.slice none 0 0)).setCell ⟨hA, 2, none⟩ (.int .i64 0))) ?hg ?ho ?hn ?hr ?_; (case ho => rfl); (case hg => rfl); (case hn => rfl); (case hr => first | (go_simp; done) | (go_simp; rfl)); intro w7 hw_; have BKn := am_ (show w7.heap[hA]? = some (.cells #[.slice none 0 0, .slice none 0 0, .int .i64 0] 33 (0, 0)) from by rw [hw_]; exact blk_put (cs := #[.slice none 0 0, .slice none 0 0, .int .i64 0]) (blk_put (cs := #[.slice none 0 0, .slice none 0 0, .int .i64 0]) (blk_put (cs := #[.slice none 0 0, .slice none 0 0, .int .i64 0]) dA.out 0 _ rfl) 1 _ rfl) 2 _ rfl); have HBn := am_ (show Below w.heap.size w w7 from by rw [hw_]; exact below_set (below_set (below_set HB.out uA.out) uA.out) uA.out); clear hw_))
      refine bodyPost_ret (results_list (rs := [.cell 4 33, .tmp 5, .tmp 6, .tmp 7]) rfl (by simp) (.cell hA 33 #[.slice none 0 0, .slice none 0 0, .int .i64 0] (0, 0) _ rfl BKn.out Try.underlying33 rfl (by kernel_rfl) (.tmp (.tmp (.tmp .nil))))) rfl ?_
      exact ⟨_, _, er_, Kd.S_nil _ _ _ _ _, Kd.S_nil _ _ _ _ _, HBn.out⟩
    · obtain ⟨⟨q1, q2⟩, AC, H2⟩ := bnd_ H1
      dsimp only at H2
      have HX := am_ H2
      clear H H1 H2
      obtain ⟨hcp_0, hcp_1, hcp_2, hfp_0, hfp_1, hfp_2⟩ := cf3_ aA.out
      obtain ⟨hca_0, hca_1, hca_2, hca_3, hfa_0, hfa_1, hfa_2, hfa_3⟩ := cf4_ bA.out
      go_upto_if 45 with (first | ((with_reducible refine gate_callee (f := 65) rfl ?_); refine gl_ 41 Try.func65 #[.agg #[.slice A0_0 l0_0.length c0_0, .slice A0_1 l0_1.length c0_1, .int .i64 a0_2], .agg #[.int .i64 a1_0, .int .i64 a1_1, .int .i64 a1_2, .slice A1_3 l1_3.length c1_3]] rfl ma_ ?_; (with_reducible refine (impl_Part_codeOf.calls k A0_0 c0_0 l0_0 A0_1 c0_1 l0_1 a0_2 a1_0 a1_1 a1_2 A1_3 c1_3 l1_3 q1 q2 _ (Kd.C_below qA.out HB.out) rA.out (Kd.C_below mA.out HB.out) nA.out (Kd.C_below xA.out HB.out) yA.out AC.out).mono ?_); rintro e_ w6 ⟨rfl, cA⟩; refine ⟨_, rfl, ?_⟩; replace aA := am_ (blk_below aA.out cA); replace bA := am_ (blk_below bA.out cA); replace dA := am_ (blk_below dA.out cA); replace HB := am_ (below_step HB.out cA); clear cA; clear hcp_0 hcp_1 hcp_2 hfp_0 hfp_1 hfp_2 hca_0 hca_1 hca_2 hca_3 hfa_0 hfa_1 hfa_2 hfa_3))
      go_cut [] (fun wc => ∃ (A7 : Option Addr) (c7 : Nat) (A8 : Option Addr) (c8 : Nat), Aside0 (q1 = r4 ∧ q2 = r5 ∧ true = r6) ∧ Aside0 (Kd.S k81 81 wc w.heap.size (fun _ => True) (.slice A7 r1.length c7) r1) ∧ Aside0 (Kd.S k78 78 wc w.heap.size (fun _ => True) (.slice A8 r2.length c8) r2) ∧ Aside0 (wc.heap[eA]? = some (.cells #[.slice A7 r1.length c7, .slice A8 r2.length c8, .int .i64 r3] 33 (0, 0))) ∧ Aside0 (wc.heap[hA]? = some (.cells #[.slice none 0 0, .slice none 0 0, .int .i64 0] 33 (0, 0))) ∧ Aside0 (Below w.heap.size w wc))
      case first =>
        have H := HX.out
        clear HX
        obtain ⟨hq, H1⟩ | ⟨hq, H1⟩ := ite_ H
        rotate_left
        · have hqb : (q1 == 0) = false := beq_eq_false_iff_ne.mpr hq
          obtain ⟨⟨q3, q4, q5, q6⟩, AR, H2⟩ := bnd_ H1
          obtain ⟨rfl, rfl, rfl, h4_⟩ : q3 = r1 ∧ q4 = r2 ∧ q5 = r3 ∧ q1 = r4 ∧ q2 = r5 ∧ true = r6 := by simpa using H2
          have HE := am_ h4_
          clear hq H H1 H2 h4_
          obtain ⟨hcp_0, hcp_1, hcp_2, hfp_0, hfp_1, hfp_2⟩ := cf3_ aA.out
          go_wp2_with (first | ((with_reducible refine gate_callee (f := 66) rfl ?_); refine gl_ 70 Try.func66 #[.slice A0_1 l0_1.length c0_1] rfl ma_ ?_; (with_reducible refine (impl_rebuild.calls A0_1 c0_1 l0_1 q3 q4 q5 q6 _ (Kd.C_below mA.out HB.out) nA.out AR.out).mono ?_); rintro e_ w7 ⟨v7, v8, rfl, h0_, h1_, cA⟩; refine ⟨_, rfl, ?_⟩; obtain ⟨A7, c7, rfl⟩ := Kd.S_slice h0_; obtain ⟨A8, c8, rfl⟩ := Kd.S_slice h1_; have oA := am_ (Kd.S_lower h0_ HB.out.size); have pA := am_ (Kd.S_lower h1_ HB.out.size); replace aA := am_ (blk_below aA.out cA); replace bA := am_ (blk_below bA.out cA); replace dA := am_ (blk_below dA.out cA); replace HB := am_ (below_step HB.out cA); clear cA; clear h0_ h1_ hcp_0 hcp_1 hcp_2 hfp_0 hfp_1 hfp_2; obtain ⟨hcp_0, hcp_1, hcp_2, hfp_0, hfp_1, hfp_2⟩ := cf3_ aA.out) | ((with_reducible refine gate_store (t := 33) (p := 2) rfl ?_); refine store_event (t := 33) (p := 2) (v := ?vo_2) (w1 := (((w7.setCell ⟨eA, 0, none⟩ (.slice A7 q3.length c7)).setCell ⟨eA, 1, none⟩ (.slice A8 q4.length c8)).setCell ⟨eA, 2, none⟩ (.int .i64 q5))) ?hg ?ho ?hn ?hr ?_; (case ho => rfl); (case hg => rfl); (case hn => rfl); (case hr => first | (go_simp; done) | (go_simp; rfl)); intro w8 hw_; obtain ⟨a1_, a2_, a3_, a4_⟩ := impl_AskPart_box (u0 := .slice A7 q3.length c7) (u1 := .slice A8 q4.length c8) (u2 := .int .i64 q5) oA.out pA.out aA.out (by decide) (by decide) HB.out sA.out; rw [← hw_] at a1_ a2_ a3_ a4_; have BKn := am_ (show w8.heap[hA]? = some (.cells #[.slice none 0 0, .slice none 0 0, .int .i64 0] 33 (0, 0)) from by rw [hw_]; exact blk_far (blk_far (blk_far dA.out N42.out _) N42.out _) N42.out _); have HS0n := am_ a1_; have HS1n := am_ a2_; have zA := am_ a3_; have HBn := am_ a4_; clear a1_ a2_ a3_ a4_ hw_ hcp_0 hcp_1 hcp_2 hfp_0 hfp_1 hfp_2))
          go_meet
          exact ⟨A7, c7, A8, c8, HE, HS0n, HS1n, zA, BKn, HBn⟩
        · have hqb : (q1 == 0) = true := beq_iff_eq.mpr hq
          obtain ⟨dB, H1x⟩ := ifs_ H1
          obtain ⟨⟨q3, q4, q5, q6⟩, AR, H2⟩ := bnd_ H1x
          obtain ⟨rfl, rfl, rfl, h4_⟩ : q3 = r1 ∧ q4 = r2 ∧ q5 = r3 ∧ q1 = r4 ∧ q2 = r5 ∧ true = r6 := by simpa using H2
          have HE := am_ h4_
          have vA := am_ dB
          obtain ⟨lN, hlN⟩ : ∃ lN, lN = l0_1 ++ [(⟨a0_2, a1_1, a1_0, a1_2, l1_3⟩ : S78)] := ⟨_, rfl⟩
          rw [← hlN] at AR
          have HLN := am_ hlN
          clear hq H H1 H1x H2 h4_ dB hlN
          obtain ⟨hcp_0, hcp_1, hcp_2, hfp_0, hfp_1, hfp_2⟩ := cf3_ aA.out
          obtain ⟨hca_0, hca_1, hca_2, hca_3, hfa_0, hfa_1, hfa_2, hfa_3⟩ := cf4_ bA.out
          obtain ⟨wa, rfl⟩ : ∃ wb : World, wb = w6 := ⟨_, rfl⟩
          go_upto_region 5 with fail
          go_wp2_with fail
          refine start_ (n := 22) (S := fun w' => w'.cell? ⟨eA, 1, none⟩ = some (.slice A0_1 l0_1.length c0_1) ∧ w'.cell? ⟨eA, 2, none⟩ = some (.int .i64 a0_2) ∧ w'.cell? ⟨jA, 0, none⟩ = some (.int .i64 a1_0) ∧ w'.cell? ⟨jA, 1, none⟩ = some (.int .i64 a1_1) ∧ w'.cell? ⟨jA, 2, none⟩ = some (.int .i64 a1_2) ∧ w'.cell? ⟨jA, 3, none⟩ = some (.slice A1_3 l1_3.length c1_3)) (ds := [21]) #[false, false, false, false, false, false, false, false, false, false, false, false, false, false, false, false, false, false, false, false, false, false] (by kernel_rfl) rfl rfl ⟨hcp_1, hcp_2, hca_0, hca_1, hca_2, hca_3⟩ (fun hHeld => ?_)
          replace aA := am_ (blk_drew aA.out)
          replace bA := am_ (blk_drew bA.out)
          replace dA := am_ (blk_drew dA.out)
          replace HB := am_ (below_drew1 HB.out)
          clear hcp_0 hcp_1 hcp_2 hfp_0 hfp_1 hfp_2 hca_0 hca_1 hca_2 hca_3 hfa_0 hfa_1 hfa_2 hfa_3
          generalize wa.drew = wr at aA bA dA HB hHeld ⊢
          have HBw := am_ (Below.refl wr.heap.size wr)
          have HH := am_ hHeld
          have HSr := am_ HB.out.size
          have HVL := am_ (Kd.F_below (Kd.C_F k78_heap mA.out) HB.out)
          have HEL := am_ (k78_mkF wr (fun k_ => k_ < w.heap.size) (⟨a0_2, a1_1, a1_0, a1_2, l1_3⟩ : S78) yA.out (Kd.F_below (Kd.C_F Kd.heap_string xA.out) HB.out))
          refine px_ 1 48 ?_
          refine tx_ 2 49 ?_
          refine px_ 4 51 ?_
          refine tx_ 5 52 ?_
          refine px_ 6 53 ?_
          refine tx_ 7 54 ?_
          refine px_ 8 55 ?_
          refine tx_ 9 56 ?_
          refine px_ 10 57 ?_
          refine tx_ 11 58 ?_
          refine px_ 12 59 ?_
          refine tx_ 13 60 ?_
          refine px_ 14 61 ?_
          refine join_ (σ := Value × Value × Value) 6 #[true, true, true, true, true, true, true, true, true, true, true, true, true, true, true, true, false, false, false, false, false, false] (fun s_ => [(47, s_.1), (50, s_.2.1), (62, s_.2.2)]) (fun s_ w' => (w'.cell? ⟨eA, 1, none⟩ = some (.slice A0_1 l0_1.length c0_1) ∧ w'.cell? ⟨eA, 2, none⟩ = some (.int .i64 a0_2) ∧ w'.cell? ⟨jA, 0, none⟩ = some (.int .i64 a1_0) ∧ w'.cell? ⟨jA, 1, none⟩ = some (.int .i64 a1_1) ∧ w'.cell? ⟨jA, 2, none⟩ = some (.int .i64 a1_2) ∧ w'.cell? ⟨jA, 3, none⟩ = some (.slice A1_3 l1_3.length c1_3)) ∧ Kd.N k78 78 w' wr.heap.size (fun k_ => k_ < w.heap.size ∨ wr.heap.size ≤ k_) s_.2.1 l0_1 ∧ Kd.N k78 78 w' wr.heap.size (fun k_ => (fun k_ => k_ < w.heap.size ∨ wr.heap.size ≤ k_) k_ ∧ some k_ ≠ s_.2.1.ownBlock) s_.2.2 [(⟨a0_2, a1_1, a1_0, a1_2, l1_3⟩ : S78)] ∧ Below wr.heap.size wr w') ?_ ?_
          rotate_left
          · intro hCont
            refine two_ (i := 0) (j := 15) (Ni := some 47) (Nj := some 62) #[true, true, true, false, true, true, true, true, true, true, true, true, true, true, true, false, false, false, false, false, false, false] #[false, true, true, false, true, true, true, true, true, true, true, true, true, true, true, true, false, false, false, false, false, false] rfl rfl rfl rfl (by kernel_rfl) (by decide) (by decide) (fun K hK => ?_) (fun K hK => ?_)
            · skip
              refine Kd.N_lit_step k78 (w0 := wr) wr.heap.size 78 ?hg (N' := 47) ?hd (xs := ([] : List S78)) (inner := []) (ok := (fun k_ => k_ < w.heap.size ∨ wr.heap.size ≤ k_)) (okp := fun _ => False) ?hr ?hp (fun _ hk => hk.elim) (.inr HBw.out.size) (Below.refl _ _) (Nat.le_refl _) (by simp) ?_
              (case hd => rfl)
              (case hg => rfl)
              (case hr => first | (go_simp; done) | (go_simp; rfl))
              (case hp => exact (Reps.none _ _))
              intro kA we1 ho hb _ hnew_
              have gA := am_ (Kd.N_lower ho HBw.out.size)
              replace HBw := am_ (below_step HBw.out hb)
              clear ho hb hnew_
              refine hK.out _ _ (hc_ HH) fun hHeld => ?_
              clear hK K
              refine norm_ (a' := ?_) ?_ ?_
              rotate_left
              · show Act.put _ (some 47) _ = _
                simp only [Act.put, List.setIfInBounds_toArray, List.set_cons_zero, List.set_cons_succ, i64_w, i32_w]
                rfl
              refine two_ (i := 3) (j := 15) (Ni := some 50) (Nj := some 62) #[true, true, true, true, true, true, true, true, true, true, true, true, true, true, true, false, false, false, false, false, false, false] #[true, true, true, false, true, true, true, true, true, true, true, true, true, true, true, true, false, false, false, false, false, false] rfl rfl rfl rfl (by kernel_rfl) (by decide) (by decide) (fun K hK => ?_) (fun K hK => ?_)
              · skip
                refine Kd.N_append_rows_step k78 (w0 := wr) wr.heap.size (by rfl) (.tmp 47) (.tmp 49) 31 78 (.agg #[(.int .i64 0), (.int .i64 0), (.int .i64 0), (.int .i64 0), (.slice none 0 0)]) 56 rfl Try.underlying31 info78 rfl (by decide) (by omega) kA [] l0_1 A0_1 l0_1.length c0_1 (fun k_ => k_ < w.heap.size ∨ wr.heap.size ≤ k_) (fun k_ => k_ < w.heap.size) rfl rfl ?aO ?aR (fun k_ hk => ⟨.inl hk, fun he => by have := Kd.N_base gA.out k_ he.symm; have := HSr.out; omega⟩) ?aF ?aB ?aS ?aL ?_
                (case aO => exact gA.out)
                (case aR => exact Kd.F_below HVL.out HBw.out)
                (case aF => exact fun k_ hk => .inr (Nat.le_trans HBw.out.size hk))
                (case aB => exact HBw.out)
                (case aS => exact HBw.out.size)
                (case aL => have := vA.out; simp only [List.length_nil]; omega)
                intro lA we2 ho hb hg_ hat_
                rw [List.nil_append] at ho
                have iA := am_ ho
                replace HBw := am_ hb
                clear ho hb hg_ hat_ gA
                refine hK.out _ _ (hc_ HH) fun hHeld => ?_
                clear hK K
                refine norm_ (a' := ?_) ?_ ?_
                rotate_left
                · show Act.put _ (some 50) _ = _
                  simp only [Act.put, List.setIfInBounds_toArray, List.set_cons_zero, List.set_cons_succ, i64_w, i32_w]
                  rfl
                refine ox_ 15 62 fun K hK => ?_
                refine Kd.N_lit_step k78 (w0 := we2) we2.heap.size 78 ?hg (N' := 62) ?hd (xs := ([(⟨a0_2, a1_1, a1_0, a1_2, l1_3⟩ : S78)] : List S78)) (inner := [.int .i64 a0_2, .int .i64 a1_1, .int .i64 a1_0, .int .i64 a1_2, .slice A1_3 l1_3.length c1_3]) (ok := (fun k_ => (fun k_ => k_ < w.heap.size ∨ wr.heap.size ≤ k_) k_ ∧ some k_ ≠ (lA : Value).ownBlock)) (okp := fun k_ => k_ < w.heap.size) ?hr ?hp (fun k_ hk => ⟨.inl hk, fun he => by have := Kd.N_base iA.out k_ he.symm; have := HSr.out; omega⟩) ⟨.inr HBw.out.size, fun he => by have := Kd.N_lt iA.out _ he.symm; omega⟩ (Below.refl _ _) (Nat.le_refl _) (by simp) ?_
                (case hd => rfl)
                (case hg => rfl)
                (case hr => first | (go_simp; done) | (go_simp; rfl))
                (case hp => exact (Reps.none _ _).snoc (Kd.FK_below HEL.out HBw.out) rfl)
                intro tA we3 ho hb _ hnew_
                replace iA := am_ (Kd.N_below iA.out hb)
                have fA := am_ (Kd.N_lower ho HBw.out.size)
                replace HBw := am_ (below_step HBw.out hb)
                clear ho hb hnew_
                refine hK.out _ _ (hc_ HH) fun hHeld => ?_
                clear hK K
                refine norm_ (a' := ?_) ?_ ?_
                rotate_left
                · show Act.put _ (some 62) _ = _
                  simp only [Act.put, List.setIfInBounds_toArray, List.set_cons_zero, List.set_cons_succ, i64_w, i32_w]
                  rfl
                exact norm_ (by simp only [putAll, Act.put, List.setIfInBounds_toArray, List.set_cons_zero, List.set_cons_succ]) (hCont (kA, lA, tA) _ ⟨hHeld, iA.out, fA.out, HBw.out⟩)
              · skip
                refine Kd.N_lit_step k78 (w0 := we1) we1.heap.size 78 ?hg (N' := 62) ?hd (xs := ([(⟨a0_2, a1_1, a1_0, a1_2, l1_3⟩ : S78)] : List S78)) (inner := [.int .i64 a0_2, .int .i64 a1_1, .int .i64 a1_0, .int .i64 a1_2, .slice A1_3 l1_3.length c1_3]) (ok := (fun k_ => (fun k_ => k_ < w.heap.size ∨ wr.heap.size ≤ k_) k_ ∧ some k_ ≠ (kA : Value).ownBlock)) (okp := fun k_ => k_ < w.heap.size) ?hr ?hp (fun k_ hk => ⟨.inl hk, fun he => by have := Kd.N_base gA.out k_ he.symm; have := HSr.out; omega⟩) ⟨.inr HBw.out.size, fun he => by have := Kd.N_lt gA.out _ he.symm; omega⟩ (Below.refl _ _) (Nat.le_refl _) (by simp) ?_
                (case hd => rfl)
                (case hg => rfl)
                (case hr => first | (go_simp; done) | (go_simp; rfl))
                (case hp => exact (Reps.none _ _).snoc (Kd.FK_below HEL.out HBw.out) rfl)
                intro tA we2 ho hb _ hnew_
                replace gA := am_ (Kd.N_below gA.out hb)
                have fA := am_ (Kd.N_lower ho HBw.out.size)
                replace HBw := am_ (below_step HBw.out hb)
                clear ho hb hnew_
                refine hK.out _ _ (hc_ HH) fun hHeld => ?_
                clear hK K
                refine norm_ (a' := ?_) ?_ ?_
                rotate_left
                · show Act.put _ (some 62) _ = _
                  simp only [Act.put, List.setIfInBounds_toArray, List.set_cons_zero, List.set_cons_succ, i64_w, i32_w]
                  rfl
                refine ox_ 3 50 fun K hK => ?_
                refine Kd.N_append_rows_step k78 (w0 := wr) wr.heap.size (by rfl) (.tmp 47) (.tmp 49) 31 78 (.agg #[(.int .i64 0), (.int .i64 0), (.int .i64 0), (.int .i64 0), (.slice none 0 0)]) 56 rfl Try.underlying31 info78 rfl (by decide) (by omega) kA [] l0_1 A0_1 l0_1.length c0_1 (fun k_ => k_ < w.heap.size ∨ wr.heap.size ≤ k_) (fun k_ => k_ < w.heap.size) rfl rfl ?aO ?aR (fun k_ hk => ⟨.inl hk, fun he => by have := Kd.N_base gA.out k_ he.symm; have := HSr.out; omega⟩) ?aF ?aB ?aS ?aL ?_
                (case aO => exact gA.out)
                (case aR => exact Kd.F_below HVL.out HBw.out)
                (case aF => exact fun k_ hk => .inr (Nat.le_trans HBw.out.size hk))
                (case aB => exact HBw.out)
                (case aS => exact HBw.out.size)
                (case aL => have := vA.out; simp only [List.length_nil]; omega)
                intro lA we3 ho hb hg_ hat_
                rw [List.nil_append] at ho
                have iA := am_ ho
                replace fA := am_ (Kd.N_afterv fA.out hg_ hat_)
                replace HBw := am_ hb
                clear ho hb hg_ hat_ gA
                refine hK.out _ _ (hc_ HH) fun hHeld => ?_
                clear hK K
                refine norm_ (a' := ?_) ?_ ?_
                rotate_left
                · show Act.put _ (some 50) _ = _
                  simp only [Act.put, List.setIfInBounds_toArray, List.set_cons_zero, List.set_cons_succ, i64_w, i32_w]
                  rfl
                exact norm_ (by simp only [putAll, Act.put, List.setIfInBounds_toArray, List.set_cons_zero, List.set_cons_succ]) (hCont (kA, lA, tA) _ ⟨hHeld, iA.out, fA.out, HBw.out⟩)
            · skip
              refine Kd.N_lit_step k78 (w0 := wr) wr.heap.size 78 ?hg (N' := 62) ?hd (xs := ([(⟨a0_2, a1_1, a1_0, a1_2, l1_3⟩ : S78)] : List S78)) (inner := [.int .i64 a0_2, .int .i64 a1_1, .int .i64 a1_0, .int .i64 a1_2, .slice A1_3 l1_3.length c1_3]) (ok := (fun k_ => k_ < w.heap.size ∨ wr.heap.size ≤ k_)) (okp := fun k_ => k_ < w.heap.size) ?hr ?hp (fun k_ hk => .inl hk) (.inr HBw.out.size) (Below.refl _ _) (Nat.le_refl _) (by simp) ?_
              (case hd => rfl)
              (case hg => rfl)
              (case hr => first | (go_simp; done) | (go_simp; rfl))
              (case hp => exact (Reps.none _ _).snoc (Kd.FK_below HEL.out HBw.out) rfl)
              intro tA we1 ho hb _ hnew_
              have fA := am_ (Kd.N_lower ho HBw.out.size)
              replace HBw := am_ (below_step HBw.out hb)
              clear ho hb hnew_
              refine hK.out _ _ (hc_ HH) fun hHeld => ?_
              clear hK K
              refine norm_ (a' := ?_) ?_ ?_
              rotate_left
              · show Act.put _ (some 62) _ = _
                simp only [Act.put, List.setIfInBounds_toArray, List.set_cons_zero, List.set_cons_succ, i64_w, i32_w]
                rfl
              refine ox_ 0 47 fun K hK => ?_
              refine Kd.N_lit_step k78 (w0 := we1) we1.heap.size 78 ?hg (N' := 47) ?hd (xs := ([] : List S78)) (inner := []) (ok := (fun k_ => k_ < w.heap.size ∨ wr.heap.size ≤ k_)) (okp := fun _ => False) ?hr ?hp (fun _ hk => hk.elim) (.inr HBw.out.size) (Below.refl _ _) (Nat.le_refl _) (by simp) ?_
              (case hd => rfl)
              (case hg => rfl)
              (case hr => first | (go_simp; done) | (go_simp; rfl))
              (case hp => exact (Reps.none _ _))
              intro kA we2 ho hb _ hnew_
              replace fA := am_ (Kd.N_elder' fA.out (Kd.N_base ho) hb)
              have gA := am_ (Kd.N_lower ho HBw.out.size)
              replace HBw := am_ (below_step HBw.out hb)
              clear ho hb hnew_
              refine hK.out _ _ (hc_ HH) fun hHeld => ?_
              clear hK K
              refine norm_ (a' := ?_) ?_ ?_
              rotate_left
              · show Act.put _ (some 47) _ = _
                simp only [Act.put, List.setIfInBounds_toArray, List.set_cons_zero, List.set_cons_succ, i64_w, i32_w]
                rfl
              refine ox_ 3 50 fun K hK => ?_
              refine Kd.N_append_rows_step k78 (w0 := wr) wr.heap.size (by rfl) (.tmp 47) (.tmp 49) 31 78 (.agg #[(.int .i64 0), (.int .i64 0), (.int .i64 0), (.int .i64 0), (.slice none 0 0)]) 56 rfl Try.underlying31 info78 rfl (by decide) (by omega) kA [] l0_1 A0_1 l0_1.length c0_1 (fun k_ => k_ < w.heap.size ∨ wr.heap.size ≤ k_) (fun k_ => k_ < w.heap.size) rfl rfl ?aO ?aR (fun k_ hk => ⟨.inl hk, fun he => by have := Kd.N_base gA.out k_ he.symm; have := HSr.out; omega⟩) ?aF ?aB ?aS ?aL ?_
              (case aO => exact gA.out)
              (case aR => exact Kd.F_below HVL.out HBw.out)
              (case aF => exact fun k_ hk => .inr (Nat.le_trans HBw.out.size hk))
              (case aB => exact HBw.out)
              (case aS => exact HBw.out.size)
              (case aL => have := vA.out; simp only [List.length_nil]; omega)
              intro lA we3 ho hb hg_ hat_
              rw [List.nil_append] at ho
              have iA := am_ ho
              replace fA := am_ (Kd.N_afterv fA.out hg_ hat_)
              replace HBw := am_ hb
              clear ho hb hg_ hat_ gA
              refine hK.out _ _ (hc_ HH) fun hHeld => ?_
              clear hK K
              refine norm_ (a' := ?_) ?_ ?_
              rotate_left
              · show Act.put _ (some 50) _ = _
                simp only [Act.put, List.setIfInBounds_toArray, List.set_cons_zero, List.set_cons_succ, i64_w, i32_w]
                rfl
              exact norm_ (by simp only [putAll, Act.put, List.setIfInBounds_toArray, List.set_cons_zero, List.set_cons_succ]) (hCont (kA, lA, tA) _ ⟨hHeld, iA.out, fA.out, HBw.out⟩)
          rintro ⟨kA, lA, tA⟩ we ⟨hS_, h0_, h1_, h2_⟩
          have iA := am_ h0_
          have fA := am_ h1_
          have HBe := am_ h2_
          have hHeld := hS_
          clear h0_ h1_ h2_ hS_ HBw
          refine norm_ (a' := ?_) ?_ ?_
          rotate_left
          · simp only [putAll, Act.put, List.setIfInBounds_toArray, List.set_cons_zero, List.set_cons_succ]
            rfl
          obtain ⟨iB, jB, kB⟩ := Kd.N_slice fA.out
          subst kB
          refine ox_ 16 63 fun K hK => ?_
          refine Kd.N_append_rows_step k78 (w0 := wr) wr.heap.size (by rfl) (.tmp 50) (.tmp 62) 31 78 (.agg #[(.int .i64 0), (.int .i64 0), (.int .i64 0), (.int .i64 0), (.slice none 0 0)]) 56 rfl Try.underlying31 info78 rfl (by decide) (by omega) lA l0_1 [(⟨a0_2, a1_1, a1_0, a1_2, l1_3⟩ : S78)] iB _ jB (fun k_ => k_ < w.heap.size ∨ wr.heap.size ≤ k_) (fun k_ => (fun k_ => k_ < w.heap.size ∨ wr.heap.size ≤ k_) k_ ∧ some k_ ≠ lA.ownBlock) rfl rfl ?aO ?aR (fun _ hk => hk) ?aF ?aB ?aS ?aL ?_
          (case aO => exact iA.out)
          (case aR => exact Kd.N_F fA.out)
          (case aF => exact fun k_ hk => .inr (Nat.le_trans HBe.out.size hk))
          (case aB => exact HBe.out)
          (case aS => exact HBe.out.size)
          (case aL => have := vA.out; simp only [List.length_singleton]; omega)
          intro mB wf ho hb hg_ _
          rw [← HLN.out] at ho
          have wA := am_ ho
          have HBf := am_ hb
          clear ho hb hg_ iA fA HBe
          obtain ⟨eB, fB, lB⟩ := Kd.N_slice wA.out
          subst lB
          refine hK.out _ _ ⟨pw_cell_below HBf.out (blk_cell aA.out 1), pw_cell_below HBf.out (blk_cell aA.out 2), pw_cell_below HBf.out (blk_cell bA.out 0), pw_cell_below HBf.out (blk_cell bA.out 1), pw_cell_below HBf.out (blk_cell bA.out 2), pw_cell_below HBf.out (blk_cell bA.out 3)⟩ (fun hHeld => ?_)
          clear hK K
          refine norm_ (a' := ?_) ?_ ?_
          rotate_left
          · show Act.put _ (some 63) _ = _
            simp only [Act.put, List.setIfInBounds_toArray, List.set_cons_zero, List.set_cons_succ, i64_w, i32_w]
            rfl
          refine ox_ 17 64 fun K hK => ?_
          refine gs_ Try.func66 #[.slice eB lN.length fB] rfl ma_ ?_
          refine (impl_rebuild.calls eB fB lN q3 q4 q5 q6 _ (Kd.N_reads' wA.out).2.2 (Kd.N_reads' wA.out).2.1 AR.out).mono ?_
          rintro e_ wg ⟨v7, v8, rfl, h0_, h1_, hb⟩
          refine ⟨_, rfl, ?_⟩
          obtain ⟨A7, c7, e7_⟩ := Kd.S_slice h0_
          subst e7_
          obtain ⟨A8, c8, e8_⟩ := Kd.S_slice h1_
          subst e8_
          have HBg := am_ (below_step HBf.out hb)
          have oA := am_ (Kd.S_lower h0_ (Nat.le_trans HSr.out HBf.out.size))
          have pA := am_ (Kd.S_lower h1_ (Nat.le_trans HSr.out HBf.out.size))
          clear h0_ h1_ hb wA HBf
          refine hK.out _ _ ⟨pw_cell_below HBg.out (blk_cell aA.out 1), pw_cell_below HBg.out (blk_cell aA.out 2), pw_cell_below HBg.out (blk_cell bA.out 0), pw_cell_below HBg.out (blk_cell bA.out 1), pw_cell_below HBg.out (blk_cell bA.out 2), pw_cell_below HBg.out (blk_cell bA.out 3)⟩ (fun hHeld => ?_)
          clear hK K
          refine norm_ (a' := ?_) ?_ ?_
          rotate_left
          · show Act.put _ (some 64) _ = _
            simp only [Act.put, List.setIfInBounds_toArray, List.set_cons_zero, List.set_cons_succ, i64_w, i32_w]
            rfl
          refine px_ 18 46 ?_
          refine px_ 19 65 ?_
          refine px_ 20 66 ?_
          refine last_ (i := 21) (N := none) #[true, true, true, true, true, true, true, true, true, true, true, true, true, true, true, true, true, true, true, true, true, true] rfl rfl (by kernel_rfl) (by decide) (fun K hK => ?_)
          have BKg := am_ (blk_below aA.out HBg.out)
          obtain ⟨hcg_0, hcg_1, hcg_2, hfg_0, hfg_1, hfg_2⟩ := cf3_ BKg.out
          refine skip_ (w1 := ((wg.setCell ⟨eA, 0, none⟩ (.slice A7 q3.length c7)).setCell ⟨eA, 1, none⟩ (.slice A8 q4.length c8)).setCell ⟨eA, 2, none⟩ (.int .i64 q5)) (by rfl) rfl ?_ ?_
          · first | (go_simp; done) | (go_simp; rfl)
          refine hK.out _ _ ?_
          clear hK K
          refine done_ (by kernel_rfl) ?_
          obtain ⟨a1_, a2_, a3_, a4_⟩ := impl_AskPart_box (u0 := .slice A7 q3.length c7) (u1 := .slice A8 q4.length c8) (u2 := .int .i64 q5) oA.out pA.out BKg.out (by decide) (by decide) (below_step HB.out HBg.out) sA.out
          have bB := am_ (show ((((wg.setCell ⟨eA, 0, none⟩ (.slice A7 q3.length c7)).setCell ⟨eA, 1, none⟩ (.slice A8 q4.length c8)).setCell ⟨eA, 2, none⟩ (.int .i64 q5))).heap[hA]? = some (.cells #[.slice none 0 0, .slice none 0 0, .int .i64 0] 33 (0, 0)) from blk_far (blk_far (blk_far (blk_below dA.out HBg.out) N42.out _) N42.out _) N42.out _)
          go_wp2
          go_meet
          exact ⟨A7, c7, A8, c8, HE, ⟨a1_⟩, ⟨a2_⟩, ⟨a3_⟩, bB, ⟨a4_⟩⟩
      case rest =>
        clear HX aA bA dA HB
        obtain ⟨A7, c7, A8, c8, HE, oA, pA, aA, dA, HB⟩ := hcut
        obtain ⟨wb, rfl⟩ : ∃ wb : World, wb = wc := ⟨_, rfl⟩
        obtain ⟨rfl, rfl, rfl⟩ := HE.out
        obtain ⟨hcp_0, hcp_1, hcp_2, hfp_0, hfp_1, hfp_2⟩ := cf3_ aA.out
        obtain ⟨hcr_0, hcr_1, hcr_2, hfr_0, hfr_1, hfr_2⟩ := cf3_ dA.out
        go_wp2_with (first | ((with_reducible refine gate_store (t := 33) (p := 4) rfl ?_); refine store_event (t := 33) (p := 4) (v := ?vo_44) (w1 := (((wb.setCell ⟨hA, 0, none⟩ (.slice A7 r1.length c7)).setCell ⟨hA, 1, none⟩ (.slice A8 r2.length c8)).setCell ⟨hA, 2, none⟩ (.int .i64 r3))) ?hg ?ho ?hn ?hr ?_; (case ho => rfl); (case hg => rfl); (case hn => rfl); (case hr => first | (go_simp; done) | (go_simp; rfl)); intro w9 hw_; obtain ⟨a1_, a2_, a3_, a4_⟩ := impl_AskPart_box (u0 := .slice A7 r1.length c7) (u1 := .slice A8 r2.length c8) (u2 := .int .i64 r3) oA.out pA.out dA.out (by decide) (by decide) HB.out uA.out; rw [← hw_] at a1_ a2_ a3_ a4_; replace oA := am_ a1_; replace pA := am_ a2_; replace dA := am_ a3_; replace HB := am_ a4_; clear a1_ a2_ a3_ a4_ hw_))
        refine bodyPost_ret (results_list (rs := [.cell 4 33, .tmp 5, .tmp 6, .tmp 7]) rfl (by simp) (.cell hA 33 #[.slice A7 r1.length c7, .slice A8 r2.length c8, .int .i64 r3] (0, 0) _ rfl dA.out Try.underlying33 rfl (by kernel_rfl) (.tmp (.tmp (.tmp .nil))))) rfl ?_
        exact ⟨_, _, er_, oA.out, pA.out, HB.out⟩



/-! ### laws_eqAsk: function 33 -/
def laws_eqAsk.f (k : Nat) (a0_0 : Int) (a0_1 : Int) (a0_2 : Int) (l0_3 : List ByteArray) (a1_0 : Int) (a1_1 : Int) (a1_2 : Int) (l1_3 : List ByteArray) : Option (Bool) := if a0_0 = a1_0 then (if a0_1 = a1_1 then (if a0_2 = a1_2 then ((laws_eqStringS.f k l0_3 l1_3).bind fun t390 => (if t390 = true then (some true) else (some false))) else (some false)) else (some false)) else (some false)
theorem laws_eqAsk.mono : ∀ a0 a1 a2 a3 a4 a5 a6 a7 k, LeO (laws_eqAsk.f k a0 a1 a2 a3 a4 a5 a6 a7) (laws_eqAsk.f (k + 1) a0 a1 a2 a3 a4 a5 a6 a7) := by
 intro a0 a1 a2 a3 a4 a5 a6 a7 k
 unfold laws_eqAsk.f
 repeat' first
   | (with_reducible first | apply laws_eqStringS.mono | exact LeO.refl _ | exact LeO.none _ | refine LeO.ite ?_ ?_ | refine LeO.bind ?_ (fun _ => ?_))
set_option maxHeartbeats 8000000 in
set_option maxRecDepth 100000 in
theorem laws_eqAsk.calls (k : Nat) (a0_0 : Int) (a0_1 : Int) (a0_2 : Int) (A0_3 : Option Addr) (c0_3 : Nat) (l0_3 : List ByteArray) (a1_0 : Int) (a1_1 : Int) (a1_2 : Int) (A1_3 : Option Addr) (c1_3 : Nat) (l1_3 : List ByteArray) (r : Bool) (w : World) (hr0_3 : Kd.C Kd.string w A0_3 l0_3.length l0_3) (hc0_3 : l0_3.length ≤ c0_3) (hr1_3 : Kd.C Kd.string w A1_3 l1_3.length l1_3) (hc1_3 : l1_3.length ≤ c1_3) (h : laws_eqAsk.f k a0_0 a0_1 a0_2 l0_3 a1_0 a1_1 a1_2 l1_3 = some r) :
  Calls Try.prog 33 #[.agg #[.int .i64 a0_0, .int .i64 a0_1, .int .i64 a0_2, .slice A0_3 l0_3.length c0_3], .agg #[.int .i64 a1_0, .int .i64 a1_1, .int .i64 a1_2, .slice A1_3 l1_3.length c1_3]] w fun e w' => e = .returned (.bool r) ∧ Below w.heap.size w w' := by
 have hu57 := Try.underlying57
 have iA := am_ hr0_3
 have jA := am_ hc0_3
 clear hr0_3 hc0_3
 have kA := am_ hr1_3
 have lA := am_ hc1_3
 clear hr1_3 hc1_3
 have HB := am_ (Below.refl w.heap.size w)
 have H : (if a0_0 = a1_0 then (if a0_1 = a1_1 then (if a0_2 = a1_2 then ((laws_eqStringS.f k l0_3 l1_3).bind fun mA => (if mA = true then (some true) else (some false))) else (some false)) else (some false)) else (some false)) = some r := h
 clear h
 replace H := ite_ H
 obtain ⟨c3, H⟩ | ⟨c3, H⟩ := H
 rotate_left
 ·have rD : (a0_0 == a1_0) = false := beq_eq_false_iff_ne.mpr c3
  have sD : (a0_0 != a1_0) = true := bne_iff_ne.mpr c3
  obtain rfl := Option.some.inj H
  go_enter Try.func33, Try.ntmps33
  go_wp2_with (first | ((with_reducible refine gate_dst (N := 2) rfl ?_); refine bq_ (N := 2) #[.int .i64 a0_0, .int .i64 a0_1, .int .i64 a0_2, .slice A0_3 l0_3.length c0_3] 57 ?_; intro gA hg hE aA hb; have dA := ge_ hg; replace HB := nb_ hb; clear hb hg) | ((with_reducible refine gate_dst (N := 3) rfl ?_); refine bq_ (N := 3) #[.int .i64 a1_0, .int .i64 a1_1, .int .i64 a1_2, .slice A1_3 l1_3.length c1_3] 57 ?_; intro hA hg iE eA hb; have fA := ge1_ hg dA; replace HB := nc_ dA hb; have bA := nl_ aA hg; have cA := ng_ aA hg; replace aA := bK_ aA hb; clear hb hg; have xD := bA.out; have yD := cA.out; obtain ⟨nA, oA, pA, qA, rA, sA, tA, uA⟩ := cf4_ aA.out; obtain ⟨vA, wA, xA, yA, zA, bB, cB, dB⟩ := cf4_ eA.out))
  go_ret
  exact ⟨er_, hs2_ dA.out fA.out⟩
 have rD : (a0_0 == a1_0) = true := beq_iff_eq.mpr c3
 have sD : (a0_0 != a1_0) = false := bne_eq_false_iff_eq.mpr c3
 clear c3
 replace H := ite_ H
 obtain ⟨c4, H⟩ | ⟨c4, H⟩ := H
 rotate_left
 ·have tD : (a0_1 == a1_1) = false := beq_eq_false_iff_ne.mpr c4
  have uD : (a0_1 != a1_1) = true := bne_iff_ne.mpr c4
  obtain rfl := Option.some.inj H
  go_enter Try.func33, Try.ntmps33
  go_wp2_with (first | ((with_reducible refine gate_dst (N := 2) rfl ?_); refine bq_ (N := 2) #[.int .i64 a0_0, .int .i64 a0_1, .int .i64 a0_2, .slice A0_3 l0_3.length c0_3] 57 ?_; intro gA hg jE aA hb; have dA := ge_ hg; replace HB := nb_ hb; clear hb hg) | ((with_reducible refine gate_dst (N := 3) rfl ?_); refine bq_ (N := 3) #[.int .i64 a1_0, .int .i64 a1_1, .int .i64 a1_2, .slice A1_3 l1_3.length c1_3] 57 ?_; intro hA hg kE eA hb; have fA := ge1_ hg dA; replace HB := nc_ dA hb; have bA := nl_ aA hg; have cA := ng_ aA hg; replace aA := bK_ aA hb; clear hb hg; have zD := bA.out; have aE := cA.out; obtain ⟨eB, fB, gB, iB, jB, kB, lB, mB⟩ := cf4_ aA.out; obtain ⟨nB, oB, pB, qB, rB, sB, tB, uB⟩ := cf4_ eA.out))
  go_ret
  exact ⟨er_, hs2_ dA.out fA.out⟩
 have tD : (a0_1 == a1_1) = true := beq_iff_eq.mpr c4
 have uD : (a0_1 != a1_1) = false := bne_eq_false_iff_eq.mpr c4
 clear c4
 replace H := ite_ H
 obtain ⟨c5, H⟩ | ⟨c5, H⟩ := H
 rotate_left
 ·have vD : (a0_2 == a1_2) = false := beq_eq_false_iff_ne.mpr c5
  have wD : (a0_2 != a1_2) = true := bne_iff_ne.mpr c5
  obtain rfl := Option.some.inj H
  go_enter Try.func33, Try.ntmps33
  go_wp2_with (first | ((with_reducible refine gate_dst (N := 2) rfl ?_); refine bq_ (N := 2) #[.int .i64 a0_0, .int .i64 a0_1, .int .i64 a0_2, .slice A0_3 l0_3.length c0_3] 57 ?_; intro gA hg lE aA hb; have dA := ge_ hg; replace HB := nb_ hb; clear hb hg) | ((with_reducible refine gate_dst (N := 3) rfl ?_); refine bq_ (N := 3) #[.int .i64 a1_0, .int .i64 a1_1, .int .i64 a1_2, .slice A1_3 l1_3.length c1_3] 57 ?_; intro hA hg mE eA hb; have fA := ge1_ hg dA; replace HB := nc_ dA hb; have bA := nl_ aA hg; have cA := ng_ aA hg; replace aA := bK_ aA hb; clear hb hg; have bE := bA.out; have cE := cA.out; obtain ⟨vB, wB, xB, yB, zB, aC, bC, cC⟩ := cf4_ aA.out; obtain ⟨dC, eC, fC, gC, hC, iC, jC, kC⟩ := cf4_ eA.out))
  go_ret
  exact ⟨er_, hs2_ dA.out fA.out⟩
 have vD : (a0_2 == a1_2) = true := beq_iff_eq.mpr c5
 have wD : (a0_2 != a1_2) = false := bne_eq_false_iff_eq.mpr c5
 clear c5
 replace H := bnd_ H
 obtain ⟨mA, A6, H⟩ := H
 replace H := ifb_ H
 obtain ⟨rfl, H⟩ | ⟨rfl, H⟩ := H
 ·obtain rfl := Option.some.inj H
  go_enter Try.func33, Try.ntmps33
  go_wp2_with (first | ((with_reducible refine gate_dst (N := 2) rfl ?_); refine bq_ (N := 2) #[.int .i64 a0_0, .int .i64 a0_1, .int .i64 a0_2, .slice A0_3 l0_3.length c0_3] 57 ?_; intro gA hg w8 aA hb; have dA := ge_ hg; replace HB := nb_ hb; clear hb hg) | ((with_reducible refine gate_dst (N := 3) rfl ?_); refine bq_ (N := 3) #[.int .i64 a1_0, .int .i64 a1_1, .int .i64 a1_2, .slice A1_3 l1_3.length c1_3] 57 ?_; intro hA hg w9 eA hb; have fA := ge1_ hg dA; replace HB := nc_ dA hb; have bA := nl_ aA hg; have cA := ng_ aA hg; replace aA := bK_ aA hb; clear hb hg; have dE := bA.out; have eE := cA.out; obtain ⟨lC, mC, nC, oC, pC, qC, rC, sC⟩ := cf4_ aA.out; obtain ⟨tC, uC, vC, wC, xC, yC, zC, aD⟩ := cf4_ eA.out) | ((with_reducible refine gate_callee (f := 14) rfl ?_); refine gl_ 24 Try.func14 #[.slice A0_3 l0_3.length c0_3, .slice A1_3 l1_3.length c1_3] rfl ma_ ?_; (with_reducible refine (laws_eqStringS.calls k _ _ l0_3 _ _ l1_3 true _ ?side1 ?side2 ?side3 ?side4 A6.out).mono ?_); (case side1 => exact cs_ ((Kd.C_below iA.out HB.out))); (case side2 => exact jA.out); (case side3 => exact cs_ ((Kd.C_below kA.out HB.out))); (case side4 => exact lA.out); rintro e w' ⟨rfl, ⟨nd, rfl⟩⟩; refine ⟨_, rfl, ?_⟩))
  go_ret
  exact ⟨er_, hs2_ dA.out fA.out⟩
 obtain rfl := Option.some.inj H
 go_enter Try.func33, Try.ntmps33
 go_wp2_with (first | ((with_reducible refine gate_dst (N := 2) rfl ?_); refine bq_ (N := 2) #[.int .i64 a0_0, .int .i64 a0_1, .int .i64 a0_2, .slice A0_3 l0_3.length c0_3] 57 ?_; intro gA hg nE aA hb; have dA := ge_ hg; replace HB := nb_ hb; clear hb hg) | ((with_reducible refine gate_dst (N := 3) rfl ?_); refine bq_ (N := 3) #[.int .i64 a1_0, .int .i64 a1_1, .int .i64 a1_2, .slice A1_3 l1_3.length c1_3] 57 ?_; intro hA hg oE eA hb; have fA := ge1_ hg dA; replace HB := nc_ dA hb; have bA := nl_ aA hg; have cA := ng_ aA hg; replace aA := bK_ aA hb; clear hb hg; have fE := bA.out; have gE := cA.out; obtain ⟨bD, cD, dD, eD, fD, gD, hD, iD⟩ := cf4_ aA.out; obtain ⟨jD, kD, lD, mD, nD, oD, pD, qD⟩ := cf4_ eA.out) | ((with_reducible refine gate_callee (f := 14) rfl ?_); refine gl_ 24 Try.func14 #[.slice A0_3 l0_3.length c0_3, .slice A1_3 l1_3.length c1_3] rfl ma_ ?_; (with_reducible refine (laws_eqStringS.calls k _ _ l0_3 _ _ l1_3 false _ ?side1 ?side2 ?side3 ?side4 A6.out).mono ?_); (case side1 => exact cs_ ((Kd.C_below iA.out HB.out))); (case side2 => exact jA.out); (case side3 => exact cs_ ((Kd.C_below kA.out HB.out))); (case side4 => exact lA.out); rintro e w' ⟨rfl, ⟨nd, rfl⟩⟩; refine ⟨_, rfl, ?_⟩))
 go_ret
 exact ⟨er_, hs2_ dA.out fA.out⟩

/-! ### laws_markAsk: function 34 -/
def laws_markAsk.f (k : Nat) (a0_0 : Int) (a0_1 : Int) (a0_2 : Int) (l0_3 : List ByteArray) (a1 : Int) : Option (Int × List ByteArray) := (laws_markStringS.f k l0_3 a1).bind fun bt392 => (some (bt392.1, bt392.2))
theorem laws_markAsk.mono : ∀ a0 a1 a2 a3 a4 k, LeO (laws_markAsk.f k a0 a1 a2 a3 a4) (laws_markAsk.f (k + 1) a0 a1 a2 a3 a4) := by
 intro a0 a1 a2 a3 a4 k
 unfold laws_markAsk.f
 repeat' first
   | (with_reducible first | apply laws_markStringS.mono | exact LeO.refl _ | exact LeO.none _ | refine LeO.ite ?_ ?_ | refine LeO.bind ?_ (fun _ => ?_))
set_option maxHeartbeats 8000000 in
set_option maxRecDepth 100000 in
theorem laws_markAsk.calls (k : Nat) (a0_0 : Int) (a0_1 : Int) (a0_2 : Int) (P0_3_ : Nat → Prop) (u9000_ : Value) (l0_3 : List ByteArray) (a1 : Int) (r1 : Int) (r2 : List ByteArray) (w0 w : World) (hB : Below w0.heap.size w0 w) (ho0_3 : Kd.R Kd.string 9 w w0.heap.size P0_3_ u9000_ l0_3) (h : laws_markAsk.f k a0_0 a0_1 a0_2 l0_3 a1 = some (r1, r2)) :
  Calls Try.prog 34 #[.agg #[.int .i64 a0_0, .int .i64 a0_1, .int .i64 a0_2, u9000_], .int .i64 a1] w fun e w' => e = .returned (.int .i64 r1) ∧ Kd.R Kd.string 9 w' w0.heap.size (fun k_ => (P0_3_ k_ ∨ w.heap.size ≤ k_)) u9000_ r2 ∧ Below w0.heap.size w0 w' ∧ Kept w w' (fun k_ => P0_3_ k_) := by
 have hu57 := Try.underlying57
 have aA := am_ (show Kd.R Kd.string 9 w w0.heap.size (fun k_ => (P0_3_ k_ ∨ w.heap.size ≤ k_)) u9000_ l0_3 from Kd.R_mono ho0_3 (fun k_ hk => (.inl hk)))
 have HK := am_ (Kept.refl w (fun k_ => P0_3_ k_))
 have uA := am_ hB.size
 have HB := am_ hB
 clear hB
 have H : ((laws_markStringS.f k l0_3 a1).bind fun cA => (some (cA.1, cA.2))) = some (r1, r2) := h
 clear h
 replace H := bnd_ H
 obtain ⟨⟨iA, jA⟩, A3, H⟩ := H
 replace H := red_ H
 simp only [Option.some.injEq, Prod.mk.injEq] at H
 obtain ⟨rfl, rfl⟩ := H
 obtain ⟨gA, hA, tA⟩ := Kd.R_slice aA.out
 subst tA
 go_enter Try.func34, Try.ntmps34
 go_wp2_with (first | ((with_reducible refine gate_dst (N := 2) rfl ?_); refine bq_ (N := 2) #[.int .i64 a0_0, .int .i64 a0_1, .int .i64 a0_2, .slice gA l0_3.length hA] 57 ?_; intro dA hg w5 bA hb; replace aA := rB_ aA hb; have eA := am_ ((by rw [hg]; exact (by first | exact HK.out.1 | exact (show Kept w _ (fun k_ => P0_3_ k_) from by repeat (first | (with_reducible first | exact HK.out | apply Kept.alloc | apply Kept.drewN | apply Kept.drew) | exact HK.out)).1) : w.heap.size ≤ dA)); replace HK := am_ (Kept.below (S := (fun k_ => P0_3_ k_)) (by repeat (first | (with_reducible first | exact HK.out | apply Kept.alloc | apply Kept.drewN | apply Kept.drew) | exact HK.out)) hb); have fA := am_ ((by rw [hg]; exact (below_size (hb_)) : w0.heap.size ≤ dA)); replace HB := nb_ hb; clear hb hg; obtain ⟨kA, lA, mA, nA, oA, pA, qA, rA⟩ := cf4_ bA.out) | ((with_reducible refine gate_callee (f := 17) rfl ?_); refine gl_ 8 Try.func17 #[.slice gA l0_3.length hA, .int .i64 a1] rfl ma_ ?_; (with_reducible refine (laws_markStringS.calls k (fun k_ => some k_ = (.slice gA l0_3.length hA : Value).ownBlock) (.slice gA l0_3.length hA) l0_3 a1 iA jA w0 _ ?side1 ?side2 A3.out).mono ?_); (case side1 => exact hs_ fA.out); (case side2 => exact Kd.R_tight rfl aA.out); rintro e w7 ⟨rfl, sA, hb, hkp⟩; refine ⟨_, rfl, ?_⟩; replace bA := am_ (blk_kept (kb_ bA.out) hkp (fun hs_ => (fun e_ => (Kd.R_ne aA.out bA.out (by decide)) e_) hs_)); replace HK := am_ (Kept.then_ (S := (fun k_ => P0_3_ k_)) (by repeat (first | (with_reducible first | exact HK.out | apply Kept.alloc | apply Kept.drewN | apply Kept.drew | refine Kept.setCell ?_ (.inr eA.out) _) | exact HK.out)) hkp (fun k_ hs_ => (fun e_ => (aA.out.1 k_ e_.symm)) hs_)); replace aA := am_ (Kd.R_reok rfl sA (fun k_ e_ => aA.out.1 k_ e_)); replace HB := am_ (hb); (try clear hb); (try clear hkp); (try clear sA)))
 go_ret
 exact ⟨er_, kr_ aA.out, hs_ fA.out, by repeat (first | (with_reducible first | exact HK.out | apply Kept.alloc | apply Kept.drewN | apply Kept.drew | refine Kept.setCell ?_ (.inr eA.out) _) | exact HK.out)⟩
end Go.Proofs.Ytojdaolclcmalaa.QFnExactAskPart
