/- Functions that one statement reaches: of each a plain function, and the proof that calls come to it. Conditions: those that each contract names. Written by a program of this repository. -/
import Derived.Test.YtojdaolclcmalaaVPlayAsksa
import Derived.Test.YtojdaolclcmalaaQFnExactPlayAsksx2
import Derived.Test.YtojdaolclcmalaaQFnExactPlayAsksx12
import Derived.Test.YtojdaolclcmalaaQFnExactPlayAsksx13
import Derived.Test.YtojdaolclcmalaaQFnExactPlayAsksx14
import Derived.Test.YtojdaolclcmalaaQFnExactPlayAsksx15
namespace Go.Proofs.YtojdaolclcmalaaW.PrintWords
open Go.RowKit
namespace Kd
theorem heap_int (k : IntKind) : Heap (Kd.int k) := ⟨fun _ h => h⟩
theorem heap_slice {α : Type} {d : Kd α} (e : Nat) (hd : Heap d) : Heap (slice e d) := ⟨by
  rintro w w1 x cs hb ⟨A, c, rfl, hl, hr⟩
  exact ⟨A, c, rfl, hl, hd.C hb hr⟩⟩
theorem heap_pair {α β : Type} {a : Kd α} {b : Kd β} (ha : Heap a) (hb' : Heap b) : Heap (pair a b) := ⟨by
  rintro w w1 x cs hb ⟨c0, c1, rfl, h0, h1⟩
  exact ⟨c0, c1, rfl, ha.K hb h0, hb'.K hb h1⟩⟩
theorem heap_iso {α β : Type} {d : Kd α} (f : β → α) (hd : Heap d) : Heap (iso d f) := ⟨fun hb h => hd.K hb h⟩
end Kd
end Go.Proofs.YtojdaolclcmalaaW.PrintWords
namespace Go.Proofs.Ytojdaolclcmalaa.QFnExactPlayAsks
open Go.RowKit Go.Proofs.YtojdaolclcmalaaW.PrintWords Go.Proofs.YtojdaolclcmalaaW.PrintLast Go.Proofs.YtojdaolclcmalaaW.PrintMore
attribute [local go_sem] max2_int min2_int max_two min_two max_three min_three max_four min_four Go.Proofs.YtojdaolclcmalaaW.PrintMore2.isSome_setCell   -- for this text's walks alone
set_option linter.unusedVariables false
set_option linter.unusedSimpArgs false

theorem k78_heap : Kd.Heap k78 := Kd.heap_iso _ (Kd.heap_pair (Kd.heap_int .i64) (Kd.heap_pair (Kd.heap_int .i64) (Kd.heap_pair (Kd.heap_int .i64) (Kd.heap_pair (Kd.heap_int .i64) (Kd.heap_slice 9 Kd.heap_string)))))
/-! ### impl_AskPart: function 32 -/
theorem impl_AskPart_box {w0 w : World} {e0 e1 base g t : Nat} {z0 z1 z2 u0 u1 u2 v0 v1 : Value} {ok0 ok1 : Nat → Prop} {r1 : List S81} {r2 : List S78} (h0 : Kd.S k81 e0 w base ok0 v0 r1) (h1 : Kd.S k78 e1 w base ok1 v1 r2) (hbox : w.heap[g]? = some (.cells #[z0, z1, z2] t (0, 0))) (t0 : ∀ q, q ∈ e0 :: (k81).E → q ≠ t) (t1 : ∀ q, q ∈ e1 :: (k78).E → q ≠ t) (hb : Below w0.heap.size w0 w) (hg : w0.heap.size ≤ g) :
  Kd.S k81 e0 (((w.setCell ⟨g, 0, none⟩ u0).setCell ⟨g, 1, none⟩ u1).setCell ⟨g, 2, none⟩ u2) base ok0 v0 r1 ∧ Kd.S k78 e1 (((w.setCell ⟨g, 0, none⟩ u0).setCell ⟨g, 1, none⟩ u1).setCell ⟨g, 2, none⟩ u2) base ok1 v1 r2 ∧
   (((w.setCell ⟨g, 0, none⟩ u0).setCell ⟨g, 1, none⟩ u1).setCell ⟨g, 2, none⟩ u2).heap[g]? = some (.cells #[u0, u1, u2] t (0, 0)) ∧ Below w0.heap.size w0 (((w.setCell ⟨g, 0, none⟩ u0).setCell ⟨g, 1, none⟩ u1).setCell ⟨g, 2, none⟩ u2) := by
 have b1 := blk_put (cs := #[z0, z1, z2]) hbox 0 u0 rfl
 have b2 := blk_put (cs := #[u0, z1, z2]) b1 1 u1 rfl
 have b3 := blk_put (cs := #[u0, u1, z2]) b2 2 u2 rfl
 exact ⟨Kd.S_set (Kd.S_set (Kd.S_set h0 hbox t0 0 _) b1 t0 1 _) b2 t0 2 _, Kd.S_set (Kd.S_set (Kd.S_set h1 hbox t1 0 _) b1 t1 1 _) b2 t1 2 _, b3, below_set (below_set (below_set hb hg) hg) hg⟩
def impl_AskPart.g (k : Nat) (x : Bool) (l0_0 : List S81) (l0_1 : List S78) (a0_2 : Int) (a1_0 : Int) (a1_1 : Int) (a1_2 : Int) (l1_3 : List ByteArray) : Option (List S81 × List S78 × Int × Int × Int × Bool) :=
 if x = true then some ([], [], 0, 0, 0, false) else (impl_Part_codeOf.f k l0_0 l0_1 a0_2 a1_0 a1_1 a1_2 l1_3).bind fun c => if c.1 = 0 then (if l0_1.length < 1000000 then (impl_rebuild.f (l0_1 ++ [(⟨a0_2, a1_1, a1_0, a1_2, l1_3⟩ : S78)])).bind fun t => some (t.1, t.2.1, t.2.2.1, c.1, c.2, true) else none) else (impl_rebuild.f l0_1).bind fun t => some (t.1, t.2.1, t.2.2.1, c.1, c.2, true)
def impl_AskPart.f (k : Nat) (l0_0 : List S81) (l0_1 : List S78) (a0_2 : Int) (a1_0 : Int) (a1_1 : Int) (a1_2 : Int) (l1_3 : List ByteArray) : Option (List S81 × List S78 × Int × Int × Int × Bool) :=
 (impl_isPart.f k l0_0 l0_1 a0_2).bind fun t1 => if t1 = true then ((impl_in.f a1_0 0 65535).bind fun t2 => if t2 = true then ((impl_in.f a1_1 0 1000).bind fun t3 => if t3 = true then ((impl_in.f a1_2 0 65535).bind fun t4 => if t4 = true then ((impl_areRecords.f l1_3).bind fun t5 => impl_AskPart.g k (!t5) l0_0 l0_1 a0_2 a1_0 a1_1 a1_2 l1_3) else impl_AskPart.g k true l0_0 l0_1 a0_2 a1_0 a1_1 a1_2 l1_3) else impl_AskPart.g k true l0_0 l0_1 a0_2 a1_0 a1_1 a1_2 l1_3) else impl_AskPart.g k true l0_0 l0_1 a0_2 a1_0 a1_1 a1_2 l1_3) else impl_AskPart.g k true l0_0 l0_1 a0_2 a1_0 a1_1 a1_2 l1_3
theorem impl_AskPart.mono_g (k : Nat) (x : Bool) (l0_0 : List S81) (l0_1 : List S78) (a0_2 : Int) (a1_0 : Int) (a1_1 : Int) (a1_2 : Int) (l1_3 : List ByteArray) : LeO (impl_AskPart.g k x l0_0 l0_1 a0_2 a1_0 a1_1 a1_2 l1_3) (impl_AskPart.g (k + 1) x l0_0 l0_1 a0_2 a1_0 a1_1 a1_2 l1_3) := by
 have ih : ∀ _ : Unit, True := fun _ => trivial
 unfold impl_AskPart.g
 repeat' first
   | (with_reducible first | apply impl_Part_codeOf.mono | apply impl_isPart.mono | exact ih _ | exact LeO.refl _ | refine LeO.ite ?_ ?_ | refine LeO.bind ?_ (fun _ => ?_))
theorem impl_AskPart.mono : ∀ a0 a1 a2 a3 a4 a5 a6 k, LeO (impl_AskPart.f k a0 a1 a2 a3 a4 a5 a6) (impl_AskPart.f (k + 1) a0 a1 a2 a3 a4 a5 a6) := by
 intro a0 a1 a2 a3 a4 a5 a6 k
 have ih := fun x => impl_AskPart.mono_g k x a0 a1 a2 a3 a4 a5 a6
 unfold impl_AskPart.f
 repeat' first
   | (with_reducible first | apply impl_Part_codeOf.mono | apply impl_isPart.mono | exact ih _ | exact LeO.refl _ | refine LeO.ite ?_ ?_ | refine LeO.bind ?_ (fun _ => ?_))
set_option maxHeartbeats 8000000 in
set_option maxRecDepth 100000 in
theorem impl_AskPart.calls (k : Nat) (A0_0 : Option Addr) (c0_0 : Nat) (l0_0 : List S81) (A0_1 : Option Addr) (c0_1 : Nat) (l0_1 : List S78) (a0_2 : Int) (a1_0 : Int) (a1_1 : Int) (a1_2 : Int) (A1_3 : Option Addr) (c1_3 : Nat) (l1_3 : List ByteArray) (r1 : List S81) (r2 : List S78) (r3 : Int) (r4 : Int) (r5 : Int) (r6 : Bool) (w : World) (hr0_0 : Kd.C k81 w A0_0 l0_0.length l0_0) (hc0_0 : l0_0.length ≤ c0_0) (hr0_1 : Kd.C k78 w A0_1 l0_1.length l0_1) (hc0_1 : l0_1.length ≤ c0_1) (hr1_3 : Kd.C Kd.string w A1_3 l1_3.length l1_3) (hc1_3 : l1_3.length ≤ c1_3) (h : impl_AskPart.f k l0_0 l0_1 a0_2 a1_0 a1_1 a1_2 l1_3 = some (r1, r2, r3, r4, r5, r6)) :
    Calls Try.prog 32 #[.agg #[.slice A0_0 l0_0.length c0_0, .slice A0_1 l0_1.length c0_1, .int .i64 a0_2], .agg #[.int .i64 a1_0, .int .i64 a1_1, .int .i64 a1_2, .slice A1_3 l1_3.length c1_3]] w fun e w' => ∃ v0_ v1_ : Value, e = .returned (.tuple #[.agg #[v0_, v1_, .int .i64 r3], .int .i64 r4, .int .i64 r5, .bool r6]) ∧ Kd.S k81 81 w' w.heap.size (fun _ => True) v0_ r1 ∧ Kd.S k78 78 w' w.heap.size (fun _ => True) v1_ r2 ∧ Below w.heap.size w w' := by
  have hu33 := Try.underlying33
  have hu57 := Try.underlying57
  have hu78 := Try.underlying78
  have HR0 := am_ hr0_0
  have HC0 := am_ hc0_0
  have HR1 := am_ hr0_1
  have HC1 := am_ hc0_1
  have HR3 := am_ hr1_3
  have HC3 := am_ hc1_3
  have HB := am_ (Below.refl w.heap.size w)
  unfold impl_AskPart.f at h
  have HH := am_ h
  clear hr0_0 hc0_0 hr0_1 hc0_1 hr1_3 hc1_3 h
  go_enter Try.func32, Try.ntmps32
  go_upto_region 1 with (first | ((with_reducible refine gate_dst (N := 2) rfl ?_); refine be_ (N := 2) #[.slice A0_0 l0_0.length c0_0, .slice A0_1 l0_1.length c0_1, .int .i64 a0_2] 33 ?_; intro gb2 hg w2 hbox hb; have BK2 := am_ hbox; have GE2 := ge_ hg; replace HB := nb_ hb; clear hb hbox hg) | ((with_reducible refine gate_dst (N := 3) rfl ?_); refine be_ (N := 3) #[.int .i64 a1_0, .int .i64 a1_1, .int .i64 a1_2, .slice A1_3 l1_3.length c1_3] 57 ?_; intro gb3 hg w3 hbox hb; have BK3 := am_ hbox; have GE3 := ge1_ hg GE2; replace HB := nc_ GE2 hb; have N23 := nl_ BK2 hg; replace BK2 := bK_ BK2 hb; clear hb hbox hg) | ((with_reducible refine gate_dst (N := 4) rfl ?_); refine be_ (N := 4) #[.slice none 0 0, .slice none 0 0, .int .i64 0] 33 ?_; intro gb4 hg w4 hbox hb; have BK4 := am_ hbox; have GE4 := ge2_ hg GE2 GE3; replace HB := nc2_ GE2 GE3 hb; have N24 := nl_ BK2 hg; have N42 := ng_ BK2 hg; replace BK2 := bK_ BK2 hb; replace BK3 := bK_ BK3 hb; clear hb hbox hg))
  (try simp only [Act.put, List.setIfInBounds_toArray, List.set_cons_zero, List.set_cons_succ])
  go_cut [36] (fun v36 wc => ∃ x : Bool, v36 = .bool x ∧ Aside0 (impl_AskPart.g k x l0_0 l0_1 a0_2 a1_0 a1_1 a1_2 l1_3 = some (r1, r2, r3, r4, r5, r6)) ∧ Aside0 (wc.heap[gb2]? = some (.cells #[.slice A0_0 l0_0.length c0_0, .slice A0_1 l0_1.length c0_1, .int .i64 a0_2] 33 (0, 0))) ∧ Aside0 (wc.heap[gb3]? = some (.cells #[.int .i64 a1_0, .int .i64 a1_1, .int .i64 a1_2, .slice A1_3 l1_3.length c1_3] 57 (0, 0))) ∧ Aside0 (wc.heap[gb4]? = some (.cells #[.slice none 0 0, .slice none 0 0, .int .i64 0] 33 (0, 0))) ∧ Aside0 (Below w.heap.size w wc))
  case first =>
    have H0 := HH.out
    clear HH
    obtain ⟨t1, A1, H1⟩ := bnd_ H0
    clear H0
    obtain ⟨rfl, H1x⟩ | ⟨rfl, H1x⟩ := ifb_ H1
    rotate_left
    · have HX := am_ H1x
      clear H1 H1x
      obtain ⟨hcp_0, hcp_1, hcp_2, hfp_0, hfp_1, hfp_2⟩ := cf3_ BK2.out
      obtain ⟨hca_0, hca_1, hca_2, hca_3, hfa_0, hfa_1, hfa_2, hfa_3⟩ := cf4_ BK3.out
      go_wp2_with (first | ((with_reducible refine gate_callee (f := 51) rfl ?_); refine gl_ 11 Try.func51 #[.agg #[.slice A0_0 l0_0.length c0_0, .slice A0_1 l0_1.length c0_1, .int .i64 a0_2]] rfl ma_ ?_; (with_reducible refine (impl_isPart.calls k A0_0 c0_0 l0_0 A0_1 c0_1 l0_1 a0_2 false _ (Kd.C_below HR0.out HB.out) HC0.out (Kd.C_below HR1.out HB.out) HC1.out A1.out).mono ?_); rintro e_ w6 ⟨rfl, hb6⟩; refine ⟨_, rfl, ?_⟩; replace BK2 := am_ (blk_below BK2.out hb6); replace BK3 := am_ (blk_below BK3.out hb6); replace BK4 := am_ (blk_below BK4.out hb6); replace HB := am_ (below_step HB.out hb6); clear hb6; clear hcp_0 hcp_1 hcp_2 hfp_0 hfp_1 hfp_2 hca_0 hca_1 hca_2 hca_3 hfa_0 hfa_1 hfa_2 hfa_3; obtain ⟨hca_0, hca_1, hca_2, hca_3, hfa_0, hfa_1, hfa_2, hfa_3⟩ := cf4_ BK3.out))
      go_meet
      exact ⟨_, er_, HX, ⟨by first | exact BK2.out | (repeat (first | refine blk_drewN ?_ _)); exact BK2.out⟩, ⟨by first | exact BK3.out | (repeat (first | refine blk_drewN ?_ _)); exact BK3.out⟩, ⟨by first | exact BK4.out | (repeat (first | refine blk_drewN ?_ _)); exact BK4.out⟩, ⟨by repeat (first | (with_reducible first | exact HB.out | apply pw_below_drewN) | exact HB.out)⟩⟩
    clear H1
    obtain ⟨t2, A2, H2⟩ := bnd_ H1x
    clear H1x
    obtain ⟨rfl, H2x⟩ | ⟨rfl, H2x⟩ := ifb_ H2
    rotate_left
    · have HX := am_ H2x
      clear H2 H2x
      obtain ⟨hcp_0, hcp_1, hcp_2, hfp_0, hfp_1, hfp_2⟩ := cf3_ BK2.out
      obtain ⟨hca_0, hca_1, hca_2, hca_3, hfa_0, hfa_1, hfa_2, hfa_3⟩ := cf4_ BK3.out
      go_wp2_with (first | ((with_reducible refine gate_callee (f := 51) rfl ?_); refine gl_ 11 Try.func51 #[.agg #[.slice A0_0 l0_0.length c0_0, .slice A0_1 l0_1.length c0_1, .int .i64 a0_2]] rfl ma_ ?_; (with_reducible refine (impl_isPart.calls k A0_0 c0_0 l0_0 A0_1 c0_1 l0_1 a0_2 true _ (Kd.C_below HR0.out HB.out) HC0.out (Kd.C_below HR1.out HB.out) HC1.out A1.out).mono ?_); rintro e_ w6 ⟨rfl, hb6⟩; refine ⟨_, rfl, ?_⟩; replace BK2 := am_ (blk_below BK2.out hb6); replace BK3 := am_ (blk_below BK3.out hb6); replace BK4 := am_ (blk_below BK4.out hb6); replace HB := am_ (below_step HB.out hb6); clear hb6; clear hcp_0 hcp_1 hcp_2 hfp_0 hfp_1 hfp_2 hca_0 hca_1 hca_2 hca_3 hfa_0 hfa_1 hfa_2 hfa_3; obtain ⟨hca_0, hca_1, hca_2, hca_3, hfa_0, hfa_1, hfa_2, hfa_3⟩ := cf4_ BK3.out) | (go_at_call 63; (with_reducible refine (impl_in.calls a1_0 0 65535 false _ A2.out).mono ?_); rintro e w' ⟨rfl, ⟨nd, rfl⟩⟩))
      go_meet
      exact ⟨_, er_, HX, ⟨by first | exact BK2.out | (repeat (first | refine blk_drewN ?_ _)); exact BK2.out⟩, ⟨by first | exact BK3.out | (repeat (first | refine blk_drewN ?_ _)); exact BK3.out⟩, ⟨by first | exact BK4.out | (repeat (first | refine blk_drewN ?_ _)); exact BK4.out⟩, ⟨by repeat (first | (with_reducible first | exact HB.out | apply pw_below_drewN) | exact HB.out)⟩⟩
    clear H2
    obtain ⟨t3, A3, H3⟩ := bnd_ H2x
    clear H2x
    obtain ⟨rfl, H3x⟩ | ⟨rfl, H3x⟩ := ifb_ H3
    rotate_left
    · have HX := am_ H3x
      clear H3 H3x
      obtain ⟨hcp_0, hcp_1, hcp_2, hfp_0, hfp_1, hfp_2⟩ := cf3_ BK2.out
      obtain ⟨hca_0, hca_1, hca_2, hca_3, hfa_0, hfa_1, hfa_2, hfa_3⟩ := cf4_ BK3.out
      go_wp2_with (first | ((with_reducible refine gate_callee (f := 51) rfl ?_); refine gl_ 11 Try.func51 #[.agg #[.slice A0_0 l0_0.length c0_0, .slice A0_1 l0_1.length c0_1, .int .i64 a0_2]] rfl ma_ ?_; (with_reducible refine (impl_isPart.calls k A0_0 c0_0 l0_0 A0_1 c0_1 l0_1 a0_2 true _ (Kd.C_below HR0.out HB.out) HC0.out (Kd.C_below HR1.out HB.out) HC1.out A1.out).mono ?_); rintro e_ w6 ⟨rfl, hb6⟩; refine ⟨_, rfl, ?_⟩; replace BK2 := am_ (blk_below BK2.out hb6); replace BK3 := am_ (blk_below BK3.out hb6); replace BK4 := am_ (blk_below BK4.out hb6); replace HB := am_ (below_step HB.out hb6); clear hb6; clear hcp_0 hcp_1 hcp_2 hfp_0 hfp_1 hfp_2 hca_0 hca_1 hca_2 hca_3 hfa_0 hfa_1 hfa_2 hfa_3; obtain ⟨hca_0, hca_1, hca_2, hca_3, hfa_0, hfa_1, hfa_2, hfa_3⟩ := cf4_ BK3.out) | (go_at_call 63; (with_reducible refine (impl_in.calls a1_0 0 65535 true _ A2.out).mono ?_); rintro e w' ⟨rfl, ⟨nd, rfl⟩⟩) | (go_at_call 63; (with_reducible refine (impl_in.calls a1_1 0 1000 false _ A3.out).mono ?_); rintro e w' ⟨rfl, ⟨nd, rfl⟩⟩))
      go_meet
      exact ⟨_, er_, HX, ⟨by first | exact BK2.out | (repeat (first | refine blk_drewN ?_ _)); exact BK2.out⟩, ⟨by first | exact BK3.out | (repeat (first | refine blk_drewN ?_ _)); exact BK3.out⟩, ⟨by first | exact BK4.out | (repeat (first | refine blk_drewN ?_ _)); exact BK4.out⟩, ⟨by repeat (first | (with_reducible first | exact HB.out | apply pw_below_drewN) | exact HB.out)⟩⟩
    clear H3
    obtain ⟨t4, A4, H4⟩ := bnd_ H3x
    clear H3x
    obtain ⟨rfl, H4x⟩ | ⟨rfl, H4x⟩ := ifb_ H4
    rotate_left
    · have HX := am_ H4x
      clear H4 H4x
      obtain ⟨hcp_0, hcp_1, hcp_2, hfp_0, hfp_1, hfp_2⟩ := cf3_ BK2.out
      obtain ⟨hca_0, hca_1, hca_2, hca_3, hfa_0, hfa_1, hfa_2, hfa_3⟩ := cf4_ BK3.out
      go_wp2_with (first | ((with_reducible refine gate_callee (f := 51) rfl ?_); refine gl_ 11 Try.func51 #[.agg #[.slice A0_0 l0_0.length c0_0, .slice A0_1 l0_1.length c0_1, .int .i64 a0_2]] rfl ma_ ?_; (with_reducible refine (impl_isPart.calls k A0_0 c0_0 l0_0 A0_1 c0_1 l0_1 a0_2 true _ (Kd.C_below HR0.out HB.out) HC0.out (Kd.C_below HR1.out HB.out) HC1.out A1.out).mono ?_); rintro e_ w6 ⟨rfl, hb6⟩; refine ⟨_, rfl, ?_⟩; replace BK2 := am_ (blk_below BK2.out hb6); replace BK3 := am_ (blk_below BK3.out hb6); replace BK4 := am_ (blk_below BK4.out hb6); replace HB := am_ (below_step HB.out hb6); clear hb6; clear hcp_0 hcp_1 hcp_2 hfp_0 hfp_1 hfp_2 hca_0 hca_1 hca_2 hca_3 hfa_0 hfa_1 hfa_2 hfa_3; obtain ⟨hca_0, hca_1, hca_2, hca_3, hfa_0, hfa_1, hfa_2, hfa_3⟩ := cf4_ BK3.out) | (go_at_call 63; (with_reducible refine (impl_in.calls a1_0 0 65535 true _ A2.out).mono ?_); rintro e w' ⟨rfl, ⟨nd, rfl⟩⟩) | (go_at_call 63; (with_reducible refine (impl_in.calls a1_1 0 1000 true _ A3.out).mono ?_); rintro e w' ⟨rfl, ⟨nd, rfl⟩⟩) | (go_at_call 63; (with_reducible refine (impl_in.calls a1_2 0 65535 false _ A4.out).mono ?_); rintro e w' ⟨rfl, ⟨nd, rfl⟩⟩))
      go_meet
      exact ⟨_, er_, HX, ⟨by first | exact BK2.out | (repeat (first | refine blk_drewN ?_ _)); exact BK2.out⟩, ⟨by first | exact BK3.out | (repeat (first | refine blk_drewN ?_ _)); exact BK3.out⟩, ⟨by first | exact BK4.out | (repeat (first | refine blk_drewN ?_ _)); exact BK4.out⟩, ⟨by repeat (first | (with_reducible first | exact HB.out | apply pw_below_drewN) | exact HB.out)⟩⟩
    clear H4
    obtain ⟨t5, A5, H5⟩ := bnd_ H4x
    have HX := am_ H5
    clear H4x H5
    obtain ⟨hcp_0, hcp_1, hcp_2, hfp_0, hfp_1, hfp_2⟩ := cf3_ BK2.out
    obtain ⟨hca_0, hca_1, hca_2, hca_3, hfa_0, hfa_1, hfa_2, hfa_3⟩ := cf4_ BK3.out
    go_wp2_with (first | ((with_reducible refine gate_callee (f := 51) rfl ?_); refine gl_ 11 Try.func51 #[.agg #[.slice A0_0 l0_0.length c0_0, .slice A0_1 l0_1.length c0_1, .int .i64 a0_2]] rfl ma_ ?_; (with_reducible refine (impl_isPart.calls k A0_0 c0_0 l0_0 A0_1 c0_1 l0_1 a0_2 true _ (Kd.C_below HR0.out HB.out) HC0.out (Kd.C_below HR1.out HB.out) HC1.out A1.out).mono ?_); rintro e_ w6 ⟨rfl, hb6⟩; refine ⟨_, rfl, ?_⟩; replace BK2 := am_ (blk_below BK2.out hb6); replace BK3 := am_ (blk_below BK3.out hb6); replace BK4 := am_ (blk_below BK4.out hb6); replace HB := am_ (below_step HB.out hb6); clear hb6; clear hcp_0 hcp_1 hcp_2 hfp_0 hfp_1 hfp_2 hca_0 hca_1 hca_2 hca_3 hfa_0 hfa_1 hfa_2 hfa_3; obtain ⟨hca_0, hca_1, hca_2, hca_3, hfa_0, hfa_1, hfa_2, hfa_3⟩ := cf4_ BK3.out) | (go_at_call 63; (with_reducible refine (impl_in.calls a1_0 0 65535 true _ A2.out).mono ?_); rintro e w' ⟨rfl, ⟨nd, rfl⟩⟩) | (go_at_call 63; (with_reducible refine (impl_in.calls a1_1 0 1000 true _ A3.out).mono ?_); rintro e w' ⟨rfl, ⟨nd, rfl⟩⟩) | (go_at_call 63; (with_reducible refine (impl_in.calls a1_2 0 65535 true _ A4.out).mono ?_); rintro e w' ⟨rfl, ⟨nd, rfl⟩⟩) | (go_at_call 64; (with_reducible refine (impl_areRecords.calls _ _ l1_3 t5 _ ?side1 ?side2 A5.out).mono ?_); (case side1 => repeat (first | exact Kd.C_below HR3.out HB.out | (with_reducible refine Kd.C_alloc ?_ _) | (with_reducible refine Kd.C_drewN ?_ _) | (with_reducible refine Kd.C_drew ?_))); (case side2 => exact HC3.out); rintro e w' ⟨rfl, ⟨nd, rfl⟩⟩))
    go_meet
    exact ⟨_, er_, HX, ⟨by first | exact BK2.out | (repeat (first | refine blk_drewN ?_ _)); exact BK2.out⟩, ⟨by first | exact BK3.out | (repeat (first | refine blk_drewN ?_ _)); exact BK3.out⟩, ⟨by first | exact BK4.out | (repeat (first | refine blk_drewN ?_ _)); exact BK4.out⟩, ⟨by repeat (first | (with_reducible first | exact HB.out | apply pw_below_drewN) | exact HB.out)⟩⟩
  case rest =>
    clear HH BK2 BK3 BK4 HB
    obtain ⟨x, rfl, HG, BK2, BK3, BK4, HB⟩ := hcut
    obtain ⟨wa, rfl⟩ : ∃ wa : World, wa = wc := ⟨_, rfl⟩
    have H := HG.out
    clear HG
    unfold impl_AskPart.g at H
    obtain ⟨rfl, H1⟩ | ⟨rfl, H1⟩ := ifb_ H
    · obtain ⟨rfl, rfl, rfl, rfl, rfl, rfl⟩ : [] = r1 ∧ [] = r2 ∧ 0 = r3 ∧ 0 = r4 ∧ 0 = r5 ∧ false = r6 := by simpa using H1
      clear H H1
      obtain ⟨hcr_0, hcr_1, hcr_2, hfr_0, hfr_1, hfr_2⟩ := cf3_ BK4.out
      go_wp2_with (first | ((with_reducible refine gate_store (t := 33) (p := 4) rfl ?_); refine store_event (t := 33) (p := 4) (v := ?vo_41) (w1 := (((wa.setCell ⟨gb4, 0, none⟩ (.slice none 0 0)).setCell ⟨gb4, 1, none⟩ (.slice none 0 0)).setCell ⟨gb4, 2, none⟩ (.int .i64 0))) ?hg ?ho ?hn ?hr ?_; (case ho => rfl); (case hg => rfl); (case hn => rfl); (case hr => first | (go_simp; done) | (go_simp; rfl)); intro w7 hw_; have BKn := am_ (show w7.heap[gb4]? = some (.cells #[.slice none 0 0, .slice none 0 0, .int .i64 0] 33 (0, 0)) from by rw [hw_]; exact blk_put (cs := #[.slice none 0 0, .slice none 0 0, .int .i64 0]) (blk_put (cs := #[.slice none 0 0, .slice none 0 0, .int .i64 0]) (blk_put (cs := #[.slice none 0 0, .slice none 0 0, .int .i64 0]) BK4.out 0 _ rfl) 1 _ rfl) 2 _ rfl); have HBn := am_ (show Below w.heap.size w w7 from by rw [hw_]; exact below_set (below_set (below_set HB.out GE4.out) GE4.out) GE4.out); clear hw_))
      refine bodyPost_ret (results_list (rs := [.cell 4 33, .tmp 5, .tmp 6, .tmp 7]) rfl (by simp) (.cell gb4 33 #[.slice none 0 0, .slice none 0 0, .int .i64 0] (0, 0) _ rfl BKn.out Try.underlying33 rfl (by kernel_rfl) (.tmp (.tmp (.tmp .nil))))) rfl ?_
      exact ⟨_, _, er_, Kd.S_nil _ _ _ _ _, Kd.S_nil _ _ _ _ _, HBn.out⟩
    · obtain ⟨⟨q1, q2⟩, AC, H2⟩ := bnd_ H1
      dsimp only at H2
      have HX := am_ H2
      clear H H1 H2
      obtain ⟨hcp_0, hcp_1, hcp_2, hfp_0, hfp_1, hfp_2⟩ := cf3_ BK2.out
      obtain ⟨hca_0, hca_1, hca_2, hca_3, hfa_0, hfa_1, hfa_2, hfa_3⟩ := cf4_ BK3.out
      go_upto_if 45 with (first | ((with_reducible refine gate_callee (f := 65) rfl ?_); refine gl_ 41 Try.func65 #[.agg #[.slice A0_0 l0_0.length c0_0, .slice A0_1 l0_1.length c0_1, .int .i64 a0_2], .agg #[.int .i64 a1_0, .int .i64 a1_1, .int .i64 a1_2, .slice A1_3 l1_3.length c1_3]] rfl ma_ ?_; (with_reducible refine (impl_Part_codeOf.calls k A0_0 c0_0 l0_0 A0_1 c0_1 l0_1 a0_2 a1_0 a1_1 a1_2 A1_3 c1_3 l1_3 q1 q2 _ (Kd.C_below HR0.out HB.out) HC0.out (Kd.C_below HR1.out HB.out) HC1.out (Kd.C_below HR3.out HB.out) HC3.out AC.out).mono ?_); rintro e_ w6 ⟨rfl, hb6⟩; refine ⟨_, rfl, ?_⟩; replace BK2 := am_ (blk_below BK2.out hb6); replace BK3 := am_ (blk_below BK3.out hb6); replace BK4 := am_ (blk_below BK4.out hb6); replace HB := am_ (below_step HB.out hb6); clear hb6; clear hcp_0 hcp_1 hcp_2 hfp_0 hfp_1 hfp_2 hca_0 hca_1 hca_2 hca_3 hfa_0 hfa_1 hfa_2 hfa_3))
      go_cut [] (fun wc => ∃ (A7 : Option Addr) (c7 : Nat) (A8 : Option Addr) (c8 : Nat), Aside0 (q1 = r4 ∧ q2 = r5 ∧ true = r6) ∧ Aside0 (Kd.S k81 81 wc w.heap.size (fun _ => True) (.slice A7 r1.length c7) r1) ∧ Aside0 (Kd.S k78 78 wc w.heap.size (fun _ => True) (.slice A8 r2.length c8) r2) ∧ Aside0 (wc.heap[gb2]? = some (.cells #[.slice A7 r1.length c7, .slice A8 r2.length c8, .int .i64 r3] 33 (0, 0))) ∧ Aside0 (wc.heap[gb4]? = some (.cells #[.slice none 0 0, .slice none 0 0, .int .i64 0] 33 (0, 0))) ∧ Aside0 (Below w.heap.size w wc))
      case first =>
        have H := HX.out
        clear HX
        obtain ⟨hq, H1⟩ | ⟨hq, H1⟩ := ite_ H
        rotate_left
        · have hqb : (q1 == 0) = false := beq_eq_false_iff_ne.mpr hq
          obtain ⟨⟨q3, q4, q5, q6⟩, AR, H2⟩ := bnd_ H1
          obtain ⟨rfl, rfl, rfl, h4_⟩ : q3 = r1 ∧ q4 = r2 ∧ q5 = r3 ∧ q1 = r4 ∧ q2 = r5 ∧ true = r6 := by simpa using H2
          have HE := am_ h4_
          clear hq H H1 H2 h4_
          obtain ⟨hcp_0, hcp_1, hcp_2, hfp_0, hfp_1, hfp_2⟩ := cf3_ BK2.out
          go_wp2_with (first | ((with_reducible refine gate_callee (f := 66) rfl ?_); refine gl_ 70 Try.func66 #[.slice A0_1 l0_1.length c0_1] rfl ma_ ?_; (with_reducible refine (impl_rebuild.calls A0_1 c0_1 l0_1 q3 q4 q5 q6 _ (Kd.C_below HR1.out HB.out) HC1.out AR.out).mono ?_); rintro e_ w7 ⟨v7, v8, rfl, h0_, h1_, hb6⟩; refine ⟨_, rfl, ?_⟩; obtain ⟨A7, c7, rfl⟩ := Kd.S_slice h0_; obtain ⟨A8, c8, rfl⟩ := Kd.S_slice h1_; have HS0 := am_ (Kd.S_lower h0_ HB.out.size); have HS1 := am_ (Kd.S_lower h1_ HB.out.size); replace BK2 := am_ (blk_below BK2.out hb6); replace BK3 := am_ (blk_below BK3.out hb6); replace BK4 := am_ (blk_below BK4.out hb6); replace HB := am_ (below_step HB.out hb6); clear hb6; clear h0_ h1_ hcp_0 hcp_1 hcp_2 hfp_0 hfp_1 hfp_2; obtain ⟨hcp_0, hcp_1, hcp_2, hfp_0, hfp_1, hfp_2⟩ := cf3_ BK2.out) | ((with_reducible refine gate_store (t := 33) (p := 2) rfl ?_); refine store_event (t := 33) (p := 2) (v := ?vo_2) (w1 := (((w7.setCell ⟨gb2, 0, none⟩ (.slice A7 q3.length c7)).setCell ⟨gb2, 1, none⟩ (.slice A8 q4.length c8)).setCell ⟨gb2, 2, none⟩ (.int .i64 q5))) ?hg ?ho ?hn ?hr ?_; (case ho => rfl); (case hg => rfl); (case hn => rfl); (case hr => first | (go_simp; done) | (go_simp; rfl)); intro w8 hw_; obtain ⟨a1_, a2_, a3_, a4_⟩ := impl_AskPart_box (u0 := .slice A7 q3.length c7) (u1 := .slice A8 q4.length c8) (u2 := .int .i64 q5) HS0.out HS1.out BK2.out (by decide) (by decide) HB.out GE2.out; rw [← hw_] at a1_ a2_ a3_ a4_; have BKn := am_ (show w8.heap[gb4]? = some (.cells #[.slice none 0 0, .slice none 0 0, .int .i64 0] 33 (0, 0)) from by rw [hw_]; exact blk_far (blk_far (blk_far BK4.out N42.out _) N42.out _) N42.out _); have HS0n := am_ a1_; have HS1n := am_ a2_; have BK2n := am_ a3_; have HBn := am_ a4_; clear a1_ a2_ a3_ a4_ hw_ hcp_0 hcp_1 hcp_2 hfp_0 hfp_1 hfp_2))
          go_meet
          exact ⟨A7, c7, A8, c8, HE, HS0n, HS1n, BK2n, BKn, HBn⟩
        · have hqb : (q1 == 0) = true := beq_iff_eq.mpr hq
          obtain ⟨hl1, H1x⟩ := ifs_ H1
          obtain ⟨⟨q3, q4, q5, q6⟩, AR, H2⟩ := bnd_ H1x
          obtain ⟨rfl, rfl, rfl, h4_⟩ : q3 = r1 ∧ q4 = r2 ∧ q5 = r3 ∧ q1 = r4 ∧ q2 = r5 ∧ true = r6 := by simpa using H2
          have HE := am_ h4_
          have HL1 := am_ hl1
          obtain ⟨lN, hlN⟩ : ∃ lN, lN = l0_1 ++ [(⟨a0_2, a1_1, a1_0, a1_2, l1_3⟩ : S78)] := ⟨_, rfl⟩
          rw [← hlN] at AR
          have HLN := am_ hlN
          clear hq H H1 H1x H2 h4_ hl1 hlN
          obtain ⟨hcp_0, hcp_1, hcp_2, hfp_0, hfp_1, hfp_2⟩ := cf3_ BK2.out
          obtain ⟨hca_0, hca_1, hca_2, hca_3, hfa_0, hfa_1, hfa_2, hfa_3⟩ := cf4_ BK3.out
          obtain ⟨wa, rfl⟩ : ∃ wb : World, wb = w6 := ⟨_, rfl⟩
          go_upto_region 5 with fail
          go_wp2_with fail
          refine start_ (n := 22) (S := fun w' => w'.cell? ⟨gb2, 1, none⟩ = some (.slice A0_1 l0_1.length c0_1) ∧ w'.cell? ⟨gb2, 2, none⟩ = some (.int .i64 a0_2) ∧ w'.cell? ⟨gb3, 0, none⟩ = some (.int .i64 a1_0) ∧ w'.cell? ⟨gb3, 1, none⟩ = some (.int .i64 a1_1) ∧ w'.cell? ⟨gb3, 2, none⟩ = some (.int .i64 a1_2) ∧ w'.cell? ⟨gb3, 3, none⟩ = some (.slice A1_3 l1_3.length c1_3)) (ds := [21]) #[false, false, false, false, false, false, false, false, false, false, false, false, false, false, false, false, false, false, false, false, false, false] (by kernel_rfl) rfl rfl ⟨hcp_1, hcp_2, hca_0, hca_1, hca_2, hca_3⟩ (fun hHeld => ?_)
          replace BK2 := am_ (blk_drew BK2.out)
          replace BK3 := am_ (blk_drew BK3.out)
          replace BK4 := am_ (blk_drew BK4.out)
          replace HB := am_ (below_drew1 HB.out)
          clear hcp_0 hcp_1 hcp_2 hfp_0 hfp_1 hfp_2 hca_0 hca_1 hca_2 hca_3 hfa_0 hfa_1 hfa_2 hfa_3
          generalize wa.drew = wr at BK2 BK3 BK4 HB hHeld ⊢
          have HBw := am_ (Below.refl wr.heap.size wr)
          have HH := am_ hHeld
          have HSr := am_ HB.out.size
          have HVL := am_ (Kd.F_below (Kd.C_F k78_heap HR1.out) HB.out)
          have HEL := am_ (k78_mkF wr (fun k_ => k_ < w.heap.size) (⟨a0_2, a1_1, a1_0, a1_2, l1_3⟩ : S78) HC3.out (Kd.F_below (Kd.C_F Kd.heap_string HR3.out) HB.out))
          refine px_ 1 48 ?_
          refine tx_ 2 49 ?_
          refine px_ 4 51 ?_
          refine tx_ 5 52 ?_
          refine px_ 6 53 ?_
          refine tx_ 7 54 ?_
          refine px_ 8 55 ?_
          refine tx_ 9 56 ?_
          refine px_ 10 57 ?_
          refine tx_ 11 58 ?_
          refine px_ 12 59 ?_
          refine tx_ 13 60 ?_
          refine px_ 14 61 ?_
          refine join_ (σ := Value × Value × Value) 6 #[true, true, true, true, true, true, true, true, true, true, true, true, true, true, true, true, false, false, false, false, false, false] (fun s_ => [(47, s_.1), (50, s_.2.1), (62, s_.2.2)]) (fun s_ w' => (w'.cell? ⟨gb2, 1, none⟩ = some (.slice A0_1 l0_1.length c0_1) ∧ w'.cell? ⟨gb2, 2, none⟩ = some (.int .i64 a0_2) ∧ w'.cell? ⟨gb3, 0, none⟩ = some (.int .i64 a1_0) ∧ w'.cell? ⟨gb3, 1, none⟩ = some (.int .i64 a1_1) ∧ w'.cell? ⟨gb3, 2, none⟩ = some (.int .i64 a1_2) ∧ w'.cell? ⟨gb3, 3, none⟩ = some (.slice A1_3 l1_3.length c1_3)) ∧ Kd.N k78 78 w' wr.heap.size (fun k_ => k_ < w.heap.size ∨ wr.heap.size ≤ k_) s_.2.1 l0_1 ∧ Kd.N k78 78 w' wr.heap.size (fun k_ => (fun k_ => k_ < w.heap.size ∨ wr.heap.size ≤ k_) k_ ∧ some k_ ≠ s_.2.1.ownBlock) s_.2.2 [(⟨a0_2, a1_1, a1_0, a1_2, l1_3⟩ : S78)] ∧ Below wr.heap.size wr w') ?_ ?_
          rotate_left
          · intro hCont
            refine two_ (i := 0) (j := 15) (Ni := some 47) (Nj := some 62) #[true, true, true, false, true, true, true, true, true, true, true, true, true, true, true, false, false, false, false, false, false, false] #[false, true, true, false, true, true, true, true, true, true, true, true, true, true, true, true, false, false, false, false, false, false] rfl rfl rfl rfl (by kernel_rfl) (by decide) (by decide) (fun K hK => ?_) (fun K hK => ?_)
            · skip
              refine Kd.N_lit_step k78 (w0 := wr) wr.heap.size 78 ?hg (N' := 47) ?hd (xs := ([] : List S78)) (inner := []) (ok := (fun k_ => k_ < w.heap.size ∨ wr.heap.size ≤ k_)) (okp := fun _ => False) ?hr ?hp (fun _ hk => hk.elim) (.inr HBw.out.size) (Below.refl _ _) (Nat.le_refl _) (by simp) ?_
              (case hd => rfl)
              (case hg => rfl)
              (case hr => first | (go_simp; done) | (go_simp; rfl))
              (case hp => exact (Reps.none _ _))
              intro v47 we1 ho hb _ hnew_
              have HO1 := am_ (Kd.N_lower ho HBw.out.size)
              replace HBw := am_ (below_step HBw.out hb)
              clear ho hb hnew_
              refine hK.out _ _ (hc_ HH) fun hHeld => ?_
              clear hK K
              refine norm_ (a' := ?_) ?_ ?_
              rotate_left
              · show Act.put _ (some 47) _ = _
                simp only [Act.put, List.setIfInBounds_toArray, List.set_cons_zero, List.set_cons_succ, i64_w, i32_w]
                rfl
              refine two_ (i := 3) (j := 15) (Ni := some 50) (Nj := some 62) #[true, true, true, true, true, true, true, true, true, true, true, true, true, true, true, false, false, false, false, false, false, false] #[true, true, true, false, true, true, true, true, true, true, true, true, true, true, true, true, false, false, false, false, false, false] rfl rfl rfl rfl (by kernel_rfl) (by decide) (by decide) (fun K hK => ?_) (fun K hK => ?_)
              · skip
                refine Kd.N_append_rows_step k78 (w0 := wr) wr.heap.size (by rfl) (.tmp 47) (.tmp 49) 31 78 (.agg #[(.int .i64 0), (.int .i64 0), (.int .i64 0), (.int .i64 0), (.slice none 0 0)]) 56 rfl Try.underlying31 info78 rfl (by decide) (by omega) v47 [] l0_1 A0_1 l0_1.length c0_1 (fun k_ => k_ < w.heap.size ∨ wr.heap.size ≤ k_) (fun k_ => k_ < w.heap.size) rfl rfl ?aO ?aR (fun k_ hk => ⟨.inl hk, fun he => by have := Kd.N_base HO1.out k_ he.symm; have := HSr.out; omega⟩) ?aF ?aB ?aS ?aL ?_
                (case aO => exact HO1.out)
                (case aR => exact Kd.F_below HVL.out HBw.out)
                (case aF => exact fun k_ hk => .inr (Nat.le_trans HBw.out.size hk))
                (case aB => exact HBw.out)
                (case aS => exact HBw.out.size)
                (case aL => have := HL1.out; simp only [List.length_nil]; omega)
                intro v50 we2 ho hb hg_ hat_
                rw [List.nil_append] at ho
                have HO3 := am_ ho
                replace HBw := am_ hb
                clear ho hb hg_ hat_ HO1
                refine hK.out _ _ (hc_ HH) fun hHeld => ?_
                clear hK K
                refine norm_ (a' := ?_) ?_ ?_
                rotate_left
                · show Act.put _ (some 50) _ = _
                  simp only [Act.put, List.setIfInBounds_toArray, List.set_cons_zero, List.set_cons_succ, i64_w, i32_w]
                  rfl
                refine ox_ 15 62 fun K hK => ?_
                refine Kd.N_lit_step k78 (w0 := we2) we2.heap.size 78 ?hg (N' := 62) ?hd (xs := ([(⟨a0_2, a1_1, a1_0, a1_2, l1_3⟩ : S78)] : List S78)) (inner := [.int .i64 a0_2, .int .i64 a1_1, .int .i64 a1_0, .int .i64 a1_2, .slice A1_3 l1_3.length c1_3]) (ok := (fun k_ => (fun k_ => k_ < w.heap.size ∨ wr.heap.size ≤ k_) k_ ∧ some k_ ≠ (v50 : Value).ownBlock)) (okp := fun k_ => k_ < w.heap.size) ?hr ?hp (fun k_ hk => ⟨.inl hk, fun he => by have := Kd.N_base HO3.out k_ he.symm; have := HSr.out; omega⟩) ⟨.inr HBw.out.size, fun he => by have := Kd.N_lt HO3.out _ he.symm; omega⟩ (Below.refl _ _) (Nat.le_refl _) (by simp) ?_
                (case hd => rfl)
                (case hg => rfl)
                (case hr => first | (go_simp; done) | (go_simp; rfl))
                (case hp => exact (Reps.none _ _).snoc (Kd.FK_below HEL.out HBw.out) rfl)
                intro v62 we3 ho hb _ hnew_
                replace HO3 := am_ (Kd.N_below HO3.out hb)
                have HO2 := am_ (Kd.N_lower ho HBw.out.size)
                replace HBw := am_ (below_step HBw.out hb)
                clear ho hb hnew_
                refine hK.out _ _ (hc_ HH) fun hHeld => ?_
                clear hK K
                refine norm_ (a' := ?_) ?_ ?_
                rotate_left
                · show Act.put _ (some 62) _ = _
                  simp only [Act.put, List.setIfInBounds_toArray, List.set_cons_zero, List.set_cons_succ, i64_w, i32_w]
                  rfl
                exact norm_ (by simp only [putAll, Act.put, List.setIfInBounds_toArray, List.set_cons_zero, List.set_cons_succ]) (hCont (v47, v50, v62) _ ⟨hHeld, HO3.out, HO2.out, HBw.out⟩)
              · skip
                refine Kd.N_lit_step k78 (w0 := we1) we1.heap.size 78 ?hg (N' := 62) ?hd (xs := ([(⟨a0_2, a1_1, a1_0, a1_2, l1_3⟩ : S78)] : List S78)) (inner := [.int .i64 a0_2, .int .i64 a1_1, .int .i64 a1_0, .int .i64 a1_2, .slice A1_3 l1_3.length c1_3]) (ok := (fun k_ => (fun k_ => k_ < w.heap.size ∨ wr.heap.size ≤ k_) k_ ∧ some k_ ≠ (v47 : Value).ownBlock)) (okp := fun k_ => k_ < w.heap.size) ?hr ?hp (fun k_ hk => ⟨.inl hk, fun he => by have := Kd.N_base HO1.out k_ he.symm; have := HSr.out; omega⟩) ⟨.inr HBw.out.size, fun he => by have := Kd.N_lt HO1.out _ he.symm; omega⟩ (Below.refl _ _) (Nat.le_refl _) (by simp) ?_
                (case hd => rfl)
                (case hg => rfl)
                (case hr => first | (go_simp; done) | (go_simp; rfl))
                (case hp => exact (Reps.none _ _).snoc (Kd.FK_below HEL.out HBw.out) rfl)
                intro v62 we2 ho hb _ hnew_
                replace HO1 := am_ (Kd.N_below HO1.out hb)
                have HO2 := am_ (Kd.N_lower ho HBw.out.size)
                replace HBw := am_ (below_step HBw.out hb)
                clear ho hb hnew_
                refine hK.out _ _ (hc_ HH) fun hHeld => ?_
                clear hK K
                refine norm_ (a' := ?_) ?_ ?_
                rotate_left
                · show Act.put _ (some 62) _ = _
                  simp only [Act.put, List.setIfInBounds_toArray, List.set_cons_zero, List.set_cons_succ, i64_w, i32_w]
                  rfl
                refine ox_ 3 50 fun K hK => ?_
                refine Kd.N_append_rows_step k78 (w0 := wr) wr.heap.size (by rfl) (.tmp 47) (.tmp 49) 31 78 (.agg #[(.int .i64 0), (.int .i64 0), (.int .i64 0), (.int .i64 0), (.slice none 0 0)]) 56 rfl Try.underlying31 info78 rfl (by decide) (by omega) v47 [] l0_1 A0_1 l0_1.length c0_1 (fun k_ => k_ < w.heap.size ∨ wr.heap.size ≤ k_) (fun k_ => k_ < w.heap.size) rfl rfl ?aO ?aR (fun k_ hk => ⟨.inl hk, fun he => by have := Kd.N_base HO1.out k_ he.symm; have := HSr.out; omega⟩) ?aF ?aB ?aS ?aL ?_
                (case aO => exact HO1.out)
                (case aR => exact Kd.F_below HVL.out HBw.out)
                (case aF => exact fun k_ hk => .inr (Nat.le_trans HBw.out.size hk))
                (case aB => exact HBw.out)
                (case aS => exact HBw.out.size)
                (case aL => have := HL1.out; simp only [List.length_nil]; omega)
                intro v50 we3 ho hb hg_ hat_
                rw [List.nil_append] at ho
                have HO3 := am_ ho
                replace HO2 := am_ (Kd.N_afterv HO2.out hg_ hat_)
                replace HBw := am_ hb
                clear ho hb hg_ hat_ HO1
                refine hK.out _ _ (hc_ HH) fun hHeld => ?_
                clear hK K
                refine norm_ (a' := ?_) ?_ ?_
                rotate_left
                · show Act.put _ (some 50) _ = _
                  simp only [Act.put, List.setIfInBounds_toArray, List.set_cons_zero, List.set_cons_succ, i64_w, i32_w]
                  rfl
                exact norm_ (by simp only [putAll, Act.put, List.setIfInBounds_toArray, List.set_cons_zero, List.set_cons_succ]) (hCont (v47, v50, v62) _ ⟨hHeld, HO3.out, HO2.out, HBw.out⟩)
            · skip
              refine Kd.N_lit_step k78 (w0 := wr) wr.heap.size 78 ?hg (N' := 62) ?hd (xs := ([(⟨a0_2, a1_1, a1_0, a1_2, l1_3⟩ : S78)] : List S78)) (inner := [.int .i64 a0_2, .int .i64 a1_1, .int .i64 a1_0, .int .i64 a1_2, .slice A1_3 l1_3.length c1_3]) (ok := (fun k_ => k_ < w.heap.size ∨ wr.heap.size ≤ k_)) (okp := fun k_ => k_ < w.heap.size) ?hr ?hp (fun k_ hk => .inl hk) (.inr HBw.out.size) (Below.refl _ _) (Nat.le_refl _) (by simp) ?_
              (case hd => rfl)
              (case hg => rfl)
              (case hr => first | (go_simp; done) | (go_simp; rfl))
              (case hp => exact (Reps.none _ _).snoc (Kd.FK_below HEL.out HBw.out) rfl)
              intro v62 we1 ho hb _ hnew_
              have HO2 := am_ (Kd.N_lower ho HBw.out.size)
              replace HBw := am_ (below_step HBw.out hb)
              clear ho hb hnew_
              refine hK.out _ _ (hc_ HH) fun hHeld => ?_
              clear hK K
              refine norm_ (a' := ?_) ?_ ?_
              rotate_left
              · show Act.put _ (some 62) _ = _
                simp only [Act.put, List.setIfInBounds_toArray, List.set_cons_zero, List.set_cons_succ, i64_w, i32_w]
                rfl
              refine ox_ 0 47 fun K hK => ?_
              refine Kd.N_lit_step k78 (w0 := we1) we1.heap.size 78 ?hg (N' := 47) ?hd (xs := ([] : List S78)) (inner := []) (ok := (fun k_ => k_ < w.heap.size ∨ wr.heap.size ≤ k_)) (okp := fun _ => False) ?hr ?hp (fun _ hk => hk.elim) (.inr HBw.out.size) (Below.refl _ _) (Nat.le_refl _) (by simp) ?_
              (case hd => rfl)
              (case hg => rfl)
              (case hr => first | (go_simp; done) | (go_simp; rfl))
              (case hp => exact (Reps.none _ _))
              intro v47 we2 ho hb _ hnew_
              replace HO2 := am_ (Kd.N_elder' HO2.out (Kd.N_base ho) hb)
              have HO1 := am_ (Kd.N_lower ho HBw.out.size)
              replace HBw := am_ (below_step HBw.out hb)
              clear ho hb hnew_
              refine hK.out _ _ (hc_ HH) fun hHeld => ?_
              clear hK K
              refine norm_ (a' := ?_) ?_ ?_
              rotate_left
              · show Act.put _ (some 47) _ = _
                simp only [Act.put, List.setIfInBounds_toArray, List.set_cons_zero, List.set_cons_succ, i64_w, i32_w]
                rfl
              refine ox_ 3 50 fun K hK => ?_
              refine Kd.N_append_rows_step k78 (w0 := wr) wr.heap.size (by rfl) (.tmp 47) (.tmp 49) 31 78 (.agg #[(.int .i64 0), (.int .i64 0), (.int .i64 0), (.int .i64 0), (.slice none 0 0)]) 56 rfl Try.underlying31 info78 rfl (by decide) (by omega) v47 [] l0_1 A0_1 l0_1.length c0_1 (fun k_ => k_ < w.heap.size ∨ wr.heap.size ≤ k_) (fun k_ => k_ < w.heap.size) rfl rfl ?aO ?aR (fun k_ hk => ⟨.inl hk, fun he => by have := Kd.N_base HO1.out k_ he.symm; have := HSr.out; omega⟩) ?aF ?aB ?aS ?aL ?_
              (case aO => exact HO1.out)
              (case aR => exact Kd.F_below HVL.out HBw.out)
              (case aF => exact fun k_ hk => .inr (Nat.le_trans HBw.out.size hk))
              (case aB => exact HBw.out)
              (case aS => exact HBw.out.size)
              (case aL => have := HL1.out; simp only [List.length_nil]; omega)
              intro v50 we3 ho hb hg_ hat_
              rw [List.nil_append] at ho
              have HO3 := am_ ho
              replace HO2 := am_ (Kd.N_afterv HO2.out hg_ hat_)
              replace HBw := am_ hb
              clear ho hb hg_ hat_ HO1
              refine hK.out _ _ (hc_ HH) fun hHeld => ?_
              clear hK K
              refine norm_ (a' := ?_) ?_ ?_
              rotate_left
              · show Act.put _ (some 50) _ = _
                simp only [Act.put, List.setIfInBounds_toArray, List.set_cons_zero, List.set_cons_succ, i64_w, i32_w]
                rfl
              exact norm_ (by simp only [putAll, Act.put, List.setIfInBounds_toArray, List.set_cons_zero, List.set_cons_succ]) (hCont (v47, v50, v62) _ ⟨hHeld, HO3.out, HO2.out, HBw.out⟩)
          rintro ⟨v47, v50, v62⟩ we ⟨hS_, h0_, h1_, h2_⟩
          have HO3 := am_ h0_
          have HO2 := am_ h1_
          have HBe := am_ h2_
          have hHeld := hS_
          clear h0_ h1_ h2_ hS_ HBw
          refine norm_ (a' := ?_) ?_ ?_
          rotate_left
          · simp only [putAll, Act.put, List.setIfInBounds_toArray, List.set_cons_zero, List.set_cons_succ]
            rfl
          obtain ⟨A62, c62, e62⟩ := Kd.N_slice HO2.out
          subst e62
          refine ox_ 16 63 fun K hK => ?_
          refine Kd.N_append_rows_step k78 (w0 := wr) wr.heap.size (by rfl) (.tmp 50) (.tmp 62) 31 78 (.agg #[(.int .i64 0), (.int .i64 0), (.int .i64 0), (.int .i64 0), (.slice none 0 0)]) 56 rfl Try.underlying31 info78 rfl (by decide) (by omega) v50 l0_1 [(⟨a0_2, a1_1, a1_0, a1_2, l1_3⟩ : S78)] A62 _ c62 (fun k_ => k_ < w.heap.size ∨ wr.heap.size ≤ k_) (fun k_ => (fun k_ => k_ < w.heap.size ∨ wr.heap.size ≤ k_) k_ ∧ some k_ ≠ v50.ownBlock) rfl rfl ?aO ?aR (fun _ hk => hk) ?aF ?aB ?aS ?aL ?_
          (case aO => exact HO3.out)
          (case aR => exact Kd.N_F HO2.out)
          (case aF => exact fun k_ hk => .inr (Nat.le_trans HBe.out.size hk))
          (case aB => exact HBe.out)
          (case aS => exact HBe.out.size)
          (case aL => have := HL1.out; simp only [List.length_singleton]; omega)
          intro v63 wf ho hb hg_ _
          rw [← HLN.out] at ho
          have HO5 := am_ ho
          have HBf := am_ hb
          clear ho hb hg_ HO3 HO2 HBe
          obtain ⟨A63, c63, e63⟩ := Kd.N_slice HO5.out
          subst e63
          refine hK.out _ _ ⟨pw_cell_below HBf.out (blk_cell BK2.out 1), pw_cell_below HBf.out (blk_cell BK2.out 2), pw_cell_below HBf.out (blk_cell BK3.out 0), pw_cell_below HBf.out (blk_cell BK3.out 1), pw_cell_below HBf.out (blk_cell BK3.out 2), pw_cell_below HBf.out (blk_cell BK3.out 3)⟩ (fun hHeld => ?_)
          clear hK K
          refine norm_ (a' := ?_) ?_ ?_
          rotate_left
          · show Act.put _ (some 63) _ = _
            simp only [Act.put, List.setIfInBounds_toArray, List.set_cons_zero, List.set_cons_succ, i64_w, i32_w]
            rfl
          refine ox_ 17 64 fun K hK => ?_
          refine gs_ Try.func66 #[.slice A63 lN.length c63] rfl ma_ ?_
          refine (impl_rebuild.calls A63 c63 lN q3 q4 q5 q6 _ (Kd.N_reads' HO5.out).2.2 (Kd.N_reads' HO5.out).2.1 AR.out).mono ?_
          rintro e_ wg ⟨v7, v8, rfl, h0_, h1_, hb⟩
          refine ⟨_, rfl, ?_⟩
          obtain ⟨A7, c7, e7_⟩ := Kd.S_slice h0_
          subst e7_
          obtain ⟨A8, c8, e8_⟩ := Kd.S_slice h1_
          subst e8_
          have HBg := am_ (below_step HBf.out hb)
          have HS0 := am_ (Kd.S_lower h0_ (Nat.le_trans HSr.out HBf.out.size))
          have HS1 := am_ (Kd.S_lower h1_ (Nat.le_trans HSr.out HBf.out.size))
          clear h0_ h1_ hb HO5 HBf
          refine hK.out _ _ ⟨pw_cell_below HBg.out (blk_cell BK2.out 1), pw_cell_below HBg.out (blk_cell BK2.out 2), pw_cell_below HBg.out (blk_cell BK3.out 0), pw_cell_below HBg.out (blk_cell BK3.out 1), pw_cell_below HBg.out (blk_cell BK3.out 2), pw_cell_below HBg.out (blk_cell BK3.out 3)⟩ (fun hHeld => ?_)
          clear hK K
          refine norm_ (a' := ?_) ?_ ?_
          rotate_left
          · show Act.put _ (some 64) _ = _
            simp only [Act.put, List.setIfInBounds_toArray, List.set_cons_zero, List.set_cons_succ, i64_w, i32_w]
            rfl
          refine px_ 18 46 ?_
          refine px_ 19 65 ?_
          refine px_ 20 66 ?_
          refine last_ (i := 21) (N := none) #[true, true, true, true, true, true, true, true, true, true, true, true, true, true, true, true, true, true, true, true, true, true] rfl rfl (by kernel_rfl) (by decide) (fun K hK => ?_)
          have BKg := am_ (blk_below BK2.out HBg.out)
          obtain ⟨hcg_0, hcg_1, hcg_2, hfg_0, hfg_1, hfg_2⟩ := cf3_ BKg.out
          refine skip_ (w1 := ((wg.setCell ⟨gb2, 0, none⟩ (.slice A7 q3.length c7)).setCell ⟨gb2, 1, none⟩ (.slice A8 q4.length c8)).setCell ⟨gb2, 2, none⟩ (.int .i64 q5)) (by rfl) rfl ?_ ?_
          · first | (go_simp; done) | (go_simp; rfl)
          refine hK.out _ _ ?_
          clear hK K
          refine done_ (by kernel_rfl) ?_
          obtain ⟨a1_, a2_, a3_, a4_⟩ := impl_AskPart_box (u0 := .slice A7 q3.length c7) (u1 := .slice A8 q4.length c8) (u2 := .int .i64 q5) HS0.out HS1.out BKg.out (by decide) (by decide) (below_step HB.out HBg.out) GE2.out
          have BK4n := am_ (show ((((wg.setCell ⟨gb2, 0, none⟩ (.slice A7 q3.length c7)).setCell ⟨gb2, 1, none⟩ (.slice A8 q4.length c8)).setCell ⟨gb2, 2, none⟩ (.int .i64 q5))).heap[gb4]? = some (.cells #[.slice none 0 0, .slice none 0 0, .int .i64 0] 33 (0, 0)) from blk_far (blk_far (blk_far (blk_below BK4.out HBg.out) N42.out _) N42.out _) N42.out _)
          go_wp2
          go_meet
          exact ⟨A7, c7, A8, c8, HE, ⟨a1_⟩, ⟨a2_⟩, ⟨a3_⟩, BK4n, ⟨a4_⟩⟩
      case rest =>
        clear HX BK2 BK3 BK4 HB
        obtain ⟨A7, c7, A8, c8, HE, HS0, HS1, BK2, BK4, HB⟩ := hcut
        obtain ⟨wb, rfl⟩ : ∃ wb : World, wb = wc := ⟨_, rfl⟩
        obtain ⟨rfl, rfl, rfl⟩ := HE.out
        obtain ⟨hcp_0, hcp_1, hcp_2, hfp_0, hfp_1, hfp_2⟩ := cf3_ BK2.out
        obtain ⟨hcr_0, hcr_1, hcr_2, hfr_0, hfr_1, hfr_2⟩ := cf3_ BK4.out
        go_wp2_with (first | ((with_reducible refine gate_store (t := 33) (p := 4) rfl ?_); refine store_event (t := 33) (p := 4) (v := ?vo_44) (w1 := (((wb.setCell ⟨gb4, 0, none⟩ (.slice A7 r1.length c7)).setCell ⟨gb4, 1, none⟩ (.slice A8 r2.length c8)).setCell ⟨gb4, 2, none⟩ (.int .i64 r3))) ?hg ?ho ?hn ?hr ?_; (case ho => rfl); (case hg => rfl); (case hn => rfl); (case hr => first | (go_simp; done) | (go_simp; rfl)); intro w9 hw_; obtain ⟨a1_, a2_, a3_, a4_⟩ := impl_AskPart_box (u0 := .slice A7 r1.length c7) (u1 := .slice A8 r2.length c8) (u2 := .int .i64 r3) HS0.out HS1.out BK4.out (by decide) (by decide) HB.out GE4.out; rw [← hw_] at a1_ a2_ a3_ a4_; replace HS0 := am_ a1_; replace HS1 := am_ a2_; replace BK4 := am_ a3_; replace HB := am_ a4_; clear a1_ a2_ a3_ a4_ hw_))
        refine bodyPost_ret (results_list (rs := [.cell 4 33, .tmp 5, .tmp 6, .tmp 7]) rfl (by simp) (.cell gb4 33 #[.slice A7 r1.length c7, .slice A8 r2.length c8, .int .i64 r3] (0, 0) _ rfl BK4.out Try.underlying33 rfl (by kernel_rfl) (.tmp (.tmp (.tmp .nil))))) rfl ?_
        exact ⟨_, _, er_, HS0.out, HS1.out, HB.out⟩



/-! ### impl_NewPart: function 36 -/
theorem impl_NewPart_box {w0 w : World} {e0 e1 base g t : Nat} {z0 z1 z2 u0 u1 u2 v0 v1 : Value} {ok0 ok1 : Nat → Prop} {r1 : List S81} {r2 : List S78} (h0 : Kd.S k81 e0 w base ok0 v0 r1) (h1 : Kd.S k78 e1 w base ok1 v1 r2) (hbox : w.heap[g]? = some (.cells #[z0, z1, z2] t (0, 0))) (t0 : ∀ q, q ∈ e0 :: (k81).E → q ≠ t) (t1 : ∀ q, q ∈ e1 :: (k78).E → q ≠ t) (hb : Below w0.heap.size w0 w) (hg : w0.heap.size ≤ g) :
  Kd.S k81 e0 (((w.setCell ⟨g, 0, none⟩ u0).setCell ⟨g, 1, none⟩ u1).setCell ⟨g, 2, none⟩ u2) base ok0 v0 r1 ∧ Kd.S k78 e1 (((w.setCell ⟨g, 0, none⟩ u0).setCell ⟨g, 1, none⟩ u1).setCell ⟨g, 2, none⟩ u2) base ok1 v1 r2 ∧
   (((w.setCell ⟨g, 0, none⟩ u0).setCell ⟨g, 1, none⟩ u1).setCell ⟨g, 2, none⟩ u2).heap[g]? = some (.cells #[u0, u1, u2] t (0, 0)) ∧ Below w0.heap.size w0 (((w.setCell ⟨g, 0, none⟩ u0).setCell ⟨g, 1, none⟩ u1).setCell ⟨g, 2, none⟩ u2) := by
 have b1 := blk_put (cs := #[z0, z1, z2]) hbox 0 u0 rfl
 have b2 := blk_put (cs := #[u0, z1, z2]) b1 1 u1 rfl
 have b3 := blk_put (cs := #[u0, u1, z2]) b2 2 u2 rfl
 exact ⟨Kd.S_set (Kd.S_set (Kd.S_set h0 hbox t0 0 _) b1 t0 1 _) b2 t0 2 _, Kd.S_set (Kd.S_set (Kd.S_set h1 hbox t1 0 _) b1 t1 1 _) b2 t1 2 _, b3, below_set (below_set (below_set hb hg) hg) hg⟩
def impl_NewPart.f : Option (List S81 × List S78 × Int) := (impl_rebuild.f [⟨0, 0, 0, 0, [(⟨#[]⟩ : ByteArray)]⟩]).bind fun t => some (t.1, t.2.1, t.2.2.1)
set_option maxHeartbeats 8000000 in
set_option maxRecDepth 100000 in
theorem impl_NewPart.calls (r1 : List S81) (r2 : List S78) (r3 : Int) (w : World) (h : impl_NewPart.f = some (r1, r2, r3)) :
    Calls Try.prog 36 #[] w fun e w' => ∃ v0_ v1_ : Value, e = .returned (.agg #[v0_, v1_, .int .i64 r3]) ∧ Kd.S k81 81 w' w.heap.size (fun _ => True) v0_ r1 ∧ Kd.S k78 78 w' w.heap.size (fun _ => True) v1_ r2 ∧ Below w.heap.size w w' := by
  have hu33 := Try.underlying33
  have hu78 := Try.underlying78
  have HB := am_ (Below.refl w.heap.size w)
  unfold impl_NewPart.f at h
  obtain ⟨⟨q1, q2, q3, q4⟩, HR, h1⟩ := bnd_ h
  obtain ⟨rfl, rfl, rfl⟩ : q1 = r1 ∧ q2 = r2 ∧ q3 = r3 := by simpa using h1
  obtain ⟨y1, hy1⟩ : ∃ y1 : List ByteArray, y1 = [(⟨#[]⟩ : ByteArray)] := ⟨_, rfl⟩
  rw [← hy1] at HR
  obtain ⟨y2, hy2⟩ : ∃ y2 : List S78, y2 = [(⟨0, 0, 0, 0, y1⟩ : S78)] := ⟨_, rfl⟩
  rw [← hy2] at HR
  have HY1 := am_ hy1
  have HY2 := am_ hy2
  clear h h1 hy1 hy2
  go_enter Try.func36, Try.ntmps36
  go_wp2_with (first | ((with_reducible refine gate_dst (N := 0) rfl ?_); refine be_ (N := 0) #[.slice none 0 0, .slice none 0 0, .int .i64 0] 33 ?_; intro gb0 hg w2 hbox hb; have BK0 := am_ hbox; have GE0 := ge_ hg; replace HB := nb_ hb; clear hb hbox hg) | ((with_reducible refine gate_dst (N := 4) rfl ?_); refine Kd.R_lit Kd.string (w0 := w2) w2.heap.size 9 ?hg (N := 4) ?hd (xs := ([(⟨#[]⟩ : ByteArray)] : List ByteArray)) (inner := [.string (⟨#[]⟩ : ByteArray)]) (ok := fun _ => True) (okp := fun _ => True) ?hr ?hp (fun _ hk => hk) trivial (Below.refl _ _) (Nat.le_refl _) (by simp) ?_; (case hd => rfl); (case hg => rfl); (case hr => first | (go_simp; done) | (go_simp; rfl)); (case hp => exact (Reps.one (show Kd.M Kd.string _ _ _ (⟨#[]⟩ : ByteArray) [.string (⟨#[]⟩ : ByteArray)] from rfl) (Reps.none _ _))); intro v4 w3 ho hb hg_ hnew_; rw [← HY1.out] at ho; obtain ⟨A4, c4, rfl⟩ := Kd.R_slice ho; have HO4 := am_ ho; replace BK0 := am_ (blk_below BK0.out hb); have HB2 := am_ hb; replace HB := am_ (below_step HB.out hb); clear ho hb hg_ hnew_) | ((with_reducible refine gate_dst (N := 6) rfl ?_); refine Kd.R_lit k78 (w0 := w2) w2.heap.size 78 ?hg (N := 6) ?hd (xs := ([(⟨0, 0, 0, 0, y1⟩ : S78)] : List S78)) (inner := [.int .i64 0, .int .i64 0, .int .i64 0, .int .i64 0, .slice A4 y1.length c4]) (ok := fun _ => True) (okp := fun k_ => k_ < w3.heap.size) ?hr ?hp (fun _ _ => trivial) trivial HB2.out HB2.out.size (by simp) ?_; (case hd => rfl); (case hg => rfl); (case hr => first | (go_simp; done) | (go_simp; rfl)); (case hp => exact (Reps.none _ _).snoc (k78_mkM _ _ _ (⟨0, 0, 0, 0, y1⟩ : S78) (Kd.R_mono (Kd.R_bound HO4.out) (fun _ hk => hk.2.2.1))) rfl); intro v6 w4 ho hb hg_ hnew_; rw [← HY2.out] at ho; obtain ⟨A6, c6, rfl⟩ := Kd.R_slice ho; have HO6 := am_ ho; replace BK0 := am_ (blk_grown BK0.out hg_ (by simp)); replace HB := am_ (Below.grown HB.out hg_ HB.out.size (fun _ h_ => by cases h_)); clear ho hb hg_ hnew_) | ((with_reducible refine gate_callee (f := 66) rfl ?_); refine gl_ 7 Try.func66 #[.slice A6 y2.length c6] rfl ma_ ?_; (with_reducible refine (impl_rebuild.calls A6 c6 y2 q1 q2 q3 q4 _ (Kd.R_reads' HO6.out).2.2 (Kd.R_reads' HO6.out).2.1 HR.out).mono ?_); rintro e_ w7 ⟨v7, v8, rfl, h0_, h1_, hb⟩; refine ⟨_, rfl, ?_⟩; obtain ⟨A7, c7, rfl⟩ := Kd.S_slice h0_; obtain ⟨A8, c8, rfl⟩ := Kd.S_slice h1_; have HS0 := am_ (Kd.S_lower h0_ HB.out.size); have HS1 := am_ (Kd.S_lower h1_ HB.out.size); replace BK0 := am_ (blk_below BK0.out hb); replace HB := am_ (below_step HB.out hb); clear h0_ h1_ hb) | ((with_reducible refine gate_dst (N := 1) rfl ?_); refine be_ (N := 1) #[.slice none 0 0, .slice none 0 0, .int .i64 0] 33 ?_; intro gb1 hg w8 hbox hb; have BK1 := am_ hbox; have GE1 := am_ (show w.heap.size ≤ gb1 from by rw [hg]; exact HB.out.size); have N01 := am_ (show gb0 ≠ gb1 from by rw [hg]; exact Nat.ne_of_lt (blk_lt BK0.out)); replace BK0 := am_ (blk_below BK0.out hb); replace HS0 := am_ (Kd.S_below HS0.out hb); replace HS1 := am_ (Kd.S_below HS1.out hb); replace HB := am_ (below_step HB.out hb); clear hb hbox hg; obtain ⟨hcz_0, hcz_1, hcz_2, hfz_0, hfz_1, hfz_2⟩ := cf3_ BK1.out) | ((with_reducible refine gate_store (t := 33) (p := 1) rfl ?_); refine store_event (t := 33) (p := 1) (v := ?vo_1) (w1 := (((w8.setCell ⟨gb1, 0, none⟩ (.slice A7 q1.length c7)).setCell ⟨gb1, 1, none⟩ (.slice A8 q2.length c8)).setCell ⟨gb1, 2, none⟩ (.int .i64 q3))) ?hg ?ho ?hn ?hr ?_; (case ho => rfl); (case hg => rfl); (case hn => rfl); (case hr => first | (go_simp; done) | (go_simp; rfl)); intro w9 hw_; obtain ⟨a1_, a2_, a3_, a4_⟩ := impl_NewPart_box (u0 := .slice A7 q1.length c7) (u1 := .slice A8 q2.length c8) (u2 := .int .i64 q3) HS0.out HS1.out BK1.out (by decide) (by decide) HB.out GE1.out; rw [← hw_] at a1_ a2_ a3_ a4_; have BKn := am_ (show w9.heap[gb0]? = some (.cells #[.slice none 0 0, .slice none 0 0, .int .i64 0] 33 (0, 0)) from by rw [hw_]; exact blk_far (blk_far (blk_far BK0.out N01.out _) N01.out _) N01.out _); replace HS0 := am_ a1_; replace HS1 := am_ a2_; replace BK1 := am_ a3_; replace HB := am_ a4_; replace BK0 := BKn; clear a1_ a2_ a3_ a4_ hw_ BKn hcz_0 hcz_1 hcz_2 hfz_0 hfz_1 hfz_2; obtain ⟨hcz_0, hcz_1, hcz_2, hfz_0, hfz_1, hfz_2⟩ := cf3_ BK1.out; obtain ⟨hcy_0, hcy_1, hcy_2, hfy_0, hfy_1, hfy_2⟩ := cf3_ BK0.out) | ((with_reducible refine gate_store (t := 33) (p := 0) rfl ?_); refine store_event (t := 33) (p := 0) (v := ?vo_0) (w1 := (((w9.setCell ⟨gb0, 0, none⟩ (.slice A7 q1.length c7)).setCell ⟨gb0, 1, none⟩ (.slice A8 q2.length c8)).setCell ⟨gb0, 2, none⟩ (.int .i64 q3))) ?hg ?ho ?hn ?hr ?_; (case ho => rfl); (case hg => rfl); (case hn => rfl); (case hr => first | (go_simp; done) | (go_simp; rfl)); intro w10 hw_; obtain ⟨a1_, a2_, a3_, a4_⟩ := impl_NewPart_box (u0 := .slice A7 q1.length c7) (u1 := .slice A8 q2.length c8) (u2 := .int .i64 q3) HS0.out HS1.out BK0.out (by decide) (by decide) HB.out GE0.out; rw [← hw_] at a1_ a2_ a3_ a4_; replace HS0 := am_ a1_; replace HS1 := am_ a2_; replace BK0 := am_ a3_; replace HB := am_ a4_; clear a1_ a2_ a3_ a4_ hw_))
  refine bodyPost_ret (results_cell_row rfl _ _ gb0 33 #[.slice A7 q1.length c7, .slice A8 q2.length c8, .int .i64 q3] (0, 0) _ rfl BK0.out Try.underlying33 rfl (by kernel_rfl)) rfl ?_
  exact ⟨_, _, er_, HS0.out, HS1.out, HB.out⟩



/-! ### impl_PlayAsks: function 22 -/
def impl_PlayAsks.l0 : Nat → List Int → List (S57) → Int → Int → List (S81) → List (S78) → Int → Option ((List (S81)) × (List (S78)) × Int × List Int × Bool)
 | 0, _, _, _, _, _, _, _ => none
 | k + 1, x6, x19, x20, x21, x342000, x342001, x342002 => if x21 < x20 then (if 0 ≤ x21 then (if x21 < (x19.length : Int) then ((impl_AskPart.f k x342000 x342001 x342002 ((rd_T57 x19 x21).f0) ((rd_T57 x19 x21).f1) ((rd_T57 x19 x21).f2) ((rd_T57 x19 x21).f3)).bind fun bt347 => (if bt347.2.2.2.2.2 = true then (if x6.length < 17592186044416 then (impl_PlayAsks.l0 k (x6 ++ [bt347.2.2.2.1]) x19 x20 (wrap64 (x21 + 1)) bt347.1 bt347.2.1 bt347.2.2.1) else (none)) else (some (([] : List (S81)), ([] : List (S78)), 0, ([] : List Int), false)))) else (none)) else (none)) else (some (x342000, x342001, x342002, x6, true))
def impl_PlayAsks.f (k : Nat) (l0 : List (S57)) : Option ((List (S81)) × (List (S78)) × Int × List Int × Bool) := if (l0.length : Int) > 60 then (some (([] : List (S81)), ([] : List (S78)), 0, ([] : List Int), false)) else ((impl_NewPart.f).bind fun bt334 => (impl_PlayAsks.l0 k (([] : List Int)) l0 (l0.length : Int) 0 bt334.1 bt334.2.1 bt334.2.2))
theorem impl_PlayAsks.mono_l : ∀ k, (∀ y0 y1 y2 y3 y4 y5 y6, LeO (impl_PlayAsks.l0 k y0 y1 y2 y3 y4 y5 y6) (impl_PlayAsks.l0 (k + 1) y0 y1 y2 y3 y4 y5 y6))
 | 0 => fun _ _ _ _ _ _ _ r h => by simp [impl_PlayAsks.l0] at h
 | k + 1 => by
  have ih0 := impl_PlayAsks.mono_l k
  ·intro y0 y1 y2 y3 y4 y5 y6
   unfold impl_PlayAsks.l0
   repeat' first
   | (with_reducible first | apply ih0 | apply impl_AskPart.mono | exact LeO.refl _ | exact LeO.none _ | refine LeO.ite ?_ ?_ | refine LeO.bind ?_ (fun _ => ?_))
theorem impl_PlayAsks.mono : ∀ a0 k, LeO (impl_PlayAsks.f k a0) (impl_PlayAsks.f (k + 1) a0) := by
 intro a0 k
 have ih0 := impl_PlayAsks.mono_l k
 unfold impl_PlayAsks.f
 repeat' first
   | (with_reducible first | apply ih0 | apply impl_AskPart.mono | exact LeO.refl _ | exact LeO.none _ | refine LeO.ite ?_ ?_ | refine LeO.bind ?_ (fun _ => ?_))
set_option maxHeartbeats 8000000 in
set_option maxRecDepth 100000 in
theorem impl_PlayAsks.calls (k : Nat) (A0 : Option Addr) (c0 : Nat) (l0 : List (S57)) (r1 : List (S81)) (r2 : List (S78)) (r3 : Int) (r4 : List Int) (r5 : Bool) (w : World) (hr0 : Kd.C k57 w A0 l0.length l0) (hc0 : l0.length ≤ c0) (h : impl_PlayAsks.f k l0 = some (r1, r2, r3, r4, r5)) :
  Calls Try.prog 22 #[.slice A0 l0.length c0] w fun e w' => ∃ v0_ v1_ v3_ : Value, e = .returned (.tuple #[.agg #[v0_, v1_, .int .i64 r3], v3_, .bool r5]) ∧ Kd.S k81 81 w' w.heap.size (fun _ => True) v0_ r1 ∧ Kd.S k78 78 w' w.heap.size (fun _ => True) v1_ r2 ∧ Kd.R (Kd.int .i64) 3 w' w.heap.size (fun _ => True) v3_ r4 ∧ Below w.heap.size w w' := by
 have hu33 := Try.underlying33
 have hu57 := Try.underlying57
 have HR0 := am_ hr0
 have HC0 := am_ hc0
 clear hr0 hc0
 have HB := am_ (Below.refl w.heap.size w)
 have H : (if (l0.length : Int) > 60 then (some (([] : List (S81)), ([] : List (S78)), 0, ([] : List Int), false)) else ((impl_NewPart.f).bind fun bt334 => (impl_PlayAsks.l0 k (([] : List Int)) l0 (l0.length : Int) 0 bt334.1 bt334.2.1 bt334.2.2))) = some (r1, r2, r3, r4, r5) := h
 clear h
 replace H := ite_ H
 obtain ⟨c2, H⟩ | ⟨c2, H⟩ := H
 ·have c2b0 := dgt_ c2
  have c2b1 : decide (60 < l0.length) = true := decide_eq_true (by omega)
  clear c2
  simp only [Option.some.injEq, Prod.mk.injEq] at H
  obtain ⟨rfl, rfl, rfl, rfl, rfl⟩ := H
  go_enter Try.func22, Try.ntmps22
  go_wp2_with (first | ((with_reducible refine gate_dst (N := 2) rfl ?_); refine bq_ (N := 2) #[.slice none 0 0, .slice none 0 0, .int .i64 0] 33 ?_; intro gb333 hg w3 BK333 hb; have GE333 := ge_ hg; replace HB := nb_ hb; clear hb hg; obtain ⟨hcz4_0, hcz4_1, hcz4_2, hfz4_0, hfz4_1, hfz4_2⟩ := cf3_ BK333.out))
  refine bodyPost_ret (results_ctt rfl _ _ gb333 33 #[.slice none 0 0, .slice none 0 0, .int .i64 0] (0, 0) _ rfl (up_ BK333) Try.underlying33 rfl (by kernel_rfl)) rfl ?_
  exact ⟨_, _, _, er_, by first | exact Kd.S_nil _ _ _ _ _ | exact Kd.N_nil _ _ _ _ _ | exact Kd.V_nil _ _ _ _ _ | exact Kd.Q_nil _ _ _ _ _ | exact Kd.R_nil _ _ _ _ _, by first | exact Kd.S_nil _ _ _ _ _ | exact Kd.N_nil _ _ _ _ _ | exact Kd.V_nil _ _ _ _ _ | exact Kd.Q_nil _ _ _ _ _ | exact Kd.R_nil _ _ _ _ _, ni_, hs_ GE333.out⟩
 have c2b0 := dgf_ c2
 have c2b1 : decide (60 < l0.length) = false := decide_eq_false (by omega)
 clear c2
 replace H := bnd_ H
 obtain ⟨⟨t334, t337, t340⟩, A5, H⟩ := H
 replace H := red_ H
 obtain ⟨y342, hy342⟩ : ∃ y_ : List Int, y_ = (([] : List Int)) := ⟨_, rfl⟩
 replace H : (impl_PlayAsks.l0 k y342 l0 (l0.length : Int) 0 t334 t337 t340) = some (r1, r2, r3, r4, r5) := by first | (rw [hy342]; with_reducible exact H) | (have H2_ := (Option.bind_some _ _).symm.trans H; rw [hy342]; with_reducible exact H2_) | (have H2_ := (Option.bind_some _ _).symm.trans H; with_reducible exact H2_) | with_reducible exact H | (rw [hy342]; exact H) | exact H
 have Ny342 := am_ hy342
 clear hy342
 have H' := am_ H
 clear H
 go_enter Try.func22, Try.ntmps22
 go_wp2_with (first | ((with_reducible refine gate_dst (N := 2) rfl ?_); refine bq_ (N := 2) #[.slice none 0 0, .slice none 0 0, .int .i64 0] 33 ?_; intro gb333 hg w6 BK333 hb; have GE333 := ge_ hg; replace HB := nb_ hb; clear hb hg) | ((with_reducible refine gate_callee (f := 36) rfl ?_); refine gl_ 17 Try.func36 #[] rfl ma_ ?_; (with_reducible refine (impl_NewPart.calls  t334 t337 t340 _ A5.out).mono ?_); rintro e w7 ⟨v335, v338, rfl, ho0, ho1, hb⟩; refine ⟨_, rfl, ?_⟩; have HO336 := am_ (Kd.S_lower ho0 (below_size (hs_ GE333.out))); have HO339 := am_ (Kd.S_lower ho1 (below_size (hs_ GE333.out))); replace BK333 := bK_ BK333 hb; replace HB := nc_ GE333 hb; (try clear hb); (try clear hb2); (try clear hk); (try clear hi); (try clear ho0); (try clear ho1)) | ((with_reducible refine gate_dst (N := 5) rfl ?_); refine bq_ (N := 5) #[.slice none 0 0, .slice none 0 0, .int .i64 0] 33 ?_; intro gb341 hg w8 BK341 hb; replace HO336 := sB_ HO336 hb; replace HO339 := sB_ HO339 hb; have GE341 := ge1_ hg GE333; replace HB := nc_ GE333 hb; have NB333_341 := nl_ BK333 hg; have NB341_333 := ng_ BK333 hg; replace BK333 := bK_ BK333 hb; clear hb hg; obtain ⟨Ao9, co9, eo9⟩ := Kd.S_slice HO336.out; subst eo9; have hnb10 := NB341_333.out; have hnc10 := NB333_341.out; obtain ⟨hcz11_0, hcz11_1, hcz11_2, hfz11_0, hfz11_1, hfz11_2⟩ := cf3_ BK341.out; obtain ⟨Ao12, co12, eo12⟩ := Kd.S_slice HO339.out; subst eo12) | ((with_reducible refine gate_dst (N := 18) rfl ?_); refine Kd.R_lit (Kd.int .i64) _ 3 ?hg (N := 18) ?hd (xs := ([] : List Int)) (inner := []) (ok := fun _ => True) (okp := fun _ => True) ?hr ?hp (fun _ hk => hk) trivial (Below.refl _ _) (Nat.le_refl _) (by simp) ?_; (case hd => rfl); (case hg => rfl); (case hr => first | (go_simp; done) | (go_simp; rfl)); (case hp => exact (Reps.none _ _)); intro v343 w13 ho14 hb hg_ hnew_; clear hg_ hnew_; (first | rw [← Ny342.out] at ho14 | (simp only [Int.reduceToNat] at ho14; rw [← Ny342.out] at ho14)); replace HO336 := am_ (Kd.S_below ((Kd.S_mono (sF_ (Kd.S_types HO336.out BK341.out (by decide))) (fun _ h_ => h_.1))) hb); replace HO339 := am_ (Kd.S_below ((Kd.S_mono (sF_ (Kd.S_types HO339.out BK341.out (by decide))) (fun _ h_ => h_.1))) hb); have HO344 := am_ (Kd.R_lower ho14 (below_size (hs2_ GE333.out GE341.out))); replace BK333 := am_ (blk_below (g := gb333) (o := .cells #[.slice none 0 0, .slice none 0 0, .int .i64 0] 33 (0, 0)) (uf_ BK333 NB333_341.out) hb); replace BK341 := am_ (blk_below (g := gb341) (o := .cells #[.slice Ao9 t334.length co9, .slice Ao12 t337.length co12, .int .i64 t340] 33 (0, 0)) (up_ BK341) hb); replace HB := nc2_ GE333 GE341 hb; clear hb ho14))
 go_loopg [6, 21] k (fun kq v6 v21 w' => ∃ (x6_1 : List Int) (x21_1 : Int) (x334002_1 : Int) (x342000_1 : List (S81)) (x342001_1 : List (S78)) (x342002_1 : Int) (u342000 : Value) (u342001 : Value), v21 = .int .i64 x21_1 ∧ Aside0 (impl_PlayAsks.l0 kq x6_1 l0 (l0.length : Int) x21_1 x342000_1 x342001_1 x342002_1 = some (r1, r2, r3, r4, r5)) ∧ Aside0 (kq ≤ k) ∧ Aside0 (Kd.R (Kd.int .i64) 3 w' w.heap.size (fun _ => True) v6 x6_1) ∧ Aside0 (Kd.S k81 81 w' w.heap.size (fun _ => True) u342000 x342000_1) ∧ Aside0 (Kd.S k78 78 w' w.heap.size (fun _ => True) u342001 x342001_1) ∧ Aside0 (w'.heap[gb333]? = some (.cells #[(.slice none 0 0), (.slice none 0 0), .int .i64 x334002_1] 33 (0, 0))) ∧ Aside0 (w'.heap[gb341]? = some (.cells #[u342000, u342001, .int .i64 x342002_1] 33 (0, 0))) ∧ Aside0 (Below w.heap.size w w'))
 case atStart => exact ⟨(y342), (0), (0), (t334), (t337), (t340), (.slice Ao9 t334.length co9), (.slice Ao12 t337.length co12), sr_, H', ⟨Nat.le_refl _⟩, ⟨kr_ HO344.out⟩, ⟨ks_ HO336.out⟩, ⟨ks_ HO339.out⟩, ⟨kb_ BK333.out⟩, ⟨kb_ BK341.out⟩, ⟨hs2_ GE333.out GE341.out⟩⟩
 case round =>
  clear H'
  try clear c2
  try clear c2b0
  try clear c2b1
  try clear hcz11_0
  try clear hcz11_1
  try clear hcz11_2
  try clear hfz11_0
  try clear hfz11_1
  try clear hfz11_2
  obtain ⟨x6_1, x21_1, x334002_1, x342000_1, x342001_1, x342002_1, u342000, u342001, rfl, HA, HK1, HO_6, HO_342000, HO_342001, BK333, BK341, HB⟩ := hrel
  cases gk with
  | zero => exact absurd HA.out (by simp [impl_PlayAsks.l0])
  | succ k1 =>
   have H := HA.out
   clear HA
   simp only [impl_PlayAsks.l0] at H
   replace H := ite_ H
   obtain ⟨c15, H⟩ | ⟨c15, H⟩ := H
   rotate_left
   ·have c15b0 := decide_eq_false c15
    clear c15
    simp only [Option.some.injEq, Prod.mk.injEq] at H
    obtain ⟨rfl, rfl, rfl, rfl, rfl⟩ := H
    have hnb56 := NB341_333.out
    have hnc56 := NB333_341.out
    obtain ⟨hcz57_0, hcz57_1, hcz57_2, hfz57_0, hfz57_1, hfz57_2⟩ := cf3_ BK341.out
    obtain ⟨Ao58, co58, eo58⟩ := Kd.S_slice HO_342000.out
    subst eo58
    obtain ⟨hcz59_0, hcz59_1, hcz59_2, hfz59_0, hfz59_1, hfz59_2⟩ := cf3_ BK333.out
    obtain ⟨Ao60, co60, eo60⟩ := Kd.S_slice HO_342001.out
    subst eo60
    go_wp2
    refine bodyPost_ret (results_ctt rfl _ _ gb333 33 #[.slice Ao58 x342000_1.length co58, .slice Ao60 x342001_1.length co60, .int .i64 x342002_1] (0, 0) _ rfl (up_ BK333) Try.underlying33 rfl (by kernel_rfl)) rfl ?_
    exact ⟨_, _, _, er_, Kd.S_mono (sF_ (Kd.S_types HO_342000.out BK333.out (by decide))) (fun _ hk => trivial), Kd.S_mono (sF_ (Kd.S_types HO_342001.out BK333.out (by decide))) (fun _ hk => trivial), Kd.R_mono (rF_ (Kd.R_types HO_6.out BK333.out (by decide))) (fun _ hk => trivial), hs2_ GE333.out GE341.out⟩
   have c15b0 := decide_eq_true c15
   clear c15
   replace H := ifs_ H
   obtain ⟨c16, H⟩ := H
   have c16b0 := decide_eq_true c16
   clear c16
   replace H := ifs_ H
   obtain ⟨c17, H⟩ := H
   have c17b0 := decide_eq_true c17
   clear c17
   replace H := bnd_ H
   obtain ⟨⟨t347, t350, t353, t354, t355, t356⟩, A18, H⟩ := H
   replace H := red_ H
   replace H := ifb_ H
   obtain ⟨rfl, H⟩ | ⟨rfl, H⟩ := H
   rotate_left
   ·simp only [Option.some.injEq, Prod.mk.injEq] at H
    obtain ⟨rfl, rfl, rfl, rfl, rfl⟩ := H
    have p345 : 0 ≤ (x21_1 : Int) := oa_
    have q345 : x21_1 < (l0.length : Int) := oa_
    obtain ⟨ad345, A345_3, c345_3, e345, hx345_0, hx345_1, hx345_2, hx345_3, hl345_3, hi345_3⟩ := at_T57 HR0.out x21_1 p345 q345
    cases e345
    replace hx345_0 := pc_ HB.out hx345_0
    replace hx345_1 := pc_ HB.out hx345_1
    replace hx345_2 := pc_ HB.out hx345_2
    replace hx345_3 := pc_ HB.out hx345_3
    have HR345_3 := am_ hi345_3
    have HC345_3 := am_ hl345_3
    clear hi345_3 hl345_3
    replace p345 := eq_true p345
    replace q345 := eq_true q345
    go_wp2_with (first | ((with_reducible refine gate_dst (N := 8) rfl ?_); refine bq_ (N := 8) #[.int .i64 0, .int .i64 0, .int .i64 0, .slice none 0 0] 57 ?_; intro gb346 hg w39 BK346 hb; replace HO_6 := rB_ HO_6 hb; replace HO_342000 := sB_ HO_342000 hb; replace HO_342001 := sB_ HO_342001 hb; have GE346 := ge2_ hg GE333 GE341; replace HB := nc2_ GE333 GE341 hb; have NB333_346 := nl_ BK333 hg; have NB346_333 := ng_ BK333 hg; replace BK333 := bK_ BK333 hb; have NB341_346 := nl_ BK341 hg; have NB346_341 := ng_ BK341 hg; replace BK341 := bK_ BK341 hb; clear hb hg; have hnb40 := NB346_333.out; have hnc40 := NB333_346.out; have hnb41 := NB346_341.out; have hnc41 := NB341_346.out; obtain ⟨hcz42_0, hcz42_1, hcz42_2, hcz42_3, hfz42_0, hfz42_1, hfz42_2, hfz42_3⟩ := cf4_ BK346.out; have hnb43 := NB341_333.out; have hnc43 := NB333_341.out; obtain ⟨hcz44_0, hcz44_1, hcz44_2, hfz44_0, hfz44_1, hfz44_2⟩ := cf3_ BK341.out; obtain ⟨Ao45, co45, eo45⟩ := Kd.S_slice HO_342000.out; subst eo45; obtain ⟨Ao46, co46, eo46⟩ := Kd.S_slice HO_342001.out; subst eo46) | ((with_reducible refine gate_callee (f := 32) rfl ?_); refine gl_ 28 Try.func32 #[.agg #[.slice Ao45 x342000_1.length co45, .slice Ao46 x342001_1.length co46, .int .i64 x342002_1], .agg #[.int .i64 ((rd_T57 l0 x21_1).f0), .int .i64 ((rd_T57 l0 x21_1).f1), .int .i64 ((rd_T57 l0 x21_1).f2), .slice A345_3 ((rd_T57 l0 x21_1).f3).length c345_3]] rfl ma_ ?_; (with_reducible refine (impl_AskPart.calls k1 _ _ x342000_1 _ _ x342001_1 x342002_1 ((rd_T57 l0 x21_1).f0) ((rd_T57 l0 x21_1).f1) ((rd_T57 l0 x21_1).f2) _ _ ((rd_T57 l0 x21_1).f3) t347 t350 t353 t354 t355 false _ ?side1 ?side2 ?side3 ?side4 ?side5 ?side6 A18.out).mono ?_); (case side1 => refine (Kd.S_reads' (e := 81) (base := w.heap.size) (ok := fun k_ => True) (n := x342000_1.length) (c := co45) ?_).2.2; exact ((Kd.S_mono (sF_ (Kd.S_types HO_342000.out BK346.out (by decide))) (fun _ h_ => h_.1)))); (case side2 => exact (Kd.S_reads' HO_342000.out).2.1); (case side3 => refine (Kd.S_reads' (e := 78) (base := w.heap.size) (ok := fun k_ => True) (n := x342001_1.length) (c := co46) ?_).2.2; exact ((Kd.S_mono (sF_ (Kd.S_types HO_342001.out BK346.out (by decide))) (fun _ h_ => h_.1)))); (case side4 => exact (Kd.S_reads' HO_342001.out).2.1); (case side5 => exact Kd.C_below HR345_3.out (hs3_ GE333.out GE341.out GE346.out)); (case side6 => exact HC345_3.out); rintro e w47 ⟨v348, v351, rfl, ho0, ho1, hb⟩; refine ⟨_, rfl, ?_⟩; replace HO_6 := am_ (Kd.R_below ((Kd.R_mono (rF_ (Kd.R_types HO_6.out BK346.out (by decide))) (fun _ h_ => h_.1))) hb); have HO349 := am_ (Kd.S_lower (Kd.S_new' ho0 (Kd.S_lt ((Kd.S_mono (sF_ (Kd.S_types HO_342000.out BK346.out (by decide))) (fun _ h_ => h_.1))))) (below_size (hs3_ GE333.out GE341.out GE346.out))); replace HO_342000 := am_ (Kd.S_elder' ((Kd.S_mono (sF_ (Kd.S_types HO_342000.out BK346.out (by decide))) (fun _ h_ => h_.1))) (Kd.S_base ho0) hb); have HO352 := am_ (Kd.S_lower (Kd.S_new' ho1 (Kd.S_lt ((Kd.S_mono (sF_ (Kd.S_types HO_342001.out BK346.out (by decide))) (fun _ h_ => h_.1))))) (below_size (hs3_ GE333.out GE341.out GE346.out))); replace HO_342001 := am_ (Kd.S_elder' ((Kd.S_mono (sF_ (Kd.S_types HO_342001.out BK346.out (by decide))) (fun _ h_ => h_.1))) (Kd.S_base ho1) hb); replace BK333 := am_ (blk_below (g := gb333) (o := .cells #[.slice none 0 0, .slice none 0 0, .int .i64 x334002_1] 33 (0, 0)) (uf_ BK333 NB333_346.out) hb); replace BK341 := am_ (blk_below (g := gb341) (o := .cells #[.slice Ao45 x342000_1.length co45, .slice Ao46 x342001_1.length co46, .int .i64 x342002_1] 33 (0, 0)) (uf_ BK341 NB341_346.out) hb); replace BK346 := am_ (blk_below (g := gb346) (o := .cells #[.int .i64 ((rd_T57 l0 x21_1).f0), .int .i64 ((rd_T57 l0 x21_1).f1), .int .i64 ((rd_T57 l0 x21_1).f2), .slice A345_3 ((rd_T57 l0 x21_1).f3).length c345_3] 57 (0, 0)) (up_ BK346) hb); replace HB := nc3_ GE333 GE341 GE346 hb; (try clear hb); (try clear hb2); (try clear hk); (try clear hi); (try clear ho0); (try clear ho1)) | ((with_reducible refine gate_dst (N := 9) rfl ?_); refine bq_ (N := 9) #[.slice none 0 0, .slice none 0 0, .int .i64 0] 33 ?_; intro gb357 hg w48 BK357 hb; replace HO_6 := rB_ HO_6 hb; replace HO_342000 := sB_ HO_342000 hb; replace HO_342001 := sB_ HO_342001 hb; replace HO349 := sB_ HO349 hb; replace HO352 := sB_ HO352 hb; have GE357 := ge3_ hg GE333 GE341 GE346; replace HB := nc3_ GE333 GE341 GE346 hb; have NB333_357 := nl_ BK333 hg; have NB357_333 := ng_ BK333 hg; replace BK333 := bK_ BK333 hb; have NB341_357 := nl_ BK341 hg; have NB357_341 := ng_ BK341 hg; replace BK341 := bK_ BK341 hb; have NB346_357 := nl_ BK346 hg; have NB357_346 := ng_ BK346 hg; replace BK346 := bK_ BK346 hb; clear hb hg; obtain ⟨Ao49, co49, eo49⟩ := Kd.S_slice HO349.out; subst eo49; have hnb50 := NB357_333.out; have hnc50 := NB333_357.out; have hnb51 := NB357_341.out; have hnc51 := NB341_357.out; have hnb52 := NB357_346.out; have hnc52 := NB346_357.out; obtain ⟨hcz53_0, hcz53_1, hcz53_2, hfz53_0, hfz53_1, hfz53_2⟩ := cf3_ BK357.out; obtain ⟨Ao54, co54, eo54⟩ := Kd.S_slice HO352.out; subst eo54; obtain ⟨hcz55_0, hcz55_1, hcz55_2, hfz55_0, hfz55_1, hfz55_2⟩ := cf3_ BK333.out))
    refine bodyPost_ret (results_ctt rfl _ _ gb333 33 #[.slice none 0 0, .slice none 0 0, .int .i64 0] (0, 0) _ rfl (by (with_reducible repeat (first | refine blk_drewN ?_ _ | refine blk_drew ?_ | refine blk_alloc ?_ _)); refine blk_put (cs := #[.slice none 0 0, .slice none 0 0, .int .i64 x334002_1]) ?_ 2 _ rfl; (with_reducible repeat (first | refine blk_drewN ?_ _ | refine blk_drew ?_ | refine blk_alloc ?_ _)); refine blk_put (cs := #[.slice none 0 0, .slice none 0 0, .int .i64 x334002_1]) ?_ 1 _ rfl; (with_reducible repeat (first | refine blk_drewN ?_ _ | refine blk_drew ?_ | refine blk_alloc ?_ _)); refine blk_put (cs := #[.slice none 0 0, .slice none 0 0, .int .i64 x334002_1]) ?_ 0 _ rfl; (with_reducible repeat (first | refine blk_drewN ?_ _ | refine blk_drew ?_ | refine blk_alloc ?_ _)); refine blk_far ?_ NB333_357.out _; (with_reducible repeat (first | refine blk_drewN ?_ _ | refine blk_drew ?_ | refine blk_alloc ?_ _)); refine blk_far ?_ NB333_357.out _; (with_reducible repeat (first | refine blk_drewN ?_ _ | refine blk_drew ?_ | refine blk_alloc ?_ _)); refine blk_far ?_ NB333_357.out _; (with_reducible repeat (first | refine blk_drewN ?_ _ | refine blk_drew ?_ | refine blk_alloc ?_ _)); exact BK333.out) Try.underlying33 rfl (by kernel_rfl)) rfl ?_
    exact ⟨_, _, _, er_, by first | exact Kd.S_nil _ _ _ _ _ | exact Kd.N_nil _ _ _ _ _ | exact Kd.V_nil _ _ _ _ _ | exact Kd.Q_nil _ _ _ _ _ | exact Kd.R_nil _ _ _ _ _, by first | exact Kd.S_nil _ _ _ _ _ | exact Kd.N_nil _ _ _ _ _ | exact Kd.V_nil _ _ _ _ _ | exact Kd.Q_nil _ _ _ _ _ | exact Kd.R_nil _ _ _ _ _, ni_, hs4_ GE333.out GE341.out GE346.out GE357.out⟩
   replace H := ifs_ H
   obtain ⟨c20, H⟩ := H
   have LMc20 := am_ c20
   clear c20
   obtain ⟨y358, hy358⟩ : ∃ y_ : List Int, y_ = (x6_1 ++ [t354]) := ⟨_, rfl⟩
   replace H : (impl_PlayAsks.l0 k1 y358 l0 (l0.length : Int) (wrap64 (x21_1 + 1)) t347 t350 t353) = some (r1, r2, r3, r4, r5) := by first | (rw [hy358]; with_reducible exact H) | (have H2_ := (Option.bind_some _ _).symm.trans H; rw [hy358]; with_reducible exact H2_) | (have H2_ := (Option.bind_some _ _).symm.trans H; with_reducible exact H2_) | with_reducible exact H | (rw [hy358]; exact H) | exact H
   have Ny358 := am_ hy358
   clear hy358
   have H' := am_ H
   clear H
   have p345 : 0 ≤ (x21_1 : Int) := oa_
   have q345 : x21_1 < (l0.length : Int) := oa_
   obtain ⟨ad345, A345_3, c345_3, e345, hx345_0, hx345_1, hx345_2, hx345_3, hl345_3, hi345_3⟩ := at_T57 HR0.out x21_1 p345 q345
   cases e345
   replace hx345_0 := pc_ HB.out hx345_0
   replace hx345_1 := pc_ HB.out hx345_1
   replace hx345_2 := pc_ HB.out hx345_2
   replace hx345_3 := pc_ HB.out hx345_3
   have HR345_3 := am_ hi345_3
   have HC345_3 := am_ hl345_3
   clear hi345_3 hl345_3
   replace p345 := eq_true p345
   replace q345 := eq_true q345
   go_wp2_with (first | ((with_reducible refine gate_dst (N := 8) rfl ?_); refine bq_ (N := 8) #[.int .i64 0, .int .i64 0, .int .i64 0, .slice none 0 0] 57 ?_; intro gb346 hg w21 BK346 hb; replace HO_6 := rB_ HO_6 hb; replace HO_342000 := sB_ HO_342000 hb; replace HO_342001 := sB_ HO_342001 hb; have GE346 := ge2_ hg GE333 GE341; replace HB := nc2_ GE333 GE341 hb; have NB333_346 := nl_ BK333 hg; have NB346_333 := ng_ BK333 hg; replace BK333 := bK_ BK333 hb; have NB341_346 := nl_ BK341 hg; have NB346_341 := ng_ BK341 hg; replace BK341 := bK_ BK341 hb; clear hb hg; have hnb22 := NB346_333.out; have hnc22 := NB333_346.out; have hnb23 := NB346_341.out; have hnc23 := NB341_346.out; obtain ⟨hcz24_0, hcz24_1, hcz24_2, hcz24_3, hfz24_0, hfz24_1, hfz24_2, hfz24_3⟩ := cf4_ BK346.out; have hnb25 := NB341_333.out; have hnc25 := NB333_341.out; obtain ⟨hcz26_0, hcz26_1, hcz26_2, hfz26_0, hfz26_1, hfz26_2⟩ := cf3_ BK341.out; obtain ⟨Ao27, co27, eo27⟩ := Kd.S_slice HO_342000.out; subst eo27; obtain ⟨Ao28, co28, eo28⟩ := Kd.S_slice HO_342001.out; subst eo28) | ((with_reducible refine gate_callee (f := 32) rfl ?_); refine gl_ 28 Try.func32 #[.agg #[.slice Ao27 x342000_1.length co27, .slice Ao28 x342001_1.length co28, .int .i64 x342002_1], .agg #[.int .i64 ((rd_T57 l0 x21_1).f0), .int .i64 ((rd_T57 l0 x21_1).f1), .int .i64 ((rd_T57 l0 x21_1).f2), .slice A345_3 ((rd_T57 l0 x21_1).f3).length c345_3]] rfl ma_ ?_; (with_reducible refine (impl_AskPart.calls k1 _ _ x342000_1 _ _ x342001_1 x342002_1 ((rd_T57 l0 x21_1).f0) ((rd_T57 l0 x21_1).f1) ((rd_T57 l0 x21_1).f2) _ _ ((rd_T57 l0 x21_1).f3) t347 t350 t353 t354 t355 true _ ?side1 ?side2 ?side3 ?side4 ?side5 ?side6 A18.out).mono ?_); (case side1 => refine (Kd.S_reads' (e := 81) (base := w.heap.size) (ok := fun k_ => True) (n := x342000_1.length) (c := co27) ?_).2.2; exact ((Kd.S_mono (sF_ (Kd.S_types HO_342000.out BK346.out (by decide))) (fun _ h_ => h_.1)))); (case side2 => exact (Kd.S_reads' HO_342000.out).2.1); (case side3 => refine (Kd.S_reads' (e := 78) (base := w.heap.size) (ok := fun k_ => True) (n := x342001_1.length) (c := co28) ?_).2.2; exact ((Kd.S_mono (sF_ (Kd.S_types HO_342001.out BK346.out (by decide))) (fun _ h_ => h_.1)))); (case side4 => exact (Kd.S_reads' HO_342001.out).2.1); (case side5 => exact Kd.C_below HR345_3.out (hs3_ GE333.out GE341.out GE346.out)); (case side6 => exact HC345_3.out); rintro e w29 ⟨v348, v351, rfl, ho0, ho1, hb⟩; refine ⟨_, rfl, ?_⟩; replace HO_6 := am_ (Kd.R_below ((Kd.R_mono (rF_ (Kd.R_types HO_6.out BK346.out (by decide))) (fun _ h_ => h_.1))) hb); have HO349 := am_ (Kd.S_lower (Kd.S_new' ho0 (Kd.S_lt ((Kd.S_mono (sF_ (Kd.S_types HO_342000.out BK346.out (by decide))) (fun _ h_ => h_.1))))) (below_size (hs3_ GE333.out GE341.out GE346.out))); replace HO_342000 := am_ (Kd.S_elder' ((Kd.S_mono (sF_ (Kd.S_types HO_342000.out BK346.out (by decide))) (fun _ h_ => h_.1))) (Kd.S_base ho0) hb); have HO352 := am_ (Kd.S_lower (Kd.S_new' ho1 (Kd.S_lt ((Kd.S_mono (sF_ (Kd.S_types HO_342001.out BK346.out (by decide))) (fun _ h_ => h_.1))))) (below_size (hs3_ GE333.out GE341.out GE346.out))); replace HO_342001 := am_ (Kd.S_elder' ((Kd.S_mono (sF_ (Kd.S_types HO_342001.out BK346.out (by decide))) (fun _ h_ => h_.1))) (Kd.S_base ho1) hb); replace BK333 := am_ (blk_below (g := gb333) (o := .cells #[.slice none 0 0, .slice none 0 0, .int .i64 x334002_1] 33 (0, 0)) (uf_ BK333 NB333_346.out) hb); replace BK341 := am_ (blk_below (g := gb341) (o := .cells #[.slice Ao27 x342000_1.length co27, .slice Ao28 x342001_1.length co28, .int .i64 x342002_1] 33 (0, 0)) (uf_ BK341 NB341_346.out) hb); replace BK346 := am_ (blk_below (g := gb346) (o := .cells #[.int .i64 ((rd_T57 l0 x21_1).f0), .int .i64 ((rd_T57 l0 x21_1).f1), .int .i64 ((rd_T57 l0 x21_1).f2), .slice A345_3 ((rd_T57 l0 x21_1).f3).length c345_3] 57 (0, 0)) (up_ BK346) hb); replace HB := nc3_ GE333 GE341 GE346 hb; (try clear hb); (try clear hb2); (try clear hk); (try clear hi); (try clear ho0); (try clear ho1)) | ((with_reducible refine gate_dst (N := 9) rfl ?_); refine bq_ (N := 9) #[.slice none 0 0, .slice none 0 0, .int .i64 0] 33 ?_; intro gb357 hg w30 BK357 hb; replace HO_6 := rB_ HO_6 hb; replace HO_342000 := sB_ HO_342000 hb; replace HO_342001 := sB_ HO_342001 hb; replace HO349 := sB_ HO349 hb; replace HO352 := sB_ HO352 hb; have GE357 := ge3_ hg GE333 GE341 GE346; replace HB := nc3_ GE333 GE341 GE346 hb; have NB333_357 := nl_ BK333 hg; have NB357_333 := ng_ BK333 hg; replace BK333 := bK_ BK333 hb; have NB341_357 := nl_ BK341 hg; have NB357_341 := ng_ BK341 hg; replace BK341 := bK_ BK341 hb; have NB346_357 := nl_ BK346 hg; have NB357_346 := ng_ BK346 hg; replace BK346 := bK_ BK346 hb; clear hb hg; obtain ⟨Ao31, co31, eo31⟩ := Kd.S_slice HO349.out; subst eo31; have hnb32 := NB357_333.out; have hnc32 := NB333_357.out; have hnb33 := NB357_341.out; have hnc33 := NB341_357.out; have hnb34 := NB357_346.out; have hnc34 := NB346_357.out; obtain ⟨hcz35_0, hcz35_1, hcz35_2, hfz35_0, hfz35_1, hfz35_2⟩ := cf3_ BK357.out; obtain ⟨Ao36, co36, eo36⟩ := Kd.S_slice HO352.out; subst eo36; obtain ⟨hcz37_0, hcz37_1, hcz37_2, hfz37_0, hfz37_1, hfz37_2⟩ := cf3_ BK341.out) | ((with_reducible refine gate_builtin (b := .append) (xs := #[.tmp 37, .tmp 39]) rfl ?_); at_builtin; refine Kd.R_append (Kd.int .i64) (w0 := w) w.heap.size rfl (.tmp 37) (.tmp 39) 42 3 (.int .i64 0) 8 rfl Try.underlying42 info3 rfl (by decide) (by omega) u6 x6_1 t354 [.int .i64 t354] (fun _ => True) (fun _ => False) rfl (by first | (go_simp; done) | (go_simp; rfl)) ?aP (fun _ hk => hk.elim) ?aF ?aO ?aB ?aS ?aL ?_; (case aP => exact rfl); (case aB => exact (hs4_ GE333.out GE341.out GE346.out GE357.out)); (case aF => exact (fun _ _ => trivial)); (case aO => exact (Kd.R_mono (rF_ (Kd.R_far (p := ⟨gb357, 2, none⟩) (Kd.R_far (p := ⟨gb357, 1, none⟩) (Kd.R_far (p := ⟨gb357, 0, none⟩) (Kd.R_types (Kd.R_types HO_6.out BK357.out (by decide)) BK341.out (by decide)) (fun _ hk => hk.1.2) (.slice Ao31 t347.length co31)) (fun _ hk => hk.1.2) (.slice Ao36 t350.length co36)) (fun _ hk => hk.1.2) (.int .i64 t353))) (fun _ hk => trivial))); (case aS => exact (below_size (hs4_ GE333.out GE341.out GE346.out GE357.out))); (case aL => have := LMc20.out; omega); intro v359 w38 ho hb hg hat; rw [← Ny358.out] at ho; replace HO_342000 := am_ (Kd.S_over' ((Kd.S_mono (Kd.S_mono (sF_ (Kd.S_far (p := ⟨gb357, 2, none⟩) (Kd.S_far (p := ⟨gb357, 1, none⟩) (Kd.S_far (p := ⟨gb357, 0, none⟩) (Kd.S_types (Kd.S_types HO_342000.out BK357.out (by decide)) BK341.out (by decide)) (fun _ hk => hk.1.2) (.slice Ao31 t347.length co31)) (fun _ hk => hk.1.2) (.slice Ao36 t350.length co36)) (fun _ hk => hk.1.2) (.int .i64 t353))) (fun _ h_ => h_.1)) (fun _ h_ => h_.1))) (Kd.R_typed ((Kd.R_mono (Kd.R_mono (rF_ (Kd.R_far (p := ⟨gb357, 2, none⟩) (Kd.R_far (p := ⟨gb357, 1, none⟩) (Kd.R_far (p := ⟨gb357, 0, none⟩) (Kd.R_types (Kd.R_types HO_6.out BK357.out (by decide)) BK341.out (by decide)) (fun _ hk => hk.1.2) (.slice Ao31 t347.length co31)) (fun _ hk => hk.1.2) (.slice Ao36 t350.length co36)) (fun _ hk => hk.1.2) (.int .i64 t353))) (fun _ h_ => h_.1)) (fun _ h_ => h_.1)))) (by decide) hg); replace HO_342001 := am_ (Kd.S_over' ((Kd.S_mono (Kd.S_mono (sF_ (Kd.S_far (p := ⟨gb357, 2, none⟩) (Kd.S_far (p := ⟨gb357, 1, none⟩) (Kd.S_far (p := ⟨gb357, 0, none⟩) (Kd.S_types (Kd.S_types HO_342001.out BK357.out (by decide)) BK341.out (by decide)) (fun _ hk => hk.1.2) (.slice Ao31 t347.length co31)) (fun _ hk => hk.1.2) (.slice Ao36 t350.length co36)) (fun _ hk => hk.1.2) (.int .i64 t353))) (fun _ h_ => h_.1)) (fun _ h_ => h_.1))) (Kd.R_typed ((Kd.R_mono (Kd.R_mono (rF_ (Kd.R_far (p := ⟨gb357, 2, none⟩) (Kd.R_far (p := ⟨gb357, 1, none⟩) (Kd.R_far (p := ⟨gb357, 0, none⟩) (Kd.R_types (Kd.R_types HO_6.out BK357.out (by decide)) BK341.out (by decide)) (fun _ hk => hk.1.2) (.slice Ao31 t347.length co31)) (fun _ hk => hk.1.2) (.slice Ao36 t350.length co36)) (fun _ hk => hk.1.2) (.int .i64 t353))) (fun _ h_ => h_.1)) (fun _ h_ => h_.1)))) (by decide) hg); replace BK333 := am_ (blk_grown (g := gb333) (o := .cells #[.slice none 0 0, .slice none 0 0, .int .i64 x334002_1] 33 (0, 0)) (ug_ BK333 NB333_341.out NB333_357.out) hg (Kd.R_ne HO_6.out BK333.out (by decide))); replace BK346 := am_ (blk_grown (g := gb346) (o := .cells #[.int .i64 ((rd_T57 l0 x21_1).f0), .int .i64 ((rd_T57 l0 x21_1).f1), .int .i64 ((rd_T57 l0 x21_1).f2), .slice A345_3 ((rd_T57 l0 x21_1).f3).length c345_3] 57 (0, 0)) (ug_ BK346 NB346_341.out NB346_357.out) hg (Kd.R_ne HO_6.out BK346.out (by decide))); replace HO349 := am_ (Kd.S_over' ((Kd.S_mono (Kd.S_mono (sF_ (Kd.S_far (p := ⟨gb357, 2, none⟩) (Kd.S_far (p := ⟨gb357, 1, none⟩) (Kd.S_far (p := ⟨gb357, 0, none⟩) (Kd.S_types (Kd.S_types HO349.out BK357.out (by decide)) BK341.out (by decide)) (fun _ hk => hk.1.2) (.slice Ao31 t347.length co31)) (fun _ hk => hk.1.2) (.slice Ao36 t350.length co36)) (fun _ hk => hk.1.2) (.int .i64 t353))) (fun _ h_ => h_.1)) (fun _ h_ => h_.1))) (Kd.R_typed ((Kd.R_mono (Kd.R_mono (rF_ (Kd.R_far (p := ⟨gb357, 2, none⟩) (Kd.R_far (p := ⟨gb357, 1, none⟩) (Kd.R_far (p := ⟨gb357, 0, none⟩) (Kd.R_types (Kd.R_types HO_6.out BK357.out (by decide)) BK341.out (by decide)) (fun _ hk => hk.1.2) (.slice Ao31 t347.length co31)) (fun _ hk => hk.1.2) (.slice Ao36 t350.length co36)) (fun _ hk => hk.1.2) (.int .i64 t353))) (fun _ h_ => h_.1)) (fun _ h_ => h_.1)))) (by decide) hg); replace HO352 := am_ (Kd.S_over' ((Kd.S_mono (Kd.S_mono (sF_ (Kd.S_far (p := ⟨gb357, 2, none⟩) (Kd.S_far (p := ⟨gb357, 1, none⟩) (Kd.S_far (p := ⟨gb357, 0, none⟩) (Kd.S_types (Kd.S_types HO352.out BK357.out (by decide)) BK341.out (by decide)) (fun _ hk => hk.1.2) (.slice Ao31 t347.length co31)) (fun _ hk => hk.1.2) (.slice Ao36 t350.length co36)) (fun _ hk => hk.1.2) (.int .i64 t353))) (fun _ h_ => h_.1)) (fun _ h_ => h_.1))) (Kd.R_typed ((Kd.R_mono (Kd.R_mono (rF_ (Kd.R_far (p := ⟨gb357, 2, none⟩) (Kd.R_far (p := ⟨gb357, 1, none⟩) (Kd.R_far (p := ⟨gb357, 0, none⟩) (Kd.R_types (Kd.R_types HO_6.out BK357.out (by decide)) BK341.out (by decide)) (fun _ hk => hk.1.2) (.slice Ao31 t347.length co31)) (fun _ hk => hk.1.2) (.slice Ao36 t350.length co36)) (fun _ hk => hk.1.2) (.int .i64 t353))) (fun _ h_ => h_.1)) (fun _ h_ => h_.1)))) (by decide) hg); replace BK341 := am_ (blk_grown (g := gb341) (o := .cells #[.slice Ao31 t347.length co31, .slice Ao36 t350.length co36, .int .i64 t353] 33 (0, 0)) (by (with_reducible repeat (first | refine blk_drewN ?_ _ | refine blk_drew ?_ | refine blk_alloc ?_ _)); refine blk_put (cs := #[.slice Ao31 t347.length co31, .slice Ao36 t350.length co36, .int .i64 x342002_1]) ?_ 2 _ rfl; (with_reducible repeat (first | refine blk_drewN ?_ _ | refine blk_drew ?_ | refine blk_alloc ?_ _)); refine blk_put (cs := #[.slice Ao31 t347.length co31, .slice Ao28 x342001_1.length co28, .int .i64 x342002_1]) ?_ 1 _ rfl; (with_reducible repeat (first | refine blk_drewN ?_ _ | refine blk_drew ?_ | refine blk_alloc ?_ _)); refine blk_put (cs := #[.slice Ao27 x342000_1.length co27, .slice Ao28 x342001_1.length co28, .int .i64 x342002_1]) ?_ 0 _ rfl; (with_reducible repeat (first | refine blk_drewN ?_ _ | refine blk_drew ?_ | refine blk_alloc ?_ _)); refine blk_far ?_ NB341_357.out _; (with_reducible repeat (first | refine blk_drewN ?_ _ | refine blk_drew ?_ | refine blk_alloc ?_ _)); refine blk_far ?_ NB341_357.out _; (with_reducible repeat (first | refine blk_drewN ?_ _ | refine blk_drew ?_ | refine blk_alloc ?_ _)); refine blk_far ?_ NB341_357.out _; (with_reducible repeat (first | refine blk_drewN ?_ _ | refine blk_drew ?_ | refine blk_alloc ?_ _)); exact BK341.out) hg (Kd.R_ne HO_6.out BK341.out (by decide))); replace BK357 := am_ (blk_grown (g := gb357) (o := .cells #[.slice Ao31 t347.length co31, .slice Ao36 t350.length co36, .int .i64 t353] 33 (0, 0)) (by (with_reducible repeat (first | refine blk_drewN ?_ _ | refine blk_drew ?_ | refine blk_alloc ?_ _)); refine blk_far ?_ NB357_341.out _; (with_reducible repeat (first | refine blk_drewN ?_ _ | refine blk_drew ?_ | refine blk_alloc ?_ _)); refine blk_far ?_ NB357_341.out _; (with_reducible repeat (first | refine blk_drewN ?_ _ | refine blk_drew ?_ | refine blk_alloc ?_ _)); refine blk_far ?_ NB357_341.out _; (with_reducible repeat (first | refine blk_drewN ?_ _ | refine blk_drew ?_ | refine blk_alloc ?_ _)); refine blk_put (cs := #[.slice Ao31 t347.length co31, .slice Ao36 t350.length co36, .int .i64 0]) ?_ 2 _ rfl; (with_reducible repeat (first | refine blk_drewN ?_ _ | refine blk_drew ?_ | refine blk_alloc ?_ _)); refine blk_put (cs := #[.slice Ao31 t347.length co31, .slice none 0 0, .int .i64 0]) ?_ 1 _ rfl; (with_reducible repeat (first | refine blk_drewN ?_ _ | refine blk_drew ?_ | refine blk_alloc ?_ _)); refine blk_put (cs := #[.slice none 0 0, .slice none 0 0, .int .i64 0]) ?_ 0 _ rfl; (with_reducible repeat (first | refine blk_drewN ?_ _ | refine blk_drew ?_ | refine blk_alloc ?_ _)); exact BK357.out) hg (Kd.R_ne HO_6.out BK357.out (by decide))); replace HB := am_ (hb); have HO360 := am_ (ho); clear HO_6; clear ho hb hg hat))
   go_roundg k1
   case measure => have := HK1.out; omega
   case rel => exact ⟨(y358), (wrap64 (x21_1 + 1)), (x334002_1), (t347), (t350), (t353), (.slice Ao31 t347.length co31), (.slice Ao36 t350.length co36), sr_, H', ⟨by have := HK1.out; omega⟩, ⟨kr_ HO360.out⟩, ⟨sF_ (Kd.S_mono HO349.out (fun _ hk => trivial))⟩, ⟨sF_ (Kd.S_mono HO352.out (fun _ hk => trivial))⟩, ⟨kb_ BK333.out⟩, ⟨kb_ BK341.out⟩, ⟨hs4_ GE333.out GE341.out GE346.out GE357.out⟩⟩
end Go.Proofs.Ytojdaolclcmalaa.QFnExactPlayAsks
