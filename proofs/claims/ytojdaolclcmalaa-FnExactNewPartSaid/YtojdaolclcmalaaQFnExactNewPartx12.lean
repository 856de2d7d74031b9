/- Functions that one statement reaches: of each a plain function, and the proof that calls come to it. Conditions: those that each contract names. Written by a program of this repository. -/
import Derived.Test.YtojdaolclcmalaaVNewParta
import Derived.Test.YtojdaolclcmalaaQFnExactNewPartx0
import Derived.Test.YtojdaolclcmalaaQFnExactNewPartx3
import Derived.Test.YtojdaolclcmalaaQFnExactNewPartx4
import Derived.Test.YtojdaolclcmalaaQFnExactNewPartx5
import Derived.Test.YtojdaolclcmalaaQFnExactNewPartx9
import Derived.Test.YtojdaolclcmalaaQFnExactNewPartx11
namespace Go.Proofs.Ytojdaolclcmalaa.QFnExactNewPart
open Go.RowKit Go.Proofs.YtojdaolclcmalaaW.PrintWords Go.Proofs.YtojdaolclcmalaaW.PrintLast Go.Proofs.YtojdaolclcmalaaW.PrintMore
attribute [local go_sem] max2_int min2_int max_two min_two max_three min_three max_four min_four Go.Proofs.YtojdaolclcmalaaW.PrintMore2.isSome_setCell   -- for this text's walks alone
set_option linter.unusedVariables false
set_option linter.unusedSimpArgs false

/-! ### impl_NewPart: function 36 -/
theorem impl_NewPart_box {w0 w : World} {e0 e1 base g t : Nat} {z0 z1 z2 u0 u1 u2 v0 v1 : Value} {ok0 ok1 : Nat → Prop} {r1 : List S81} {r2 : List S78} (h0 : Kd.S k81 e0 w base ok0 v0 r1) (h1 : Kd.S k78 e1 w base ok1 v1 r2) (hbox : w.heap[g]? = some (.cells #[z0, z1, z2] t (0, 0))) (t0 : ∀ q, q ∈ e0 :: (k81).E → q ≠ t) (t1 : ∀ q, q ∈ e1 :: (k78).E → q ≠ t) (hb : Below w0.heap.size w0 w) (hg : w0.heap.size ≤ g) :
  Kd.S k81 e0 (((w.setCell ⟨g, 0, none⟩ u0).setCell ⟨g, 1, none⟩ u1).setCell ⟨g, 2, none⟩ u2) base ok0 v0 r1 ∧ Kd.S k78 e1 (((w.setCell ⟨g, 0, none⟩ u0).setCell ⟨g, 1, none⟩ u1).setCell ⟨g, 2, none⟩ u2) base ok1 v1 r2 ∧
   (((w.setCell ⟨g, 0, none⟩ u0).setCell ⟨g, 1, none⟩ u1).setCell ⟨g, 2, none⟩ u2).heap[g]? = some (.cells #[u0, u1, u2] t (0, 0)) ∧ Below w0.heap.size w0 (((w.setCell ⟨g, 0, none⟩ u0).setCell ⟨g, 1, none⟩ u1).setCell ⟨g, 2, none⟩ u2) := by
 have b1 := blk_put (cs := #[z0, z1, z2]) hbox 0 u0 rfl
 have b2 := blk_put (cs := #[u0, z1, z2]) b1 1 u1 rfl
 have b3 := blk_put (cs := #[u0, u1, z2]) b2 2 u2 rfl
 exact ⟨Kd.S_set (Kd.S_set (Kd.S_set h0 hbox t0 0 _) b1 t0 1 _) b2 t0 2 _, Kd.S_set (Kd.S_set (Kd.S_set h1 hbox t1 0 _) b1 t1 1 _) b2 t1 2 _, b3, below_set (below_set (below_set hb hg) hg) hg⟩
def impl_NewPart.f : Option (List S81 × List S78 × Int) := (impl_rebuild.f [⟨0, 0, 0, 0, [(⟨#[]⟩ : ByteArray)]⟩]).bind fun t => some (t.1, t.2.1, t.2.2.1)
set_option maxHeartbeats 8000000 in
set_option maxRecDepth 100000 in
theorem impl_NewPart.calls (r1 : List S81) (r2 : List S78) (r3 : Int) (w : World) (h : impl_NewPart.f = some (r1, r2, r3)) :
    Calls Try.prog 36 #[] w fun e w' => ∃ v0_ v1_ : Value, e = .returned (.agg #[v0_, v1_, .int .i64 r3]) ∧ Kd.S k81 81 w' w.heap.size (fun _ => True) v0_ r1 ∧ Kd.S k78 78 w' w.heap.size (fun _ => True) v1_ r2 ∧ Below w.heap.size w w' := by
  have hu33 := Try.underlying33
  have hu78 := Try.underlying78
  have HB := Aside0.mk (Below.refl w.heap.size w)
  unfold impl_NewPart.f at h
  obtain ⟨⟨q1, q2, q3, q4⟩, HR, h1⟩ := bnd_ h
  obtain ⟨rfl, rfl, rfl⟩ : q1 = r1 ∧ q2 = r2 ∧ q3 = r3 := by simpa using h1
  obtain ⟨y1, hy1⟩ : ∃ y1 : List ByteArray, y1 = [(⟨#[]⟩ : ByteArray)] := ⟨_, rfl⟩
  rw [← hy1] at HR
  obtain ⟨y2, hy2⟩ : ∃ y2 : List S78, y2 = [(⟨0, 0, 0, 0, y1⟩ : S78)] := ⟨_, rfl⟩
  rw [← hy2] at HR
  have HY1 := Aside0.mk hy1
  have HY2 := Aside0.mk hy2
  clear h h1 hy1 hy2
  go_enter Try.func36, Try.ntmps36
  go_wp2_with (first | ((with_reducible refine gate_dst (N := 0) rfl ?_); refine be_ (N := 0) #[.slice none 0 0, .slice none 0 0, .int .i64 0] 33 ?_; intro gb0 hg w2 hbox hb; have BK0 := Aside0.mk hbox; have GE0 := ge_ hg; replace HB := nb_ hb; clear hb hbox hg) | ((with_reducible refine gate_dst (N := 4) rfl ?_); refine Kd.R_lit Kd.string (w0 := w2) w2.heap.size 9 ?hg (N := 4) ?hd (xs := ([(⟨#[]⟩ : ByteArray)] : List ByteArray)) (inner := [.string (⟨#[]⟩ : ByteArray)]) (ok := fun _ => True) (okp := fun _ => True) ?hr ?hp (fun _ hk => hk) trivial (Below.refl _ _) (Nat.le_refl _) (by simp) ?_; (case hd => rfl); (case hg => rfl); (case hr => first | (go_simp; done) | (go_simp; rfl)); (case hp => exact (Reps.one (show Kd.M Kd.string _ _ _ (⟨#[]⟩ : ByteArray) [.string (⟨#[]⟩ : ByteArray)] from rfl) (Reps.none _ _))); intro v4 w3 ho hb hg_ hnew_; rw [← HY1.out] at ho; obtain ⟨A4, c4, rfl⟩ := Kd.R_slice ho; have HO4 := Aside0.mk ho; replace BK0 := Aside0.mk (blk_below BK0.out hb); have HB2 := Aside0.mk hb; replace HB := Aside0.mk (below_step HB.out hb); clear ho hb hg_ hnew_) | ((with_reducible refine gate_dst (N := 6) rfl ?_); refine Kd.R_lit k78 (w0 := w2) w2.heap.size 78 ?hg (N := 6) ?hd (xs := ([(⟨0, 0, 0, 0, y1⟩ : S78)] : List S78)) (inner := [.int .i64 0, .int .i64 0, .int .i64 0, .int .i64 0, .slice A4 y1.length c4]) (ok := fun _ => True) (okp := fun k_ => k_ < w3.heap.size) ?hr ?hp (fun _ _ => trivial) trivial HB2.out HB2.out.size (by simp) ?_; (case hd => rfl); (case hg => rfl); (case hr => first | (go_simp; done) | (go_simp; rfl)); (case hp => exact (Reps.none _ _).snoc (k78_mkM _ _ _ (⟨0, 0, 0, 0, y1⟩ : S78) (Kd.R_mono (Kd.R_bound HO4.out) (fun _ hk => hk.2.2.1))) rfl); intro v6 w4 ho hb hg_ hnew_; rw [← HY2.out] at ho; obtain ⟨A6, c6, rfl⟩ := Kd.R_slice ho; have HO6 := Aside0.mk ho; replace BK0 := Aside0.mk (blk_grown BK0.out hg_ (by simp)); replace HB := Aside0.mk (Below.grown HB.out hg_ HB.out.size (fun _ h_ => by cases h_)); clear ho hb hg_ hnew_) | ((with_reducible refine gate_callee (f := 66) rfl ?_); refine gl_ 7 Try.func66 #[.slice A6 y2.length c6] rfl ma_ ?_; (with_reducible refine (impl_rebuild.calls A6 c6 y2 q1 q2 q3 q4 _ (Kd.R_reads' HO6.out).2.2 (Kd.R_reads' HO6.out).2.1 HR.out).mono ?_); rintro e_ w7 ⟨v7, v8, rfl, h0_, h1_, hb⟩; refine ⟨_, rfl, ?_⟩; obtain ⟨A7, c7, rfl⟩ := Kd.S_slice h0_; obtain ⟨A8, c8, rfl⟩ := Kd.S_slice h1_; have HS0 := Aside0.mk (Kd.S_lower h0_ HB.out.size); have HS1 := Aside0.mk (Kd.S_lower h1_ HB.out.size); replace BK0 := Aside0.mk (blk_below BK0.out hb); replace HB := Aside0.mk (below_step HB.out hb); clear h0_ h1_ hb) | ((with_reducible refine gate_dst (N := 1) rfl ?_); refine be_ (N := 1) #[.slice none 0 0, .slice none 0 0, .int .i64 0] 33 ?_; intro gb1 hg w8 hbox hb; have BK1 := Aside0.mk hbox; have GE1 := Aside0.mk (show w.heap.size ≤ gb1 from by rw [hg]; exact HB.out.size); have N01 := Aside0.mk (show gb0 ≠ gb1 from by rw [hg]; exact Nat.ne_of_lt (blk_lt BK0.out)); replace BK0 := Aside0.mk (blk_below BK0.out hb); replace HS0 := Aside0.mk (Kd.S_below HS0.out hb); replace HS1 := Aside0.mk (Kd.S_below HS1.out hb); replace HB := Aside0.mk (below_step HB.out hb); clear hb hbox hg; obtain ⟨hcz_0, hcz_1, hcz_2, hfz_0, hfz_1, hfz_2⟩ := cf3_ BK1.out) | ((with_reducible refine gate_store (t := 33) (p := 1) rfl ?_); refine store_event (t := 33) (p := 1) (v := ?vo_1) (w1 := (((w8.setCell ⟨gb1, 0, none⟩ (.slice A7 q1.length c7)).setCell ⟨gb1, 1, none⟩ (.slice A8 q2.length c8)).setCell ⟨gb1, 2, none⟩ (.int .i64 q3))) ?hg ?ho ?hn ?hr ?_; (case ho => rfl); (case hg => rfl); (case hn => rfl); (case hr => first | (go_simp; done) | (go_simp; rfl)); intro w9 hw_; obtain ⟨a1_, a2_, a3_, a4_⟩ := impl_NewPart_box (u0 := .slice A7 q1.length c7) (u1 := .slice A8 q2.length c8) (u2 := .int .i64 q3) HS0.out HS1.out BK1.out (by decide) (by decide) HB.out GE1.out; rw [← hw_] at a1_ a2_ a3_ a4_; have BKn := Aside0.mk (show w9.heap[gb0]? = some (.cells #[.slice none 0 0, .slice none 0 0, .int .i64 0] 33 (0, 0)) from by rw [hw_]; exact blk_far (blk_far (blk_far BK0.out N01.out _) N01.out _) N01.out _); replace HS0 := Aside0.mk a1_; replace HS1 := Aside0.mk a2_; replace BK1 := Aside0.mk a3_; replace HB := Aside0.mk a4_; replace BK0 := BKn; clear a1_ a2_ a3_ a4_ hw_ BKn hcz_0 hcz_1 hcz_2 hfz_0 hfz_1 hfz_2; obtain ⟨hcz_0, hcz_1, hcz_2, hfz_0, hfz_1, hfz_2⟩ := cf3_ BK1.out; obtain ⟨hcy_0, hcy_1, hcy_2, hfy_0, hfy_1, hfy_2⟩ := cf3_ BK0.out) | ((with_reducible refine gate_store (t := 33) (p := 0) rfl ?_); refine store_event (t := 33) (p := 0) (v := ?vo_0) (w1 := (((w9.setCell ⟨gb0, 0, none⟩ (.slice A7 q1.length c7)).setCell ⟨gb0, 1, none⟩ (.slice A8 q2.length c8)).setCell ⟨gb0, 2, none⟩ (.int .i64 q3))) ?hg ?ho ?hn ?hr ?_; (case ho => rfl); (case hg => rfl); (case hn => rfl); (case hr => first | (go_simp; done) | (go_simp; rfl)); intro w10 hw_; obtain ⟨a1_, a2_, a3_, a4_⟩ := impl_NewPart_box (u0 := .slice A7 q1.length c7) (u1 := .slice A8 q2.length c8) (u2 := .int .i64 q3) HS0.out HS1.out BK0.out (by decide) (by decide) HB.out GE0.out; rw [← hw_] at a1_ a2_ a3_ a4_; replace HS0 := Aside0.mk a1_; replace HS1 := Aside0.mk a2_; replace BK0 := Aside0.mk a3_; replace HB := Aside0.mk a4_; clear a1_ a2_ a3_ a4_ hw_))
  refine bodyPost_ret (results_cell_row rfl _ _ gb0 33 #[.slice A7 q1.length c7, .slice A8 q2.length c8, .int .i64 q3] (0, 0) _ rfl BK0.out Try.underlying33 rfl (by kernel_rfl)) rfl ?_
  exact ⟨_, _, er_, HS0.out, HS1.out, HB.out⟩



/-! ### laws_FnExactNewPart: function 6 -/
def laws_FnExactNewPart.f (k : Nat)  : Option (Bool) :=
 (spec_NewPart.f k ).bind fun w => (impl_NewPart.f ).bind fun g => (laws_eqPart.f k g.1 g.2.1 g.2.2 w.1 w.2.1 w.2.2).bind fun e0 => if e0 = true then
 (laws_markPart.f k g.1 g.2.1 g.2.2 1).bind fun m0 => (laws_heldPart.f k m0.2.1 m0.2.2 g.2.2 1).bind fun q0 => if 0 ≤ q0 ∧ q0 = m0.1 then some true else none else none
set_option maxHeartbeats 8000000 in
set_option maxRecDepth 100000 in
theorem laws_FnExactNewPart.calls (k : Nat)  (r : Bool) (w : World)  (h : laws_FnExactNewPart.f k  = some r) :
  Calls Try.prog 6 #[] w fun e w' => e = .returned (.bool r) ∧ Below w.heap.size w w' := by
 unfold laws_FnExactNewPart.f at h
 obtain ⟨⟨wc0_0, wc0_1, wc0_2⟩, hw, g1⟩ := Option.bind_eq_some_iff.1 h
 clear h
 obtain ⟨⟨gc0_0, gc0_1, gc0_2⟩, hg, g2⟩ := Option.bind_eq_some_iff.1 g1
 clear g1
 obtain ⟨e0, he0, g3⟩ := Option.bind_eq_some_iff.1 g2
 clear g2
 obtain ⟨he0', g4⟩ := Option.ite_none_right_eq_some.1 g3
 clear g3
 subst he0'
 obtain ⟨⟨m0, ⟨mg0_0, mg0_1⟩⟩, hm0, g5⟩ := Option.bind_eq_some_iff.1 g4
 clear g4
 obtain ⟨q0, hq0, g6⟩ := Option.bind_eq_some_iff.1 g5
 clear g5
 obtain ⟨⟨hn0, hqm⟩, g7⟩ := Option.ite_none_right_eq_some.1 g6
 clear g6
 obtain rfl : q0 = m0 := hqm
 obtain rfl : true = r := Option.some.inj g7
 clear g7
 have hqd0 : decide (q0 < 0) = false := decide_eq_false (by omega)
 have HWS := Aside0.mk (show spec_NewPart.f k  = some (wc0_0, wc0_1, wc0_2) from hw)
 have HGI := Aside0.mk (show impl_NewPart.f  = some (gc0_0, gc0_1, gc0_2) from hg)
 have HE0 := Aside0.mk (show laws_eqPart.f k gc0_0 gc0_1 gc0_2 wc0_0 wc0_1 wc0_2 = some true from he0)
 have HM0 := Aside0.mk (show laws_markPart.f k gc0_0 gc0_1 gc0_2 1 = some (q0, (mg0_0, mg0_1)) from hm0)
 have HQ0 := Aside0.mk (show laws_heldPart.f k mg0_0 mg0_1 gc0_2 1 = some q0 from hq0)
 clear hw hg he0 hm0 hq0 hn0
 go_enter Try.func6, Try.ntmps6
 have HB_0 := Aside0.mk (Below.refl w.heap.size w)
 go_wp2_with fail
 refine (spec_NewPart.calls k  wc0_0 wc0_1 wc0_2 _  HWS.out).mono ?_
 rintro e w1 ⟨uw0, uw1, rfl, ho0, ho1, hb1⟩
 have HB_1 := Aside0.mk (below_step HB_0.out hb1)
 clear HB_0
 have HL1 := Aside0.mk (show w.heap.size ≤ w1.heap.size from hb1.size)
 have HW0_0_301 := Aside0.mk (Kd.V_lower (Kd.V_mono (ok' := fun k_ => (w.heap.size ≤ k_ ∧ k_ < w1.heap.size) ∧ True) (Kd.V_bound ho0) (fun k_ h_ => ⟨⟨h_.1, h_.2⟩, trivial⟩)) (show w.heap.size ≤ w.heap.size by have l0_ := HL1.out; omega))
 have HW0_1_301 := Aside0.mk (Kd.V_lower (Kd.V_mono (ok' := fun k_ => (w.heap.size ≤ k_ ∧ k_ < w1.heap.size) ∧ True) (Kd.V_bound ho1) (fun k_ h_ => ⟨⟨h_.1, h_.2⟩, trivial⟩)) (show w.heap.size ≤ w.heap.size by have l0_ := HL1.out; omega))
 clear ho0 ho1 hb1
 obtain ⟨AW0_0, cW0_0, rfl⟩ := Kd.V_slice HW0_0_301.out
 obtain ⟨AW0_1, cW0_1, rfl⟩ := Kd.V_slice HW0_1_301.out
 have HB_2 := Aside0.mk (below_alloc HB_1.out (.cells #[.slice AW0_0 wc0_0.length cW0_0, .slice AW0_1 wc0_1.length cW0_1, .int .i64 wc0_2] 33))
 clear HB_1
 have HW0_0_2 := Aside0.mk (Kd.V_alloc HW0_0_301.out (.cells #[.slice AW0_0 wc0_0.length cW0_0, .slice AW0_1 wc0_1.length cW0_1, .int .i64 wc0_2] 33))
 clear HW0_0_301
 have HW0_1_2 := Aside0.mk (Kd.V_alloc HW0_1_301.out (.cells #[.slice AW0_0 wc0_0.length cW0_0, .slice AW0_1 wc0_1.length cW0_1, .int .i64 wc0_2] 33))
 clear HW0_1_301
 have HL2 := Aside0.mk (show (w1.alloc (.cells #[.slice AW0_0 wc0_0.length cW0_0, .slice AW0_1 wc0_1.length cW0_1, .int .i64 wc0_2] 33)).heap.size = w1.heap.size + 1 by rw [World.alloc]; exact Array.size_push _)
 have HYW0_2 := Aside0.mk (show (w1.alloc (.cells #[.slice AW0_0 wc0_0.length cW0_0, .slice AW0_1 wc0_1.length cW0_1, .int .i64 wc0_2] 33)).heap[w1.heap.size]? = some (.cells #[.slice AW0_0 wc0_0.length cW0_0, .slice AW0_1 wc0_1.length cW0_1, .int .i64 wc0_2] 33 (0, 0)) by rw [World.alloc]; exact Array.getElem?_push_size)
 go_wp2_with fail
 refine (impl_NewPart.calls  gc0_0 gc0_1 gc0_2 _  HGI.out).mono ?_
 rintro e w3 ⟨ug0, ug1, rfl, ho0, ho1, hb3⟩
 have HB_3 := Aside0.mk (below_step HB_2.out hb3)
 clear HB_2
 have HW0_0_3 := Aside0.mk (Kd.V_below HW0_0_2.out hb3)
 clear HW0_0_2
 have HW0_1_3 := Aside0.mk (Kd.V_below HW0_1_2.out hb3)
 clear HW0_1_2
 have HYW0_3 := Aside0.mk (blk_below HYW0_2.out hb3)
 clear HYW0_2
 have HL3 := Aside0.mk (show (w1.alloc (.cells #[.slice AW0_0 wc0_0.length cW0_0, .slice AW0_1 wc0_1.length cW0_1, .int .i64 wc0_2] 33)).heap.size ≤ w3.heap.size from hb3.size)
 have HG0_0_303 := Aside0.mk (Kd.S_lower (Kd.S_mono (ok' := fun k_ => ((w1.alloc (.cells #[.slice AW0_0 wc0_0.length cW0_0, .slice AW0_1 wc0_1.length cW0_1, .int .i64 wc0_2] 33)).heap.size ≤ k_ ∧ k_ < w3.heap.size) ∧ ∃ q_, q_ ∈ 81 :: (k81).E ∧ ∃ c_, w3.heap[k_]? = some (.cells c_ q_ (0, 0))) (Kd.S_bound ho0) (fun k_ h_ => ⟨⟨h_.2.1, h_.2.2.1⟩, h_.2.2.2⟩)) (show w.heap.size ≤ (w1.alloc (.cells #[.slice AW0_0 wc0_0.length cW0_0, .slice AW0_1 wc0_1.length cW0_1, .int .i64 wc0_2] 33)).heap.size by have l0_ := HL1.out; have l1_ := HL2.out; have l2_ := HL3.out; omega))
 have HG0_1_303 := Aside0.mk (Kd.S_lower (Kd.S_mono (ok' := fun k_ => ((w1.alloc (.cells #[.slice AW0_0 wc0_0.length cW0_0, .slice AW0_1 wc0_1.length cW0_1, .int .i64 wc0_2] 33)).heap.size ≤ k_ ∧ k_ < w3.heap.size) ∧ ∃ q_, q_ ∈ 78 :: (k78).E ∧ ∃ c_, w3.heap[k_]? = some (.cells c_ q_ (0, 0))) (Kd.S_bound ho1) (fun k_ h_ => ⟨⟨h_.2.1, h_.2.2.1⟩, h_.2.2.2⟩)) (show w.heap.size ≤ (w1.alloc (.cells #[.slice AW0_0 wc0_0.length cW0_0, .slice AW0_1 wc0_1.length cW0_1, .int .i64 wc0_2] 33)).heap.size by have l0_ := HL1.out; have l1_ := HL2.out; have l2_ := HL3.out; omega))
 clear ho0 ho1 hb3
 obtain ⟨AG0_0, cG0_0, rfl⟩ := Kd.S_slice HG0_0_303.out
 obtain ⟨AG0_1, cG0_1, rfl⟩ := Kd.S_slice HG0_1_303.out
 have HB_4 := Aside0.mk (below_alloc HB_3.out (.cells #[.slice AG0_0 gc0_0.length cG0_0, .slice AG0_1 gc0_1.length cG0_1, .int .i64 gc0_2] 33))
 clear HB_3
 have HW0_0_4 := Aside0.mk (Kd.V_alloc HW0_0_3.out (.cells #[.slice AG0_0 gc0_0.length cG0_0, .slice AG0_1 gc0_1.length cG0_1, .int .i64 gc0_2] 33))
 clear HW0_0_3
 have HW0_1_4 := Aside0.mk (Kd.V_alloc HW0_1_3.out (.cells #[.slice AG0_0 gc0_0.length cG0_0, .slice AG0_1 gc0_1.length cG0_1, .int .i64 gc0_2] 33))
 clear HW0_1_3
 have HYW0_4 := Aside0.mk (blk_alloc HYW0_3.out (.cells #[.slice AG0_0 gc0_0.length cG0_0, .slice AG0_1 gc0_1.length cG0_1, .int .i64 gc0_2] 33))
 clear HYW0_3
 have HG0_0_4 := Aside0.mk (Kd.S_alloc HG0_0_303.out (.cells #[.slice AG0_0 gc0_0.length cG0_0, .slice AG0_1 gc0_1.length cG0_1, .int .i64 gc0_2] 33))
 clear HG0_0_303
 have HG0_1_4 := Aside0.mk (Kd.S_alloc HG0_1_303.out (.cells #[.slice AG0_0 gc0_0.length cG0_0, .slice AG0_1 gc0_1.length cG0_1, .int .i64 gc0_2] 33))
 clear HG0_1_303
 have HL4 := Aside0.mk (show (w3.alloc (.cells #[.slice AG0_0 gc0_0.length cG0_0, .slice AG0_1 gc0_1.length cG0_1, .int .i64 gc0_2] 33)).heap.size = w3.heap.size + 1 by rw [World.alloc]; exact Array.size_push _)
 have HYG0_4 := Aside0.mk (show (w3.alloc (.cells #[.slice AG0_0 gc0_0.length cG0_0, .slice AG0_1 gc0_1.length cG0_1, .int .i64 gc0_2] 33)).heap[w3.heap.size]? = some (.cells #[.slice AG0_0 gc0_0.length cG0_0, .slice AG0_1 gc0_1.length cG0_1, .int .i64 gc0_2] 33 (0, 0)) by rw [World.alloc]; exact Array.getElem?_push_size)
 have hxYG0_4_0 : (w3.alloc (.cells #[.slice AG0_0 gc0_0.length cG0_0, .slice AG0_1 gc0_1.length cG0_1, .int .i64 gc0_2] 33)).cell? ⟨w3.heap.size, 0, none⟩ = some (.slice AG0_0 gc0_0.length cG0_0) := bt_ HYG0_4 0
 have hxYG0_4_1 : (w3.alloc (.cells #[.slice AG0_0 gc0_0.length cG0_0, .slice AG0_1 gc0_1.length cG0_1, .int .i64 gc0_2] 33)).cell? ⟨w3.heap.size, 1, none⟩ = some (.slice AG0_1 gc0_1.length cG0_1) := bt_ HYG0_4 1
 have hxYG0_4_2 : (w3.alloc (.cells #[.slice AG0_0 gc0_0.length cG0_0, .slice AG0_1 gc0_1.length cG0_1, .int .i64 gc0_2] 33)).cell? ⟨w3.heap.size, 2, none⟩ = some (.int .i64 gc0_2) := bt_ HYG0_4 2
 have hxYW0_4_0 : (w3.alloc (.cells #[.slice AG0_0 gc0_0.length cG0_0, .slice AG0_1 gc0_1.length cG0_1, .int .i64 gc0_2] 33)).cell? ⟨w1.heap.size, 0, none⟩ = some (.slice AW0_0 wc0_0.length cW0_0) := bt_ HYW0_4 0
 have hxYW0_4_1 : (w3.alloc (.cells #[.slice AG0_0 gc0_0.length cG0_0, .slice AG0_1 gc0_1.length cG0_1, .int .i64 gc0_2] 33)).cell? ⟨w1.heap.size, 1, none⟩ = some (.slice AW0_1 wc0_1.length cW0_1) := bt_ HYW0_4 1
 have hxYW0_4_2 : (w3.alloc (.cells #[.slice AG0_0 gc0_0.length cG0_0, .slice AG0_1 gc0_1.length cG0_1, .int .i64 gc0_2] 33)).cell? ⟨w1.heap.size, 2, none⟩ = some (.int .i64 wc0_2) := bt_ HYW0_4 2
 go_wp2_with fail
 refine (laws_eqPart.calls k _ _ gc0_0 _ _ gc0_1 gc0_2 _ _ wc0_0 _ _ wc0_1 wc0_2 true _ (Kd.S_reads' HG0_0_4.out).2.2 (Kd.S_reads' HG0_0_4.out).2.1 (Kd.S_reads' HG0_1_4.out).2.2 (Kd.S_reads' HG0_1_4.out).2.1 (Kd.V_reads' HW0_0_4.out).2.2 (Kd.V_reads' HW0_0_4.out).2.1 (Kd.V_reads' HW0_1_4.out).2.2 (Kd.V_reads' HW0_1_4.out).2.1 HE0.out).mono ?_
 rintro e w5 ⟨rfl, hb5⟩
 try replace hb5 := hb5.below
 clear hxYG0_4_0
 clear hxYG0_4_1
 clear hxYG0_4_2
 clear hxYW0_4_0
 clear hxYW0_4_1
 clear hxYW0_4_2
 have HB_5 := Aside0.mk (below_step HB_4.out hb5)
 clear HB_4
 have HW0_0_5 := Aside0.mk (Kd.V_below HW0_0_4.out hb5)
 clear HW0_0_4
 have HW0_1_5 := Aside0.mk (Kd.V_below HW0_1_4.out hb5)
 clear HW0_1_4
 have HYW0_5 := Aside0.mk (blk_below HYW0_4.out hb5)
 clear HYW0_4
 have HG0_0_5 := Aside0.mk (Kd.S_below HG0_0_4.out hb5)
 clear HG0_0_4
 have HG0_1_5 := Aside0.mk (Kd.S_below HG0_1_4.out hb5)
 clear HG0_1_4
 have HYG0_5 := Aside0.mk (blk_below HYG0_4.out hb5)
 clear HYG0_4
 have HL5 := Aside0.mk (show (w3.alloc (.cells #[.slice AG0_0 gc0_0.length cG0_0, .slice AG0_1 gc0_1.length cG0_1, .int .i64 gc0_2] 33)).heap.size ≤ w5.heap.size from hb5.size)
 clear hb5
 have hxYG0_5_0 : w5.cell? ⟨w3.heap.size, 0, none⟩ = some (.slice AG0_0 gc0_0.length cG0_0) := bt_ HYG0_5 0
 have hxYG0_5_1 : w5.cell? ⟨w3.heap.size, 1, none⟩ = some (.slice AG0_1 gc0_1.length cG0_1) := bt_ HYG0_5 1
 have hxYG0_5_2 : w5.cell? ⟨w3.heap.size, 2, none⟩ = some (.int .i64 gc0_2) := bt_ HYG0_5 2
 go_wp2_with fail
 refine (laws_markPart.calls k (fun k_ => ((w1.alloc (.cells #[.slice AW0_0 wc0_0.length cW0_0, .slice AW0_1 wc0_1.length cW0_1, .int .i64 wc0_2] 33)).heap.size ≤ k_ ∧ k_ < w3.heap.size) ∧ ∃ q_, q_ ∈ 81 :: (k81).E ∧ ∃ c_, w3.heap[k_]? = some (.cells c_ q_ (0, 0))) _ gc0_0 (fun k_ => ((w1.alloc (.cells #[.slice AW0_0 wc0_0.length cW0_0, .slice AW0_1 wc0_1.length cW0_1, .int .i64 wc0_2] 33)).heap.size ≤ k_ ∧ k_ < w3.heap.size) ∧ ∃ q_, q_ ∈ 78 :: (k78).E ∧ ∃ c_, w3.heap[k_]? = some (.cells c_ q_ (0, 0))) _ gc0_1 gc0_2 1 q0 mg0_0 mg0_1 w _ HB_5.out HG0_0_5.out HG0_1_5.out (fun k_ h_ h2_ => by obtain ⟨_, q_, hq_, c_, hc_⟩ := h_; obtain ⟨_, q2_, hq2_, c2_, hc2_⟩ := h2_; rw [hc_] at hc2_; injection hc2_ with e1_; injection e1_ with _ e2_ _; subst e2_; exact (by decide : ∀ x_ ∈ (81 :: (k81).E), x_ ∉ (78 :: (k78).E)) _ hq_ hq2_) HM0.out).mono ?_
 rintro e w6 ⟨rfl, hy0, hy1, hb, hk⟩
 clear hxYG0_5_0
 clear hxYG0_5_1
 clear hxYG0_5_2
 have HB_6 := Aside0.mk (hb)
 clear HB_5
 have HW0_0_6 := Aside0.mk (Kd.V_kept HW0_0_5.out hk (fun k_ h_ h2_ => by rcases h2_ with h2_ | h2_; (· have h3_ := h_.1.1; have h4_ := h_.1.2; have h5_ := h2_.1.1; have h6_ := h2_.1.2; clear h_ h2_; have l0_ := HL1.out; have l1_ := HL2.out; have l2_ := HL3.out; have l3_ := HL4.out; have l4_ := HL5.out; omega); (· have h3_ := h_.1.1; have h4_ := h_.1.2; have h5_ := h2_.1.1; have h6_ := h2_.1.2; clear h_ h2_; have l0_ := HL1.out; have l1_ := HL2.out; have l2_ := HL3.out; have l3_ := HL4.out; have l4_ := HL5.out; omega)))
 clear HW0_0_5
 have HW0_1_6 := Aside0.mk (Kd.V_kept HW0_1_5.out hk (fun k_ h_ h2_ => by rcases h2_ with h2_ | h2_; (· have h3_ := h_.1.1; have h4_ := h_.1.2; have h5_ := h2_.1.1; have h6_ := h2_.1.2; clear h_ h2_; have l0_ := HL1.out; have l1_ := HL2.out; have l2_ := HL3.out; have l3_ := HL4.out; have l4_ := HL5.out; omega); (· have h3_ := h_.1.1; have h4_ := h_.1.2; have h5_ := h2_.1.1; have h6_ := h2_.1.2; clear h_ h2_; have l0_ := HL1.out; have l1_ := HL2.out; have l2_ := HL3.out; have l3_ := HL4.out; have l4_ := HL5.out; omega)))
 clear HW0_1_5
 have HYW0_6 := Aside0.mk (blk_kept HYW0_5.out hk (fun h2_ => by rcases h2_ with h2_ | h2_; (· have h3_ := h2_.1.1; have h4_ := h2_.1.2; clear h2_; have l0_ := HL1.out; have l1_ := HL2.out; have l2_ := HL3.out; have l3_ := HL4.out; have l4_ := HL5.out; omega); (· have h3_ := h2_.1.1; have h4_ := h2_.1.2; clear h2_; have l0_ := HL1.out; have l1_ := HL2.out; have l2_ := HL3.out; have l3_ := HL4.out; have l4_ := HL5.out; omega)))
 clear HYW0_5
 have HYG0_6 := Aside0.mk (blk_kept HYG0_5.out hk (fun h2_ => by rcases h2_ with h2_ | h2_; (· have h3_ := h2_.1.1; have h4_ := h2_.1.2; clear h2_; have l0_ := HL1.out; have l1_ := HL2.out; have l2_ := HL3.out; have l3_ := HL4.out; have l4_ := HL5.out; omega); (· have h3_ := h2_.1.1; have h4_ := h2_.1.2; clear h2_; have l0_ := HL1.out; have l1_ := HL2.out; have l2_ := HL3.out; have l3_ := HL4.out; have l4_ := HL5.out; omega)))
 clear HYG0_5
 have HG0_0_6 := Aside0.mk (hy0)
 clear HG0_0_5
 have HG0_1_6 := Aside0.mk (hy1)
 clear HG0_1_5
 have HL6 := Aside0.mk (show w5.heap.size ≤ w6.heap.size from hk.1)
 clear hb hk hy0 hy1
 have HLG0_0 := Aside0.mk (Kd.S_reads' HG0_0_6.out).1
 have HG0_0_506 := Aside0.mk (show Kd.S k81 81 w6 w.heap.size (fun k_ => ((w1.alloc (.cells #[.slice AW0_0 wc0_0.length cW0_0, .slice AW0_1 wc0_1.length cW0_1, .int .i64 wc0_2] 33)).heap.size ≤ k_ ∧ k_ < w3.heap.size) ∧ ∃ q_, q_ ∈ 81 :: (k81).E ∧ ∃ c_, w3.heap[k_]? = some (.cells c_ q_ (0, 0))) (.slice AG0_0 mg0_0.length cG0_0) mg0_0 by rw [← HLG0_0.out]; exact HG0_0_6.out)
 clear HG0_0_6
 have HLG0_1 := Aside0.mk (Kd.S_reads' HG0_1_6.out).1
 have HG0_1_506 := Aside0.mk (show Kd.S k78 78 w6 w.heap.size (fun k_ => ((w1.alloc (.cells #[.slice AW0_0 wc0_0.length cW0_0, .slice AW0_1 wc0_1.length cW0_1, .int .i64 wc0_2] 33)).heap.size ≤ k_ ∧ k_ < w3.heap.size) ∧ ∃ q_, q_ ∈ 78 :: (k78).E ∧ ∃ c_, w3.heap[k_]? = some (.cells c_ q_ (0, 0))) (.slice AG0_1 mg0_1.length cG0_1) mg0_1 by rw [← HLG0_1.out]; exact HG0_1_6.out)
 clear HG0_1_6
 have hxYG0_6_0 : w6.cell? ⟨w3.heap.size, 0, none⟩ = some (.slice AG0_0 gc0_0.length cG0_0) := bt_ HYG0_6 0
 have hxYG0_6_1 : w6.cell? ⟨w3.heap.size, 1, none⟩ = some (.slice AG0_1 gc0_1.length cG0_1) := bt_ HYG0_6 1
 have hxYG0_6_2 : w6.cell? ⟨w3.heap.size, 2, none⟩ = some (.int .i64 gc0_2) := bt_ HYG0_6 2
 go_wp2_with fail
 rw [HLG0_0.out]
 rw [HLG0_1.out]
 refine (laws_heldPart.calls k _ _ mg0_0 _ _ mg0_1 gc0_2 1 q0 _ (Kd.S_reads' HG0_0_506.out).2.2 (Kd.S_reads' HG0_0_506.out).2.1 (Kd.S_reads' HG0_1_506.out).2.2 (Kd.S_reads' HG0_1_506.out).2.1 HQ0.out).mono ?_
 rintro e w7 ⟨rfl, hb7⟩
 clear hxYG0_6_0
 clear hxYG0_6_1
 clear hxYG0_6_2
 have HB_7 := Aside0.mk (below_step HB_6.out hb7)
 clear HB_6
 have HW0_0_7 := Aside0.mk (Kd.V_below HW0_0_6.out hb7)
 clear HW0_0_6
 have HW0_1_7 := Aside0.mk (Kd.V_below HW0_1_6.out hb7)
 clear HW0_1_6
 have HYW0_7 := Aside0.mk (blk_below HYW0_6.out hb7)
 clear HYW0_6
 have HG0_0_7 := Aside0.mk (Kd.S_below HG0_0_506.out hb7)
 clear HG0_0_506
 have HG0_1_7 := Aside0.mk (Kd.S_below HG0_1_506.out hb7)
 clear HG0_1_506
 have HYG0_7 := Aside0.mk (blk_below HYG0_6.out hb7)
 clear HYG0_6
 have HL7 := Aside0.mk (show w6.heap.size ≤ w7.heap.size from hb7.size)
 clear hb7
 go_wp2_with fail
 refine (impl_NewPart.calls  gc0_0 gc0_1 gc0_2 _  HGI.out).mono ?_
 rintro e w8 ⟨ug0, ug1, rfl, ho0, ho1, hb8⟩
 have HB_8 := Aside0.mk (below_step HB_7.out hb8)
 clear HB_7
 have HW0_0_8 := Aside0.mk (Kd.V_below HW0_0_7.out hb8)
 clear HW0_0_7
 have HW0_1_8 := Aside0.mk (Kd.V_below HW0_1_7.out hb8)
 clear HW0_1_7
 have HYW0_8 := Aside0.mk (blk_below HYW0_7.out hb8)
 clear HYW0_7
 have HG0_0_8 := Aside0.mk (Kd.S_below HG0_0_7.out hb8)
 clear HG0_0_7
 have HG0_1_8 := Aside0.mk (Kd.S_below HG0_1_7.out hb8)
 clear HG0_1_7
 have HYG0_8 := Aside0.mk (blk_below HYG0_7.out hb8)
 clear HYG0_7
 have HL8 := Aside0.mk (show w7.heap.size ≤ w8.heap.size from hb8.size)
 have HH0_0_308 := Aside0.mk (Kd.S_lower (Kd.S_mono (ok' := fun k_ => (w7.heap.size ≤ k_ ∧ k_ < w8.heap.size) ∧ ∃ q_, q_ ∈ 81 :: (k81).E ∧ ∃ c_, w8.heap[k_]? = some (.cells c_ q_ (0, 0))) (Kd.S_bound ho0) (fun k_ h_ => ⟨⟨h_.2.1, h_.2.2.1⟩, h_.2.2.2⟩)) (show w.heap.size ≤ w7.heap.size by have l0_ := HL1.out; have l1_ := HL2.out; have l2_ := HL3.out; have l3_ := HL4.out; have l4_ := HL5.out; have l5_ := HL6.out; have l6_ := HL7.out; have l7_ := HL8.out; omega))
 have HH0_1_308 := Aside0.mk (Kd.S_lower (Kd.S_mono (ok' := fun k_ => (w7.heap.size ≤ k_ ∧ k_ < w8.heap.size) ∧ ∃ q_, q_ ∈ 78 :: (k78).E ∧ ∃ c_, w8.heap[k_]? = some (.cells c_ q_ (0, 0))) (Kd.S_bound ho1) (fun k_ h_ => ⟨⟨h_.2.1, h_.2.2.1⟩, h_.2.2.2⟩)) (show w.heap.size ≤ w7.heap.size by have l0_ := HL1.out; have l1_ := HL2.out; have l2_ := HL3.out; have l3_ := HL4.out; have l4_ := HL5.out; have l5_ := HL6.out; have l6_ := HL7.out; have l7_ := HL8.out; omega))
 clear ho0 ho1 hb8
 obtain ⟨AH0_0, cH0_0, rfl⟩ := Kd.S_slice HH0_0_308.out
 obtain ⟨AH0_1, cH0_1, rfl⟩ := Kd.S_slice HH0_1_308.out
 have HB_9 := Aside0.mk (below_alloc HB_8.out (.cells #[.slice AH0_0 gc0_0.length cH0_0, .slice AH0_1 gc0_1.length cH0_1, .int .i64 gc0_2] 33))
 clear HB_8
 have HW0_0_9 := Aside0.mk (Kd.V_alloc HW0_0_8.out (.cells #[.slice AH0_0 gc0_0.length cH0_0, .slice AH0_1 gc0_1.length cH0_1, .int .i64 gc0_2] 33))
 clear HW0_0_8
 have HW0_1_9 := Aside0.mk (Kd.V_alloc HW0_1_8.out (.cells #[.slice AH0_0 gc0_0.length cH0_0, .slice AH0_1 gc0_1.length cH0_1, .int .i64 gc0_2] 33))
 clear HW0_1_8
 have HYW0_9 := Aside0.mk (blk_alloc HYW0_8.out (.cells #[.slice AH0_0 gc0_0.length cH0_0, .slice AH0_1 gc0_1.length cH0_1, .int .i64 gc0_2] 33))
 clear HYW0_8
 have HG0_0_9 := Aside0.mk (Kd.S_alloc HG0_0_8.out (.cells #[.slice AH0_0 gc0_0.length cH0_0, .slice AH0_1 gc0_1.length cH0_1, .int .i64 gc0_2] 33))
 clear HG0_0_8
 have HG0_1_9 := Aside0.mk (Kd.S_alloc HG0_1_8.out (.cells #[.slice AH0_0 gc0_0.length cH0_0, .slice AH0_1 gc0_1.length cH0_1, .int .i64 gc0_2] 33))
 clear HG0_1_8
 have HYG0_9 := Aside0.mk (blk_alloc HYG0_8.out (.cells #[.slice AH0_0 gc0_0.length cH0_0, .slice AH0_1 gc0_1.length cH0_1, .int .i64 gc0_2] 33))
 clear HYG0_8
 have HH0_0_9 := Aside0.mk (Kd.S_alloc HH0_0_308.out (.cells #[.slice AH0_0 gc0_0.length cH0_0, .slice AH0_1 gc0_1.length cH0_1, .int .i64 gc0_2] 33))
 clear HH0_0_308
 have HH0_1_9 := Aside0.mk (Kd.S_alloc HH0_1_308.out (.cells #[.slice AH0_0 gc0_0.length cH0_0, .slice AH0_1 gc0_1.length cH0_1, .int .i64 gc0_2] 33))
 clear HH0_1_308
 have HL9 := Aside0.mk (show (w8.alloc (.cells #[.slice AH0_0 gc0_0.length cH0_0, .slice AH0_1 gc0_1.length cH0_1, .int .i64 gc0_2] 33)).heap.size = w8.heap.size + 1 by rw [World.alloc]; exact Array.size_push _)
 have HYH0_9 := Aside0.mk (show (w8.alloc (.cells #[.slice AH0_0 gc0_0.length cH0_0, .slice AH0_1 gc0_1.length cH0_1, .int .i64 gc0_2] 33)).heap[w8.heap.size]? = some (.cells #[.slice AH0_0 gc0_0.length cH0_0, .slice AH0_1 gc0_1.length cH0_1, .int .i64 gc0_2] 33 (0, 0)) by rw [World.alloc]; exact Array.getElem?_push_size)
 have hxYH0_9_0 : (w8.alloc (.cells #[.slice AH0_0 gc0_0.length cH0_0, .slice AH0_1 gc0_1.length cH0_1, .int .i64 gc0_2] 33)).cell? ⟨w8.heap.size, 0, none⟩ = some (.slice AH0_0 gc0_0.length cH0_0) := bt_ HYH0_9 0
 have hxYH0_9_1 : (w8.alloc (.cells #[.slice AH0_0 gc0_0.length cH0_0, .slice AH0_1 gc0_1.length cH0_1, .int .i64 gc0_2] 33)).cell? ⟨w8.heap.size, 1, none⟩ = some (.slice AH0_1 gc0_1.length cH0_1) := bt_ HYH0_9 1
 have hxYH0_9_2 : (w8.alloc (.cells #[.slice AH0_0 gc0_0.length cH0_0, .slice AH0_1 gc0_1.length cH0_1, .int .i64 gc0_2] 33)).cell? ⟨w8.heap.size, 2, none⟩ = some (.int .i64 gc0_2) := bt_ HYH0_9 2
 have hxYW0_9_0 : (w8.alloc (.cells #[.slice AH0_0 gc0_0.length cH0_0, .slice AH0_1 gc0_1.length cH0_1, .int .i64 gc0_2] 33)).cell? ⟨w1.heap.size, 0, none⟩ = some (.slice AW0_0 wc0_0.length cW0_0) := bt_ HYW0_9 0
 have hxYW0_9_1 : (w8.alloc (.cells #[.slice AH0_0 gc0_0.length cH0_0, .slice AH0_1 gc0_1.length cH0_1, .int .i64 gc0_2] 33)).cell? ⟨w1.heap.size, 1, none⟩ = some (.slice AW0_1 wc0_1.length cW0_1) := bt_ HYW0_9 1
 have hxYW0_9_2 : (w8.alloc (.cells #[.slice AH0_0 gc0_0.length cH0_0, .slice AH0_1 gc0_1.length cH0_1, .int .i64 gc0_2] 33)).cell? ⟨w1.heap.size, 2, none⟩ = some (.int .i64 wc0_2) := bt_ HYW0_9 2
 go_wp2_with fail
 refine (laws_eqPart.calls k _ _ gc0_0 _ _ gc0_1 gc0_2 _ _ wc0_0 _ _ wc0_1 wc0_2 true _ (Kd.S_reads' HH0_0_9.out).2.2 (Kd.S_reads' HH0_0_9.out).2.1 (Kd.S_reads' HH0_1_9.out).2.2 (Kd.S_reads' HH0_1_9.out).2.1 (Kd.V_reads' HW0_0_9.out).2.2 (Kd.V_reads' HW0_0_9.out).2.1 (Kd.V_reads' HW0_1_9.out).2.2 (Kd.V_reads' HW0_1_9.out).2.1 HE0.out).mono ?_
 rintro e w10 ⟨rfl, hb10⟩
 try replace hb10 := hb10.below
 clear hxYH0_9_0
 clear hxYH0_9_1
 clear hxYH0_9_2
 clear hxYW0_9_0
 clear hxYW0_9_1
 clear hxYW0_9_2
 have HB_10 := Aside0.mk (below_step HB_9.out hb10)
 clear HB_9
 have HW0_0_10 := Aside0.mk (Kd.V_below HW0_0_9.out hb10)
 clear HW0_0_9
 have HW0_1_10 := Aside0.mk (Kd.V_below HW0_1_9.out hb10)
 clear HW0_1_9
 have HYW0_10 := Aside0.mk (blk_below HYW0_9.out hb10)
 clear HYW0_9
 have HG0_0_10 := Aside0.mk (Kd.S_below HG0_0_9.out hb10)
 clear HG0_0_9
 have HG0_1_10 := Aside0.mk (Kd.S_below HG0_1_9.out hb10)
 clear HG0_1_9
 have HYG0_10 := Aside0.mk (blk_below HYG0_9.out hb10)
 clear HYG0_9
 have HH0_0_10 := Aside0.mk (Kd.S_below HH0_0_9.out hb10)
 clear HH0_0_9
 have HH0_1_10 := Aside0.mk (Kd.S_below HH0_1_9.out hb10)
 clear HH0_1_9
 have HYH0_10 := Aside0.mk (blk_below HYH0_9.out hb10)
 clear HYH0_9
 have HL10 := Aside0.mk (show (w8.alloc (.cells #[.slice AH0_0 gc0_0.length cH0_0, .slice AH0_1 gc0_1.length cH0_1, .int .i64 gc0_2] 33)).heap.size ≤ w10.heap.size from hb10.size)
 clear hb10
 clear HW0_0_10
 clear HW0_1_10
 clear HYW0_10
 clear HH0_0_10
 clear HH0_1_10
 clear HYH0_10
 have hxYG0_10_0 : w10.cell? ⟨w3.heap.size, 0, none⟩ = some (.slice AG0_0 gc0_0.length cG0_0) := bt_ HYG0_10 0
 have hxYG0_10_1 : w10.cell? ⟨w3.heap.size, 1, none⟩ = some (.slice AG0_1 gc0_1.length cG0_1) := bt_ HYG0_10 1
 have hxYG0_10_2 : w10.cell? ⟨w3.heap.size, 2, none⟩ = some (.int .i64 gc0_2) := bt_ HYG0_10 2
 go_wp2_with fail
 rw [HLG0_0.out]
 rw [HLG0_1.out]
 refine (laws_heldPart.calls k _ _ mg0_0 _ _ mg0_1 gc0_2 1 q0 _ (Kd.S_reads' HG0_0_10.out).2.2 (Kd.S_reads' HG0_0_10.out).2.1 (Kd.S_reads' HG0_1_10.out).2.2 (Kd.S_reads' HG0_1_10.out).2.1 HQ0.out).mono ?_
 rintro e w11 ⟨rfl, hb11⟩
 clear hxYG0_10_0
 clear hxYG0_10_1
 clear hxYG0_10_2
 have HB_11 := Aside0.mk (below_step HB_10.out hb11)
 clear HB_10
 have HG0_0_11 := Aside0.mk (Kd.S_below HG0_0_10.out hb11)
 clear HG0_0_10
 have HG0_1_11 := Aside0.mk (Kd.S_below HG0_1_10.out hb11)
 clear HG0_1_10
 have HYG0_11 := Aside0.mk (blk_below HYG0_10.out hb11)
 clear HYG0_10
 have HL11 := Aside0.mk (show w10.heap.size ≤ w11.heap.size from hb11.size)
 clear hb11
 go_wp2_with fail
 go_ret
 exact ⟨rfl, HB_11.out⟩


/-- The one pure statement of laws_FnExactNewPart. -/
def laws_FnExactNewPart.Pure : Prop := ∃ k, laws_FnExactNewPart.f k  = some true

end Go.Proofs.Ytojdaolclcmalaa.QFnExactNewPart
