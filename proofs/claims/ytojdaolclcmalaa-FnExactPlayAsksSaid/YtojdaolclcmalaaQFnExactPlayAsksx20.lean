/- Functions that one statement reaches: of each a plain function, and the proof that calls come to it. Conditions: those that each contract names. Written by a program of this repository. -/
import Derived.Test.YtojdaolclcmalaaVPlayAsksa
import Derived.Test.YtojdaolclcmalaaQFnExactPlayAsksx2
import Derived.Test.YtojdaolclcmalaaQFnExactPlayAsksx4
import Derived.Test.YtojdaolclcmalaaQFnExactPlayAsksx6
import Derived.Test.YtojdaolclcmalaaQFnExactPlayAsksx10
import Derived.Test.YtojdaolclcmalaaQFnExactPlayAsksx12
import Derived.Test.YtojdaolclcmalaaQFnExactPlayAsksx16
import Derived.Test.YtojdaolclcmalaaQFnExactPlayAsksx17
import Derived.Test.YtojdaolclcmalaaQFnExactPlayAsksx19
namespace Go.Proofs.Ytojdaolclcmalaa.QFnExactPlayAsks
open Go.RowKit Go.Proofs.YtojdaolclcmalaaW.PrintWords Go.Proofs.YtojdaolclcmalaaW.PrintLast Go.Proofs.YtojdaolclcmalaaW.PrintMore
attribute [local go_sem] max2_int min2_int max_two min_two max_three min_three max_four min_four Go.Proofs.YtojdaolclcmalaaW.PrintMore2.isSome_setCell   -- for this text's walks alone
set_option linter.unusedVariables false
set_option linter.unusedSimpArgs false

/-! ### laws_FnExactPlayAsks: function 4 -/
def laws_FnExactPlayAsks.f (k : Nat) (l0 : List S53) : Option (Bool) :=
 (laws_szAskS.f k l0 1048576).bind fun z0 => if z0 < 0 then some true else
 (laws_toAskS.f k l0).bind fun x0 => (spec_PlayAsks.f k x0).bind fun w => (impl_PlayAsks.f k x0).bind fun g => (laws_eqPart.f k g.1 g.2.1 g.2.2.1 w.1 w.2.1 w.2.2.1).bind fun e0 => (laws_eqIntS.f k g.2.2.2.1 w.2.2.2.1).bind fun e1 => if e0 = true ∧ e1 = true ∧ g.2.2.2.2 = w.2.2.2.2 then
 (laws_eqAskS.f k x0 x0).bind fun f0 => (laws_markAskS.f k x0 1).bind fun k0 => if f0 = true ∧ 0 ≤ k0.1 then
 (laws_markPart.f k g.1 g.2.1 g.2.2.1 1).bind fun m0 => (laws_markIntS.f k g.2.2.2.1 m0.1).bind fun m1 => (laws_heldPart.f k m0.2.1 m0.2.2 g.2.2.1 1).bind fun q0 => (laws_heldIntS.f k m1.2 q0).bind fun q1 => if 0 ≤ q0 ∧ 0 ≤ q1 ∧ q1 = m1.1 then some true else none else none else none
set_option maxHeartbeats 8000000 in
set_option maxRecDepth 100000 in
theorem laws_FnExactPlayAsks.calls (k : Nat) (A0 : Option Addr) (c0 : Nat) (l0 : List S53) (r : Bool) (w : World) (hr0 : Kd.C k53 w A0 l0.length l0) (hc0 : l0.length ≤ c0) (h : laws_FnExactPlayAsks.f k l0 = some r) :
  Calls Try.prog 4 #[.slice A0 l0.length c0] w fun e w' => e = .returned (.bool r) ∧ Below w.heap.size w w' := by
 have HR0 := am_ hr0
 have HC0 := am_ hc0
 clear hr0 hc0
 unfold laws_FnExactPlayAsks.f at h
 obtain ⟨z0, hz0, g1⟩ := Option.bind_eq_some_iff.1 h
 clear h
 have HZ0 := am_ hz0
 clear hz0
 by_cases hn0 : z0 < 0
 ·rw [if_pos hn0] at g1
  obtain rfl : true = r := Option.some.inj g1
  have hd0 : decide (z0 < 0) = true := decide_eq_true hn0
  clear hn0 g1
  go_enter Try.func4, Try.ntmps4
  have HB_0 := am_ (Below.refl w.heap.size w)
  go_wp2_with fail
  refine (laws_szAskS.calls k _ _ l0 1048576 z0 _ (Kd.C_below HR0.out HB_0.out) HC0.out HZ0.out).mono ?_
  rintro e w1 ⟨rfl, hb1⟩
  have HB_1 := am_ (below_step HB_0.out hb1)
  clear HB_0
  have HL1 := am_ (show w.heap.size ≤ w1.heap.size from hb1.size)
  clear hb1
  go_wp2_with fail
  go_ret
  exact ⟨rfl, HB_1.out⟩
 ·rw [if_neg hn0] at g1
  have hd0 : decide (z0 < 0) = false := decide_eq_false hn0
  clear hn0
  obtain ⟨x0c0, ht0, g2⟩ := Option.bind_eq_some_iff.1 g1
  clear g1
  obtain ⟨⟨wc0_0, wc0_1, wc0_2, wc1_0, wc2_0⟩, hw, g3⟩ := Option.bind_eq_some_iff.1 g2
  clear g2
  obtain ⟨⟨gc0_0, gc0_1, gc0_2, gc1_0, gc2_0⟩, hg, g4⟩ := Option.bind_eq_some_iff.1 g3
  clear g3
  obtain ⟨e0, he0, g5⟩ := Option.bind_eq_some_iff.1 g4
  clear g4
  obtain ⟨e1, he1, g6⟩ := Option.bind_eq_some_iff.1 g5
  clear g5
  obtain ⟨⟨he0', he1', hs2⟩, g7⟩ := Option.ite_none_right_eq_some.1 g6
  clear g6
  subst he0'
  subst he1'
  obtain rfl : wc2_0 = gc2_0 := hs2.symm
  obtain ⟨f0, hf0, g8⟩ := Option.bind_eq_some_iff.1 g7
  clear g7
  obtain ⟨⟨k0, kx0_0⟩, hk0, g9⟩ := Option.bind_eq_some_iff.1 g8
  clear g8
  obtain ⟨⟨hf0', hkn⟩, g10⟩ := Option.ite_none_right_eq_some.1 g9
  clear g9
  subst hf0'
  obtain ⟨⟨m0, ⟨mg0_0, mg0_1⟩⟩, hm0, g11⟩ := Option.bind_eq_some_iff.1 g10
  clear g10
  obtain ⟨⟨m1, mg1_0⟩, hm1, g12⟩ := Option.bind_eq_some_iff.1 g11
  clear g11
  obtain ⟨q0, hq0, g13⟩ := Option.bind_eq_some_iff.1 g12
  clear g12
  obtain ⟨q1, hq1, g14⟩ := Option.bind_eq_some_iff.1 g13
  clear g13
  obtain ⟨⟨hn0, hn1, hqm⟩, g15⟩ := Option.ite_none_right_eq_some.1 g14
  clear g14
  obtain rfl : q1 = m1 := hqm
  obtain rfl : true = r := Option.some.inj g15
  clear g15
  have hqd0 : decide (q0 < 0) = false := decide_eq_false (by omega)
  have hqd1 : decide (q1 < 0) = false := decide_eq_false (by omega)
  have hkd : decide (k0 < 0) = false := decide_eq_false (by have : 0 ≤ k0 := hkn; omega)
  have HT0 := am_ (show laws_toAskS.f k l0 = some x0c0 from ht0)
  have HWS := am_ (show spec_PlayAsks.f k x0c0 = some (wc0_0, wc0_1, wc0_2, wc1_0, wc2_0) from hw)
  have HGI := am_ (show impl_PlayAsks.f k x0c0 = some (gc0_0, gc0_1, gc0_2, gc1_0, wc2_0) from hg)
  have HE0 := am_ (show laws_eqPart.f k gc0_0 gc0_1 gc0_2 wc0_0 wc0_1 wc0_2 = some true from he0)
  have HE1 := am_ (show laws_eqIntS.f k gc1_0 wc1_0 = some true from he1)
  have HF0 := am_ (show laws_eqAskS.f k x0c0 x0c0 = some true from hf0)
  have HK0 := am_ (show laws_markAskS.f k x0c0 1 = some (k0, kx0_0) from hk0)
  have HM0 := am_ (show laws_markPart.f k gc0_0 gc0_1 gc0_2 1 = some (m0, (mg0_0, mg0_1)) from hm0)
  have HM1 := am_ (show laws_markIntS.f k gc1_0 m0 = some (q1, mg1_0) from hm1)
  have HQ0 := am_ (show laws_heldPart.f k mg0_0 mg0_1 gc0_2 1 = some q0 from hq0)
  have HQ1 := am_ (show laws_heldIntS.f k mg1_0 q0 = some q1 from hq1)
  clear ht0 hw hg he0 he1 hf0 hk0 hm0 hm1 hq0 hq1 hn0 hn1 hkn
  go_enter Try.func4, Try.ntmps4
  have HB_0 := am_ (Below.refl w.heap.size w)
  go_wp2_with fail
  refine (laws_szAskS.calls k _ _ l0 1048576 z0 _ (Kd.C_below HR0.out HB_0.out) HC0.out HZ0.out).mono ?_
  rintro e w1 ⟨rfl, hb1⟩
  have HB_1 := am_ (below_step HB_0.out hb1)
  clear HB_0
  have HL1 := am_ (show w.heap.size ≤ w1.heap.size from hb1.size)
  clear hb1
  go_wp2_with fail
  refine (laws_toAskS.calls k _ _ l0 x0c0 _ (Kd.C_below HR0.out HB_1.out) HC0.out HT0.out).mono ?_
  rintro e w2 ⟨v0_0, rfl, ho0_0, hb2⟩
  have HB_2 := am_ (below_step HB_1.out hb2)
  clear HB_1
  have HL2 := am_ (show w1.heap.size ≤ w2.heap.size from hb2.size)
  have HD0_0 := am_ ho0_0
  obtain ⟨Ad0_0, cd0_0, rfl⟩ := Kd.S_slice HD0_0.out
  clear ho0_0 hb2
  go_wp2_with fail
  refine (spec_PlayAsks.calls k _ _ x0c0 wc0_0 wc0_1 wc0_2 wc1_0 wc2_0 _ (Kd.S_reads' HD0_0.out).2.2 (Kd.S_reads' HD0_0.out).2.1 HWS.out).mono ?_
  rintro e w3 ⟨uw0, uw1, uw3, rfl, ho0, ho1, ho3, hb3⟩
  have HB_3 := am_ (below_step HB_2.out hb3)
  clear HB_2
  have HL3 := am_ (show w2.heap.size ≤ w3.heap.size from hb3.size)
  have HW0_0_303 := am_ (Kd.S_lower (Kd.S_mono (ok' := fun k_ => (w2.heap.size ≤ k_ ∧ k_ < w3.heap.size) ∧ ∃ q_, q_ ∈ 81 :: (k81).E ∧ ∃ c_, w3.heap[k_]? = some (.cells c_ q_ (0, 0))) (Kd.S_bound ho0) (fun k_ h_ => ⟨⟨h_.2.1, h_.2.2.1⟩, h_.2.2.2⟩)) (show w.heap.size ≤ w2.heap.size by have l0_ := HL1.out; have l1_ := HL2.out; have l2_ := HL3.out; omega))
  have HW0_1_303 := am_ (Kd.S_lower (Kd.S_mono (ok' := fun k_ => (w2.heap.size ≤ k_ ∧ k_ < w3.heap.size) ∧ ∃ q_, q_ ∈ 78 :: (k78).E ∧ ∃ c_, w3.heap[k_]? = some (.cells c_ q_ (0, 0))) (Kd.S_bound ho1) (fun k_ h_ => ⟨⟨h_.2.1, h_.2.2.1⟩, h_.2.2.2⟩)) (show w.heap.size ≤ w2.heap.size by have l0_ := HL1.out; have l1_ := HL2.out; have l2_ := HL3.out; omega))
  have HW1_0_303 := am_ (Kd.R_lower (Kd.R_mono (ok' := fun k_ => (w2.heap.size ≤ k_ ∧ k_ < w3.heap.size) ∧ ∃ q_, q_ ∈ 3 :: ((Kd.int .i64)).E ∧ ∃ c_, w3.heap[k_]? = some (.cells c_ q_ (0, 0))) (Kd.R_bound ho3) (fun k_ h_ => ⟨⟨h_.2.1, h_.2.2.1⟩, h_.2.2.2⟩)) (show w.heap.size ≤ w2.heap.size by have l0_ := HL1.out; have l1_ := HL2.out; have l2_ := HL3.out; omega))
  clear ho0 ho1 ho3 hb3
  obtain ⟨AW0_0, cW0_0, rfl⟩ := Kd.S_slice HW0_0_303.out
  obtain ⟨AW0_1, cW0_1, rfl⟩ := Kd.S_slice HW0_1_303.out
  obtain ⟨AW1_0, cW1_0, rfl⟩ := Kd.R_slice HW1_0_303.out
  have HB_4 := am_ (below_alloc HB_3.out (.cells #[.slice AW0_0 wc0_0.length cW0_0, .slice AW0_1 wc0_1.length cW0_1, .int .i64 wc0_2] 33))
  clear HB_3
  have HW0_0_4 := am_ (Kd.S_alloc HW0_0_303.out (.cells #[.slice AW0_0 wc0_0.length cW0_0, .slice AW0_1 wc0_1.length cW0_1, .int .i64 wc0_2] 33))
  clear HW0_0_303
  have HW0_1_4 := am_ (Kd.S_alloc HW0_1_303.out (.cells #[.slice AW0_0 wc0_0.length cW0_0, .slice AW0_1 wc0_1.length cW0_1, .int .i64 wc0_2] 33))
  clear HW0_1_303
  have HW1_0_4 := am_ (Kd.R_alloc HW1_0_303.out (.cells #[.slice AW0_0 wc0_0.length cW0_0, .slice AW0_1 wc0_1.length cW0_1, .int .i64 wc0_2] 33))
  clear HW1_0_303
  have HL4 := am_ (show (w3.alloc (.cells #[.slice AW0_0 wc0_0.length cW0_0, .slice AW0_1 wc0_1.length cW0_1, .int .i64 wc0_2] 33)).heap.size = w3.heap.size + 1 by rw [World.alloc]; exact Array.size_push _)
  have HYW0_4 := am_ (show (w3.alloc (.cells #[.slice AW0_0 wc0_0.length cW0_0, .slice AW0_1 wc0_1.length cW0_1, .int .i64 wc0_2] 33)).heap[w3.heap.size]? = some (.cells #[.slice AW0_0 wc0_0.length cW0_0, .slice AW0_1 wc0_1.length cW0_1, .int .i64 wc0_2] 33 (0, 0)) by rw [World.alloc]; exact Array.getElem?_push_size)
  clear HD0_0
  go_wp2_with fail
  refine (laws_toAskS.calls k _ _ l0 x0c0 _ (Kd.C_below HR0.out HB_4.out) HC0.out HT0.out).mono ?_
  rintro e w5 ⟨v0_0, rfl, ho0_0, hb5⟩
  have HB_5 := am_ (below_step HB_4.out hb5)
  clear HB_4
  have HW0_0_5 := am_ (Kd.S_below HW0_0_4.out hb5)
  clear HW0_0_4
  have HW0_1_5 := am_ (Kd.S_below HW0_1_4.out hb5)
  clear HW0_1_4
  have HW1_0_5 := am_ (Kd.R_below HW1_0_4.out hb5)
  clear HW1_0_4
  have HYW0_5 := am_ (blk_below HYW0_4.out hb5)
  clear HYW0_4
  have HL5 := am_ (show (w3.alloc (.cells #[.slice AW0_0 wc0_0.length cW0_0, .slice AW0_1 wc0_1.length cW0_1, .int .i64 wc0_2] 33)).heap.size ≤ w5.heap.size from hb5.size)
  have HD0_0_305 := am_ (Kd.S_lower (Kd.S_mono (ok' := fun k_ => ((w3.alloc (.cells #[.slice AW0_0 wc0_0.length cW0_0, .slice AW0_1 wc0_1.length cW0_1, .int .i64 wc0_2] 33)).heap.size ≤ k_ ∧ k_ < w5.heap.size) ∧ ∃ q_, q_ ∈ 57 :: (k57).E ∧ ∃ c_, w5.heap[k_]? = some (.cells c_ q_ (0, 0))) (Kd.S_bound ho0_0) (fun k_ h_ => ⟨⟨h_.2.1, h_.2.2.1⟩, h_.2.2.2⟩)) (show w.heap.size ≤ (w3.alloc (.cells #[.slice AW0_0 wc0_0.length cW0_0, .slice AW0_1 wc0_1.length cW0_1, .int .i64 wc0_2] 33)).heap.size by have l0_ := HL1.out; have l1_ := HL2.out; have l2_ := HL3.out; have l3_ := HL4.out; have l4_ := HL5.out; omega))
  clear ho0_0 hb5
  obtain ⟨AD0_0, cD0_0, rfl⟩ := Kd.S_slice HD0_0_305.out
  go_wp2_with fail
  refine (impl_PlayAsks.calls k _ _ x0c0 gc0_0 gc0_1 gc0_2 gc1_0 wc2_0 _ (Kd.S_reads' HD0_0_305.out).2.2 (Kd.S_reads' HD0_0_305.out).2.1 HGI.out).mono ?_
  rintro e w6 ⟨ug0, ug1, ug3, rfl, ho0, ho1, ho3, hb6⟩
  have HB_6 := am_ (below_step HB_5.out hb6)
  clear HB_5
  have HW0_0_6 := am_ (Kd.S_below HW0_0_5.out hb6)
  clear HW0_0_5
  have HW0_1_6 := am_ (Kd.S_below HW0_1_5.out hb6)
  clear HW0_1_5
  have HW1_0_6 := am_ (Kd.R_below HW1_0_5.out hb6)
  clear HW1_0_5
  have HYW0_6 := am_ (blk_below HYW0_5.out hb6)
  clear HYW0_5
  have HD0_0_6 := am_ (Kd.S_below HD0_0_305.out hb6)
  clear HD0_0_305
  have HL6 := am_ (show w5.heap.size ≤ w6.heap.size from hb6.size)
  have HG0_0_306 := am_ (Kd.S_lower (Kd.S_mono (ok' := fun k_ => (w5.heap.size ≤ k_ ∧ k_ < w6.heap.size) ∧ ∃ q_, q_ ∈ 81 :: (k81).E ∧ ∃ c_, w6.heap[k_]? = some (.cells c_ q_ (0, 0))) (Kd.S_bound ho0) (fun k_ h_ => ⟨⟨h_.2.1, h_.2.2.1⟩, h_.2.2.2⟩)) (show w.heap.size ≤ w5.heap.size by have l0_ := HL1.out; have l1_ := HL2.out; have l2_ := HL3.out; have l3_ := HL4.out; have l4_ := HL5.out; have l5_ := HL6.out; omega))
  have HG0_1_306 := am_ (Kd.S_lower (Kd.S_mono (ok' := fun k_ => (w5.heap.size ≤ k_ ∧ k_ < w6.heap.size) ∧ ∃ q_, q_ ∈ 78 :: (k78).E ∧ ∃ c_, w6.heap[k_]? = some (.cells c_ q_ (0, 0))) (Kd.S_bound ho1) (fun k_ h_ => ⟨⟨h_.2.1, h_.2.2.1⟩, h_.2.2.2⟩)) (show w.heap.size ≤ w5.heap.size by have l0_ := HL1.out; have l1_ := HL2.out; have l2_ := HL3.out; have l3_ := HL4.out; have l4_ := HL5.out; have l5_ := HL6.out; omega))
  have HG1_0_306 := am_ (Kd.R_lower (Kd.R_mono (ok' := fun k_ => (w5.heap.size ≤ k_ ∧ k_ < w6.heap.size) ∧ ∃ q_, q_ ∈ 3 :: ((Kd.int .i64)).E ∧ ∃ c_, w6.heap[k_]? = some (.cells c_ q_ (0, 0))) (Kd.R_bound ho3) (fun k_ h_ => ⟨⟨h_.2.1, h_.2.2.1⟩, h_.2.2.2⟩)) (show w.heap.size ≤ w5.heap.size by have l0_ := HL1.out; have l1_ := HL2.out; have l2_ := HL3.out; have l3_ := HL4.out; have l4_ := HL5.out; have l5_ := HL6.out; omega))
  clear ho0 ho1 ho3 hb6
  obtain ⟨AG0_0, cG0_0, rfl⟩ := Kd.S_slice HG0_0_306.out
  obtain ⟨AG0_1, cG0_1, rfl⟩ := Kd.S_slice HG0_1_306.out
  obtain ⟨AG1_0, cG1_0, rfl⟩ := Kd.R_slice HG1_0_306.out
  have HB_7 := am_ (below_alloc HB_6.out (.cells #[.slice AG0_0 gc0_0.length cG0_0, .slice AG0_1 gc0_1.length cG0_1, .int .i64 gc0_2] 33))
  clear HB_6
  have HW0_0_7 := am_ (Kd.S_alloc HW0_0_6.out (.cells #[.slice AG0_0 gc0_0.length cG0_0, .slice AG0_1 gc0_1.length cG0_1, .int .i64 gc0_2] 33))
  clear HW0_0_6
  have HW0_1_7 := am_ (Kd.S_alloc HW0_1_6.out (.cells #[.slice AG0_0 gc0_0.length cG0_0, .slice AG0_1 gc0_1.length cG0_1, .int .i64 gc0_2] 33))
  clear HW0_1_6
  have HW1_0_7 := am_ (Kd.R_alloc HW1_0_6.out (.cells #[.slice AG0_0 gc0_0.length cG0_0, .slice AG0_1 gc0_1.length cG0_1, .int .i64 gc0_2] 33))
  clear HW1_0_6
  have HYW0_7 := am_ (blk_alloc HYW0_6.out (.cells #[.slice AG0_0 gc0_0.length cG0_0, .slice AG0_1 gc0_1.length cG0_1, .int .i64 gc0_2] 33))
  clear HYW0_6
  have HD0_0_7 := am_ (Kd.S_alloc HD0_0_6.out (.cells #[.slice AG0_0 gc0_0.length cG0_0, .slice AG0_1 gc0_1.length cG0_1, .int .i64 gc0_2] 33))
  clear HD0_0_6
  have HG0_0_7 := am_ (Kd.S_alloc HG0_0_306.out (.cells #[.slice AG0_0 gc0_0.length cG0_0, .slice AG0_1 gc0_1.length cG0_1, .int .i64 gc0_2] 33))
  clear HG0_0_306
  have HG0_1_7 := am_ (Kd.S_alloc HG0_1_306.out (.cells #[.slice AG0_0 gc0_0.length cG0_0, .slice AG0_1 gc0_1.length cG0_1, .int .i64 gc0_2] 33))
  clear HG0_1_306
  have HG1_0_7 := am_ (Kd.R_alloc HG1_0_306.out (.cells #[.slice AG0_0 gc0_0.length cG0_0, .slice AG0_1 gc0_1.length cG0_1, .int .i64 gc0_2] 33))
  clear HG1_0_306
  have HL7 := am_ (show (w6.alloc (.cells #[.slice AG0_0 gc0_0.length cG0_0, .slice AG0_1 gc0_1.length cG0_1, .int .i64 gc0_2] 33)).heap.size = w6.heap.size + 1 by rw [World.alloc]; exact Array.size_push _)
  have HYG0_7 := am_ (show (w6.alloc (.cells #[.slice AG0_0 gc0_0.length cG0_0, .slice AG0_1 gc0_1.length cG0_1, .int .i64 gc0_2] 33)).heap[w6.heap.size]? = some (.cells #[.slice AG0_0 gc0_0.length cG0_0, .slice AG0_1 gc0_1.length cG0_1, .int .i64 gc0_2] 33 (0, 0)) by rw [World.alloc]; exact Array.getElem?_push_size)
  have hxYG0_7_0 : (w6.alloc (.cells #[.slice AG0_0 gc0_0.length cG0_0, .slice AG0_1 gc0_1.length cG0_1, .int .i64 gc0_2] 33)).cell? ⟨w6.heap.size, 0, none⟩ = some (.slice AG0_0 gc0_0.length cG0_0) := bt_ HYG0_7 0
  have hxYG0_7_1 : (w6.alloc (.cells #[.slice AG0_0 gc0_0.length cG0_0, .slice AG0_1 gc0_1.length cG0_1, .int .i64 gc0_2] 33)).cell? ⟨w6.heap.size, 1, none⟩ = some (.slice AG0_1 gc0_1.length cG0_1) := bt_ HYG0_7 1
  have hxYG0_7_2 : (w6.alloc (.cells #[.slice AG0_0 gc0_0.length cG0_0, .slice AG0_1 gc0_1.length cG0_1, .int .i64 gc0_2] 33)).cell? ⟨w6.heap.size, 2, none⟩ = some (.int .i64 gc0_2) := bt_ HYG0_7 2
  have hxYW0_7_0 : (w6.alloc (.cells #[.slice AG0_0 gc0_0.length cG0_0, .slice AG0_1 gc0_1.length cG0_1, .int .i64 gc0_2] 33)).cell? ⟨w3.heap.size, 0, none⟩ = some (.slice AW0_0 wc0_0.length cW0_0) := bt_ HYW0_7 0
  have hxYW0_7_1 : (w6.alloc (.cells #[.slice AG0_0 gc0_0.length cG0_0, .slice AG0_1 gc0_1.length cG0_1, .int .i64 gc0_2] 33)).cell? ⟨w3.heap.size, 1, none⟩ = some (.slice AW0_1 wc0_1.length cW0_1) := bt_ HYW0_7 1
  have hxYW0_7_2 : (w6.alloc (.cells #[.slice AG0_0 gc0_0.length cG0_0, .slice AG0_1 gc0_1.length cG0_1, .int .i64 gc0_2] 33)).cell? ⟨w3.heap.size, 2, none⟩ = some (.int .i64 wc0_2) := bt_ HYW0_7 2
  go_wp2_with fail
  refine (laws_eqPart.calls k _ _ gc0_0 _ _ gc0_1 gc0_2 _ _ wc0_0 _ _ wc0_1 wc0_2 true _ (Kd.S_reads' HG0_0_7.out).2.2 (Kd.S_reads' HG0_0_7.out).2.1 (Kd.S_reads' HG0_1_7.out).2.2 (Kd.S_reads' HG0_1_7.out).2.1 (Kd.S_reads' HW0_0_7.out).2.2 (Kd.S_reads' HW0_0_7.out).2.1 (Kd.S_reads' HW0_1_7.out).2.2 (Kd.S_reads' HW0_1_7.out).2.1 HE0.out).mono ?_
  rintro e w8 ⟨rfl, hb8⟩
  try replace hb8 := hb8.below
  clear hxYG0_7_0
  clear hxYG0_7_1
  clear hxYG0_7_2
  clear hxYW0_7_0
  clear hxYW0_7_1
  clear hxYW0_7_2
  have HB_8 := am_ (below_step HB_7.out hb8)
  clear HB_7
  have HW0_0_8 := am_ (Kd.S_below HW0_0_7.out hb8)
  clear HW0_0_7
  have HW0_1_8 := am_ (Kd.S_below HW0_1_7.out hb8)
  clear HW0_1_7
  have HW1_0_8 := am_ (Kd.R_below HW1_0_7.out hb8)
  clear HW1_0_7
  have HYW0_8 := am_ (blk_below HYW0_7.out hb8)
  clear HYW0_7
  have HD0_0_8 := am_ (Kd.S_below HD0_0_7.out hb8)
  clear HD0_0_7
  have HG0_0_8 := am_ (Kd.S_below HG0_0_7.out hb8)
  clear HG0_0_7
  have HG0_1_8 := am_ (Kd.S_below HG0_1_7.out hb8)
  clear HG0_1_7
  have HG1_0_8 := am_ (Kd.R_below HG1_0_7.out hb8)
  clear HG1_0_7
  have HYG0_8 := am_ (blk_below HYG0_7.out hb8)
  clear HYG0_7
  have HL8 := am_ (show (w6.alloc (.cells #[.slice AG0_0 gc0_0.length cG0_0, .slice AG0_1 gc0_1.length cG0_1, .int .i64 gc0_2] 33)).heap.size ≤ w8.heap.size from hb8.size)
  clear hb8
  have hxYG0_8_0 : w8.cell? ⟨w6.heap.size, 0, none⟩ = some (.slice AG0_0 gc0_0.length cG0_0) := bt_ HYG0_8 0
  have hxYG0_8_1 : w8.cell? ⟨w6.heap.size, 1, none⟩ = some (.slice AG0_1 gc0_1.length cG0_1) := bt_ HYG0_8 1
  have hxYG0_8_2 : w8.cell? ⟨w6.heap.size, 2, none⟩ = some (.int .i64 gc0_2) := bt_ HYG0_8 2
  have hxYW0_8_0 : w8.cell? ⟨w3.heap.size, 0, none⟩ = some (.slice AW0_0 wc0_0.length cW0_0) := bt_ HYW0_8 0
  have hxYW0_8_1 : w8.cell? ⟨w3.heap.size, 1, none⟩ = some (.slice AW0_1 wc0_1.length cW0_1) := bt_ HYW0_8 1
  have hxYW0_8_2 : w8.cell? ⟨w3.heap.size, 2, none⟩ = some (.int .i64 wc0_2) := bt_ HYW0_8 2
  go_wp2_with fail
  refine (laws_eqIntS.calls k _ _ gc1_0 _ _ wc1_0 true _ (Kd.R_reads' HG1_0_8.out).2.2 (Kd.R_reads' HG1_0_8.out).2.1 (Kd.R_reads' HW1_0_8.out).2.2 (Kd.R_reads' HW1_0_8.out).2.1 HE1.out).mono ?_
  rintro e w9 ⟨rfl, hb9⟩
  try replace hb9 := hb9.below
  clear hxYG0_8_0
  clear hxYG0_8_1
  clear hxYG0_8_2
  clear hxYW0_8_0
  clear hxYW0_8_1
  clear hxYW0_8_2
  have HB_9 := am_ (below_step HB_8.out hb9)
  clear HB_8
  have HW0_0_9 := am_ (Kd.S_below HW0_0_8.out hb9)
  clear HW0_0_8
  have HW0_1_9 := am_ (Kd.S_below HW0_1_8.out hb9)
  clear HW0_1_8
  have HW1_0_9 := am_ (Kd.R_below HW1_0_8.out hb9)
  clear HW1_0_8
  have HYW0_9 := am_ (blk_below HYW0_8.out hb9)
  clear HYW0_8
  have HD0_0_9 := am_ (Kd.S_below HD0_0_8.out hb9)
  clear HD0_0_8
  have HG0_0_9 := am_ (Kd.S_below HG0_0_8.out hb9)
  clear HG0_0_8
  have HG0_1_9 := am_ (Kd.S_below HG0_1_8.out hb9)
  clear HG0_1_8
  have HG1_0_9 := am_ (Kd.R_below HG1_0_8.out hb9)
  clear HG1_0_8
  have HYG0_9 := am_ (blk_below HYG0_8.out hb9)
  clear HYG0_8
  have HL9 := am_ (show w8.heap.size ≤ w9.heap.size from hb9.size)
  clear hb9
  go_wp2_with fail
  refine (laws_toAskS.calls k _ _ l0 x0c0 _ (Kd.C_below HR0.out HB_9.out) HC0.out HT0.out).mono ?_
  rintro e w10 ⟨v0_0, rfl, ho0_0, hb10⟩
  have HB_10 := am_ (below_step HB_9.out hb10)
  clear HB_9
  have HW0_0_10 := am_ (Kd.S_below HW0_0_9.out hb10)
  clear HW0_0_9
  have HW0_1_10 := am_ (Kd.S_below HW0_1_9.out hb10)
  clear HW0_1_9
  have HW1_0_10 := am_ (Kd.R_below HW1_0_9.out hb10)
  clear HW1_0_9
  have HYW0_10 := am_ (blk_below HYW0_9.out hb10)
  clear HYW0_9
  have HD0_0_10 := am_ (Kd.S_below HD0_0_9.out hb10)
  clear HD0_0_9
  have HG0_0_10 := am_ (Kd.S_below HG0_0_9.out hb10)
  clear HG0_0_9
  have HG0_1_10 := am_ (Kd.S_below HG0_1_9.out hb10)
  clear HG0_1_9
  have HG1_0_10 := am_ (Kd.R_below HG1_0_9.out hb10)
  clear HG1_0_9
  have HYG0_10 := am_ (blk_below HYG0_9.out hb10)
  clear HYG0_9
  have HL10 := am_ (show w9.heap.size ≤ w10.heap.size from hb10.size)
  have HD0_0 := am_ ho0_0
  obtain ⟨Ad0_0, cd0_0, rfl⟩ := Kd.S_slice HD0_0.out
  clear ho0_0 hb10
  go_wp2_with fail
  refine (laws_eqAskS.calls k _ _ x0c0 _ _ x0c0 true _ (Kd.S_reads' HD0_0_10.out).2.2 (Kd.S_reads' HD0_0_10.out).2.1 (Kd.S_reads' HD0_0.out).2.2 (Kd.S_reads' HD0_0.out).2.1 HF0.out).mono ?_
  rintro e w11 ⟨rfl, hb11⟩
  try replace hb11 := hb11.below
  have HB_11 := am_ (below_step HB_10.out hb11)
  clear HB_10
  have HW0_0_11 := am_ (Kd.S_below HW0_0_10.out hb11)
  clear HW0_0_10
  have HW0_1_11 := am_ (Kd.S_below HW0_1_10.out hb11)
  clear HW0_1_10
  have HW1_0_11 := am_ (Kd.R_below HW1_0_10.out hb11)
  clear HW1_0_10
  have HYW0_11 := am_ (blk_below HYW0_10.out hb11)
  clear HYW0_10
  have HD0_0_11 := am_ (Kd.S_below HD0_0_10.out hb11)
  clear HD0_0_10
  have HG0_0_11 := am_ (Kd.S_below HG0_0_10.out hb11)
  clear HG0_0_10
  have HG0_1_11 := am_ (Kd.S_below HG0_1_10.out hb11)
  clear HG0_1_10
  have HG1_0_11 := am_ (Kd.R_below HG1_0_10.out hb11)
  clear HG1_0_10
  have HYG0_11 := am_ (blk_below HYG0_10.out hb11)
  clear HYG0_10
  have HL11 := am_ (show w10.heap.size ≤ w11.heap.size from hb11.size)
  clear hb11
  clear HD0_0
  go_wp2_with fail
  refine (laws_markAskS.calls k (fun k_ => ((w3.alloc (.cells #[.slice AW0_0 wc0_0.length cW0_0, .slice AW0_1 wc0_1.length cW0_1, .int .i64 wc0_2] 33)).heap.size ≤ k_ ∧ k_ < w5.heap.size) ∧ ∃ q_, q_ ∈ 57 :: (k57).E ∧ ∃ c_, w5.heap[k_]? = some (.cells c_ q_ (0, 0))) _ x0c0 1 k0 kx0_0 w _ HB_11.out HD0_0_11.out HK0.out).mono ?_
  rintro e w12 ⟨rfl, hy0, hb, hk⟩
  have HB_12 := am_ (hb)
  clear HB_11
  have HW0_0_12 := am_ (Kd.S_kept HW0_0_11.out hk (fun k_ h_ h2_ => by have h3_ := h_.1.1; have h4_ := h_.1.2; have h5_ := h2_.1.1; have h6_ := h2_.1.2; clear h_ h2_; have l0_ := HL1.out; have l1_ := HL2.out; have l2_ := HL3.out; have l3_ := HL4.out; have l4_ := HL5.out; have l5_ := HL6.out; have l6_ := HL7.out; have l7_ := HL8.out; have l8_ := HL9.out; have l9_ := HL10.out; have l10_ := HL11.out; omega))
  clear HW0_0_11
  have HW0_1_12 := am_ (Kd.S_kept HW0_1_11.out hk (fun k_ h_ h2_ => by have h3_ := h_.1.1; have h4_ := h_.1.2; have h5_ := h2_.1.1; have h6_ := h2_.1.2; clear h_ h2_; have l0_ := HL1.out; have l1_ := HL2.out; have l2_ := HL3.out; have l3_ := HL4.out; have l4_ := HL5.out; have l5_ := HL6.out; have l6_ := HL7.out; have l7_ := HL8.out; have l8_ := HL9.out; have l9_ := HL10.out; have l10_ := HL11.out; omega))
  clear HW0_1_11
  have HW1_0_12 := am_ (Kd.R_kept HW1_0_11.out hk (fun k_ h_ h2_ => by have h3_ := h_.1.1; have h4_ := h_.1.2; have h5_ := h2_.1.1; have h6_ := h2_.1.2; clear h_ h2_; have l0_ := HL1.out; have l1_ := HL2.out; have l2_ := HL3.out; have l3_ := HL4.out; have l4_ := HL5.out; have l5_ := HL6.out; have l6_ := HL7.out; have l7_ := HL8.out; have l8_ := HL9.out; have l9_ := HL10.out; have l10_ := HL11.out; omega))
  clear HW1_0_11
  have HYW0_12 := am_ (blk_kept HYW0_11.out hk (fun h2_ => by have h3_ := h2_.1.1; have h4_ := h2_.1.2; clear h2_; have l0_ := HL1.out; have l1_ := HL2.out; have l2_ := HL3.out; have l3_ := HL4.out; have l4_ := HL5.out; have l5_ := HL6.out; have l6_ := HL7.out; have l7_ := HL8.out; have l8_ := HL9.out; have l9_ := HL10.out; have l10_ := HL11.out; omega))
  clear HYW0_11
  have HG0_0_12 := am_ (Kd.S_kept HG0_0_11.out hk (fun k_ h_ h2_ => by have h3_ := h_.1.1; have h4_ := h_.1.2; have h5_ := h2_.1.1; have h6_ := h2_.1.2; clear h_ h2_; have l0_ := HL1.out; have l1_ := HL2.out; have l2_ := HL3.out; have l3_ := HL4.out; have l4_ := HL5.out; have l5_ := HL6.out; have l6_ := HL7.out; have l7_ := HL8.out; have l8_ := HL9.out; have l9_ := HL10.out; have l10_ := HL11.out; omega))
  clear HG0_0_11
  have HG0_1_12 := am_ (Kd.S_kept HG0_1_11.out hk (fun k_ h_ h2_ => by have h3_ := h_.1.1; have h4_ := h_.1.2; have h5_ := h2_.1.1; have h6_ := h2_.1.2; clear h_ h2_; have l0_ := HL1.out; have l1_ := HL2.out; have l2_ := HL3.out; have l3_ := HL4.out; have l4_ := HL5.out; have l5_ := HL6.out; have l6_ := HL7.out; have l7_ := HL8.out; have l8_ := HL9.out; have l9_ := HL10.out; have l10_ := HL11.out; omega))
  clear HG0_1_11
  have HG1_0_12 := am_ (Kd.R_kept HG1_0_11.out hk (fun k_ h_ h2_ => by have h3_ := h_.1.1; have h4_ := h_.1.2; have h5_ := h2_.1.1; have h6_ := h2_.1.2; clear h_ h2_; have l0_ := HL1.out; have l1_ := HL2.out; have l2_ := HL3.out; have l3_ := HL4.out; have l4_ := HL5.out; have l5_ := HL6.out; have l6_ := HL7.out; have l7_ := HL8.out; have l8_ := HL9.out; have l9_ := HL10.out; have l10_ := HL11.out; omega))
  clear HG1_0_11
  have HYG0_12 := am_ (blk_kept HYG0_11.out hk (fun h2_ => by have h3_ := h2_.1.1; have h4_ := h2_.1.2; clear h2_; have l0_ := HL1.out; have l1_ := HL2.out; have l2_ := HL3.out; have l3_ := HL4.out; have l4_ := HL5.out; have l5_ := HL6.out; have l6_ := HL7.out; have l7_ := HL8.out; have l8_ := HL9.out; have l9_ := HL10.out; have l10_ := HL11.out; omega))
  clear HYG0_11
  have HD0_0_12 := am_ (hy0)
  clear HD0_0_11
  have HL12 := am_ (show w11.heap.size ≤ w12.heap.size from hk.1)
  clear hb hk hy0
  clear HD0_0_12
  have hxYG0_12_0 : w12.cell? ⟨w6.heap.size, 0, none⟩ = some (.slice AG0_0 gc0_0.length cG0_0) := bt_ HYG0_12 0
  have hxYG0_12_1 : w12.cell? ⟨w6.heap.size, 1, none⟩ = some (.slice AG0_1 gc0_1.length cG0_1) := bt_ HYG0_12 1
  have hxYG0_12_2 : w12.cell? ⟨w6.heap.size, 2, none⟩ = some (.int .i64 gc0_2) := bt_ HYG0_12 2
  have hxYW0_12_0 : w12.cell? ⟨w3.heap.size, 0, none⟩ = some (.slice AW0_0 wc0_0.length cW0_0) := bt_ HYW0_12 0
  have hxYW0_12_1 : w12.cell? ⟨w3.heap.size, 1, none⟩ = some (.slice AW0_1 wc0_1.length cW0_1) := bt_ HYW0_12 1
  have hxYW0_12_2 : w12.cell? ⟨w3.heap.size, 2, none⟩ = some (.int .i64 wc0_2) := bt_ HYW0_12 2
  go_wp2_with fail
  refine (laws_eqPart.calls k _ _ gc0_0 _ _ gc0_1 gc0_2 _ _ wc0_0 _ _ wc0_1 wc0_2 true _ (Kd.S_reads' HG0_0_12.out).2.2 (Kd.S_reads' HG0_0_12.out).2.1 (Kd.S_reads' HG0_1_12.out).2.2 (Kd.S_reads' HG0_1_12.out).2.1 (Kd.S_reads' HW0_0_12.out).2.2 (Kd.S_reads' HW0_0_12.out).2.1 (Kd.S_reads' HW0_1_12.out).2.2 (Kd.S_reads' HW0_1_12.out).2.1 HE0.out).mono ?_
  rintro e w13 ⟨rfl, hb13⟩
  try replace hb13 := hb13.below
  clear hxYG0_12_0
  clear hxYG0_12_1
  clear hxYG0_12_2
  clear hxYW0_12_0
  clear hxYW0_12_1
  clear hxYW0_12_2
  have HB_13 := am_ (below_step HB_12.out hb13)
  clear HB_12
  have HW0_0_13 := am_ (Kd.S_below HW0_0_12.out hb13)
  clear HW0_0_12
  have HW0_1_13 := am_ (Kd.S_below HW0_1_12.out hb13)
  clear HW0_1_12
  have HW1_0_13 := am_ (Kd.R_below HW1_0_12.out hb13)
  clear HW1_0_12
  have HYW0_13 := am_ (blk_below HYW0_12.out hb13)
  clear HYW0_12
  have HG0_0_13 := am_ (Kd.S_below HG0_0_12.out hb13)
  clear HG0_0_12
  have HG0_1_13 := am_ (Kd.S_below HG0_1_12.out hb13)
  clear HG0_1_12
  have HG1_0_13 := am_ (Kd.R_below HG1_0_12.out hb13)
  clear HG1_0_12
  have HYG0_13 := am_ (blk_below HYG0_12.out hb13)
  clear HYG0_12
  have HL13 := am_ (show w12.heap.size ≤ w13.heap.size from hb13.size)
  clear hb13
  have hxYG0_13_0 : w13.cell? ⟨w6.heap.size, 0, none⟩ = some (.slice AG0_0 gc0_0.length cG0_0) := bt_ HYG0_13 0
  have hxYG0_13_1 : w13.cell? ⟨w6.heap.size, 1, none⟩ = some (.slice AG0_1 gc0_1.length cG0_1) := bt_ HYG0_13 1
  have hxYG0_13_2 : w13.cell? ⟨w6.heap.size, 2, none⟩ = some (.int .i64 gc0_2) := bt_ HYG0_13 2
  have hxYW0_13_0 : w13.cell? ⟨w3.heap.size, 0, none⟩ = some (.slice AW0_0 wc0_0.length cW0_0) := bt_ HYW0_13 0
  have hxYW0_13_1 : w13.cell? ⟨w3.heap.size, 1, none⟩ = some (.slice AW0_1 wc0_1.length cW0_1) := bt_ HYW0_13 1
  have hxYW0_13_2 : w13.cell? ⟨w3.heap.size, 2, none⟩ = some (.int .i64 wc0_2) := bt_ HYW0_13 2
  go_wp2_with fail
  refine (laws_eqIntS.calls k _ _ gc1_0 _ _ wc1_0 true _ (Kd.R_reads' HG1_0_13.out).2.2 (Kd.R_reads' HG1_0_13.out).2.1 (Kd.R_reads' HW1_0_13.out).2.2 (Kd.R_reads' HW1_0_13.out).2.1 HE1.out).mono ?_
  rintro e w14 ⟨rfl, hb14⟩
  try replace hb14 := hb14.below
  clear hxYG0_13_0
  clear hxYG0_13_1
  clear hxYG0_13_2
  clear hxYW0_13_0
  clear hxYW0_13_1
  clear hxYW0_13_2
  have HB_14 := am_ (below_step HB_13.out hb14)
  clear HB_13
  have HW0_0_14 := am_ (Kd.S_below HW0_0_13.out hb14)
  clear HW0_0_13
  have HW0_1_14 := am_ (Kd.S_below HW0_1_13.out hb14)
  clear HW0_1_13
  have HW1_0_14 := am_ (Kd.R_below HW1_0_13.out hb14)
  clear HW1_0_13
  have HYW0_14 := am_ (blk_below HYW0_13.out hb14)
  clear HYW0_13
  have HG0_0_14 := am_ (Kd.S_below HG0_0_13.out hb14)
  clear HG0_0_13
  have HG0_1_14 := am_ (Kd.S_below HG0_1_13.out hb14)
  clear HG0_1_13
  have HG1_0_14 := am_ (Kd.R_below HG1_0_13.out hb14)
  clear HG1_0_13
  have HYG0_14 := am_ (blk_below HYG0_13.out hb14)
  clear HYG0_13
  have HL14 := am_ (show w13.heap.size ≤ w14.heap.size from hb14.size)
  clear hb14
  have hxYG0_14_0 : w14.cell? ⟨w6.heap.size, 0, none⟩ = some (.slice AG0_0 gc0_0.length cG0_0) := bt_ HYG0_14 0
  have hxYG0_14_1 : w14.cell? ⟨w6.heap.size, 1, none⟩ = some (.slice AG0_1 gc0_1.length cG0_1) := bt_ HYG0_14 1
  have hxYG0_14_2 : w14.cell? ⟨w6.heap.size, 2, none⟩ = some (.int .i64 gc0_2) := bt_ HYG0_14 2
  go_wp2_with fail
  refine (laws_markPart.calls k (fun k_ => (w5.heap.size ≤ k_ ∧ k_ < w6.heap.size) ∧ ∃ q_, q_ ∈ 81 :: (k81).E ∧ ∃ c_, w6.heap[k_]? = some (.cells c_ q_ (0, 0))) _ gc0_0 (fun k_ => (w5.heap.size ≤ k_ ∧ k_ < w6.heap.size) ∧ ∃ q_, q_ ∈ 78 :: (k78).E ∧ ∃ c_, w6.heap[k_]? = some (.cells c_ q_ (0, 0))) _ gc0_1 gc0_2 1 m0 mg0_0 mg0_1 w _ HB_14.out HG0_0_14.out HG0_1_14.out (fun k_ h_ h2_ => by obtain ⟨_, q_, hq_, c_, hc_⟩ := h_; obtain ⟨_, q2_, hq2_, c2_, hc2_⟩ := h2_; rw [hc_] at hc2_; injection hc2_ with e1_; injection e1_ with _ e2_ _; subst e2_; exact (by decide : ∀ x_ ∈ (81 :: (k81).E), x_ ∉ (78 :: (k78).E)) _ hq_ hq2_) HM0.out).mono ?_
  rintro e w15 ⟨rfl, hy0, hy1, hb, hk⟩
  clear hxYG0_14_0
  clear hxYG0_14_1
  clear hxYG0_14_2
  have HB_15 := am_ (hb)
  clear HB_14
  have HW0_0_15 := am_ (Kd.S_kept HW0_0_14.out hk (fun k_ h_ h2_ => by rcases h2_ with h2_ | h2_; (· have h3_ := h_.1.1; have h4_ := h_.1.2; have h5_ := h2_.1.1; have h6_ := h2_.1.2; clear h_ h2_; have l0_ := HL1.out; have l1_ := HL2.out; have l2_ := HL3.out; have l3_ := HL4.out; have l4_ := HL5.out; have l5_ := HL6.out; have l6_ := HL7.out; have l7_ := HL8.out; have l8_ := HL9.out; have l9_ := HL10.out; have l10_ := HL11.out; have l11_ := HL12.out; have l12_ := HL13.out; have l13_ := HL14.out; omega); (· have h3_ := h_.1.1; have h4_ := h_.1.2; have h5_ := h2_.1.1; have h6_ := h2_.1.2; clear h_ h2_; have l0_ := HL1.out; have l1_ := HL2.out; have l2_ := HL3.out; have l3_ := HL4.out; have l4_ := HL5.out; have l5_ := HL6.out; have l6_ := HL7.out; have l7_ := HL8.out; have l8_ := HL9.out; have l9_ := HL10.out; have l10_ := HL11.out; have l11_ := HL12.out; have l12_ := HL13.out; have l13_ := HL14.out; omega)))
  clear HW0_0_14
  have HW0_1_15 := am_ (Kd.S_kept HW0_1_14.out hk (fun k_ h_ h2_ => by rcases h2_ with h2_ | h2_; (· have h3_ := h_.1.1; have h4_ := h_.1.2; have h5_ := h2_.1.1; have h6_ := h2_.1.2; clear h_ h2_; have l0_ := HL1.out; have l1_ := HL2.out; have l2_ := HL3.out; have l3_ := HL4.out; have l4_ := HL5.out; have l5_ := HL6.out; have l6_ := HL7.out; have l7_ := HL8.out; have l8_ := HL9.out; have l9_ := HL10.out; have l10_ := HL11.out; have l11_ := HL12.out; have l12_ := HL13.out; have l13_ := HL14.out; omega); (· have h3_ := h_.1.1; have h4_ := h_.1.2; have h5_ := h2_.1.1; have h6_ := h2_.1.2; clear h_ h2_; have l0_ := HL1.out; have l1_ := HL2.out; have l2_ := HL3.out; have l3_ := HL4.out; have l4_ := HL5.out; have l5_ := HL6.out; have l6_ := HL7.out; have l7_ := HL8.out; have l8_ := HL9.out; have l9_ := HL10.out; have l10_ := HL11.out; have l11_ := HL12.out; have l12_ := HL13.out; have l13_ := HL14.out; omega)))
  clear HW0_1_14
  have HW1_0_15 := am_ (Kd.R_kept HW1_0_14.out hk (fun k_ h_ h2_ => by rcases h2_ with h2_ | h2_; (· have h3_ := h_.1.1; have h4_ := h_.1.2; have h5_ := h2_.1.1; have h6_ := h2_.1.2; clear h_ h2_; have l0_ := HL1.out; have l1_ := HL2.out; have l2_ := HL3.out; have l3_ := HL4.out; have l4_ := HL5.out; have l5_ := HL6.out; have l6_ := HL7.out; have l7_ := HL8.out; have l8_ := HL9.out; have l9_ := HL10.out; have l10_ := HL11.out; have l11_ := HL12.out; have l12_ := HL13.out; have l13_ := HL14.out; omega); (· have h3_ := h_.1.1; have h4_ := h_.1.2; have h5_ := h2_.1.1; have h6_ := h2_.1.2; clear h_ h2_; have l0_ := HL1.out; have l1_ := HL2.out; have l2_ := HL3.out; have l3_ := HL4.out; have l4_ := HL5.out; have l5_ := HL6.out; have l6_ := HL7.out; have l7_ := HL8.out; have l8_ := HL9.out; have l9_ := HL10.out; have l10_ := HL11.out; have l11_ := HL12.out; have l12_ := HL13.out; have l13_ := HL14.out; omega)))
  clear HW1_0_14
  have HYW0_15 := am_ (blk_kept HYW0_14.out hk (fun h2_ => by rcases h2_ with h2_ | h2_; (· have h3_ := h2_.1.1; have h4_ := h2_.1.2; clear h2_; have l0_ := HL1.out; have l1_ := HL2.out; have l2_ := HL3.out; have l3_ := HL4.out; have l4_ := HL5.out; have l5_ := HL6.out; have l6_ := HL7.out; have l7_ := HL8.out; have l8_ := HL9.out; have l9_ := HL10.out; have l10_ := HL11.out; have l11_ := HL12.out; have l12_ := HL13.out; have l13_ := HL14.out; omega); (· have h3_ := h2_.1.1; have h4_ := h2_.1.2; clear h2_; have l0_ := HL1.out; have l1_ := HL2.out; have l2_ := HL3.out; have l3_ := HL4.out; have l4_ := HL5.out; have l5_ := HL6.out; have l6_ := HL7.out; have l7_ := HL8.out; have l8_ := HL9.out; have l9_ := HL10.out; have l10_ := HL11.out; have l11_ := HL12.out; have l12_ := HL13.out; have l13_ := HL14.out; omega)))
  clear HYW0_14
  have HG1_0_15 := am_ (Kd.R_kept HG1_0_14.out hk (fun k_ h_ h2_ => by rcases h2_ with h2_ | h2_; (· obtain ⟨_, q_, hq_, c_, hc_⟩ := h_; obtain ⟨_, q2_, hq2_, c2_, hc2_⟩ := h2_; rw [hc_] at hc2_; injection hc2_ with e1_; injection e1_ with _ e2_ _; subst e2_; exact (by decide : ∀ x_ ∈ (3 :: ((Kd.int .i64)).E), x_ ∉ (81 :: (k81).E)) _ hq_ hq2_); (· obtain ⟨_, q_, hq_, c_, hc_⟩ := h_; obtain ⟨_, q2_, hq2_, c2_, hc2_⟩ := h2_; rw [hc_] at hc2_; injection hc2_ with e1_; injection e1_ with _ e2_ _; subst e2_; exact (by decide : ∀ x_ ∈ (3 :: ((Kd.int .i64)).E), x_ ∉ (78 :: (k78).E)) _ hq_ hq2_)))
  clear HG1_0_14
  have HYG0_15 := am_ (blk_kept HYG0_14.out hk (fun h2_ => by rcases h2_ with h2_ | h2_; (· have h3_ := h2_.1.1; have h4_ := h2_.1.2; clear h2_; have l0_ := HL1.out; have l1_ := HL2.out; have l2_ := HL3.out; have l3_ := HL4.out; have l4_ := HL5.out; have l5_ := HL6.out; have l6_ := HL7.out; have l7_ := HL8.out; have l8_ := HL9.out; have l9_ := HL10.out; have l10_ := HL11.out; have l11_ := HL12.out; have l12_ := HL13.out; have l13_ := HL14.out; omega); (· have h3_ := h2_.1.1; have h4_ := h2_.1.2; clear h2_; have l0_ := HL1.out; have l1_ := HL2.out; have l2_ := HL3.out; have l3_ := HL4.out; have l4_ := HL5.out; have l5_ := HL6.out; have l6_ := HL7.out; have l7_ := HL8.out; have l8_ := HL9.out; have l9_ := HL10.out; have l10_ := HL11.out; have l11_ := HL12.out; have l12_ := HL13.out; have l13_ := HL14.out; omega)))
  clear HYG0_14
  have HG0_0_15 := am_ (hy0)
  clear HG0_0_14
  have HG0_1_15 := am_ (hy1)
  clear HG0_1_14
  have HL15 := am_ (show w14.heap.size ≤ w15.heap.size from hk.1)
  clear hb hk hy0 hy1
  go_wp2_with fail
  refine (laws_markIntS.calls k (fun k_ => (w5.heap.size ≤ k_ ∧ k_ < w6.heap.size) ∧ ∃ q_, q_ ∈ 3 :: ((Kd.int .i64)).E ∧ ∃ c_, w6.heap[k_]? = some (.cells c_ q_ (0, 0))) _ gc1_0 m0 q1 mg1_0 w _ HB_15.out HG1_0_15.out HM1.out).mono ?_
  rintro e w16 ⟨rfl, hy0, hb, hk⟩
  have HB_16 := am_ (hb)
  clear HB_15
  have HW0_0_16 := am_ (Kd.S_kept HW0_0_15.out hk (fun k_ h_ h2_ => by have h3_ := h_.1.1; have h4_ := h_.1.2; have h5_ := h2_.1.1; have h6_ := h2_.1.2; clear h_ h2_; have l0_ := HL1.out; have l1_ := HL2.out; have l2_ := HL3.out; have l3_ := HL4.out; have l4_ := HL5.out; have l5_ := HL6.out; have l6_ := HL7.out; have l7_ := HL8.out; have l8_ := HL9.out; have l9_ := HL10.out; have l10_ := HL11.out; have l11_ := HL12.out; have l12_ := HL13.out; have l13_ := HL14.out; have l14_ := HL15.out; omega))
  clear HW0_0_15
  have HW0_1_16 := am_ (Kd.S_kept HW0_1_15.out hk (fun k_ h_ h2_ => by have h3_ := h_.1.1; have h4_ := h_.1.2; have h5_ := h2_.1.1; have h6_ := h2_.1.2; clear h_ h2_; have l0_ := HL1.out; have l1_ := HL2.out; have l2_ := HL3.out; have l3_ := HL4.out; have l4_ := HL5.out; have l5_ := HL6.out; have l6_ := HL7.out; have l7_ := HL8.out; have l8_ := HL9.out; have l9_ := HL10.out; have l10_ := HL11.out; have l11_ := HL12.out; have l12_ := HL13.out; have l13_ := HL14.out; have l14_ := HL15.out; omega))
  clear HW0_1_15
  have HW1_0_16 := am_ (Kd.R_kept HW1_0_15.out hk (fun k_ h_ h2_ => by have h3_ := h_.1.1; have h4_ := h_.1.2; have h5_ := h2_.1.1; have h6_ := h2_.1.2; clear h_ h2_; have l0_ := HL1.out; have l1_ := HL2.out; have l2_ := HL3.out; have l3_ := HL4.out; have l4_ := HL5.out; have l5_ := HL6.out; have l6_ := HL7.out; have l7_ := HL8.out; have l8_ := HL9.out; have l9_ := HL10.out; have l10_ := HL11.out; have l11_ := HL12.out; have l12_ := HL13.out; have l13_ := HL14.out; have l14_ := HL15.out; omega))
  clear HW1_0_15
  have HYW0_16 := am_ (blk_kept HYW0_15.out hk (fun h2_ => by have h3_ := h2_.1.1; have h4_ := h2_.1.2; clear h2_; have l0_ := HL1.out; have l1_ := HL2.out; have l2_ := HL3.out; have l3_ := HL4.out; have l4_ := HL5.out; have l5_ := HL6.out; have l6_ := HL7.out; have l7_ := HL8.out; have l8_ := HL9.out; have l9_ := HL10.out; have l10_ := HL11.out; have l11_ := HL12.out; have l12_ := HL13.out; have l13_ := HL14.out; have l14_ := HL15.out; omega))
  clear HYW0_15
  have HG0_0_16 := am_ (Kd.S_kept HG0_0_15.out hk (fun k_ h_ h2_ => by obtain ⟨_, q_, hq_, c_, hc_⟩ := h_; obtain ⟨_, q2_, hq2_, c2_, hc2_⟩ := h2_; rw [hc_] at hc2_; injection hc2_ with e1_; injection e1_ with _ e2_ _; subst e2_; exact (by decide : ∀ x_ ∈ (81 :: (k81).E), x_ ∉ (3 :: ((Kd.int .i64)).E)) _ hq_ hq2_))
  clear HG0_0_15
  have HG0_1_16 := am_ (Kd.S_kept HG0_1_15.out hk (fun k_ h_ h2_ => by obtain ⟨_, q_, hq_, c_, hc_⟩ := h_; obtain ⟨_, q2_, hq2_, c2_, hc2_⟩ := h2_; rw [hc_] at hc2_; injection hc2_ with e1_; injection e1_ with _ e2_ _; subst e2_; exact (by decide : ∀ x_ ∈ (78 :: (k78).E), x_ ∉ (3 :: ((Kd.int .i64)).E)) _ hq_ hq2_))
  clear HG0_1_15
  have HYG0_16 := am_ (blk_kept HYG0_15.out hk (fun h2_ => by have h3_ := h2_.1.1; have h4_ := h2_.1.2; clear h2_; have l0_ := HL1.out; have l1_ := HL2.out; have l2_ := HL3.out; have l3_ := HL4.out; have l4_ := HL5.out; have l5_ := HL6.out; have l6_ := HL7.out; have l7_ := HL8.out; have l8_ := HL9.out; have l9_ := HL10.out; have l10_ := HL11.out; have l11_ := HL12.out; have l12_ := HL13.out; have l13_ := HL14.out; have l14_ := HL15.out; omega))
  clear HYG0_15
  have HG1_0_16 := am_ (hy0)
  clear HG1_0_15
  have HL16 := am_ (show w15.heap.size ≤ w16.heap.size from hk.1)
  clear hb hk hy0
  have HLG0_0 := am_ (Kd.S_reads' HG0_0_16.out).1
  have HG0_0_516 := am_ (show Kd.S k81 81 w16 w.heap.size (fun k_ => (w5.heap.size ≤ k_ ∧ k_ < w6.heap.size) ∧ ∃ q_, q_ ∈ 81 :: (k81).E ∧ ∃ c_, w6.heap[k_]? = some (.cells c_ q_ (0, 0))) (.slice AG0_0 mg0_0.length cG0_0) mg0_0 by rw [← HLG0_0.out]; exact HG0_0_16.out)
  clear HG0_0_16
  have HLG0_1 := am_ (Kd.S_reads' HG0_1_16.out).1
  have HG0_1_516 := am_ (show Kd.S k78 78 w16 w.heap.size (fun k_ => (w5.heap.size ≤ k_ ∧ k_ < w6.heap.size) ∧ ∃ q_, q_ ∈ 78 :: (k78).E ∧ ∃ c_, w6.heap[k_]? = some (.cells c_ q_ (0, 0))) (.slice AG0_1 mg0_1.length cG0_1) mg0_1 by rw [← HLG0_1.out]; exact HG0_1_16.out)
  clear HG0_1_16
  have HLG1_0 := am_ (Kd.R_reads' HG1_0_16.out).1
  have HG1_0_516 := am_ (show Kd.R (Kd.int .i64) 3 w16 w.heap.size (fun k_ => ((w5.heap.size ≤ k_ ∧ k_ < w6.heap.size) ∧ ∃ q_, q_ ∈ 3 :: ((Kd.int .i64)).E ∧ ∃ c_, w6.heap[k_]? = some (.cells c_ q_ (0, 0))) ∨ w15.heap.size ≤ k_) (.slice AG1_0 mg1_0.length cG1_0) mg1_0 by rw [← HLG1_0.out]; exact HG1_0_16.out)
  clear HG1_0_16
  have hxYG0_16_0 : w16.cell? ⟨w6.heap.size, 0, none⟩ = some (.slice AG0_0 gc0_0.length cG0_0) := bt_ HYG0_16 0
  have hxYG0_16_1 : w16.cell? ⟨w6.heap.size, 1, none⟩ = some (.slice AG0_1 gc0_1.length cG0_1) := bt_ HYG0_16 1
  have hxYG0_16_2 : w16.cell? ⟨w6.heap.size, 2, none⟩ = some (.int .i64 gc0_2) := bt_ HYG0_16 2
  go_wp2_with fail
  rw [HLG0_0.out]
  rw [HLG0_1.out]
  refine (laws_heldPart.calls k _ _ mg0_0 _ _ mg0_1 gc0_2 1 q0 _ (Kd.S_reads' HG0_0_516.out).2.2 (Kd.S_reads' HG0_0_516.out).2.1 (Kd.S_reads' HG0_1_516.out).2.2 (Kd.S_reads' HG0_1_516.out).2.1 HQ0.out).mono ?_
  rintro e w17 ⟨rfl, hb17⟩
  clear hxYG0_16_0
  clear hxYG0_16_1
  clear hxYG0_16_2
  have HB_17 := am_ (below_step HB_16.out hb17)
  clear HB_16
  have HW0_0_17 := am_ (Kd.S_below HW0_0_16.out hb17)
  clear HW0_0_16
  have HW0_1_17 := am_ (Kd.S_below HW0_1_16.out hb17)
  clear HW0_1_16
  have HW1_0_17 := am_ (Kd.R_below HW1_0_16.out hb17)
  clear HW1_0_16
  have HYW0_17 := am_ (blk_below HYW0_16.out hb17)
  clear HYW0_16
  have HG0_0_17 := am_ (Kd.S_below HG0_0_516.out hb17)
  clear HG0_0_516
  have HG0_1_17 := am_ (Kd.S_below HG0_1_516.out hb17)
  clear HG0_1_516
  have HG1_0_17 := am_ (Kd.R_below HG1_0_516.out hb17)
  clear HG1_0_516
  have HYG0_17 := am_ (blk_below HYG0_16.out hb17)
  clear HYG0_16
  have HL17 := am_ (show w16.heap.size ≤ w17.heap.size from hb17.size)
  clear hb17
  go_wp2_with fail
  rw [HLG1_0.out]
  refine (laws_heldIntS.calls k _ _ mg1_0 q0 q1 _ (Kd.R_reads' HG1_0_17.out).2.2 (Kd.R_reads' HG1_0_17.out).2.1 HQ1.out).mono ?_
  rintro e w18 ⟨rfl, hb18⟩
  try replace hb18 := hb18.below
  have HB_18 := am_ (below_step HB_17.out hb18)
  clear HB_17
  have HW0_0_18 := am_ (Kd.S_below HW0_0_17.out hb18)
  clear HW0_0_17
  have HW0_1_18 := am_ (Kd.S_below HW0_1_17.out hb18)
  clear HW0_1_17
  have HW1_0_18 := am_ (Kd.R_below HW1_0_17.out hb18)
  clear HW1_0_17
  have HYW0_18 := am_ (blk_below HYW0_17.out hb18)
  clear HYW0_17
  have HG0_0_18 := am_ (Kd.S_below HG0_0_17.out hb18)
  clear HG0_0_17
  have HG0_1_18 := am_ (Kd.S_below HG0_1_17.out hb18)
  clear HG0_1_17
  have HG1_0_18 := am_ (Kd.R_below HG1_0_17.out hb18)
  clear HG1_0_17
  have HYG0_18 := am_ (blk_below HYG0_17.out hb18)
  clear HYG0_17
  have HL18 := am_ (show w17.heap.size ≤ w18.heap.size from hb18.size)
  clear hb18
  go_wp2_with fail
  refine (laws_toAskS.calls k _ _ l0 x0c0 _ (Kd.C_below HR0.out HB_18.out) HC0.out HT0.out).mono ?_
  rintro e w19 ⟨v0_0, rfl, ho0_0, hb19⟩
  have HB_19 := am_ (below_step HB_18.out hb19)
  clear HB_18
  have HW0_0_19 := am_ (Kd.S_below HW0_0_18.out hb19)
  clear HW0_0_18
  have HW0_1_19 := am_ (Kd.S_below HW0_1_18.out hb19)
  clear HW0_1_18
  have HW1_0_19 := am_ (Kd.R_below HW1_0_18.out hb19)
  clear HW1_0_18
  have HYW0_19 := am_ (blk_below HYW0_18.out hb19)
  clear HYW0_18
  have HG0_0_19 := am_ (Kd.S_below HG0_0_18.out hb19)
  clear HG0_0_18
  have HG0_1_19 := am_ (Kd.S_below HG0_1_18.out hb19)
  clear HG0_1_18
  have HG1_0_19 := am_ (Kd.R_below HG1_0_18.out hb19)
  clear HG1_0_18
  have HYG0_19 := am_ (blk_below HYG0_18.out hb19)
  clear HYG0_18
  have HL19 := am_ (show w18.heap.size ≤ w19.heap.size from hb19.size)
  have HD0_0 := am_ ho0_0
  obtain ⟨Ad0_0, cd0_0, rfl⟩ := Kd.S_slice HD0_0.out
  clear ho0_0 hb19
  go_wp2_with fail
  refine (impl_PlayAsks.calls k _ _ x0c0 gc0_0 gc0_1 gc0_2 gc1_0 wc2_0 _ (Kd.S_reads' HD0_0.out).2.2 (Kd.S_reads' HD0_0.out).2.1 HGI.out).mono ?_
  rintro e w20 ⟨ug0, ug1, ug3, rfl, ho0, ho1, ho3, hb20⟩
  have HB_20 := am_ (below_step HB_19.out hb20)
  clear HB_19
  have HW0_0_20 := am_ (Kd.S_below HW0_0_19.out hb20)
  clear HW0_0_19
  have HW0_1_20 := am_ (Kd.S_below HW0_1_19.out hb20)
  clear HW0_1_19
  have HW1_0_20 := am_ (Kd.R_below HW1_0_19.out hb20)
  clear HW1_0_19
  have HYW0_20 := am_ (blk_below HYW0_19.out hb20)
  clear HYW0_19
  have HG0_0_20 := am_ (Kd.S_below HG0_0_19.out hb20)
  clear HG0_0_19
  have HG0_1_20 := am_ (Kd.S_below HG0_1_19.out hb20)
  clear HG0_1_19
  have HG1_0_20 := am_ (Kd.R_below HG1_0_19.out hb20)
  clear HG1_0_19
  have HYG0_20 := am_ (blk_below HYG0_19.out hb20)
  clear HYG0_19
  have HL20 := am_ (show w19.heap.size ≤ w20.heap.size from hb20.size)
  have HH0_0_320 := am_ (Kd.S_lower (Kd.S_mono (ok' := fun k_ => (w19.heap.size ≤ k_ ∧ k_ < w20.heap.size) ∧ ∃ q_, q_ ∈ 81 :: (k81).E ∧ ∃ c_, w20.heap[k_]? = some (.cells c_ q_ (0, 0))) (Kd.S_bound ho0) (fun k_ h_ => ⟨⟨h_.2.1, h_.2.2.1⟩, h_.2.2.2⟩)) (show w.heap.size ≤ w19.heap.size by have l0_ := HL1.out; have l1_ := HL2.out; have l2_ := HL3.out; have l3_ := HL4.out; have l4_ := HL5.out; have l5_ := HL6.out; have l6_ := HL7.out; have l7_ := HL8.out; have l8_ := HL9.out; have l9_ := HL10.out; have l10_ := HL11.out; have l11_ := HL12.out; have l12_ := HL13.out; have l13_ := HL14.out; have l14_ := HL15.out; have l15_ := HL16.out; have l16_ := HL17.out; have l17_ := HL18.out; have l18_ := HL19.out; have l19_ := HL20.out; omega))
  have HH0_1_320 := am_ (Kd.S_lower (Kd.S_mono (ok' := fun k_ => (w19.heap.size ≤ k_ ∧ k_ < w20.heap.size) ∧ ∃ q_, q_ ∈ 78 :: (k78).E ∧ ∃ c_, w20.heap[k_]? = some (.cells c_ q_ (0, 0))) (Kd.S_bound ho1) (fun k_ h_ => ⟨⟨h_.2.1, h_.2.2.1⟩, h_.2.2.2⟩)) (show w.heap.size ≤ w19.heap.size by have l0_ := HL1.out; have l1_ := HL2.out; have l2_ := HL3.out; have l3_ := HL4.out; have l4_ := HL5.out; have l5_ := HL6.out; have l6_ := HL7.out; have l7_ := HL8.out; have l8_ := HL9.out; have l9_ := HL10.out; have l10_ := HL11.out; have l11_ := HL12.out; have l12_ := HL13.out; have l13_ := HL14.out; have l14_ := HL15.out; have l15_ := HL16.out; have l16_ := HL17.out; have l17_ := HL18.out; have l18_ := HL19.out; have l19_ := HL20.out; omega))
  have HH1_0_320 := am_ (Kd.R_lower (Kd.R_mono (ok' := fun k_ => (w19.heap.size ≤ k_ ∧ k_ < w20.heap.size) ∧ ∃ q_, q_ ∈ 3 :: ((Kd.int .i64)).E ∧ ∃ c_, w20.heap[k_]? = some (.cells c_ q_ (0, 0))) (Kd.R_bound ho3) (fun k_ h_ => ⟨⟨h_.2.1, h_.2.2.1⟩, h_.2.2.2⟩)) (show w.heap.size ≤ w19.heap.size by have l0_ := HL1.out; have l1_ := HL2.out; have l2_ := HL3.out; have l3_ := HL4.out; have l4_ := HL5.out; have l5_ := HL6.out; have l6_ := HL7.out; have l7_ := HL8.out; have l8_ := HL9.out; have l9_ := HL10.out; have l10_ := HL11.out; have l11_ := HL12.out; have l12_ := HL13.out; have l13_ := HL14.out; have l14_ := HL15.out; have l15_ := HL16.out; have l16_ := HL17.out; have l17_ := HL18.out; have l18_ := HL19.out; have l19_ := HL20.out; omega))
  clear ho0 ho1 ho3 hb20
  obtain ⟨AH0_0, cH0_0, rfl⟩ := Kd.S_slice HH0_0_320.out
  obtain ⟨AH0_1, cH0_1, rfl⟩ := Kd.S_slice HH0_1_320.out
  obtain ⟨AH1_0, cH1_0, rfl⟩ := Kd.R_slice HH1_0_320.out
  have HB_21 := am_ (below_alloc HB_20.out (.cells #[.slice AH0_0 gc0_0.length cH0_0, .slice AH0_1 gc0_1.length cH0_1, .int .i64 gc0_2] 33))
  clear HB_20
  have HW0_0_21 := am_ (Kd.S_alloc HW0_0_20.out (.cells #[.slice AH0_0 gc0_0.length cH0_0, .slice AH0_1 gc0_1.length cH0_1, .int .i64 gc0_2] 33))
  clear HW0_0_20
  have HW0_1_21 := am_ (Kd.S_alloc HW0_1_20.out (.cells #[.slice AH0_0 gc0_0.length cH0_0, .slice AH0_1 gc0_1.length cH0_1, .int .i64 gc0_2] 33))
  clear HW0_1_20
  have HW1_0_21 := am_ (Kd.R_alloc HW1_0_20.out (.cells #[.slice AH0_0 gc0_0.length cH0_0, .slice AH0_1 gc0_1.length cH0_1, .int .i64 gc0_2] 33))
  clear HW1_0_20
  have HYW0_21 := am_ (blk_alloc HYW0_20.out (.cells #[.slice AH0_0 gc0_0.length cH0_0, .slice AH0_1 gc0_1.length cH0_1, .int .i64 gc0_2] 33))
  clear HYW0_20
  have HG0_0_21 := am_ (Kd.S_alloc HG0_0_20.out (.cells #[.slice AH0_0 gc0_0.length cH0_0, .slice AH0_1 gc0_1.length cH0_1, .int .i64 gc0_2] 33))
  clear HG0_0_20
  have HG0_1_21 := am_ (Kd.S_alloc HG0_1_20.out (.cells #[.slice AH0_0 gc0_0.length cH0_0, .slice AH0_1 gc0_1.length cH0_1, .int .i64 gc0_2] 33))
  clear HG0_1_20
  have HG1_0_21 := am_ (Kd.R_alloc HG1_0_20.out (.cells #[.slice AH0_0 gc0_0.length cH0_0, .slice AH0_1 gc0_1.length cH0_1, .int .i64 gc0_2] 33))
  clear HG1_0_20
  have HYG0_21 := am_ (blk_alloc HYG0_20.out (.cells #[.slice AH0_0 gc0_0.length cH0_0, .slice AH0_1 gc0_1.length cH0_1, .int .i64 gc0_2] 33))
  clear HYG0_20
  have HH0_0_21 := am_ (Kd.S_alloc HH0_0_320.out (.cells #[.slice AH0_0 gc0_0.length cH0_0, .slice AH0_1 gc0_1.length cH0_1, .int .i64 gc0_2] 33))
  clear HH0_0_320
  have HH0_1_21 := am_ (Kd.S_alloc HH0_1_320.out (.cells #[.slice AH0_0 gc0_0.length cH0_0, .slice AH0_1 gc0_1.length cH0_1, .int .i64 gc0_2] 33))
  clear HH0_1_320
  have HH1_0_21 := am_ (Kd.R_alloc HH1_0_320.out (.cells #[.slice AH0_0 gc0_0.length cH0_0, .slice AH0_1 gc0_1.length cH0_1, .int .i64 gc0_2] 33))
  clear HH1_0_320
  have HL21 := am_ (show (w20.alloc (.cells #[.slice AH0_0 gc0_0.length cH0_0, .slice AH0_1 gc0_1.length cH0_1, .int .i64 gc0_2] 33)).heap.size = w20.heap.size + 1 by rw [World.alloc]; exact Array.size_push _)
  have HYH0_21 := am_ (show (w20.alloc (.cells #[.slice AH0_0 gc0_0.length cH0_0, .slice AH0_1 gc0_1.length cH0_1, .int .i64 gc0_2] 33)).heap[w20.heap.size]? = some (.cells #[.slice AH0_0 gc0_0.length cH0_0, .slice AH0_1 gc0_1.length cH0_1, .int .i64 gc0_2] 33 (0, 0)) by rw [World.alloc]; exact Array.getElem?_push_size)
  clear HD0_0
  have hxYH0_21_0 : (w20.alloc (.cells #[.slice AH0_0 gc0_0.length cH0_0, .slice AH0_1 gc0_1.length cH0_1, .int .i64 gc0_2] 33)).cell? ⟨w20.heap.size, 0, none⟩ = some (.slice AH0_0 gc0_0.length cH0_0) := bt_ HYH0_21 0
  have hxYH0_21_1 : (w20.alloc (.cells #[.slice AH0_0 gc0_0.length cH0_0, .slice AH0_1 gc0_1.length cH0_1, .int .i64 gc0_2] 33)).cell? ⟨w20.heap.size, 1, none⟩ = some (.slice AH0_1 gc0_1.length cH0_1) := bt_ HYH0_21 1
  have hxYH0_21_2 : (w20.alloc (.cells #[.slice AH0_0 gc0_0.length cH0_0, .slice AH0_1 gc0_1.length cH0_1, .int .i64 gc0_2] 33)).cell? ⟨w20.heap.size, 2, none⟩ = some (.int .i64 gc0_2) := bt_ HYH0_21 2
  have hxYW0_21_0 : (w20.alloc (.cells #[.slice AH0_0 gc0_0.length cH0_0, .slice AH0_1 gc0_1.length cH0_1, .int .i64 gc0_2] 33)).cell? ⟨w3.heap.size, 0, none⟩ = some (.slice AW0_0 wc0_0.length cW0_0) := bt_ HYW0_21 0
  have hxYW0_21_1 : (w20.alloc (.cells #[.slice AH0_0 gc0_0.length cH0_0, .slice AH0_1 gc0_1.length cH0_1, .int .i64 gc0_2] 33)).cell? ⟨w3.heap.size, 1, none⟩ = some (.slice AW0_1 wc0_1.length cW0_1) := bt_ HYW0_21 1
  have hxYW0_21_2 : (w20.alloc (.cells #[.slice AH0_0 gc0_0.length cH0_0, .slice AH0_1 gc0_1.length cH0_1, .int .i64 gc0_2] 33)).cell? ⟨w3.heap.size, 2, none⟩ = some (.int .i64 wc0_2) := bt_ HYW0_21 2
  go_wp2_with fail
  refine (laws_eqPart.calls k _ _ gc0_0 _ _ gc0_1 gc0_2 _ _ wc0_0 _ _ wc0_1 wc0_2 true _ (Kd.S_reads' HH0_0_21.out).2.2 (Kd.S_reads' HH0_0_21.out).2.1 (Kd.S_reads' HH0_1_21.out).2.2 (Kd.S_reads' HH0_1_21.out).2.1 (Kd.S_reads' HW0_0_21.out).2.2 (Kd.S_reads' HW0_0_21.out).2.1 (Kd.S_reads' HW0_1_21.out).2.2 (Kd.S_reads' HW0_1_21.out).2.1 HE0.out).mono ?_
  rintro e w22 ⟨rfl, hb22⟩
  try replace hb22 := hb22.below
  clear hxYH0_21_0
  clear hxYH0_21_1
  clear hxYH0_21_2
  clear hxYW0_21_0
  clear hxYW0_21_1
  clear hxYW0_21_2
  have HB_22 := am_ (below_step HB_21.out hb22)
  clear HB_21
  have HW0_0_22 := am_ (Kd.S_below HW0_0_21.out hb22)
  clear HW0_0_21
  have HW0_1_22 := am_ (Kd.S_below HW0_1_21.out hb22)
  clear HW0_1_21
  have HW1_0_22 := am_ (Kd.R_below HW1_0_21.out hb22)
  clear HW1_0_21
  have HYW0_22 := am_ (blk_below HYW0_21.out hb22)
  clear HYW0_21
  have HG0_0_22 := am_ (Kd.S_below HG0_0_21.out hb22)
  clear HG0_0_21
  have HG0_1_22 := am_ (Kd.S_below HG0_1_21.out hb22)
  clear HG0_1_21
  have HG1_0_22 := am_ (Kd.R_below HG1_0_21.out hb22)
  clear HG1_0_21
  have HYG0_22 := am_ (blk_below HYG0_21.out hb22)
  clear HYG0_21
  have HH0_0_22 := am_ (Kd.S_below HH0_0_21.out hb22)
  clear HH0_0_21
  have HH0_1_22 := am_ (Kd.S_below HH0_1_21.out hb22)
  clear HH0_1_21
  have HH1_0_22 := am_ (Kd.R_below HH1_0_21.out hb22)
  clear HH1_0_21
  have HYH0_22 := am_ (blk_below HYH0_21.out hb22)
  clear HYH0_21
  have HL22 := am_ (show (w20.alloc (.cells #[.slice AH0_0 gc0_0.length cH0_0, .slice AH0_1 gc0_1.length cH0_1, .int .i64 gc0_2] 33)).heap.size ≤ w22.heap.size from hb22.size)
  clear hb22
  have hxYH0_22_0 : w22.cell? ⟨w20.heap.size, 0, none⟩ = some (.slice AH0_0 gc0_0.length cH0_0) := bt_ HYH0_22 0
  have hxYH0_22_1 : w22.cell? ⟨w20.heap.size, 1, none⟩ = some (.slice AH0_1 gc0_1.length cH0_1) := bt_ HYH0_22 1
  have hxYH0_22_2 : w22.cell? ⟨w20.heap.size, 2, none⟩ = some (.int .i64 gc0_2) := bt_ HYH0_22 2
  have hxYW0_22_0 : w22.cell? ⟨w3.heap.size, 0, none⟩ = some (.slice AW0_0 wc0_0.length cW0_0) := bt_ HYW0_22 0
  have hxYW0_22_1 : w22.cell? ⟨w3.heap.size, 1, none⟩ = some (.slice AW0_1 wc0_1.length cW0_1) := bt_ HYW0_22 1
  have hxYW0_22_2 : w22.cell? ⟨w3.heap.size, 2, none⟩ = some (.int .i64 wc0_2) := bt_ HYW0_22 2
  go_wp2_with fail
  refine (laws_eqIntS.calls k _ _ gc1_0 _ _ wc1_0 true _ (Kd.R_reads' HH1_0_22.out).2.2 (Kd.R_reads' HH1_0_22.out).2.1 (Kd.R_reads' HW1_0_22.out).2.2 (Kd.R_reads' HW1_0_22.out).2.1 HE1.out).mono ?_
  rintro e w23 ⟨rfl, hb23⟩
  try replace hb23 := hb23.below
  clear hxYH0_22_0
  clear hxYH0_22_1
  clear hxYH0_22_2
  clear hxYW0_22_0
  clear hxYW0_22_1
  clear hxYW0_22_2
  have HB_23 := am_ (below_step HB_22.out hb23)
  clear HB_22
  have HW0_0_23 := am_ (Kd.S_below HW0_0_22.out hb23)
  clear HW0_0_22
  have HW0_1_23 := am_ (Kd.S_below HW0_1_22.out hb23)
  clear HW0_1_22
  have HW1_0_23 := am_ (Kd.R_below HW1_0_22.out hb23)
  clear HW1_0_22
  have HYW0_23 := am_ (blk_below HYW0_22.out hb23)
  clear HYW0_22
  have HG0_0_23 := am_ (Kd.S_below HG0_0_22.out hb23)
  clear HG0_0_22
  have HG0_1_23 := am_ (Kd.S_below HG0_1_22.out hb23)
  clear HG0_1_22
  have HG1_0_23 := am_ (Kd.R_below HG1_0_22.out hb23)
  clear HG1_0_22
  have HYG0_23 := am_ (blk_below HYG0_22.out hb23)
  clear HYG0_22
  have HH0_0_23 := am_ (Kd.S_below HH0_0_22.out hb23)
  clear HH0_0_22
  have HH0_1_23 := am_ (Kd.S_below HH0_1_22.out hb23)
  clear HH0_1_22
  have HH1_0_23 := am_ (Kd.R_below HH1_0_22.out hb23)
  clear HH1_0_22
  have HYH0_23 := am_ (blk_below HYH0_22.out hb23)
  clear HYH0_22
  have HL23 := am_ (show w22.heap.size ≤ w23.heap.size from hb23.size)
  clear hb23
  clear HW0_0_23
  clear HW0_1_23
  clear HW1_0_23
  clear HYW0_23
  clear HH0_0_23
  clear HH0_1_23
  clear HH1_0_23
  clear HYH0_23
  have hxYG0_23_0 : w23.cell? ⟨w6.heap.size, 0, none⟩ = some (.slice AG0_0 gc0_0.length cG0_0) := bt_ HYG0_23 0
  have hxYG0_23_1 : w23.cell? ⟨w6.heap.size, 1, none⟩ = some (.slice AG0_1 gc0_1.length cG0_1) := bt_ HYG0_23 1
  have hxYG0_23_2 : w23.cell? ⟨w6.heap.size, 2, none⟩ = some (.int .i64 gc0_2) := bt_ HYG0_23 2
  go_wp2_with fail
  rw [HLG0_0.out]
  rw [HLG0_1.out]
  refine (laws_heldPart.calls k _ _ mg0_0 _ _ mg0_1 gc0_2 1 q0 _ (Kd.S_reads' HG0_0_23.out).2.2 (Kd.S_reads' HG0_0_23.out).2.1 (Kd.S_reads' HG0_1_23.out).2.2 (Kd.S_reads' HG0_1_23.out).2.1 HQ0.out).mono ?_
  rintro e w24 ⟨rfl, hb24⟩
  clear hxYG0_23_0
  clear hxYG0_23_1
  clear hxYG0_23_2
  have HB_24 := am_ (below_step HB_23.out hb24)
  clear HB_23
  have HG0_0_24 := am_ (Kd.S_below HG0_0_23.out hb24)
  clear HG0_0_23
  have HG0_1_24 := am_ (Kd.S_below HG0_1_23.out hb24)
  clear HG0_1_23
  have HG1_0_24 := am_ (Kd.R_below HG1_0_23.out hb24)
  clear HG1_0_23
  have HYG0_24 := am_ (blk_below HYG0_23.out hb24)
  clear HYG0_23
  have HL24 := am_ (show w23.heap.size ≤ w24.heap.size from hb24.size)
  clear hb24
  go_wp2_with fail
  rw [HLG1_0.out]
  refine (laws_heldIntS.calls k _ _ mg1_0 q0 q1 _ (Kd.R_reads' HG1_0_24.out).2.2 (Kd.R_reads' HG1_0_24.out).2.1 HQ1.out).mono ?_
  rintro e w25 ⟨rfl, hb25⟩
  try replace hb25 := hb25.below
  have HB_25 := am_ (below_step HB_24.out hb25)
  clear HB_24
  have HG0_0_25 := am_ (Kd.S_below HG0_0_24.out hb25)
  clear HG0_0_24
  have HG0_1_25 := am_ (Kd.S_below HG0_1_24.out hb25)
  clear HG0_1_24
  have HG1_0_25 := am_ (Kd.R_below HG1_0_24.out hb25)
  clear HG1_0_24
  have HYG0_25 := am_ (blk_below HYG0_24.out hb25)
  clear HYG0_24
  have HL25 := am_ (show w24.heap.size ≤ w25.heap.size from hb25.size)
  clear hb25
  go_wp2_with fail
  go_ret
  exact ⟨rfl, HB_25.out⟩


/-- The one pure statement of laws_FnExactPlayAsks. -/
def laws_FnExactPlayAsks.Pure : Prop := ∀ (l0 : List (S53)), (l0.length ≤ maxLen ∧ ∀ x0 ∈ l0, ok53 x0) → ∃ k, laws_FnExactPlayAsks.f k l0 = some true
end Go.Proofs.Ytojdaolclcmalaa.QFnExactPlayAsks
