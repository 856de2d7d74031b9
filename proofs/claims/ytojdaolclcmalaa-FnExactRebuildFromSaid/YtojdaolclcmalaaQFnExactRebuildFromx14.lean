/- Functions that one statement reaches: of each a plain function, and the proof that calls come to it. Conditions: those that each contract names. Written by a program of this repository. -/
import Derived.Test.YtojdaolclcmalaaVRebuildFroma
import Derived.Test.YtojdaolclcmalaaQFnExactRebuildFromx0
import Derived.Test.YtojdaolclcmalaaQFnExactRebuildFromx1
import Derived.Test.YtojdaolclcmalaaQFnExactRebuildFromx3
import Derived.Test.YtojdaolclcmalaaQFnExactRebuildFromx4
import Derived.Test.YtojdaolclcmalaaQFnExactRebuildFromx5
import Derived.Test.YtojdaolclcmalaaQFnExactRebuildFromx6
import Derived.Test.YtojdaolclcmalaaQFnExactRebuildFromx10
import Derived.Test.YtojdaolclcmalaaQFnExactRebuildFromx11
import Derived.Test.YtojdaolclcmalaaQFnExactRebuildFromx13
namespace Go.Proofs.Ytojdaolclcmalaa.QFnExactRebuildFrom
open Go.RowKit Go.Proofs.YtojdaolclcmalaaW.PrintWords Go.Proofs.YtojdaolclcmalaaW.PrintLast Go.Proofs.YtojdaolclcmalaaW.PrintMore
attribute [local go_sem] max2_int min2_int max_two min_two max_three min_three max_four min_four Go.Proofs.YtojdaolclcmalaaW.PrintMore2.isSome_setCell   -- for this text's walks alone
set_option linter.unusedVariables false
set_option linter.unusedSimpArgs false

/-! ### impl_RebuildFrom: function 44 -/
def impl_RebuildFrom.f (l0 : List (S78)) : Option ((List (S81)) × (List (S78)) × Int × Bool) := (impl_rebuild.f l0).bind fun bt285 => (some (bt285.1, bt285.2.1, bt285.2.2.1, bt285.2.2.2))
set_option maxHeartbeats 8000000 in
set_option maxRecDepth 100000 in
theorem impl_RebuildFrom.calls (A0 : Option Addr) (c0 : Nat) (l0 : List (S78)) (r1 : List (S81)) (r2 : List (S78)) (r3 : Int) (r4 : Bool) (w : World) (hr0 : Kd.C k78 w A0 l0.length l0) (hc0 : l0.length ≤ c0) (h : impl_RebuildFrom.f l0 = some (r1, r2, r3, r4)) :
  Calls Try.prog 44 #[.slice A0 l0.length c0] w fun e w' => ∃ v0_ v1_ : Value, e = .returned (.tuple #[.agg #[v0_, v1_, .int .i64 r3], .bool r4]) ∧ Kd.S k81 81 w' w.heap.size (fun _ => True) v0_ r1 ∧ Kd.S k78 78 w' w.heap.size (fun _ => True) v1_ r2 ∧ Below w.heap.size w w' := by
 have hu33 := Try.underlying33
 have HR0 := Aside0.mk hr0
 have HC0 := Aside0.mk hc0
 clear hr0 hc0
 have HB := Aside0.mk (Below.refl w.heap.size w)
 have H : ((impl_rebuild.f l0).bind fun bt285 => (some (bt285.1, bt285.2.1, bt285.2.2.1, bt285.2.2.2))) = some (r1, r2, r3, r4) := h
 clear h
 replace H := bnd_ H
 obtain ⟨⟨t285, t288, t291, t292⟩, A2, H⟩ := H
 replace H := red_ H
 simp only [Option.some.injEq, Prod.mk.injEq] at H
 obtain ⟨rfl, rfl, rfl, rfl⟩ := H
 go_enter Try.func44, Try.ntmps44
 go_wp2_with (first | ((with_reducible refine gate_dst (N := 2) rfl ?_); refine bq_ (N := 2) #[.slice none 0 0, .slice none 0 0, .int .i64 0] 33 ?_; intro gb284 hg w3 BK284 hb; have GE284 := ge_ hg; replace HB := nb_ hb; clear hb hg) | ((with_reducible refine gate_callee (f := 66) rfl ?_); refine gl_ 5 Try.func66 #[.slice A0 l0.length c0] rfl ma_ ?_; (with_reducible refine (impl_rebuild.calls _ _ l0 t285 t288 t291 t292 _ ?side1 ?side2 A2.out).mono ?_); (case side1 => exact cs_ ((Kd.C_below HR0.out HB.out))); (case side2 => exact HC0.out); rintro e w4 ⟨v286, v289, rfl, ho0, ho1, hb⟩; refine ⟨_, rfl, ?_⟩; have HO287 := Aside0.mk (Kd.S_lower ho0 (below_size (hs_ GE284.out))); have HO290 := Aside0.mk (Kd.S_lower ho1 (below_size (hs_ GE284.out))); replace BK284 := bK_ BK284 hb; replace HB := nc_ GE284 hb; (try clear hb); (try clear hb2); (try clear hk); (try clear hi); (try clear ho0); (try clear ho1); obtain ⟨Ao5, co5, eo5⟩ := Kd.S_slice HO287.out; subst eo5; obtain ⟨hcz6_0, hcz6_1, hcz6_2, hfz6_0, hfz6_1, hfz6_2⟩ := cf3_ BK284.out; obtain ⟨Ao7, co7, eo7⟩ := Kd.S_slice HO290.out; subst eo7))
 refine bodyPost_ret (results_ct rfl _ _ gb284 33 #[.slice Ao5 t285.length co5, .slice Ao7 t288.length co7, .int .i64 t291] (0, 0) _ rfl (up_ BK284) Try.underlying33 rfl (by kernel_rfl)) rfl ?_
 exact ⟨_, _, er_, Kd.S_mono (sF_ (Kd.S_types HO287.out BK284.out (by decide))) (fun _ hk => trivial), Kd.S_mono (sF_ (Kd.S_types HO290.out BK284.out (by decide))) (fun _ hk => trivial), hs_ GE284.out⟩

/-! ### laws_FnExactRebuildFrom: function 9 -/
def laws_FnExactRebuildFrom.f (k : Nat) (l0 : List S99) : Option (Bool) :=
 (laws_szBatchS.f k l0 1048576).bind fun z0 => if z0 < 0 then some true else
 (laws_toBatchS.f k l0).bind fun x0 => (spec_RebuildFrom.f k x0).bind fun w => (impl_RebuildFrom.f x0).bind fun g => (laws_eqPart.f k g.1 g.2.1 g.2.2.1 w.1 w.2.1 w.2.2.1).bind fun e0 => if e0 = true ∧ g.2.2.2 = w.2.2.2 then
 (laws_eqBatchS.f k x0 x0).bind fun f0 => (laws_markBatchS.f k x0 1).bind fun k0 => if f0 = true ∧ 0 ≤ k0.1 then
 (laws_markPart.f k g.1 g.2.1 g.2.2.1 1).bind fun m0 => (laws_heldPart.f k m0.2.1 m0.2.2 g.2.2.1 1).bind fun q0 => if 0 ≤ q0 ∧ q0 = m0.1 then some true else none else none else none
set_option maxHeartbeats 8000000 in
set_option maxRecDepth 100000 in
theorem laws_FnExactRebuildFrom.calls (k : Nat) (A0 : Option Addr) (c0 : Nat) (l0 : List S99) (r : Bool) (w : World) (hr0 : Kd.C k99 w A0 l0.length l0) (hc0 : l0.length ≤ c0) (h : laws_FnExactRebuildFrom.f k l0 = some r) :
  Calls Try.prog 9 #[.slice A0 l0.length c0] w fun e w' => e = .returned (.bool r) ∧ Below w.heap.size w w' := by
 have HR0 := Aside0.mk hr0
 have HC0 := Aside0.mk hc0
 clear hr0 hc0
 unfold laws_FnExactRebuildFrom.f at h
 obtain ⟨z0, hz0, g1⟩ := Option.bind_eq_some_iff.1 h
 clear h
 have HZ0 := Aside0.mk hz0
 clear hz0
 by_cases hn0 : z0 < 0
 ·rw [if_pos hn0] at g1
  obtain rfl : true = r := Option.some.inj g1
  have hd0 : decide (z0 < 0) = true := decide_eq_true hn0
  clear hn0 g1
  go_enter Try.func9, Try.ntmps9
  have HB_0 := Aside0.mk (Below.refl w.heap.size w)
  go_wp2_with fail
  refine (laws_szBatchS.calls k _ _ l0 1048576 z0 _ (Kd.C_below HR0.out HB_0.out) HC0.out HZ0.out).mono ?_
  rintro e w1 ⟨rfl, hb1⟩
  have HB_1 := Aside0.mk (below_step HB_0.out hb1)
  clear HB_0
  have HL1 := Aside0.mk (show w.heap.size ≤ w1.heap.size from hb1.size)
  clear hb1
  go_wp2_with fail
  go_ret
  exact ⟨rfl, HB_1.out⟩
 ·rw [if_neg hn0] at g1
  have hd0 : decide (z0 < 0) = false := decide_eq_false hn0
  clear hn0
  obtain ⟨x0c0, ht0, g2⟩ := Option.bind_eq_some_iff.1 g1
  clear g1
  obtain ⟨⟨wc0_0, wc0_1, wc0_2, wc1_0⟩, hw, g3⟩ := Option.bind_eq_some_iff.1 g2
  clear g2
  obtain ⟨⟨gc0_0, gc0_1, gc0_2, gc1_0⟩, hg, g4⟩ := Option.bind_eq_some_iff.1 g3
  clear g3
  obtain ⟨e0, he0, g5⟩ := Option.bind_eq_some_iff.1 g4
  clear g4
  obtain ⟨⟨he0', hs1⟩, g6⟩ := Option.ite_none_right_eq_some.1 g5
  clear g5
  subst he0'
  obtain rfl : wc1_0 = gc1_0 := hs1.symm
  obtain ⟨f0, hf0, g7⟩ := Option.bind_eq_some_iff.1 g6
  clear g6
  obtain ⟨⟨k0, kx0_0⟩, hk0, g8⟩ := Option.bind_eq_some_iff.1 g7
  clear g7
  obtain ⟨⟨hf0', hkn⟩, g9⟩ := Option.ite_none_right_eq_some.1 g8
  clear g8
  subst hf0'
  obtain ⟨⟨m0, ⟨mg0_0, mg0_1⟩⟩, hm0, g10⟩ := Option.bind_eq_some_iff.1 g9
  clear g9
  obtain ⟨q0, hq0, g11⟩ := Option.bind_eq_some_iff.1 g10
  clear g10
  obtain ⟨⟨hn0, hqm⟩, g12⟩ := Option.ite_none_right_eq_some.1 g11
  clear g11
  obtain rfl : q0 = m0 := hqm
  obtain rfl : true = r := Option.some.inj g12
  clear g12
  have hqd0 : decide (q0 < 0) = false := decide_eq_false (by omega)
  have hkd : decide (k0 < 0) = false := decide_eq_false (by have : 0 ≤ k0 := hkn; omega)
  have HT0 := Aside0.mk (show laws_toBatchS.f k l0 = some x0c0 from ht0)
  have HWS := Aside0.mk (show spec_RebuildFrom.f k x0c0 = some (wc0_0, wc0_1, wc0_2, wc1_0) from hw)
  have HGI := Aside0.mk (show impl_RebuildFrom.f x0c0 = some (gc0_0, gc0_1, gc0_2, wc1_0) from hg)
  have HE0 := Aside0.mk (show laws_eqPart.f k gc0_0 gc0_1 gc0_2 wc0_0 wc0_1 wc0_2 = some true from he0)
  have HF0 := Aside0.mk (show laws_eqBatchS.f k x0c0 x0c0 = some true from hf0)
  have HK0 := Aside0.mk (show laws_markBatchS.f k x0c0 1 = some (k0, kx0_0) from hk0)
  have HM0 := Aside0.mk (show laws_markPart.f k gc0_0 gc0_1 gc0_2 1 = some (q0, (mg0_0, mg0_1)) from hm0)
  have HQ0 := Aside0.mk (show laws_heldPart.f k mg0_0 mg0_1 gc0_2 1 = some q0 from hq0)
  clear ht0 hw hg he0 hf0 hk0 hm0 hq0 hn0 hkn
  go_enter Try.func9, Try.ntmps9
  have HB_0 := Aside0.mk (Below.refl w.heap.size w)
  go_wp2_with fail
  refine (laws_szBatchS.calls k _ _ l0 1048576 z0 _ (Kd.C_below HR0.out HB_0.out) HC0.out HZ0.out).mono ?_
  rintro e w1 ⟨rfl, hb1⟩
  have HB_1 := Aside0.mk (below_step HB_0.out hb1)
  clear HB_0
  have HL1 := Aside0.mk (show w.heap.size ≤ w1.heap.size from hb1.size)
  clear hb1
  go_wp2_with fail
  refine (laws_toBatchS.calls k _ _ l0 x0c0 _ (Kd.C_below HR0.out HB_1.out) HC0.out HT0.out).mono ?_
  rintro e w2 ⟨v0_0, rfl, ho0_0, hb2⟩
  have HB_2 := Aside0.mk (below_step HB_1.out hb2)
  clear HB_1
  have HL2 := Aside0.mk (show w1.heap.size ≤ w2.heap.size from hb2.size)
  have HD0_0 := Aside0.mk ho0_0
  obtain ⟨Ad0_0, cd0_0, rfl⟩ := Kd.S_slice HD0_0.out
  clear ho0_0 hb2
  go_wp2_with fail
  refine (spec_RebuildFrom.calls k _ _ x0c0 wc0_0 wc0_1 wc0_2 wc1_0 _ (Kd.S_reads' HD0_0.out).2.2 (Kd.S_reads' HD0_0.out).2.1 HWS.out).mono ?_
  rintro e w3 ⟨uw0, uw1, rfl, ho0, ho1, hb3⟩
  have HB_3 := Aside0.mk (below_step HB_2.out hb3)
  clear HB_2
  have HL3 := Aside0.mk (show w2.heap.size ≤ w3.heap.size from hb3.size)
  have HW0_0_303 := Aside0.mk (Kd.S_lower (Kd.S_mono (ok' := fun k_ => (w2.heap.size ≤ k_ ∧ k_ < w3.heap.size) ∧ ∃ q_, q_ ∈ 81 :: (k81).E ∧ ∃ c_, w3.heap[k_]? = some (.cells c_ q_ (0, 0))) (Kd.S_bound ho0) (fun k_ h_ => ⟨⟨h_.2.1, h_.2.2.1⟩, h_.2.2.2⟩)) (show w.heap.size ≤ w2.heap.size by have l0_ := HL1.out; have l1_ := HL2.out; have l2_ := HL3.out; omega))
  have HW0_1_303 := Aside0.mk (Kd.S_lower (Kd.S_mono (ok' := fun k_ => (w2.heap.size ≤ k_ ∧ k_ < w3.heap.size) ∧ ∃ q_, q_ ∈ 78 :: (k78).E ∧ ∃ c_, w3.heap[k_]? = some (.cells c_ q_ (0, 0))) (Kd.S_bound ho1) (fun k_ h_ => ⟨⟨h_.2.1, h_.2.2.1⟩, h_.2.2.2⟩)) (show w.heap.size ≤ w2.heap.size by have l0_ := HL1.out; have l1_ := HL2.out; have l2_ := HL3.out; omega))
  clear ho0 ho1 hb3
  obtain ⟨AW0_0, cW0_0, rfl⟩ := Kd.S_slice HW0_0_303.out
  obtain ⟨AW0_1, cW0_1, rfl⟩ := Kd.S_slice HW0_1_303.out
  have HB_4 := Aside0.mk (below_alloc HB_3.out (.cells #[.slice AW0_0 wc0_0.length cW0_0, .slice AW0_1 wc0_1.length cW0_1, .int .i64 wc0_2] 33))
  clear HB_3
  have HW0_0_4 := Aside0.mk (Kd.S_alloc HW0_0_303.out (.cells #[.slice AW0_0 wc0_0.length cW0_0, .slice AW0_1 wc0_1.length cW0_1, .int .i64 wc0_2] 33))
  clear HW0_0_303
  have HW0_1_4 := Aside0.mk (Kd.S_alloc HW0_1_303.out (.cells #[.slice AW0_0 wc0_0.length cW0_0, .slice AW0_1 wc0_1.length cW0_1, .int .i64 wc0_2] 33))
  clear HW0_1_303
  have HL4 := Aside0.mk (show (w3.alloc (.cells #[.slice AW0_0 wc0_0.length cW0_0, .slice AW0_1 wc0_1.length cW0_1, .int .i64 wc0_2] 33)).heap.size = w3.heap.size + 1 by rw [World.alloc]; exact Array.size_push _)
  have HYW0_4 := Aside0.mk (show (w3.alloc (.cells #[.slice AW0_0 wc0_0.length cW0_0, .slice AW0_1 wc0_1.length cW0_1, .int .i64 wc0_2] 33)).heap[w3.heap.size]? = some (.cells #[.slice AW0_0 wc0_0.length cW0_0, .slice AW0_1 wc0_1.length cW0_1, .int .i64 wc0_2] 33 (0, 0)) by rw [World.alloc]; exact Array.getElem?_push_size)
  clear HD0_0
  go_wp2_with fail
  refine (laws_toBatchS.calls k _ _ l0 x0c0 _ (Kd.C_below HR0.out HB_4.out) HC0.out HT0.out).mono ?_
  rintro e w5 ⟨v0_0, rfl, ho0_0, hb5⟩
  have HB_5 := Aside0.mk (below_step HB_4.out hb5)
  clear HB_4
  have HW0_0_5 := Aside0.mk (Kd.S_below HW0_0_4.out hb5)
  clear HW0_0_4
  have HW0_1_5 := Aside0.mk (Kd.S_below HW0_1_4.out hb5)
  clear HW0_1_4
  have HYW0_5 := Aside0.mk (blk_below HYW0_4.out hb5)
  clear HYW0_4
  have HL5 := Aside0.mk (show (w3.alloc (.cells #[.slice AW0_0 wc0_0.length cW0_0, .slice AW0_1 wc0_1.length cW0_1, .int .i64 wc0_2] 33)).heap.size ≤ w5.heap.size from hb5.size)
  have HD0_0_305 := Aside0.mk (Kd.S_lower (Kd.S_mono (ok' := fun k_ => ((w3.alloc (.cells #[.slice AW0_0 wc0_0.length cW0_0, .slice AW0_1 wc0_1.length cW0_1, .int .i64 wc0_2] 33)).heap.size ≤ k_ ∧ k_ < w5.heap.size) ∧ ∃ q_, q_ ∈ 78 :: (k78).E ∧ ∃ c_, w5.heap[k_]? = some (.cells c_ q_ (0, 0))) (Kd.S_bound ho0_0) (fun k_ h_ => ⟨⟨h_.2.1, h_.2.2.1⟩, h_.2.2.2⟩)) (show w.heap.size ≤ (w3.alloc (.cells #[.slice AW0_0 wc0_0.length cW0_0, .slice AW0_1 wc0_1.length cW0_1, .int .i64 wc0_2] 33)).heap.size by have l0_ := HL1.out; have l1_ := HL2.out; have l2_ := HL3.out; have l3_ := HL4.out; have l4_ := HL5.out; omega))
  clear ho0_0 hb5
  obtain ⟨AD0_0, cD0_0, rfl⟩ := Kd.S_slice HD0_0_305.out
  go_wp2_with fail
  refine (impl_RebuildFrom.calls _ _ x0c0 gc0_0 gc0_1 gc0_2 wc1_0 _ (Kd.S_reads' HD0_0_305.out).2.2 (Kd.S_reads' HD0_0_305.out).2.1 HGI.out).mono ?_
  rintro e w6 ⟨ug0, ug1, rfl, ho0, ho1, hb6⟩
  have HB_6 := Aside0.mk (below_step HB_5.out hb6)
  clear HB_5
  have HW0_0_6 := Aside0.mk (Kd.S_below HW0_0_5.out hb6)
  clear HW0_0_5
  have HW0_1_6 := Aside0.mk (Kd.S_below HW0_1_5.out hb6)
  clear HW0_1_5
  have HYW0_6 := Aside0.mk (blk_below HYW0_5.out hb6)
  clear HYW0_5
  have HD0_0_6 := Aside0.mk (Kd.S_below HD0_0_305.out hb6)
  clear HD0_0_305
  have HL6 := Aside0.mk (show w5.heap.size ≤ w6.heap.size from hb6.size)
  have HG0_0_306 := Aside0.mk (Kd.S_lower (Kd.S_mono (ok' := fun k_ => (w5.heap.size ≤ k_ ∧ k_ < w6.heap.size) ∧ ∃ q_, q_ ∈ 81 :: (k81).E ∧ ∃ c_, w6.heap[k_]? = some (.cells c_ q_ (0, 0))) (Kd.S_bound ho0) (fun k_ h_ => ⟨⟨h_.2.1, h_.2.2.1⟩, h_.2.2.2⟩)) (show w.heap.size ≤ w5.heap.size by have l0_ := HL1.out; have l1_ := HL2.out; have l2_ := HL3.out; have l3_ := HL4.out; have l4_ := HL5.out; have l5_ := HL6.out; omega))
  have HG0_1_306 := Aside0.mk (Kd.S_lower (Kd.S_mono (ok' := fun k_ => (w5.heap.size ≤ k_ ∧ k_ < w6.heap.size) ∧ ∃ q_, q_ ∈ 78 :: (k78).E ∧ ∃ c_, w6.heap[k_]? = some (.cells c_ q_ (0, 0))) (Kd.S_bound ho1) (fun k_ h_ => ⟨⟨h_.2.1, h_.2.2.1⟩, h_.2.2.2⟩)) (show w.heap.size ≤ w5.heap.size by have l0_ := HL1.out; have l1_ := HL2.out; have l2_ := HL3.out; have l3_ := HL4.out; have l4_ := HL5.out; have l5_ := HL6.out; omega))
  clear ho0 ho1 hb6
  obtain ⟨AG0_0, cG0_0, rfl⟩ := Kd.S_slice HG0_0_306.out
  obtain ⟨AG0_1, cG0_1, rfl⟩ := Kd.S_slice HG0_1_306.out
  have HB_7 := Aside0.mk (below_alloc HB_6.out (.cells #[.slice AG0_0 gc0_0.length cG0_0, .slice AG0_1 gc0_1.length cG0_1, .int .i64 gc0_2] 33))
  clear HB_6
  have HW0_0_7 := Aside0.mk (Kd.S_alloc HW0_0_6.out (.cells #[.slice AG0_0 gc0_0.length cG0_0, .slice AG0_1 gc0_1.length cG0_1, .int .i64 gc0_2] 33))
  clear HW0_0_6
  have HW0_1_7 := Aside0.mk (Kd.S_alloc HW0_1_6.out (.cells #[.slice AG0_0 gc0_0.length cG0_0, .slice AG0_1 gc0_1.length cG0_1, .int .i64 gc0_2] 33))
  clear HW0_1_6
  have HYW0_7 := Aside0.mk (blk_alloc HYW0_6.out (.cells #[.slice AG0_0 gc0_0.length cG0_0, .slice AG0_1 gc0_1.length cG0_1, .int .i64 gc0_2] 33))
  clear HYW0_6
  have HD0_0_7 := Aside0.mk (Kd.S_alloc HD0_0_6.out (.cells #[.slice AG0_0 gc0_0.length cG0_0, .slice AG0_1 gc0_1.length cG0_1, .int .i64 gc0_2] 33))
  clear HD0_0_6
  have HG0_0_7 := Aside0.mk (Kd.S_alloc HG0_0_306.out (.cells #[.slice AG0_0 gc0_0.length cG0_0, .slice AG0_1 gc0_1.length cG0_1, .int .i64 gc0_2] 33))
  clear HG0_0_306
  have HG0_1_7 := Aside0.mk (Kd.S_alloc HG0_1_306.out (.cells #[.slice AG0_0 gc0_0.length cG0_0, .slice AG0_1 gc0_1.length cG0_1, .int .i64 gc0_2] 33))
  clear HG0_1_306
  have HL7 := Aside0.mk (show (w6.alloc (.cells #[.slice AG0_0 gc0_0.length cG0_0, .slice AG0_1 gc0_1.length cG0_1, .int .i64 gc0_2] 33)).heap.size = w6.heap.size + 1 by rw [World.alloc]; exact Array.size_push _)
  have HYG0_7 := Aside0.mk (show (w6.alloc (.cells #[.slice AG0_0 gc0_0.length cG0_0, .slice AG0_1 gc0_1.length cG0_1, .int .i64 gc0_2] 33)).heap[w6.heap.size]? = some (.cells #[.slice AG0_0 gc0_0.length cG0_0, .slice AG0_1 gc0_1.length cG0_1, .int .i64 gc0_2] 33 (0, 0)) by rw [World.alloc]; exact Array.getElem?_push_size)
  have hxYG0_7_0 : (w6.alloc (.cells #[.slice AG0_0 gc0_0.length cG0_0, .slice AG0_1 gc0_1.length cG0_1, .int .i64 gc0_2] 33)).cell? ⟨w6.heap.size, 0, none⟩ = some (.slice AG0_0 gc0_0.length cG0_0) := bt_ HYG0_7 0
  have hxYG0_7_1 : (w6.alloc (.cells #[.slice AG0_0 gc0_0.length cG0_0, .slice AG0_1 gc0_1.length cG0_1, .int .i64 gc0_2] 33)).cell? ⟨w6.heap.size, 1, none⟩ = some (.slice AG0_1 gc0_1.length cG0_1) := bt_ HYG0_7 1
  have hxYG0_7_2 : (w6.alloc (.cells #[.slice AG0_0 gc0_0.length cG0_0, .slice AG0_1 gc0_1.length cG0_1, .int .i64 gc0_2] 33)).cell? ⟨w6.heap.size, 2, none⟩ = some (.int .i64 gc0_2) := bt_ HYG0_7 2
  have hxYW0_7_0 : (w6.alloc (.cells #[.slice AG0_0 gc0_0.length cG0_0, .slice AG0_1 gc0_1.length cG0_1, .int .i64 gc0_2] 33)).cell? ⟨w3.heap.size, 0, none⟩ = some (.slice AW0_0 wc0_0.length cW0_0) := bt_ HYW0_7 0
  have hxYW0_7_1 : (w6.alloc (.cells #[.slice AG0_0 gc0_0.length cG0_0, .slice AG0_1 gc0_1.length cG0_1, .int .i64 gc0_2] 33)).cell? ⟨w3.heap.size, 1, none⟩ = some (.slice AW0_1 wc0_1.length cW0_1) := bt_ HYW0_7 1
  have hxYW0_7_2 : (w6.alloc (.cells #[.slice AG0_0 gc0_0.length cG0_0, .slice AG0_1 gc0_1.length cG0_1, .int .i64 gc0_2] 33)).cell? ⟨w3.heap.size, 2, none⟩ = some (.int .i64 wc0_2) := bt_ HYW0_7 2
  go_wp2_with fail
  refine (laws_eqPart.calls k _ _ gc0_0 _ _ gc0_1 gc0_2 _ _ wc0_0 _ _ wc0_1 wc0_2 true _ (Kd.S_reads' HG0_0_7.out).2.2 (Kd.S_reads' HG0_0_7.out).2.1 (Kd.S_reads' HG0_1_7.out).2.2 (Kd.S_reads' HG0_1_7.out).2.1 (Kd.S_reads' HW0_0_7.out).2.2 (Kd.S_reads' HW0_0_7.out).2.1 (Kd.S_reads' HW0_1_7.out).2.2 (Kd.S_reads' HW0_1_7.out).2.1 HE0.out).mono ?_
  rintro e w8 ⟨rfl, hb8⟩
  clear hxYG0_7_0
  clear hxYG0_7_1
  clear hxYG0_7_2
  clear hxYW0_7_0
  clear hxYW0_7_1
  clear hxYW0_7_2
  have HB_8 := Aside0.mk (below_step HB_7.out hb8)
  clear HB_7
  have HW0_0_8 := Aside0.mk (Kd.S_below HW0_0_7.out hb8)
  clear HW0_0_7
  have HW0_1_8 := Aside0.mk (Kd.S_below HW0_1_7.out hb8)
  clear HW0_1_7
  have HYW0_8 := Aside0.mk (blk_below HYW0_7.out hb8)
  clear HYW0_7
  have HD0_0_8 := Aside0.mk (Kd.S_below HD0_0_7.out hb8)
  clear HD0_0_7
  have HG0_0_8 := Aside0.mk (Kd.S_below HG0_0_7.out hb8)
  clear HG0_0_7
  have HG0_1_8 := Aside0.mk (Kd.S_below HG0_1_7.out hb8)
  clear HG0_1_7
  have HYG0_8 := Aside0.mk (blk_below HYG0_7.out hb8)
  clear HYG0_7
  have HL8 := Aside0.mk (show (w6.alloc (.cells #[.slice AG0_0 gc0_0.length cG0_0, .slice AG0_1 gc0_1.length cG0_1, .int .i64 gc0_2] 33)).heap.size ≤ w8.heap.size from hb8.size)
  clear hb8
  go_wp2_with fail
  refine (laws_toBatchS.calls k _ _ l0 x0c0 _ (Kd.C_below HR0.out HB_8.out) HC0.out HT0.out).mono ?_
  rintro e w9 ⟨v0_0, rfl, ho0_0, hb9⟩
  have HB_9 := Aside0.mk (below_step HB_8.out hb9)
  clear HB_8
  have HW0_0_9 := Aside0.mk (Kd.S_below HW0_0_8.out hb9)
  clear HW0_0_8
  have HW0_1_9 := Aside0.mk (Kd.S_below HW0_1_8.out hb9)
  clear HW0_1_8
  have HYW0_9 := Aside0.mk (blk_below HYW0_8.out hb9)
  clear HYW0_8
  have HD0_0_9 := Aside0.mk (Kd.S_below HD0_0_8.out hb9)
  clear HD0_0_8
  have HG0_0_9 := Aside0.mk (Kd.S_below HG0_0_8.out hb9)
  clear HG0_0_8
  have HG0_1_9 := Aside0.mk (Kd.S_below HG0_1_8.out hb9)
  clear HG0_1_8
  have HYG0_9 := Aside0.mk (blk_below HYG0_8.out hb9)
  clear HYG0_8
  have HL9 := Aside0.mk (show w8.heap.size ≤ w9.heap.size from hb9.size)
  have HD0_0 := Aside0.mk ho0_0
  obtain ⟨Ad0_0, cd0_0, rfl⟩ := Kd.S_slice HD0_0.out
  clear ho0_0 hb9
  go_wp2_with fail
  refine (laws_eqBatchS.calls k _ _ x0c0 _ _ x0c0 true _ (Kd.S_reads' HD0_0_9.out).2.2 (Kd.S_reads' HD0_0_9.out).2.1 (Kd.S_reads' HD0_0.out).2.2 (Kd.S_reads' HD0_0.out).2.1 HF0.out).mono ?_
  rintro e w10 ⟨rfl, hb10⟩
  have HB_10 := Aside0.mk (below_step HB_9.out hb10)
  clear HB_9
  have HW0_0_10 := Aside0.mk (Kd.S_below HW0_0_9.out hb10)
  clear HW0_0_9
  have HW0_1_10 := Aside0.mk (Kd.S_below HW0_1_9.out hb10)
  clear HW0_1_9
  have HYW0_10 := Aside0.mk (blk_below HYW0_9.out hb10)
  clear HYW0_9
  have HD0_0_10 := Aside0.mk (Kd.S_below HD0_0_9.out hb10)
  clear HD0_0_9
  have HG0_0_10 := Aside0.mk (Kd.S_below HG0_0_9.out hb10)
  clear HG0_0_9
  have HG0_1_10 := Aside0.mk (Kd.S_below HG0_1_9.out hb10)
  clear HG0_1_9
  have HYG0_10 := Aside0.mk (blk_below HYG0_9.out hb10)
  clear HYG0_9
  have HL10 := Aside0.mk (show w9.heap.size ≤ w10.heap.size from hb10.size)
  clear hb10
  clear HD0_0
  go_wp2_with fail
  refine (laws_markBatchS.calls k (fun k_ => ((w3.alloc (.cells #[.slice AW0_0 wc0_0.length cW0_0, .slice AW0_1 wc0_1.length cW0_1, .int .i64 wc0_2] 33)).heap.size ≤ k_ ∧ k_ < w5.heap.size) ∧ ∃ q_, q_ ∈ 78 :: (k78).E ∧ ∃ c_, w5.heap[k_]? = some (.cells c_ q_ (0, 0))) _ x0c0 1 k0 kx0_0 w _ HB_10.out HD0_0_10.out HK0.out).mono ?_
  rintro e w11 ⟨rfl, hy0, hb, hk⟩
  have HB_11 := Aside0.mk (hb)
  clear HB_10
  have HW0_0_11 := Aside0.mk (Kd.S_kept HW0_0_10.out hk (fun k_ h_ h2_ => by have h3_ := h_.1.1; have h4_ := h_.1.2; have h5_ := h2_.1.1; have h6_ := h2_.1.2; clear h_ h2_; have l0_ := HL1.out; have l1_ := HL2.out; have l2_ := HL3.out; have l3_ := HL4.out; have l4_ := HL5.out; have l5_ := HL6.out; have l6_ := HL7.out; have l7_ := HL8.out; have l8_ := HL9.out; have l9_ := HL10.out; omega))
  clear HW0_0_10
  have HW0_1_11 := Aside0.mk (Kd.S_kept HW0_1_10.out hk (fun k_ h_ h2_ => by have h3_ := h_.1.1; have h4_ := h_.1.2; have h5_ := h2_.1.1; have h6_ := h2_.1.2; clear h_ h2_; have l0_ := HL1.out; have l1_ := HL2.out; have l2_ := HL3.out; have l3_ := HL4.out; have l4_ := HL5.out; have l5_ := HL6.out; have l6_ := HL7.out; have l7_ := HL8.out; have l8_ := HL9.out; have l9_ := HL10.out; omega))
  clear HW0_1_10
  have HYW0_11 := Aside0.mk (blk_kept HYW0_10.out hk (fun h2_ => by have h3_ := h2_.1.1; have h4_ := h2_.1.2; clear h2_; have l0_ := HL1.out; have l1_ := HL2.out; have l2_ := HL3.out; have l3_ := HL4.out; have l4_ := HL5.out; have l5_ := HL6.out; have l6_ := HL7.out; have l7_ := HL8.out; have l8_ := HL9.out; have l9_ := HL10.out; omega))
  clear HYW0_10
  have HG0_0_11 := Aside0.mk (Kd.S_kept HG0_0_10.out hk (fun k_ h_ h2_ => by have h3_ := h_.1.1; have h4_ := h_.1.2; have h5_ := h2_.1.1; have h6_ := h2_.1.2; clear h_ h2_; have l0_ := HL1.out; have l1_ := HL2.out; have l2_ := HL3.out; have l3_ := HL4.out; have l4_ := HL5.out; have l5_ := HL6.out; have l6_ := HL7.out; have l7_ := HL8.out; have l8_ := HL9.out; have l9_ := HL10.out; omega))
  clear HG0_0_10
  have HG0_1_11 := Aside0.mk (Kd.S_kept HG0_1_10.out hk (fun k_ h_ h2_ => by have h3_ := h_.1.1; have h4_ := h_.1.2; have h5_ := h2_.1.1; have h6_ := h2_.1.2; clear h_ h2_; have l0_ := HL1.out; have l1_ := HL2.out; have l2_ := HL3.out; have l3_ := HL4.out; have l4_ := HL5.out; have l5_ := HL6.out; have l6_ := HL7.out; have l7_ := HL8.out; have l8_ := HL9.out; have l9_ := HL10.out; omega))
  clear HG0_1_10
  have HYG0_11 := Aside0.mk (blk_kept HYG0_10.out hk (fun h2_ => by have h3_ := h2_.1.1; have h4_ := h2_.1.2; clear h2_; have l0_ := HL1.out; have l1_ := HL2.out; have l2_ := HL3.out; have l3_ := HL4.out; have l4_ := HL5.out; have l5_ := HL6.out; have l6_ := HL7.out; have l7_ := HL8.out; have l8_ := HL9.out; have l9_ := HL10.out; omega))
  clear HYG0_10
  have HD0_0_11 := Aside0.mk (hy0)
  clear HD0_0_10
  have HL11 := Aside0.mk (show w10.heap.size ≤ w11.heap.size from hk.1)
  clear hb hk hy0
  clear HD0_0_11
  have hxYG0_11_0 : w11.cell? ⟨w6.heap.size, 0, none⟩ = some (.slice AG0_0 gc0_0.length cG0_0) := bt_ HYG0_11 0
  have hxYG0_11_1 : w11.cell? ⟨w6.heap.size, 1, none⟩ = some (.slice AG0_1 gc0_1.length cG0_1) := bt_ HYG0_11 1
  have hxYG0_11_2 : w11.cell? ⟨w6.heap.size, 2, none⟩ = some (.int .i64 gc0_2) := bt_ HYG0_11 2
  have hxYW0_11_0 : w11.cell? ⟨w3.heap.size, 0, none⟩ = some (.slice AW0_0 wc0_0.length cW0_0) := bt_ HYW0_11 0
  have hxYW0_11_1 : w11.cell? ⟨w3.heap.size, 1, none⟩ = some (.slice AW0_1 wc0_1.length cW0_1) := bt_ HYW0_11 1
  have hxYW0_11_2 : w11.cell? ⟨w3.heap.size, 2, none⟩ = some (.int .i64 wc0_2) := bt_ HYW0_11 2
  go_wp2_with fail
  refine (laws_eqPart.calls k _ _ gc0_0 _ _ gc0_1 gc0_2 _ _ wc0_0 _ _ wc0_1 wc0_2 true _ (Kd.S_reads' HG0_0_11.out).2.2 (Kd.S_reads' HG0_0_11.out).2.1 (Kd.S_reads' HG0_1_11.out).2.2 (Kd.S_reads' HG0_1_11.out).2.1 (Kd.S_reads' HW0_0_11.out).2.2 (Kd.S_reads' HW0_0_11.out).2.1 (Kd.S_reads' HW0_1_11.out).2.2 (Kd.S_reads' HW0_1_11.out).2.1 HE0.out).mono ?_
  rintro e w12 ⟨rfl, hb12⟩
  clear hxYG0_11_0
  clear hxYG0_11_1
  clear hxYG0_11_2
  clear hxYW0_11_0
  clear hxYW0_11_1
  clear hxYW0_11_2
  have HB_12 := Aside0.mk (below_step HB_11.out hb12)
  clear HB_11
  have HW0_0_12 := Aside0.mk (Kd.S_below HW0_0_11.out hb12)
  clear HW0_0_11
  have HW0_1_12 := Aside0.mk (Kd.S_below HW0_1_11.out hb12)
  clear HW0_1_11
  have HYW0_12 := Aside0.mk (blk_below HYW0_11.out hb12)
  clear HYW0_11
  have HG0_0_12 := Aside0.mk (Kd.S_below HG0_0_11.out hb12)
  clear HG0_0_11
  have HG0_1_12 := Aside0.mk (Kd.S_below HG0_1_11.out hb12)
  clear HG0_1_11
  have HYG0_12 := Aside0.mk (blk_below HYG0_11.out hb12)
  clear HYG0_11
  have HL12 := Aside0.mk (show w11.heap.size ≤ w12.heap.size from hb12.size)
  clear hb12
  have hxYG0_12_0 : w12.cell? ⟨w6.heap.size, 0, none⟩ = some (.slice AG0_0 gc0_0.length cG0_0) := bt_ HYG0_12 0
  have hxYG0_12_1 : w12.cell? ⟨w6.heap.size, 1, none⟩ = some (.slice AG0_1 gc0_1.length cG0_1) := bt_ HYG0_12 1
  have hxYG0_12_2 : w12.cell? ⟨w6.heap.size, 2, none⟩ = some (.int .i64 gc0_2) := bt_ HYG0_12 2
  go_wp2_with fail
  refine (laws_markPart.calls k (fun k_ => (w5.heap.size ≤ k_ ∧ k_ < w6.heap.size) ∧ ∃ q_, q_ ∈ 81 :: (k81).E ∧ ∃ c_, w6.heap[k_]? = some (.cells c_ q_ (0, 0))) _ gc0_0 (fun k_ => (w5.heap.size ≤ k_ ∧ k_ < w6.heap.size) ∧ ∃ q_, q_ ∈ 78 :: (k78).E ∧ ∃ c_, w6.heap[k_]? = some (.cells c_ q_ (0, 0))) _ gc0_1 gc0_2 1 q0 mg0_0 mg0_1 w _ HB_12.out HG0_0_12.out HG0_1_12.out (fun k_ h_ h2_ => by obtain ⟨_, q_, hq_, c_, hc_⟩ := h_; obtain ⟨_, q2_, hq2_, c2_, hc2_⟩ := h2_; rw [hc_] at hc2_; injection hc2_ with e1_; injection e1_ with _ e2_ _; subst e2_; exact (by decide : ∀ x_ ∈ (81 :: (k81).E), x_ ∉ (78 :: (k78).E)) _ hq_ hq2_) HM0.out).mono ?_
  rintro e w13 ⟨rfl, hy0, hy1, hb, hk⟩
  clear hxYG0_12_0
  clear hxYG0_12_1
  clear hxYG0_12_2
  have HB_13 := Aside0.mk (hb)
  clear HB_12
  have HW0_0_13 := Aside0.mk (Kd.S_kept HW0_0_12.out hk (fun k_ h_ h2_ => by rcases h2_ with h2_ | h2_; (· have h3_ := h_.1.1; have h4_ := h_.1.2; have h5_ := h2_.1.1; have h6_ := h2_.1.2; clear h_ h2_; have l0_ := HL1.out; have l1_ := HL2.out; have l2_ := HL3.out; have l3_ := HL4.out; have l4_ := HL5.out; have l5_ := HL6.out; have l6_ := HL7.out; have l7_ := HL8.out; have l8_ := HL9.out; have l9_ := HL10.out; have l10_ := HL11.out; have l11_ := HL12.out; omega); (· have h3_ := h_.1.1; have h4_ := h_.1.2; have h5_ := h2_.1.1; have h6_ := h2_.1.2; clear h_ h2_; have l0_ := HL1.out; have l1_ := HL2.out; have l2_ := HL3.out; have l3_ := HL4.out; have l4_ := HL5.out; have l5_ := HL6.out; have l6_ := HL7.out; have l7_ := HL8.out; have l8_ := HL9.out; have l9_ := HL10.out; have l10_ := HL11.out; have l11_ := HL12.out; omega)))
  clear HW0_0_12
  have HW0_1_13 := Aside0.mk (Kd.S_kept HW0_1_12.out hk (fun k_ h_ h2_ => by rcases h2_ with h2_ | h2_; (· have h3_ := h_.1.1; have h4_ := h_.1.2; have h5_ := h2_.1.1; have h6_ := h2_.1.2; clear h_ h2_; have l0_ := HL1.out; have l1_ := HL2.out; have l2_ := HL3.out; have l3_ := HL4.out; have l4_ := HL5.out; have l5_ := HL6.out; have l6_ := HL7.out; have l7_ := HL8.out; have l8_ := HL9.out; have l9_ := HL10.out; have l10_ := HL11.out; have l11_ := HL12.out; omega); (· have h3_ := h_.1.1; have h4_ := h_.1.2; have h5_ := h2_.1.1; have h6_ := h2_.1.2; clear h_ h2_; have l0_ := HL1.out; have l1_ := HL2.out; have l2_ := HL3.out; have l3_ := HL4.out; have l4_ := HL5.out; have l5_ := HL6.out; have l6_ := HL7.out; have l7_ := HL8.out; have l8_ := HL9.out; have l9_ := HL10.out; have l10_ := HL11.out; have l11_ := HL12.out; omega)))
  clear HW0_1_12
  have HYW0_13 := Aside0.mk (blk_kept HYW0_12.out hk (fun h2_ => by rcases h2_ with h2_ | h2_; (· have h3_ := h2_.1.1; have h4_ := h2_.1.2; clear h2_; have l0_ := HL1.out; have l1_ := HL2.out; have l2_ := HL3.out; have l3_ := HL4.out; have l4_ := HL5.out; have l5_ := HL6.out; have l6_ := HL7.out; have l7_ := HL8.out; have l8_ := HL9.out; have l9_ := HL10.out; have l10_ := HL11.out; have l11_ := HL12.out; omega); (· have h3_ := h2_.1.1; have h4_ := h2_.1.2; clear h2_; have l0_ := HL1.out; have l1_ := HL2.out; have l2_ := HL3.out; have l3_ := HL4.out; have l4_ := HL5.out; have l5_ := HL6.out; have l6_ := HL7.out; have l7_ := HL8.out; have l8_ := HL9.out; have l9_ := HL10.out; have l10_ := HL11.out; have l11_ := HL12.out; omega)))
  clear HYW0_12
  have HYG0_13 := Aside0.mk (blk_kept HYG0_12.out hk (fun h2_ => by rcases h2_ with h2_ | h2_; (· have h3_ := h2_.1.1; have h4_ := h2_.1.2; clear h2_; have l0_ := HL1.out; have l1_ := HL2.out; have l2_ := HL3.out; have l3_ := HL4.out; have l4_ := HL5.out; have l5_ := HL6.out; have l6_ := HL7.out; have l7_ := HL8.out; have l8_ := HL9.out; have l9_ := HL10.out; have l10_ := HL11.out; have l11_ := HL12.out; omega); (· have h3_ := h2_.1.1; have h4_ := h2_.1.2; clear h2_; have l0_ := HL1.out; have l1_ := HL2.out; have l2_ := HL3.out; have l3_ := HL4.out; have l4_ := HL5.out; have l5_ := HL6.out; have l6_ := HL7.out; have l7_ := HL8.out; have l8_ := HL9.out; have l9_ := HL10.out; have l10_ := HL11.out; have l11_ := HL12.out; omega)))
  clear HYG0_12
  have HG0_0_13 := Aside0.mk (hy0)
  clear HG0_0_12
  have HG0_1_13 := Aside0.mk (hy1)
  clear HG0_1_12
  have HL13 := Aside0.mk (show w12.heap.size ≤ w13.heap.size from hk.1)
  clear hb hk hy0 hy1
  have HLG0_0 := Aside0.mk (Kd.S_reads' HG0_0_13.out).1
  have HG0_0_513 := Aside0.mk (show Kd.S k81 81 w13 w.heap.size (fun k_ => (w5.heap.size ≤ k_ ∧ k_ < w6.heap.size) ∧ ∃ q_, q_ ∈ 81 :: (k81).E ∧ ∃ c_, w6.heap[k_]? = some (.cells c_ q_ (0, 0))) (.slice AG0_0 mg0_0.length cG0_0) mg0_0 by rw [← HLG0_0.out]; exact HG0_0_13.out)
  clear HG0_0_13
  have HLG0_1 := Aside0.mk (Kd.S_reads' HG0_1_13.out).1
  have HG0_1_513 := Aside0.mk (show Kd.S k78 78 w13 w.heap.size (fun k_ => (w5.heap.size ≤ k_ ∧ k_ < w6.heap.size) ∧ ∃ q_, q_ ∈ 78 :: (k78).E ∧ ∃ c_, w6.heap[k_]? = some (.cells c_ q_ (0, 0))) (.slice AG0_1 mg0_1.length cG0_1) mg0_1 by rw [← HLG0_1.out]; exact HG0_1_13.out)
  clear HG0_1_13
  have hxYG0_13_0 : w13.cell? ⟨w6.heap.size, 0, none⟩ = some (.slice AG0_0 gc0_0.length cG0_0) := bt_ HYG0_13 0
  have hxYG0_13_1 : w13.cell? ⟨w6.heap.size, 1, none⟩ = some (.slice AG0_1 gc0_1.length cG0_1) := bt_ HYG0_13 1
  have hxYG0_13_2 : w13.cell? ⟨w6.heap.size, 2, none⟩ = some (.int .i64 gc0_2) := bt_ HYG0_13 2
  go_wp2_with fail
  rw [HLG0_0.out]
  rw [HLG0_1.out]
  refine (laws_heldPart.calls k _ _ mg0_0 _ _ mg0_1 gc0_2 1 q0 _ (Kd.S_reads' HG0_0_513.out).2.2 (Kd.S_reads' HG0_0_513.out).2.1 (Kd.S_reads' HG0_1_513.out).2.2 (Kd.S_reads' HG0_1_513.out).2.1 HQ0.out).mono ?_
  rintro e w14 ⟨rfl, hb14⟩
  clear hxYG0_13_0
  clear hxYG0_13_1
  clear hxYG0_13_2
  have HB_14 := Aside0.mk (below_step HB_13.out hb14)
  clear HB_13
  have HW0_0_14 := Aside0.mk (Kd.S_below HW0_0_13.out hb14)
  clear HW0_0_13
  have HW0_1_14 := Aside0.mk (Kd.S_below HW0_1_13.out hb14)
  clear HW0_1_13
  have HYW0_14 := Aside0.mk (blk_below HYW0_13.out hb14)
  clear HYW0_13
  have HG0_0_14 := Aside0.mk (Kd.S_below HG0_0_513.out hb14)
  clear HG0_0_513
  have HG0_1_14 := Aside0.mk (Kd.S_below HG0_1_513.out hb14)
  clear HG0_1_513
  have HYG0_14 := Aside0.mk (blk_below HYG0_13.out hb14)
  clear HYG0_13
  have HL14 := Aside0.mk (show w13.heap.size ≤ w14.heap.size from hb14.size)
  clear hb14
  go_wp2_with fail
  refine (laws_toBatchS.calls k _ _ l0 x0c0 _ (Kd.C_below HR0.out HB_14.out) HC0.out HT0.out).mono ?_
  rintro e w15 ⟨v0_0, rfl, ho0_0, hb15⟩
  have HB_15 := Aside0.mk (below_step HB_14.out hb15)
  clear HB_14
  have HW0_0_15 := Aside0.mk (Kd.S_below HW0_0_14.out hb15)
  clear HW0_0_14
  have HW0_1_15 := Aside0.mk (Kd.S_below HW0_1_14.out hb15)
  clear HW0_1_14
  have HYW0_15 := Aside0.mk (blk_below HYW0_14.out hb15)
  clear HYW0_14
  have HG0_0_15 := Aside0.mk (Kd.S_below HG0_0_14.out hb15)
  clear HG0_0_14
  have HG0_1_15 := Aside0.mk (Kd.S_below HG0_1_14.out hb15)
  clear HG0_1_14
  have HYG0_15 := Aside0.mk (blk_below HYG0_14.out hb15)
  clear HYG0_14
  have HL15 := Aside0.mk (show w14.heap.size ≤ w15.heap.size from hb15.size)
  have HD0_0 := Aside0.mk ho0_0
  obtain ⟨Ad0_0, cd0_0, rfl⟩ := Kd.S_slice HD0_0.out
  clear ho0_0 hb15
  go_wp2_with fail
  refine (impl_RebuildFrom.calls _ _ x0c0 gc0_0 gc0_1 gc0_2 wc1_0 _ (Kd.S_reads' HD0_0.out).2.2 (Kd.S_reads' HD0_0.out).2.1 HGI.out).mono ?_
  rintro e w16 ⟨ug0, ug1, rfl, ho0, ho1, hb16⟩
  have HB_16 := Aside0.mk (below_step HB_15.out hb16)
  clear HB_15
  have HW0_0_16 := Aside0.mk (Kd.S_below HW0_0_15.out hb16)
  clear HW0_0_15
  have HW0_1_16 := Aside0.mk (Kd.S_below HW0_1_15.out hb16)
  clear HW0_1_15
  have HYW0_16 := Aside0.mk (blk_below HYW0_15.out hb16)
  clear HYW0_15
  have HG0_0_16 := Aside0.mk (Kd.S_below HG0_0_15.out hb16)
  clear HG0_0_15
  have HG0_1_16 := Aside0.mk (Kd.S_below HG0_1_15.out hb16)
  clear HG0_1_15
  have HYG0_16 := Aside0.mk (blk_below HYG0_15.out hb16)
  clear HYG0_15
  have HL16 := Aside0.mk (show w15.heap.size ≤ w16.heap.size from hb16.size)
  have HH0_0_316 := Aside0.mk (Kd.S_lower (Kd.S_mono (ok' := fun k_ => (w15.heap.size ≤ k_ ∧ k_ < w16.heap.size) ∧ ∃ q_, q_ ∈ 81 :: (k81).E ∧ ∃ c_, w16.heap[k_]? = some (.cells c_ q_ (0, 0))) (Kd.S_bound ho0) (fun k_ h_ => ⟨⟨h_.2.1, h_.2.2.1⟩, h_.2.2.2⟩)) (show w.heap.size ≤ w15.heap.size by have l0_ := HL1.out; have l1_ := HL2.out; have l2_ := HL3.out; have l3_ := HL4.out; have l4_ := HL5.out; have l5_ := HL6.out; have l6_ := HL7.out; have l7_ := HL8.out; have l8_ := HL9.out; have l9_ := HL10.out; have l10_ := HL11.out; have l11_ := HL12.out; have l12_ := HL13.out; have l13_ := HL14.out; have l14_ := HL15.out; have l15_ := HL16.out; omega))
  have HH0_1_316 := Aside0.mk (Kd.S_lower (Kd.S_mono (ok' := fun k_ => (w15.heap.size ≤ k_ ∧ k_ < w16.heap.size) ∧ ∃ q_, q_ ∈ 78 :: (k78).E ∧ ∃ c_, w16.heap[k_]? = some (.cells c_ q_ (0, 0))) (Kd.S_bound ho1) (fun k_ h_ => ⟨⟨h_.2.1, h_.2.2.1⟩, h_.2.2.2⟩)) (show w.heap.size ≤ w15.heap.size by have l0_ := HL1.out; have l1_ := HL2.out; have l2_ := HL3.out; have l3_ := HL4.out; have l4_ := HL5.out; have l5_ := HL6.out; have l6_ := HL7.out; have l7_ := HL8.out; have l8_ := HL9.out; have l9_ := HL10.out; have l10_ := HL11.out; have l11_ := HL12.out; have l12_ := HL13.out; have l13_ := HL14.out; have l14_ := HL15.out; have l15_ := HL16.out; omega))
  clear ho0 ho1 hb16
  obtain ⟨AH0_0, cH0_0, rfl⟩ := Kd.S_slice HH0_0_316.out
  obtain ⟨AH0_1, cH0_1, rfl⟩ := Kd.S_slice HH0_1_316.out
  have HB_17 := Aside0.mk (below_alloc HB_16.out (.cells #[.slice AH0_0 gc0_0.length cH0_0, .slice AH0_1 gc0_1.length cH0_1, .int .i64 gc0_2] 33))
  clear HB_16
  have HW0_0_17 := Aside0.mk (Kd.S_alloc HW0_0_16.out (.cells #[.slice AH0_0 gc0_0.length cH0_0, .slice AH0_1 gc0_1.length cH0_1, .int .i64 gc0_2] 33))
  clear HW0_0_16
  have HW0_1_17 := Aside0.mk (Kd.S_alloc HW0_1_16.out (.cells #[.slice AH0_0 gc0_0.length cH0_0, .slice AH0_1 gc0_1.length cH0_1, .int .i64 gc0_2] 33))
  clear HW0_1_16
  have HYW0_17 := Aside0.mk (blk_alloc HYW0_16.out (.cells #[.slice AH0_0 gc0_0.length cH0_0, .slice AH0_1 gc0_1.length cH0_1, .int .i64 gc0_2] 33))
  clear HYW0_16
  have HG0_0_17 := Aside0.mk (Kd.S_alloc HG0_0_16.out (.cells #[.slice AH0_0 gc0_0.length cH0_0, .slice AH0_1 gc0_1.length cH0_1, .int .i64 gc0_2] 33))
  clear HG0_0_16
  have HG0_1_17 := Aside0.mk (Kd.S_alloc HG0_1_16.out (.cells #[.slice AH0_0 gc0_0.length cH0_0, .slice AH0_1 gc0_1.length cH0_1, .int .i64 gc0_2] 33))
  clear HG0_1_16
  have HYG0_17 := Aside0.mk (blk_alloc HYG0_16.out (.cells #[.slice AH0_0 gc0_0.length cH0_0, .slice AH0_1 gc0_1.length cH0_1, .int .i64 gc0_2] 33))
  clear HYG0_16
  have HH0_0_17 := Aside0.mk (Kd.S_alloc HH0_0_316.out (.cells #[.slice AH0_0 gc0_0.length cH0_0, .slice AH0_1 gc0_1.length cH0_1, .int .i64 gc0_2] 33))
  clear HH0_0_316
  have HH0_1_17 := Aside0.mk (Kd.S_alloc HH0_1_316.out (.cells #[.slice AH0_0 gc0_0.length cH0_0, .slice AH0_1 gc0_1.length cH0_1, .int .i64 gc0_2] 33))
  clear HH0_1_316
  have HL17 := Aside0.mk (show (w16.alloc (.cells #[.slice AH0_0 gc0_0.length cH0_0, .slice AH0_1 gc0_1.length cH0_1, .int .i64 gc0_2] 33)).heap.size = w16.heap.size + 1 by rw [World.alloc]; exact Array.size_push _)
  have HYH0_17 := Aside0.mk (show (w16.alloc (.cells #[.slice AH0_0 gc0_0.length cH0_0, .slice AH0_1 gc0_1.length cH0_1, .int .i64 gc0_2] 33)).heap[w16.heap.size]? = some (.cells #[.slice AH0_0 gc0_0.length cH0_0, .slice AH0_1 gc0_1.length cH0_1, .int .i64 gc0_2] 33 (0, 0)) by rw [World.alloc]; exact Array.getElem?_push_size)
  clear HD0_0
  have hxYH0_17_0 : (w16.alloc (.cells #[.slice AH0_0 gc0_0.length cH0_0, .slice AH0_1 gc0_1.length cH0_1, .int .i64 gc0_2] 33)).cell? ⟨w16.heap.size, 0, none⟩ = some (.slice AH0_0 gc0_0.length cH0_0) := bt_ HYH0_17 0
  have hxYH0_17_1 : (w16.alloc (.cells #[.slice AH0_0 gc0_0.length cH0_0, .slice AH0_1 gc0_1.length cH0_1, .int .i64 gc0_2] 33)).cell? ⟨w16.heap.size, 1, none⟩ = some (.slice AH0_1 gc0_1.length cH0_1) := bt_ HYH0_17 1
  have hxYH0_17_2 : (w16.alloc (.cells #[.slice AH0_0 gc0_0.length cH0_0, .slice AH0_1 gc0_1.length cH0_1, .int .i64 gc0_2] 33)).cell? ⟨w16.heap.size, 2, none⟩ = some (.int .i64 gc0_2) := bt_ HYH0_17 2
  have hxYW0_17_0 : (w16.alloc (.cells #[.slice AH0_0 gc0_0.length cH0_0, .slice AH0_1 gc0_1.length cH0_1, .int .i64 gc0_2] 33)).cell? ⟨w3.heap.size, 0, none⟩ = some (.slice AW0_0 wc0_0.length cW0_0) := bt_ HYW0_17 0
  have hxYW0_17_1 : (w16.alloc (.cells #[.slice AH0_0 gc0_0.length cH0_0, .slice AH0_1 gc0_1.length cH0_1, .int .i64 gc0_2] 33)).cell? ⟨w3.heap.size, 1, none⟩ = some (.slice AW0_1 wc0_1.length cW0_1) := bt_ HYW0_17 1
  have hxYW0_17_2 : (w16.alloc (.cells #[.slice AH0_0 gc0_0.length cH0_0, .slice AH0_1 gc0_1.length cH0_1, .int .i64 gc0_2] 33)).cell? ⟨w3.heap.size, 2, none⟩ = some (.int .i64 wc0_2) := bt_ HYW0_17 2
  go_wp2_with fail
  refine (laws_eqPart.calls k _ _ gc0_0 _ _ gc0_1 gc0_2 _ _ wc0_0 _ _ wc0_1 wc0_2 true _ (Kd.S_reads' HH0_0_17.out).2.2 (Kd.S_reads' HH0_0_17.out).2.1 (Kd.S_reads' HH0_1_17.out).2.2 (Kd.S_reads' HH0_1_17.out).2.1 (Kd.S_reads' HW0_0_17.out).2.2 (Kd.S_reads' HW0_0_17.out).2.1 (Kd.S_reads' HW0_1_17.out).2.2 (Kd.S_reads' HW0_1_17.out).2.1 HE0.out).mono ?_
  rintro e w18 ⟨rfl, hb18⟩
  clear hxYH0_17_0
  clear hxYH0_17_1
  clear hxYH0_17_2
  clear hxYW0_17_0
  clear hxYW0_17_1
  clear hxYW0_17_2
  have HB_18 := Aside0.mk (below_step HB_17.out hb18)
  clear HB_17
  have HW0_0_18 := Aside0.mk (Kd.S_below HW0_0_17.out hb18)
  clear HW0_0_17
  have HW0_1_18 := Aside0.mk (Kd.S_below HW0_1_17.out hb18)
  clear HW0_1_17
  have HYW0_18 := Aside0.mk (blk_below HYW0_17.out hb18)
  clear HYW0_17
  have HG0_0_18 := Aside0.mk (Kd.S_below HG0_0_17.out hb18)
  clear HG0_0_17
  have HG0_1_18 := Aside0.mk (Kd.S_below HG0_1_17.out hb18)
  clear HG0_1_17
  have HYG0_18 := Aside0.mk (blk_below HYG0_17.out hb18)
  clear HYG0_17
  have HH0_0_18 := Aside0.mk (Kd.S_below HH0_0_17.out hb18)
  clear HH0_0_17
  have HH0_1_18 := Aside0.mk (Kd.S_below HH0_1_17.out hb18)
  clear HH0_1_17
  have HYH0_18 := Aside0.mk (blk_below HYH0_17.out hb18)
  clear HYH0_17
  have HL18 := Aside0.mk (show (w16.alloc (.cells #[.slice AH0_0 gc0_0.length cH0_0, .slice AH0_1 gc0_1.length cH0_1, .int .i64 gc0_2] 33)).heap.size ≤ w18.heap.size from hb18.size)
  clear hb18
  clear HW0_0_18
  clear HW0_1_18
  clear HYW0_18
  clear HH0_0_18
  clear HH0_1_18
  clear HYH0_18
  have hxYG0_18_0 : w18.cell? ⟨w6.heap.size, 0, none⟩ = some (.slice AG0_0 gc0_0.length cG0_0) := bt_ HYG0_18 0
  have hxYG0_18_1 : w18.cell? ⟨w6.heap.size, 1, none⟩ = some (.slice AG0_1 gc0_1.length cG0_1) := bt_ HYG0_18 1
  have hxYG0_18_2 : w18.cell? ⟨w6.heap.size, 2, none⟩ = some (.int .i64 gc0_2) := bt_ HYG0_18 2
  go_wp2_with fail
  rw [HLG0_0.out]
  rw [HLG0_1.out]
  refine (laws_heldPart.calls k _ _ mg0_0 _ _ mg0_1 gc0_2 1 q0 _ (Kd.S_reads' HG0_0_18.out).2.2 (Kd.S_reads' HG0_0_18.out).2.1 (Kd.S_reads' HG0_1_18.out).2.2 (Kd.S_reads' HG0_1_18.out).2.1 HQ0.out).mono ?_
  rintro e w19 ⟨rfl, hb19⟩
  clear hxYG0_18_0
  clear hxYG0_18_1
  clear hxYG0_18_2
  have HB_19 := Aside0.mk (below_step HB_18.out hb19)
  clear HB_18
  have HG0_0_19 := Aside0.mk (Kd.S_below HG0_0_18.out hb19)
  clear HG0_0_18
  have HG0_1_19 := Aside0.mk (Kd.S_below HG0_1_18.out hb19)
  clear HG0_1_18
  have HYG0_19 := Aside0.mk (blk_below HYG0_18.out hb19)
  clear HYG0_18
  have HL19 := Aside0.mk (show w18.heap.size ≤ w19.heap.size from hb19.size)
  clear hb19
  go_wp2_with fail
  go_ret
  exact ⟨rfl, HB_19.out⟩


/-- The one pure statement of laws_FnExactRebuildFrom. -/
def laws_FnExactRebuildFrom.Pure : Prop := ∀ (l0 : List (S99)), (l0.length ≤ maxLen ∧ ∀ x0 ∈ l0, ok99 x0) → ∃ k, laws_FnExactRebuildFrom.f k l0 = some true

end Go.Proofs.Ytojdaolclcmalaa.QFnExactRebuildFrom
