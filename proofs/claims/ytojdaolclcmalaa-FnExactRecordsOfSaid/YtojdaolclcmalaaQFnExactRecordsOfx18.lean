/- Functions that one statement reaches: of each a plain function, and the proof that calls come to it. Conditions: those that each contract names. Written by a program of this repository. -/
import Derived.Test.YtojdaolclcmalaaVRecordsOfa
import Derived.Test.YtojdaolclcmalaaQFnExactRecordsOfx0
import Derived.Test.YtojdaolclcmalaaQFnExactRecordsOfx2
import Derived.Test.YtojdaolclcmalaaQFnExactRecordsOfx9
import Derived.Test.YtojdaolclcmalaaQFnExactRecordsOfx10
import Derived.Test.YtojdaolclcmalaaQFnExactRecordsOfx13
import Derived.Test.YtojdaolclcmalaaQFnExactRecordsOfx14
import Derived.Test.YtojdaolclcmalaaQFnExactRecordsOfx16
import Derived.Test.YtojdaolclcmalaaQFnExactRecordsOfx17
namespace Go.Proofs.Ytojdaolclcmalaa.QFnExactRecordsOf
open Go.RowKit Go.Proofs.YtojdaolclcmalaaW.PrintWords Go.Proofs.YtojdaolclcmalaaW.PrintLast Go.Proofs.YtojdaolclcmalaaW.PrintMore
attribute [local go_sem] max2_int min2_int max_two min_two max_three min_three max_four min_four Go.Proofs.YtojdaolclcmalaaW.PrintMore2.isSome_setCell   -- for this text's walks alone
set_option linter.unusedVariables false
set_option linter.unusedSimpArgs false

/-! ### laws_FnExactRecordsOf: function 3 -/
def laws_FnExactRecordsOf.f (k : Nat) (l0_0 : List S105) (l0_1 : List S99) (a0_2 : Int) (a1 : Int) : Option (Bool) :=
 (laws_szPart.f k l0_0 l0_1 a0_2 1048576).bind fun z0 => if z0 < 0 then some true else
 (laws_toPart.f k l0_0 l0_1 a0_2).bind fun x0 => (spec_RecordsOf.f k x0.1 x0.2.1 x0.2.2 a1).bind fun w => (impl_RecordsOf.f k x0.1 x0.2.1 x0.2.2 a1).bind fun g => (laws_eqStringS.f k g.1 w.1).bind fun e0 => if e0 = true ∧ g.2 = w.2 then
 (laws_eqPart.f k x0.1 x0.2.1 x0.2.2 x0.1 x0.2.1 x0.2.2).bind fun f0 => (laws_markPart.f k x0.1 x0.2.1 x0.2.2 1).bind fun k0 => if f0 = true ∧ 0 ≤ k0.1 then
 (laws_markStringS.f k g.1 1).bind fun m0 => (laws_heldStringS.f k m0.2 1).bind fun q0 => if 0 ≤ q0 ∧ q0 = m0.1 then some true else none else none else none
set_option maxHeartbeats 8000000 in
set_option maxRecDepth 100000 in
theorem laws_FnExactRecordsOf.calls (k : Nat) (A0_0 : Option Addr) (c0_0 : Nat) (l0_0 : List S105) (A0_1 : Option Addr) (c0_1 : Nat) (l0_1 : List S99) (a0_2 : Int) (a1 : Int) (r : Bool) (w : World) (hr0_0 : Kd.C k105 w A0_0 l0_0.length l0_0) (hc0_0 : l0_0.length ≤ c0_0) (hr0_1 : Kd.C k99 w A0_1 l0_1.length l0_1) (hc0_1 : l0_1.length ≤ c0_1) (h : laws_FnExactRecordsOf.f k l0_0 l0_1 a0_2 a1 = some r) :
  Calls Try.prog 3 #[.agg #[.slice A0_0 l0_0.length c0_0, .slice A0_1 l0_1.length c0_1, .int .i64 a0_2], .int .i64 a1] w fun e w' => e = .returned (.bool r) ∧ Below w.heap.size w w' := by
 have HR0_0 := am_ hr0_0
 have HC0_0 := am_ hc0_0
 clear hr0_0 hc0_0
 have HR0_1 := am_ hr0_1
 have HC0_1 := am_ hc0_1
 clear hr0_1 hc0_1
 unfold laws_FnExactRecordsOf.f at h
 obtain ⟨z0, hz0, g1⟩ := Option.bind_eq_some_iff.1 h
 clear h
 have HZ0 := am_ hz0
 clear hz0
 by_cases hn0 : z0 < 0
 ·rw [if_pos hn0] at g1
  obtain rfl : true = r := Option.some.inj g1
  have hd0 : decide (z0 < 0) = true := decide_eq_true hn0
  clear hn0 g1
  go_enter Try.func3, Try.ntmps3
  have HB_0 := am_ (Below.refl w.heap.size w)
  have HB_1 := am_ (below_alloc HB_0.out (.cells #[.slice A0_0 l0_0.length c0_0, .slice A0_1 l0_1.length c0_1, .int .i64 a0_2] 25))
  clear HB_0
  have HL1 := am_ (show (w.alloc (.cells #[.slice A0_0 l0_0.length c0_0, .slice A0_1 l0_1.length c0_1, .int .i64 a0_2] 25)).heap.size = w.heap.size + 1 by rw [World.alloc]; exact Array.size_push _)
  have HX0_1 := am_ (show (w.alloc (.cells #[.slice A0_0 l0_0.length c0_0, .slice A0_1 l0_1.length c0_1, .int .i64 a0_2] 25)).heap[w.heap.size]? = some (.cells #[.slice A0_0 l0_0.length c0_0, .slice A0_1 l0_1.length c0_1, .int .i64 a0_2] 25 (0, 0)) by rw [World.alloc]; exact Array.getElem?_push_size)
  have hxX0_1_0 : (w.alloc (.cells #[.slice A0_0 l0_0.length c0_0, .slice A0_1 l0_1.length c0_1, .int .i64 a0_2] 25)).cell? ⟨w.heap.size, 0, none⟩ = some (.slice A0_0 l0_0.length c0_0) := bt_ HX0_1 0
  have hxX0_1_1 : (w.alloc (.cells #[.slice A0_0 l0_0.length c0_0, .slice A0_1 l0_1.length c0_1, .int .i64 a0_2] 25)).cell? ⟨w.heap.size, 1, none⟩ = some (.slice A0_1 l0_1.length c0_1) := bt_ HX0_1 1
  have hxX0_1_2 : (w.alloc (.cells #[.slice A0_0 l0_0.length c0_0, .slice A0_1 l0_1.length c0_1, .int .i64 a0_2] 25)).cell? ⟨w.heap.size, 2, none⟩ = some (.int .i64 a0_2) := bt_ HX0_1 2
  go_wp2_with fail
  refine (laws_szPart.calls k _ _ l0_0 _ _ l0_1 a0_2 1048576 z0 _ (Kd.C_below HR0_0.out HB_1.out) HC0_0.out (Kd.C_below HR0_1.out HB_1.out) HC0_1.out HZ0.out).mono ?_
  rintro e w2 ⟨rfl, hb2⟩
  clear hxX0_1_0
  clear hxX0_1_1
  clear hxX0_1_2
  have HB_2 := am_ (below_step HB_1.out hb2)
  clear HB_1
  have HX0_2 := am_ (blk_below HX0_1.out hb2)
  clear HX0_1
  have HL2 := am_ (show (w.alloc (.cells #[.slice A0_0 l0_0.length c0_0, .slice A0_1 l0_1.length c0_1, .int .i64 a0_2] 25)).heap.size ≤ w2.heap.size from hb2.size)
  clear hb2
  go_wp2_with fail
  go_ret
  exact ⟨rfl, HB_2.out⟩
 ·rw [if_neg hn0] at g1
  have hd0 : decide (z0 < 0) = false := decide_eq_false hn0
  clear hn0
  obtain ⟨⟨x0c0, x0c1, x0c2⟩, ht0, g2⟩ := Option.bind_eq_some_iff.1 g1
  clear g1
  obtain ⟨⟨wc0_0, wc1_0⟩, hw, g3⟩ := Option.bind_eq_some_iff.1 g2
  clear g2
  obtain ⟨⟨gc0_0, gc1_0⟩, hg, g4⟩ := Option.bind_eq_some_iff.1 g3
  clear g3
  obtain ⟨e0, he0, g5⟩ := Option.bind_eq_some_iff.1 g4
  clear g4
  obtain ⟨⟨he0', hs1⟩, g6⟩ := Option.ite_none_right_eq_some.1 g5
  clear g5
  subst he0'
  obtain rfl : wc1_0 = gc1_0 := hs1.symm
  obtain ⟨f0, hf0, g7⟩ := Option.bind_eq_some_iff.1 g6
  clear g6
  obtain ⟨⟨k0, ⟨kx0_0, kx0_1⟩⟩, hk0, g8⟩ := Option.bind_eq_some_iff.1 g7
  clear g7
  obtain ⟨⟨hf0', hkn⟩, g9⟩ := Option.ite_none_right_eq_some.1 g8
  clear g8
  subst hf0'
  obtain ⟨⟨m0, mg0_0⟩, hm0, g10⟩ := Option.bind_eq_some_iff.1 g9
  clear g9
  obtain ⟨q0, hq0, g11⟩ := Option.bind_eq_some_iff.1 g10
  clear g10
  obtain ⟨⟨hn0, hqm⟩, g12⟩ := Option.ite_none_right_eq_some.1 g11
  clear g11
  obtain rfl : q0 = m0 := hqm
  obtain rfl : true = r := Option.some.inj g12
  clear g12
  have hqd0 : decide (q0 < 0) = false := decide_eq_false (by omega)
  have hkd : decide (k0 < 0) = false := decide_eq_false (by have : 0 ≤ k0 := hkn; omega)
  have HT0 := am_ (show laws_toPart.f k l0_0 l0_1 a0_2 = some (x0c0, x0c1, x0c2) from ht0)
  have HWS := am_ (show spec_RecordsOf.f k x0c0 x0c1 x0c2 a1 = some (wc0_0, wc1_0) from hw)
  have HGI := am_ (show impl_RecordsOf.f k x0c0 x0c1 x0c2 a1 = some (gc0_0, wc1_0) from hg)
  have HE0 := am_ (show laws_eqStringS.f k gc0_0 wc0_0 = some true from he0)
  have HF0 := am_ (show laws_eqPart.f k x0c0 x0c1 x0c2 x0c0 x0c1 x0c2 = some true from hf0)
  have HK0 := am_ (show laws_markPart.f k x0c0 x0c1 x0c2 1 = some (k0, (kx0_0, kx0_1)) from hk0)
  have HM0 := am_ (show laws_markStringS.f k gc0_0 1 = some (q0, mg0_0) from hm0)
  have HQ0 := am_ (show laws_heldStringS.f k mg0_0 1 = some q0 from hq0)
  clear ht0 hw hg he0 hf0 hk0 hm0 hq0 hn0 hkn
  go_enter Try.func3, Try.ntmps3
  have HB_0 := am_ (Below.refl w.heap.size w)
  have HB_1 := am_ (below_alloc HB_0.out (.cells #[.slice A0_0 l0_0.length c0_0, .slice A0_1 l0_1.length c0_1, .int .i64 a0_2] 25))
  clear HB_0
  have HL1 := am_ (show (w.alloc (.cells #[.slice A0_0 l0_0.length c0_0, .slice A0_1 l0_1.length c0_1, .int .i64 a0_2] 25)).heap.size = w.heap.size + 1 by rw [World.alloc]; exact Array.size_push _)
  have HX0_1 := am_ (show (w.alloc (.cells #[.slice A0_0 l0_0.length c0_0, .slice A0_1 l0_1.length c0_1, .int .i64 a0_2] 25)).heap[w.heap.size]? = some (.cells #[.slice A0_0 l0_0.length c0_0, .slice A0_1 l0_1.length c0_1, .int .i64 a0_2] 25 (0, 0)) by rw [World.alloc]; exact Array.getElem?_push_size)
  have hxX0_1_0 : (w.alloc (.cells #[.slice A0_0 l0_0.length c0_0, .slice A0_1 l0_1.length c0_1, .int .i64 a0_2] 25)).cell? ⟨w.heap.size, 0, none⟩ = some (.slice A0_0 l0_0.length c0_0) := bt_ HX0_1 0
  have hxX0_1_1 : (w.alloc (.cells #[.slice A0_0 l0_0.length c0_0, .slice A0_1 l0_1.length c0_1, .int .i64 a0_2] 25)).cell? ⟨w.heap.size, 1, none⟩ = some (.slice A0_1 l0_1.length c0_1) := bt_ HX0_1 1
  have hxX0_1_2 : (w.alloc (.cells #[.slice A0_0 l0_0.length c0_0, .slice A0_1 l0_1.length c0_1, .int .i64 a0_2] 25)).cell? ⟨w.heap.size, 2, none⟩ = some (.int .i64 a0_2) := bt_ HX0_1 2
  go_wp2_with fail
  refine (laws_szPart.calls k _ _ l0_0 _ _ l0_1 a0_2 1048576 z0 _ (Kd.C_below HR0_0.out HB_1.out) HC0_0.out (Kd.C_below HR0_1.out HB_1.out) HC0_1.out HZ0.out).mono ?_
  rintro e w2 ⟨rfl, hb2⟩
  clear hxX0_1_0
  clear hxX0_1_1
  clear hxX0_1_2
  have HB_2 := am_ (below_step HB_1.out hb2)
  clear HB_1
  have HX0_2 := am_ (blk_below HX0_1.out hb2)
  clear HX0_1
  have HL2 := am_ (show (w.alloc (.cells #[.slice A0_0 l0_0.length c0_0, .slice A0_1 l0_1.length c0_1, .int .i64 a0_2] 25)).heap.size ≤ w2.heap.size from hb2.size)
  clear hb2
  have hxX0_2_0 : w2.cell? ⟨w.heap.size, 0, none⟩ = some (.slice A0_0 l0_0.length c0_0) := bt_ HX0_2 0
  have hxX0_2_1 : w2.cell? ⟨w.heap.size, 1, none⟩ = some (.slice A0_1 l0_1.length c0_1) := bt_ HX0_2 1
  have hxX0_2_2 : w2.cell? ⟨w.heap.size, 2, none⟩ = some (.int .i64 a0_2) := bt_ HX0_2 2
  go_wp2_with fail
  refine (laws_toPart.calls k _ _ l0_0 _ _ l0_1 a0_2 x0c0 x0c1 x0c2 _ (Kd.C_below HR0_0.out HB_2.out) HC0_0.out (Kd.C_below HR0_1.out HB_2.out) HC0_1.out HT0.out).mono ?_
  rintro e w3 ⟨v0_0, v0_1, rfl, ho0_0, ho0_1, hb3⟩
  clear hxX0_2_0
  clear hxX0_2_1
  clear hxX0_2_2
  have HB_3 := am_ (below_step HB_2.out hb3)
  clear HB_2
  have HX0_3 := am_ (blk_below HX0_2.out hb3)
  clear HX0_2
  have HL3 := am_ (show w2.heap.size ≤ w3.heap.size from hb3.size)
  have HD0_0 := am_ ho0_0
  obtain ⟨Ad0_0, cd0_0, rfl⟩ := Kd.S_slice HD0_0.out
  have HD0_1 := am_ ho0_1
  obtain ⟨Ad0_1, cd0_1, rfl⟩ := Kd.S_slice HD0_1.out
  clear ho0_0 ho0_1 hb3
  go_wp2_with fail
  refine (spec_RecordsOf.calls k _ _ x0c0 _ _ x0c1 x0c2 a1 wc0_0 wc1_0 _ (Kd.S_reads' HD0_0.out).2.2 (Kd.S_reads' HD0_0.out).2.1 (Kd.S_reads' HD0_1.out).2.2 (Kd.S_reads' HD0_1.out).2.1 HWS.out).mono ?_
  rintro e w4 ⟨uw0, rfl, ho0, hb4⟩
  have HB_4 := am_ (below_step HB_3.out hb4)
  clear HB_3
  have HX0_4 := am_ (blk_below HX0_3.out hb4)
  clear HX0_3
  have HL4 := am_ (show w3.heap.size ≤ w4.heap.size from hb4.size)
  have HW0_0_304 := am_ (Kd.R_lower (Kd.R_mono (ok' := fun k_ => (w3.heap.size ≤ k_ ∧ k_ < w4.heap.size) ∧ ∃ q_, q_ ∈ 9 :: (Kd.string).E ∧ ∃ c_, w4.heap[k_]? = some (.cells c_ q_ (0, 0))) (Kd.R_bound ho0) (fun k_ h_ => ⟨⟨h_.2.1, h_.2.2.1⟩, h_.2.2.2⟩)) (show w.heap.size ≤ w3.heap.size by have l0_ := HL1.out; have l1_ := HL2.out; have l2_ := HL3.out; have l3_ := HL4.out; omega))
  clear ho0 hb4
  obtain ⟨AW0_0, cW0_0, rfl⟩ := Kd.R_slice HW0_0_304.out
  clear HD0_0 HD0_1
  have hxX0_4_0 : w4.cell? ⟨w.heap.size, 0, none⟩ = some (.slice A0_0 l0_0.length c0_0) := bt_ HX0_4 0
  have hxX0_4_1 : w4.cell? ⟨w.heap.size, 1, none⟩ = some (.slice A0_1 l0_1.length c0_1) := bt_ HX0_4 1
  have hxX0_4_2 : w4.cell? ⟨w.heap.size, 2, none⟩ = some (.int .i64 a0_2) := bt_ HX0_4 2
  go_wp2_with fail
  refine (laws_toPart.calls k _ _ l0_0 _ _ l0_1 a0_2 x0c0 x0c1 x0c2 _ (Kd.C_below HR0_0.out HB_4.out) HC0_0.out (Kd.C_below HR0_1.out HB_4.out) HC0_1.out HT0.out).mono ?_
  rintro e w5 ⟨v0_0, v0_1, rfl, ho0_0, ho0_1, hb5⟩
  clear hxX0_4_0
  clear hxX0_4_1
  clear hxX0_4_2
  have HB_5 := am_ (below_step HB_4.out hb5)
  clear HB_4
  have HX0_5 := am_ (blk_below HX0_4.out hb5)
  clear HX0_4
  have HW0_0_5 := am_ (Kd.R_below HW0_0_304.out hb5)
  clear HW0_0_304
  have HL5 := am_ (show w4.heap.size ≤ w5.heap.size from hb5.size)
  have HD0_0_305 := am_ (Kd.S_lower (Kd.S_mono (ok' := fun k_ => (w4.heap.size ≤ k_ ∧ k_ < w5.heap.size) ∧ ∃ q_, q_ ∈ 81 :: (k81).E ∧ ∃ c_, w5.heap[k_]? = some (.cells c_ q_ (0, 0))) (Kd.S_bound ho0_0) (fun k_ h_ => ⟨⟨h_.2.1, h_.2.2.1⟩, h_.2.2.2⟩)) (show w.heap.size ≤ w4.heap.size by have l0_ := HL1.out; have l1_ := HL2.out; have l2_ := HL3.out; have l3_ := HL4.out; have l4_ := HL5.out; omega))
  have HD0_1_305 := am_ (Kd.S_lower (Kd.S_mono (ok' := fun k_ => (w4.heap.size ≤ k_ ∧ k_ < w5.heap.size) ∧ ∃ q_, q_ ∈ 78 :: (k78).E ∧ ∃ c_, w5.heap[k_]? = some (.cells c_ q_ (0, 0))) (Kd.S_bound ho0_1) (fun k_ h_ => ⟨⟨h_.2.1, h_.2.2.1⟩, h_.2.2.2⟩)) (show w.heap.size ≤ w4.heap.size by have l0_ := HL1.out; have l1_ := HL2.out; have l2_ := HL3.out; have l3_ := HL4.out; have l4_ := HL5.out; omega))
  clear ho0_0 ho0_1 hb5
  obtain ⟨AD0_0, cD0_0, rfl⟩ := Kd.S_slice HD0_0_305.out
  obtain ⟨AD0_1, cD0_1, rfl⟩ := Kd.S_slice HD0_1_305.out
  have HB_6 := am_ (below_alloc HB_5.out (.cells #[.slice AD0_0 x0c0.length cD0_0, .slice AD0_1 x0c1.length cD0_1, .int .i64 x0c2] 33))
  clear HB_5
  have HX0_6 := am_ (blk_alloc HX0_5.out (.cells #[.slice AD0_0 x0c0.length cD0_0, .slice AD0_1 x0c1.length cD0_1, .int .i64 x0c2] 33))
  clear HX0_5
  have HW0_0_6 := am_ (Kd.R_alloc HW0_0_5.out (.cells #[.slice AD0_0 x0c0.length cD0_0, .slice AD0_1 x0c1.length cD0_1, .int .i64 x0c2] 33))
  clear HW0_0_5
  have HD0_0_6 := am_ (Kd.S_alloc HD0_0_305.out (.cells #[.slice AD0_0 x0c0.length cD0_0, .slice AD0_1 x0c1.length cD0_1, .int .i64 x0c2] 33))
  clear HD0_0_305
  have HD0_1_6 := am_ (Kd.S_alloc HD0_1_305.out (.cells #[.slice AD0_0 x0c0.length cD0_0, .slice AD0_1 x0c1.length cD0_1, .int .i64 x0c2] 33))
  clear HD0_1_305
  have HL6 := am_ (show (w5.alloc (.cells #[.slice AD0_0 x0c0.length cD0_0, .slice AD0_1 x0c1.length cD0_1, .int .i64 x0c2] 33)).heap.size = w5.heap.size + 1 by rw [World.alloc]; exact Array.size_push _)
  have HYD0_6 := am_ (show (w5.alloc (.cells #[.slice AD0_0 x0c0.length cD0_0, .slice AD0_1 x0c1.length cD0_1, .int .i64 x0c2] 33)).heap[w5.heap.size]? = some (.cells #[.slice AD0_0 x0c0.length cD0_0, .slice AD0_1 x0c1.length cD0_1, .int .i64 x0c2] 33 (0, 0)) by rw [World.alloc]; exact Array.getElem?_push_size)
  have hxYD0_6_0 : (w5.alloc (.cells #[.slice AD0_0 x0c0.length cD0_0, .slice AD0_1 x0c1.length cD0_1, .int .i64 x0c2] 33)).cell? ⟨w5.heap.size, 0, none⟩ = some (.slice AD0_0 x0c0.length cD0_0) := bt_ HYD0_6 0
  have hxYD0_6_1 : (w5.alloc (.cells #[.slice AD0_0 x0c0.length cD0_0, .slice AD0_1 x0c1.length cD0_1, .int .i64 x0c2] 33)).cell? ⟨w5.heap.size, 1, none⟩ = some (.slice AD0_1 x0c1.length cD0_1) := bt_ HYD0_6 1
  have hxYD0_6_2 : (w5.alloc (.cells #[.slice AD0_0 x0c0.length cD0_0, .slice AD0_1 x0c1.length cD0_1, .int .i64 x0c2] 33)).cell? ⟨w5.heap.size, 2, none⟩ = some (.int .i64 x0c2) := bt_ HYD0_6 2
  go_wp2_with fail
  refine (impl_RecordsOf.calls k _ _ x0c0 _ _ x0c1 x0c2 a1 gc0_0 wc1_0 _ (Kd.S_reads' HD0_0_6.out).2.2 (Kd.S_reads' HD0_0_6.out).2.1 (Kd.S_reads' HD0_1_6.out).2.2 (Kd.S_reads' HD0_1_6.out).2.1 HGI.out).mono ?_
  rintro e w7 ⟨ug0, rfl, ho0, hb7⟩
  clear hxYD0_6_0
  clear hxYD0_6_1
  clear hxYD0_6_2
  have HB_7 := am_ (below_step HB_6.out hb7)
  clear HB_6
  have HX0_7 := am_ (blk_below HX0_6.out hb7)
  clear HX0_6
  have HW0_0_7 := am_ (Kd.R_below HW0_0_6.out hb7)
  clear HW0_0_6
  have HD0_0_7 := am_ (Kd.S_below HD0_0_6.out hb7)
  clear HD0_0_6
  have HD0_1_7 := am_ (Kd.S_below HD0_1_6.out hb7)
  clear HD0_1_6
  have HYD0_7 := am_ (blk_below HYD0_6.out hb7)
  clear HYD0_6
  have HL7 := am_ (show (w5.alloc (.cells #[.slice AD0_0 x0c0.length cD0_0, .slice AD0_1 x0c1.length cD0_1, .int .i64 x0c2] 33)).heap.size ≤ w7.heap.size from hb7.size)
  have HG0_0_307 := am_ (Kd.R_lower (Kd.R_mono (ok' := fun k_ => ((w5.alloc (.cells #[.slice AD0_0 x0c0.length cD0_0, .slice AD0_1 x0c1.length cD0_1, .int .i64 x0c2] 33)).heap.size ≤ k_ ∧ k_ < w7.heap.size) ∧ ∃ q_, q_ ∈ 9 :: (Kd.string).E ∧ ∃ c_, w7.heap[k_]? = some (.cells c_ q_ (0, 0))) (Kd.R_bound ho0) (fun k_ h_ => ⟨⟨h_.2.1, h_.2.2.1⟩, h_.2.2.2⟩)) (show w.heap.size ≤ (w5.alloc (.cells #[.slice AD0_0 x0c0.length cD0_0, .slice AD0_1 x0c1.length cD0_1, .int .i64 x0c2] 33)).heap.size by have l0_ := HL1.out; have l1_ := HL2.out; have l2_ := HL3.out; have l3_ := HL4.out; have l4_ := HL5.out; have l5_ := HL6.out; have l6_ := HL7.out; omega))
  clear ho0 hb7
  obtain ⟨AG0_0, cG0_0, rfl⟩ := Kd.R_slice HG0_0_307.out
  go_wp2_with fail
  refine (laws_eqStringS.calls k _ _ gc0_0 _ _ wc0_0 true _ (Kd.R_reads' HG0_0_307.out).2.2 (Kd.R_reads' HG0_0_307.out).2.1 (Kd.R_reads' HW0_0_7.out).2.2 (Kd.R_reads' HW0_0_7.out).2.1 HE0.out).mono ?_
  rintro e w8 ⟨rfl, hb8⟩
  try replace hb8 := hb8.below
  have HB_8 := am_ (below_step HB_7.out hb8)
  clear HB_7
  have HX0_8 := am_ (blk_below HX0_7.out hb8)
  clear HX0_7
  have HW0_0_8 := am_ (Kd.R_below HW0_0_7.out hb8)
  clear HW0_0_7
  have HD0_0_8 := am_ (Kd.S_below HD0_0_7.out hb8)
  clear HD0_0_7
  have HD0_1_8 := am_ (Kd.S_below HD0_1_7.out hb8)
  clear HD0_1_7
  have HYD0_8 := am_ (blk_below HYD0_7.out hb8)
  clear HYD0_7
  have HG0_0_8 := am_ (Kd.R_below HG0_0_307.out hb8)
  clear HG0_0_307
  have HL8 := am_ (show w7.heap.size ≤ w8.heap.size from hb8.size)
  clear hb8
  try go_wp2
  have HB_9 := qH_ HB_8
  clear HB_8
  have HX0_9 := qK_ HX0_8
  clear HX0_8
  have HW0_0_9 := qR_ HW0_0_8
  clear HW0_0_8
  have HD0_0_9 := am_ (Kd.S_drew HD0_0_8.out)
  clear HD0_0_8
  have HD0_1_9 := am_ (Kd.S_drew HD0_1_8.out)
  clear HD0_1_8
  have HYD0_9 := qK_ HYD0_8
  clear HYD0_8
  have HG0_0_9 := qR_ HG0_0_8
  clear HG0_0_8
  have HL9 := am_ (show w8.heap.size = w8.drew.heap.size from rfl)
  refine start_ (n := 5) (S := fun w' => w'.cell? ⟨w5.heap.size, 0, none⟩ = some (.slice AD0_0 x0c0.length cD0_0) ∧ w'.cell? ⟨w5.heap.size, 1, none⟩ = some (.slice AD0_1 x0c1.length cD0_1) ∧ w'.cell? ⟨w5.heap.size, 2, none⟩ = some (.int .i64 x0c2) ∧ w'.cell? ⟨w.heap.size, 0, none⟩ = some (.slice A0_0 l0_0.length c0_0) ∧ w'.cell? ⟨w.heap.size, 1, none⟩ = some (.slice A0_1 l0_1.length c0_1) ∧ w'.cell? ⟨w.heap.size, 2, none⟩ = some (.int .i64 a0_2)) (ds := []) #[false, false, false, false, false] (by kernel_rfl) rfl rfl ⟨bt_ HYD0_9 0, bt_ HYD0_9 1, bt_ HYD0_9 2, bt_ HX0_9 0, bt_ HX0_9 1, bt_ HX0_9 2⟩ (fun hHeld => ?_)
  generalize w8.drew = w9 at HB_9 HX0_9 HW0_0_9 HD0_0_9 HD0_1_9 HYD0_9 HG0_0_9 HL9 hHeld ⊢
  refine tx_ 0 45 ?_
  refine tx_ 1 46 ?_
  refine ox_ 2 47 fun K hK => ?_
  refine gs_ Try.func12 #[.agg #[.slice A0_0 l0_0.length c0_0, .slice A0_1 l0_1.length c0_1, .int .i64 a0_2]] rfl (by (try simp only [List.map_toArray, List.map_cons, List.map_nil]); first | done | rfl) ?_
  refine (laws_toPart.calls k _ _ l0_0 _ _ l0_1 a0_2 x0c0 x0c1 x0c2 _ (Kd.C_below HR0_0.out HB_9.out) HC0_0.out (Kd.C_below HR0_1.out HB_9.out) HC0_1.out HT0.out).mono ?_
  rintro e w10 ⟨v9_0, v9_1, rfl, ho0, ho1, hb10⟩
  have HB_10 := am_ (below_step HB_9.out hb10)
  clear HB_9
  have HX0_10 := am_ (blk_below HX0_9.out hb10)
  clear HX0_9
  have HW0_0_10 := am_ (Kd.R_below HW0_0_9.out hb10)
  clear HW0_0_9
  have HD0_0_10 := am_ (Kd.S_below HD0_0_9.out hb10)
  clear HD0_0_9
  have HD0_1_10 := am_ (Kd.S_below HD0_1_9.out hb10)
  clear HD0_1_9
  have HYD0_10 := am_ (blk_below HYD0_9.out hb10)
  clear HYD0_9
  have HG0_0_10 := am_ (Kd.R_below HG0_0_9.out hb10)
  clear HG0_0_9
  have HL10 := am_ (show w9.heap.size ≤ w10.heap.size from hb10.size)
  refine ⟨_, rfl, ?_⟩
  have HE9_0 := am_ ho0
  obtain ⟨A9_0, c9_0, rfl⟩ := Kd.S_slice HE9_0.out
  have HE9_1 := am_ ho1
  obtain ⟨A9_1, c9_1, rfl⟩ := Kd.S_slice HE9_1.out
  clear ho0 ho1 hb10
  refine hK.out _ _ ⟨bt_ HYD0_10 0, bt_ HYD0_10 1, bt_ HYD0_10 2, bt_ HX0_10 0, bt_ HX0_10 1, bt_ HX0_10 2⟩ (fun hHeld => ?_)
  clear hK K
  refine no_ ?_
  refine ox_ 3 48 fun K hK => ?_
  refine gs_ Try.func15 #[.agg #[.slice AD0_0 x0c0.length cD0_0, .slice AD0_1 x0c1.length cD0_1, .int .i64 x0c2], .agg #[.slice A9_0 x0c0.length c9_0, .slice A9_1 x0c1.length c9_1, .int .i64 x0c2]] rfl (by (try simp only [List.map_toArray, List.map_cons, List.map_nil]); first | done | rfl) ?_
  refine (laws_eqPart.calls k _ _ x0c0 _ _ x0c1 x0c2 _ _ x0c0 _ _ x0c1 x0c2 true _ (Kd.S_reads' HD0_0_10.out).2.2 (Kd.S_reads' HD0_0_10.out).2.1 (Kd.S_reads' HD0_1_10.out).2.2 (Kd.S_reads' HD0_1_10.out).2.1 (Kd.S_reads' HE9_0.out).2.2 (Kd.S_reads' HE9_0.out).2.1 (Kd.S_reads' HE9_1.out).2.2 (Kd.S_reads' HE9_1.out).2.1 HF0.out).mono ?_
  rintro e w11 ⟨rfl, hb11⟩
  try replace hb11 := hb11.below
  have HB_11 := am_ (below_step HB_10.out hb11)
  clear HB_10
  have HX0_11 := am_ (blk_below HX0_10.out hb11)
  clear HX0_10
  have HW0_0_11 := am_ (Kd.R_below HW0_0_10.out hb11)
  clear HW0_0_10
  have HD0_0_11 := am_ (Kd.S_below HD0_0_10.out hb11)
  clear HD0_0_10
  have HD0_1_11 := am_ (Kd.S_below HD0_1_10.out hb11)
  clear HD0_1_10
  have HYD0_11 := am_ (blk_below HYD0_10.out hb11)
  clear HYD0_10
  have HG0_0_11 := am_ (Kd.R_below HG0_0_10.out hb11)
  clear HG0_0_10
  have HL11 := am_ (show w10.heap.size ≤ w11.heap.size from hb11.size)
  refine ⟨_, rfl, ?_⟩
  clear HE9_0 HE9_1 hb11
  refine hK.out _ _ ⟨bt_ HYD0_11 0, bt_ HYD0_11 1, bt_ HYD0_11 2, bt_ HX0_11 0, bt_ HX0_11 1, bt_ HX0_11 2⟩ (fun hHeld => ?_)
  clear hK K
  refine no_ ?_
  refine px_ 4 49 ?_
  refine done_ (by kernel_rfl) ?_
  have hxYD0_11_0 : w11.cell? ⟨w5.heap.size, 0, none⟩ = some (.slice AD0_0 x0c0.length cD0_0) := bt_ HYD0_11 0
  have hxYD0_11_1 : w11.cell? ⟨w5.heap.size, 1, none⟩ = some (.slice AD0_1 x0c1.length cD0_1) := bt_ HYD0_11 1
  have hxYD0_11_2 : w11.cell? ⟨w5.heap.size, 2, none⟩ = some (.int .i64 x0c2) := bt_ HYD0_11 2
  go_wp2_with fail
  refine (laws_markPart.calls k (fun k_ => (w4.heap.size ≤ k_ ∧ k_ < w5.heap.size) ∧ ∃ q_, q_ ∈ 81 :: (k81).E ∧ ∃ c_, w5.heap[k_]? = some (.cells c_ q_ (0, 0))) _ x0c0 (fun k_ => (w4.heap.size ≤ k_ ∧ k_ < w5.heap.size) ∧ ∃ q_, q_ ∈ 78 :: (k78).E ∧ ∃ c_, w5.heap[k_]? = some (.cells c_ q_ (0, 0))) _ x0c1 x0c2 1 k0 kx0_0 kx0_1 w _ HB_11.out HD0_0_11.out HD0_1_11.out (fun k_ h_ h2_ => by obtain ⟨_, q_, hq_, c_, hc_⟩ := h_; obtain ⟨_, q2_, hq2_, c2_, hc2_⟩ := h2_; rw [hc_] at hc2_; injection hc2_ with e1_; injection e1_ with _ e2_ _; subst e2_; exact (by decide : ∀ x_ ∈ (81 :: (k81).E), x_ ∉ (78 :: (k78).E)) _ hq_ hq2_) HK0.out).mono ?_
  rintro e w12 ⟨rfl, hy0, hy1, hb, hk⟩
  clear hxYD0_11_0
  clear hxYD0_11_1
  clear hxYD0_11_2
  have HB_12 := am_ (hb)
  clear HB_11
  have HX0_12 := am_ (blk_kept HX0_11.out hk (fun h2_ => by rcases h2_ with h2_ | h2_; (· have h3_ := h2_.1.1; have h4_ := h2_.1.2; clear h2_; have l0_ := HL1.out; have l1_ := HL2.out; have l2_ := HL3.out; have l3_ := HL4.out; have l4_ := HL5.out; have l5_ := HL6.out; have l6_ := HL7.out; have l7_ := HL8.out; have l8_ := HL9.out; have l9_ := HL10.out; have l10_ := HL11.out; omega); (· have h3_ := h2_.1.1; have h4_ := h2_.1.2; clear h2_; have l0_ := HL1.out; have l1_ := HL2.out; have l2_ := HL3.out; have l3_ := HL4.out; have l4_ := HL5.out; have l5_ := HL6.out; have l6_ := HL7.out; have l7_ := HL8.out; have l8_ := HL9.out; have l9_ := HL10.out; have l10_ := HL11.out; omega)))
  clear HX0_11
  have HW0_0_12 := am_ (Kd.R_kept HW0_0_11.out hk (fun k_ h_ h2_ => by rcases h2_ with h2_ | h2_; (· have h3_ := h_.1.1; have h4_ := h_.1.2; have h5_ := h2_.1.1; have h6_ := h2_.1.2; clear h_ h2_; have l0_ := HL1.out; have l1_ := HL2.out; have l2_ := HL3.out; have l3_ := HL4.out; have l4_ := HL5.out; have l5_ := HL6.out; have l6_ := HL7.out; have l7_ := HL8.out; have l8_ := HL9.out; have l9_ := HL10.out; have l10_ := HL11.out; omega); (· have h3_ := h_.1.1; have h4_ := h_.1.2; have h5_ := h2_.1.1; have h6_ := h2_.1.2; clear h_ h2_; have l0_ := HL1.out; have l1_ := HL2.out; have l2_ := HL3.out; have l3_ := HL4.out; have l4_ := HL5.out; have l5_ := HL6.out; have l6_ := HL7.out; have l7_ := HL8.out; have l8_ := HL9.out; have l9_ := HL10.out; have l10_ := HL11.out; omega)))
  clear HW0_0_11
  have HYD0_12 := am_ (blk_kept HYD0_11.out hk (fun h2_ => by rcases h2_ with h2_ | h2_; (· have h3_ := h2_.1.1; have h4_ := h2_.1.2; clear h2_; have l0_ := HL1.out; have l1_ := HL2.out; have l2_ := HL3.out; have l3_ := HL4.out; have l4_ := HL5.out; have l5_ := HL6.out; have l6_ := HL7.out; have l7_ := HL8.out; have l8_ := HL9.out; have l9_ := HL10.out; have l10_ := HL11.out; omega); (· have h3_ := h2_.1.1; have h4_ := h2_.1.2; clear h2_; have l0_ := HL1.out; have l1_ := HL2.out; have l2_ := HL3.out; have l3_ := HL4.out; have l4_ := HL5.out; have l5_ := HL6.out; have l6_ := HL7.out; have l7_ := HL8.out; have l8_ := HL9.out; have l9_ := HL10.out; have l10_ := HL11.out; omega)))
  clear HYD0_11
  have HG0_0_12 := am_ (Kd.R_kept HG0_0_11.out hk (fun k_ h_ h2_ => by rcases h2_ with h2_ | h2_; (· have h3_ := h_.1.1; have h4_ := h_.1.2; have h5_ := h2_.1.1; have h6_ := h2_.1.2; clear h_ h2_; have l0_ := HL1.out; have l1_ := HL2.out; have l2_ := HL3.out; have l3_ := HL4.out; have l4_ := HL5.out; have l5_ := HL6.out; have l6_ := HL7.out; have l7_ := HL8.out; have l8_ := HL9.out; have l9_ := HL10.out; have l10_ := HL11.out; omega); (· have h3_ := h_.1.1; have h4_ := h_.1.2; have h5_ := h2_.1.1; have h6_ := h2_.1.2; clear h_ h2_; have l0_ := HL1.out; have l1_ := HL2.out; have l2_ := HL3.out; have l3_ := HL4.out; have l4_ := HL5.out; have l5_ := HL6.out; have l6_ := HL7.out; have l7_ := HL8.out; have l8_ := HL9.out; have l9_ := HL10.out; have l10_ := HL11.out; omega)))
  clear HG0_0_11
  have HD0_0_12 := am_ (hy0)
  clear HD0_0_11
  have HD0_1_12 := am_ (hy1)
  clear HD0_1_11
  have HL12 := am_ (show w11.heap.size ≤ w12.heap.size from hk.1)
  clear hb hk hy0 hy1
  clear HD0_0_12
  clear HD0_1_12
  clear HYD0_12
  go_wp2_with fail
  refine (laws_eqStringS.calls k _ _ gc0_0 _ _ wc0_0 true _ (Kd.R_reads' HG0_0_12.out).2.2 (Kd.R_reads' HG0_0_12.out).2.1 (Kd.R_reads' HW0_0_12.out).2.2 (Kd.R_reads' HW0_0_12.out).2.1 HE0.out).mono ?_
  rintro e w13 ⟨rfl, hb13⟩
  try replace hb13 := hb13.below
  have HB_13 := am_ (below_step HB_12.out hb13)
  clear HB_12
  have HX0_13 := am_ (blk_below HX0_12.out hb13)
  clear HX0_12
  have HW0_0_13 := am_ (Kd.R_below HW0_0_12.out hb13)
  clear HW0_0_12
  have HG0_0_13 := am_ (Kd.R_below HG0_0_12.out hb13)
  clear HG0_0_12
  have HL13 := am_ (show w12.heap.size ≤ w13.heap.size from hb13.size)
  clear hb13
  go_wp2_with fail
  refine (laws_markStringS.calls k (fun k_ => ((w5.alloc (.cells #[.slice AD0_0 x0c0.length cD0_0, .slice AD0_1 x0c1.length cD0_1, .int .i64 x0c2] 33)).heap.size ≤ k_ ∧ k_ < w7.heap.size) ∧ ∃ q_, q_ ∈ 9 :: (Kd.string).E ∧ ∃ c_, w7.heap[k_]? = some (.cells c_ q_ (0, 0))) _ gc0_0 1 q0 mg0_0 w _ HB_13.out HG0_0_13.out HM0.out).mono ?_
  rintro e w14 ⟨rfl, hy0, hb, hk⟩
  have HB_14 := am_ (hb)
  clear HB_13
  have HX0_14 := am_ (blk_kept HX0_13.out hk (fun h2_ => by have h3_ := h2_.1.1; have h4_ := h2_.1.2; clear h2_; have l0_ := HL1.out; have l1_ := HL2.out; have l2_ := HL3.out; have l3_ := HL4.out; have l4_ := HL5.out; have l5_ := HL6.out; have l6_ := HL7.out; have l7_ := HL8.out; have l8_ := HL9.out; have l9_ := HL10.out; have l10_ := HL11.out; have l11_ := HL12.out; have l12_ := HL13.out; omega))
  clear HX0_13
  have HW0_0_14 := am_ (Kd.R_kept HW0_0_13.out hk (fun k_ h_ h2_ => by have h3_ := h_.1.1; have h4_ := h_.1.2; have h5_ := h2_.1.1; have h6_ := h2_.1.2; clear h_ h2_; have l0_ := HL1.out; have l1_ := HL2.out; have l2_ := HL3.out; have l3_ := HL4.out; have l4_ := HL5.out; have l5_ := HL6.out; have l6_ := HL7.out; have l7_ := HL8.out; have l8_ := HL9.out; have l9_ := HL10.out; have l10_ := HL11.out; have l11_ := HL12.out; have l12_ := HL13.out; omega))
  clear HW0_0_13
  have HG0_0_14 := am_ (hy0)
  clear HG0_0_13
  have HL14 := am_ (show w13.heap.size ≤ w14.heap.size from hk.1)
  clear hb hk hy0
  have HLG0_0 := am_ (Kd.R_reads' HG0_0_14.out).1
  have HG0_0_514 := am_ (show Kd.R Kd.string 9 w14 w.heap.size (fun k_ => (((w5.alloc (.cells #[.slice AD0_0 x0c0.length cD0_0, .slice AD0_1 x0c1.length cD0_1, .int .i64 x0c2] 33)).heap.size ≤ k_ ∧ k_ < w7.heap.size) ∧ ∃ q_, q_ ∈ 9 :: (Kd.string).E ∧ ∃ c_, w7.heap[k_]? = some (.cells c_ q_ (0, 0))) ∨ w13.heap.size ≤ k_) (.slice AG0_0 mg0_0.length cG0_0) mg0_0 by rw [← HLG0_0.out]; exact HG0_0_14.out)
  clear HG0_0_14
  go_wp2_with fail
  rw [HLG0_0.out]
  refine (laws_heldStringS.calls k _ _ mg0_0 1 q0 _ (Kd.R_reads' HG0_0_514.out).2.2 (Kd.R_reads' HG0_0_514.out).2.1 HQ0.out).mono ?_
  rintro e w15 ⟨rfl, hb15⟩
  have HB_15 := am_ (below_step HB_14.out hb15)
  clear HB_14
  have HX0_15 := am_ (blk_below HX0_14.out hb15)
  clear HX0_14
  have HW0_0_15 := am_ (Kd.R_below HW0_0_14.out hb15)
  clear HW0_0_14
  have HG0_0_15 := am_ (Kd.R_below HG0_0_514.out hb15)
  clear HG0_0_514
  have HL15 := am_ (show w14.heap.size ≤ w15.heap.size from hb15.size)
  clear hb15
  have hxX0_15_0 : w15.cell? ⟨w.heap.size, 0, none⟩ = some (.slice A0_0 l0_0.length c0_0) := bt_ HX0_15 0
  have hxX0_15_1 : w15.cell? ⟨w.heap.size, 1, none⟩ = some (.slice A0_1 l0_1.length c0_1) := bt_ HX0_15 1
  have hxX0_15_2 : w15.cell? ⟨w.heap.size, 2, none⟩ = some (.int .i64 a0_2) := bt_ HX0_15 2
  go_wp2_with fail
  refine (laws_toPart.calls k _ _ l0_0 _ _ l0_1 a0_2 x0c0 x0c1 x0c2 _ (Kd.C_below HR0_0.out HB_15.out) HC0_0.out (Kd.C_below HR0_1.out HB_15.out) HC0_1.out HT0.out).mono ?_
  rintro e w16 ⟨v0_0, v0_1, rfl, ho0_0, ho0_1, hb16⟩
  clear hxX0_15_0
  clear hxX0_15_1
  clear hxX0_15_2
  have HB_16 := am_ (below_step HB_15.out hb16)
  clear HB_15
  have HX0_16 := am_ (blk_below HX0_15.out hb16)
  clear HX0_15
  have HW0_0_16 := am_ (Kd.R_below HW0_0_15.out hb16)
  clear HW0_0_15
  have HG0_0_16 := am_ (Kd.R_below HG0_0_15.out hb16)
  clear HG0_0_15
  have HL16 := am_ (show w15.heap.size ≤ w16.heap.size from hb16.size)
  have HD0_0 := am_ ho0_0
  obtain ⟨Ad0_0, cd0_0, rfl⟩ := Kd.S_slice HD0_0.out
  have HD0_1 := am_ ho0_1
  obtain ⟨Ad0_1, cd0_1, rfl⟩ := Kd.S_slice HD0_1.out
  clear ho0_0 ho0_1 hb16
  clear HX0_16
  go_wp2_with fail
  refine (impl_RecordsOf.calls k _ _ x0c0 _ _ x0c1 x0c2 a1 gc0_0 wc1_0 _ (Kd.S_reads' HD0_0.out).2.2 (Kd.S_reads' HD0_0.out).2.1 (Kd.S_reads' HD0_1.out).2.2 (Kd.S_reads' HD0_1.out).2.1 HGI.out).mono ?_
  rintro e w17 ⟨ug0, rfl, ho0, hb17⟩
  have HB_17 := am_ (below_step HB_16.out hb17)
  clear HB_16
  have HW0_0_17 := am_ (Kd.R_below HW0_0_16.out hb17)
  clear HW0_0_16
  have HG0_0_17 := am_ (Kd.R_below HG0_0_16.out hb17)
  clear HG0_0_16
  have HL17 := am_ (show w16.heap.size ≤ w17.heap.size from hb17.size)
  have HH0_0_317 := am_ (Kd.R_lower (Kd.R_mono (ok' := fun k_ => (w16.heap.size ≤ k_ ∧ k_ < w17.heap.size) ∧ ∃ q_, q_ ∈ 9 :: (Kd.string).E ∧ ∃ c_, w17.heap[k_]? = some (.cells c_ q_ (0, 0))) (Kd.R_bound ho0) (fun k_ h_ => ⟨⟨h_.2.1, h_.2.2.1⟩, h_.2.2.2⟩)) (show w.heap.size ≤ w16.heap.size by have l0_ := HL1.out; have l1_ := HL2.out; have l2_ := HL3.out; have l3_ := HL4.out; have l4_ := HL5.out; have l5_ := HL6.out; have l6_ := HL7.out; have l7_ := HL8.out; have l8_ := HL9.out; have l9_ := HL10.out; have l10_ := HL11.out; have l11_ := HL12.out; have l12_ := HL13.out; have l13_ := HL14.out; have l14_ := HL15.out; have l15_ := HL16.out; have l16_ := HL17.out; omega))
  clear ho0 hb17
  obtain ⟨AH0_0, cH0_0, rfl⟩ := Kd.R_slice HH0_0_317.out
  clear HD0_0 HD0_1
  go_wp2_with fail
  refine (laws_eqStringS.calls k _ _ gc0_0 _ _ wc0_0 true _ (Kd.R_reads' HH0_0_317.out).2.2 (Kd.R_reads' HH0_0_317.out).2.1 (Kd.R_reads' HW0_0_17.out).2.2 (Kd.R_reads' HW0_0_17.out).2.1 HE0.out).mono ?_
  rintro e w18 ⟨rfl, hb18⟩
  try replace hb18 := hb18.below
  have HB_18 := am_ (below_step HB_17.out hb18)
  clear HB_17
  have HW0_0_18 := am_ (Kd.R_below HW0_0_17.out hb18)
  clear HW0_0_17
  have HG0_0_18 := am_ (Kd.R_below HG0_0_17.out hb18)
  clear HG0_0_17
  have HH0_0_18 := am_ (Kd.R_below HH0_0_317.out hb18)
  clear HH0_0_317
  have HL18 := am_ (show w17.heap.size ≤ w18.heap.size from hb18.size)
  clear hb18
  clear HW0_0_18
  clear HH0_0_18
  go_wp2_with fail
  rw [HLG0_0.out]
  refine (laws_heldStringS.calls k _ _ mg0_0 1 q0 _ (Kd.R_reads' HG0_0_18.out).2.2 (Kd.R_reads' HG0_0_18.out).2.1 HQ0.out).mono ?_
  rintro e w19 ⟨rfl, hb19⟩
  have HB_19 := am_ (below_step HB_18.out hb19)
  clear HB_18
  have HG0_0_19 := am_ (Kd.R_below HG0_0_18.out hb19)
  clear HG0_0_18
  have HL19 := am_ (show w18.heap.size ≤ w19.heap.size from hb19.size)
  clear hb19
  go_wp2_with fail
  go_ret
  exact ⟨rfl, HB_19.out⟩


/-- The one pure statement of laws_FnExactRecordsOf. -/
def laws_FnExactRecordsOf.Pure : Prop := ∀ (x0 : S25) (a1 : Int), ok25 x0 → (Lit.int .i64 a1).wf = true → ∃ k, laws_FnExactRecordsOf.f k x0.f0 x0.f1 x0.f2 a1 = some true

end Go.Proofs.Ytojdaolclcmalaa.QFnExactRecordsOf
