/- Functions that one statement reaches: of each a plain function, and the proof that calls come to it. Conditions: those that each contract names. Written by a program of this repository. -/
import Derived.Test.YtffpeklekkpbjaaVTruncateToa
import Derived.Test.YtffpeklekkpbjaaQFnExactTruncateTox2
import Derived.Test.YtffpeklekkpbjaaQFnExactTruncateTox3
import Derived.Test.YtffpeklekkpbjaaQFnExactTruncateTox4
import Derived.Test.YtffpeklekkpbjaaQFnExactTruncateTox6
import Derived.Test.YtffpeklekkpbjaaQFnExactTruncateTox14
import Derived.Test.YtffpeklekkpbjaaQFnExactTruncateTox25
namespace Go.Proofs.Ytffpeklekkpbjaa.QFnExactTruncateTo
open Go.RowKit Go.Proofs.YtffpeklekkpbjaaW.PrintWords Go.Proofs.YtffpeklekkpbjaaW.PrintLast Go.Proofs.YtffpeklekkpbjaaW.PrintMore
attribute [local go_sem] max2_int min2_int max_two min_two max_three min_three max_four min_four Go.Proofs.YtffpeklekkpbjaaW.PrintMore2.isSome_setCell   -- for this text's walks alone
set_option linter.unusedVariables false
set_option linter.unusedSimpArgs false

/-! ### laws_FnExactTruncateTo: function 7 -/
def laws_FnExactTruncateTo.f (k : Nat) (l0_0 : List S117) (a0_1 : Int) (a1 : Int) : Option (Bool) :=
 (laws_szStore.f k l0_0 a0_1 1048576).bind fun z0 => if z0 < 0 then some true else
 (laws_toStore.f k l0_0 a0_1).bind fun x0 => (spec_TruncateTo.f k x0.1 x0.2 a1).bind fun w => (impl_TruncateTo.f k x0.1 x0.2 a1).bind fun g => (laws_eqStore.f k g.1 g.2.1 w.1 w.2.1).bind fun e0 => if e0 = true ∧ g.2.2 = w.2.2 then
 (laws_eqStore.f k x0.1 x0.2 x0.1 x0.2).bind fun f0 => (laws_markStore.f k x0.1 x0.2 1).bind fun k0 => if f0 = true ∧ 0 ≤ k0.1 then
 (laws_markStore.f k g.1 g.2.1 1).bind fun m0 => (laws_heldStore.f k m0.2 g.2.1 1).bind fun q0 => if 0 ≤ q0 ∧ q0 = m0.1 then some true else none else none else none
set_option maxHeartbeats 8000000 in
set_option maxRecDepth 100000 in
theorem laws_FnExactTruncateTo.calls (k : Nat) (A0_0 : Option Addr) (c0_0 : Nat) (l0_0 : List S117) (a0_1 : Int) (a1 : Int) (r : Bool) (w : World) (hr0_0 : Kd.C k117 w A0_0 l0_0.length l0_0) (hc0_0 : l0_0.length ≤ c0_0) (h : laws_FnExactTruncateTo.f k l0_0 a0_1 a1 = some r) :
  Calls Try.prog 7 #[.agg #[.slice A0_0 l0_0.length c0_0, .int .i64 a0_1], .int .i64 a1] w fun e w' => e = .returned (.bool r) ∧ Below w.heap.size w w' := by
 have HR0_0 := Aside0.mk hr0_0
 have HC0_0 := Aside0.mk hc0_0
 clear hr0_0 hc0_0
 unfold laws_FnExactTruncateTo.f at h
 obtain ⟨z0, hz0, g1⟩ := Option.bind_eq_some_iff.1 h
 clear h
 have HZ0 := Aside0.mk hz0
 clear hz0
 by_cases hn0 : z0 < 0
 ·rw [if_pos hn0] at g1
  obtain rfl : true = r := Option.some.inj g1
  have hd0 : decide (z0 < 0) = true := decide_eq_true hn0
  clear hn0 g1
  go_enter Try.func7, Try.ntmps7
  have HB_0 := Aside0.mk (Below.refl w.heap.size w)
  have HB_1 := Aside0.mk (below_alloc HB_0.out (.cells #[.slice A0_0 l0_0.length c0_0, .int .i64 a0_1] 32))
  clear HB_0
  have HL1 := Aside0.mk (show (w.alloc (.cells #[.slice A0_0 l0_0.length c0_0, .int .i64 a0_1] 32)).heap.size = w.heap.size + 1 by rw [World.alloc]; exact Array.size_push _)
  have HX0_1 := Aside0.mk (show (w.alloc (.cells #[.slice A0_0 l0_0.length c0_0, .int .i64 a0_1] 32)).heap[w.heap.size]? = some (.cells #[.slice A0_0 l0_0.length c0_0, .int .i64 a0_1] 32 (0, 0)) by rw [World.alloc]; exact Array.getElem?_push_size)
  have hxX0_1_0 : (w.alloc (.cells #[.slice A0_0 l0_0.length c0_0, .int .i64 a0_1] 32)).cell? ⟨w.heap.size, 0, none⟩ = some (.slice A0_0 l0_0.length c0_0) := bt_ HX0_1 0
  have hxX0_1_1 : (w.alloc (.cells #[.slice A0_0 l0_0.length c0_0, .int .i64 a0_1] 32)).cell? ⟨w.heap.size, 1, none⟩ = some (.int .i64 a0_1) := bt_ HX0_1 1
  go_wp2_with fail
  refine (laws_szStore.calls k _ _ l0_0 a0_1 1048576 z0 _ (Kd.C_below HR0_0.out HB_1.out) HC0_0.out HZ0.out).mono ?_
  rintro e w2 ⟨rfl, hb2⟩
  clear hxX0_1_0
  clear hxX0_1_1
  have HB_2 := Aside0.mk (below_step HB_1.out hb2)
  clear HB_1
  have HX0_2 := Aside0.mk (blk_below HX0_1.out hb2)
  clear HX0_1
  have HL2 := Aside0.mk (show (w.alloc (.cells #[.slice A0_0 l0_0.length c0_0, .int .i64 a0_1] 32)).heap.size ≤ w2.heap.size from hb2.size)
  clear hb2
  go_wp2_with fail
  go_ret
  exact ⟨rfl, HB_2.out⟩
 ·rw [if_neg hn0] at g1
  have hd0 : decide (z0 < 0) = false := decide_eq_false hn0
  clear hn0
  obtain ⟨⟨x0c0, x0c1⟩, ht0, g2⟩ := Option.bind_eq_some_iff.1 g1
  clear g1
  obtain ⟨⟨wc0_0, wc0_1, wc1_0⟩, hw, g3⟩ := Option.bind_eq_some_iff.1 g2
  clear g2
  obtain ⟨⟨gc0_0, gc0_1, gc1_0⟩, hg, g4⟩ := Option.bind_eq_some_iff.1 g3
  clear g3
  obtain ⟨e0, he0, g5⟩ := Option.bind_eq_some_iff.1 g4
  clear g4
  obtain ⟨⟨he0', hs1⟩, g6⟩ := Option.ite_none_right_eq_some.1 g5
  clear g5
  subst he0'
  obtain rfl : wc1_0 = gc1_0 := hs1.symm
  obtain ⟨f0, hf0, g7⟩ := Option.bind_eq_some_iff.1 g6
  clear g6
  obtain ⟨⟨k0, kx0_0⟩, hk0, g8⟩ := Option.bind_eq_some_iff.1 g7
  clear g7
  obtain ⟨⟨hf0', hkn⟩, g9⟩ := Option.ite_none_right_eq_some.1 g8
  clear g8
  subst hf0'
  obtain ⟨⟨m0, mg0_0⟩, hm0, g10⟩ := Option.bind_eq_some_iff.1 g9
  clear g9
  obtain ⟨q0, hq0, g11⟩ := Option.bind_eq_some_iff.1 g10
  clear g10
  obtain ⟨⟨hn0, hqm⟩, g12⟩ := Option.ite_none_right_eq_some.1 g11
  clear g11
  obtain rfl : q0 = m0 := hqm
  obtain rfl : true = r := Option.some.inj g12
  clear g12
  have hqd0 : decide (q0 < 0) = false := decide_eq_false (by omega)
  have hkd : decide (k0 < 0) = false := decide_eq_false (by have : 0 ≤ k0 := hkn; omega)
  have HT0 := Aside0.mk (show laws_toStore.f k l0_0 a0_1 = some (x0c0, x0c1) from ht0)
  have HWS := Aside0.mk (show spec_TruncateTo.f k x0c0 x0c1 a1 = some (wc0_0, wc0_1, wc1_0) from hw)
  have HGI := Aside0.mk (show impl_TruncateTo.f k x0c0 x0c1 a1 = some (gc0_0, gc0_1, wc1_0) from hg)
  have HE0 := Aside0.mk (show laws_eqStore.f k gc0_0 gc0_1 wc0_0 wc0_1 = some true from he0)
  have HF0 := Aside0.mk (show laws_eqStore.f k x0c0 x0c1 x0c0 x0c1 = some true from hf0)
  have HK0 := Aside0.mk (show laws_markStore.f k x0c0 x0c1 1 = some (k0, kx0_0) from hk0)
  have HM0 := Aside0.mk (show laws_markStore.f k gc0_0 gc0_1 1 = some (q0, mg0_0) from hm0)
  have HQ0 := Aside0.mk (show laws_heldStore.f k mg0_0 gc0_1 1 = some q0 from hq0)
  clear ht0 hw hg he0 hf0 hk0 hm0 hq0 hn0 hkn
  go_enter Try.func7, Try.ntmps7
  have HB_0 := Aside0.mk (Below.refl w.heap.size w)
  have HB_1 := Aside0.mk (below_alloc HB_0.out (.cells #[.slice A0_0 l0_0.length c0_0, .int .i64 a0_1] 32))
  clear HB_0
  have HL1 := Aside0.mk (show (w.alloc (.cells #[.slice A0_0 l0_0.length c0_0, .int .i64 a0_1] 32)).heap.size = w.heap.size + 1 by rw [World.alloc]; exact Array.size_push _)
  have HX0_1 := Aside0.mk (show (w.alloc (.cells #[.slice A0_0 l0_0.length c0_0, .int .i64 a0_1] 32)).heap[w.heap.size]? = some (.cells #[.slice A0_0 l0_0.length c0_0, .int .i64 a0_1] 32 (0, 0)) by rw [World.alloc]; exact Array.getElem?_push_size)
  have hxX0_1_0 : (w.alloc (.cells #[.slice A0_0 l0_0.length c0_0, .int .i64 a0_1] 32)).cell? ⟨w.heap.size, 0, none⟩ = some (.slice A0_0 l0_0.length c0_0) := bt_ HX0_1 0
  have hxX0_1_1 : (w.alloc (.cells #[.slice A0_0 l0_0.length c0_0, .int .i64 a0_1] 32)).cell? ⟨w.heap.size, 1, none⟩ = some (.int .i64 a0_1) := bt_ HX0_1 1
  go_wp2_with fail
  refine (laws_szStore.calls k _ _ l0_0 a0_1 1048576 z0 _ (Kd.C_below HR0_0.out HB_1.out) HC0_0.out HZ0.out).mono ?_
  rintro e w2 ⟨rfl, hb2⟩
  clear hxX0_1_0
  clear hxX0_1_1
  have HB_2 := Aside0.mk (below_step HB_1.out hb2)
  clear HB_1
  have HX0_2 := Aside0.mk (blk_below HX0_1.out hb2)
  clear HX0_1
  have HL2 := Aside0.mk (show (w.alloc (.cells #[.slice A0_0 l0_0.length c0_0, .int .i64 a0_1] 32)).heap.size ≤ w2.heap.size from hb2.size)
  clear hb2
  have hxX0_2_0 : w2.cell? ⟨w.heap.size, 0, none⟩ = some (.slice A0_0 l0_0.length c0_0) := bt_ HX0_2 0
  have hxX0_2_1 : w2.cell? ⟨w.heap.size, 1, none⟩ = some (.int .i64 a0_1) := bt_ HX0_2 1
  go_wp2_with fail
  refine (laws_toStore.calls k _ _ l0_0 a0_1 x0c0 x0c1 _ (Kd.C_below HR0_0.out HB_2.out) HC0_0.out HT0.out).mono ?_
  rintro e w3 ⟨v0_0, rfl, ho0_0, hb3⟩
  clear hxX0_2_0
  clear hxX0_2_1
  have HB_3 := Aside0.mk (below_step HB_2.out hb3)
  clear HB_2
  have HX0_3 := Aside0.mk (blk_below HX0_2.out hb3)
  clear HX0_2
  have HL3 := Aside0.mk (show w2.heap.size ≤ w3.heap.size from hb3.size)
  have HD0_0 := Aside0.mk ho0_0
  obtain ⟨Ad0_0, cd0_0, rfl⟩ := Kd.S_slice HD0_0.out
  clear ho0_0 hb3
  go_wp2_with fail
  refine (spec_TruncateTo.calls k _ _ x0c0 x0c1 a1 wc0_0 wc0_1 wc1_0 _ (Kd.S_reads' HD0_0.out).2.2 (Kd.S_reads' HD0_0.out).2.1 HWS.out).mono ?_
  rintro e w4 ⟨uw0, rfl, ho0, hb4⟩
  have HB_4 := Aside0.mk (below_step HB_3.out hb4)
  clear HB_3
  have HX0_4 := Aside0.mk (blk_below HX0_3.out hb4)
  clear HX0_3
  have HL4 := Aside0.mk (show w3.heap.size ≤ w4.heap.size from hb4.size)
  have HW0_0_304 := Aside0.mk (Kd.N_lower (Kd.N_mono (ok' := fun k_ => (w3.heap.size ≤ k_ ∧ k_ < w4.heap.size) ∧ True) (Kd.N_bound ho0) (fun k_ h_ => ⟨⟨h_.1, h_.2⟩, trivial⟩)) (show w.heap.size ≤ w3.heap.size by have l0_ := HL1.out; have l1_ := HL2.out; have l2_ := HL3.out; have l3_ := HL4.out; omega))
  clear ho0 hb4
  obtain ⟨AW0_0, cW0_0, rfl⟩ := Kd.N_slice HW0_0_304.out
  have HB_5 := Aside0.mk (below_alloc HB_4.out (.cells #[.slice AW0_0 wc0_0.length cW0_0, .int .i64 wc0_1] 24))
  clear HB_4
  have HX0_5 := Aside0.mk (blk_alloc HX0_4.out (.cells #[.slice AW0_0 wc0_0.length cW0_0, .int .i64 wc0_1] 24))
  clear HX0_4
  have HW0_0_5 := Aside0.mk (Kd.N_alloc HW0_0_304.out (.cells #[.slice AW0_0 wc0_0.length cW0_0, .int .i64 wc0_1] 24))
  clear HW0_0_304
  have HL5 := Aside0.mk (show (w4.alloc (.cells #[.slice AW0_0 wc0_0.length cW0_0, .int .i64 wc0_1] 24)).heap.size = w4.heap.size + 1 by rw [World.alloc]; exact Array.size_push _)
  have HYW0_5 := Aside0.mk (show (w4.alloc (.cells #[.slice AW0_0 wc0_0.length cW0_0, .int .i64 wc0_1] 24)).heap[w4.heap.size]? = some (.cells #[.slice AW0_0 wc0_0.length cW0_0, .int .i64 wc0_1] 24 (0, 0)) by rw [World.alloc]; exact Array.getElem?_push_size)
  clear HD0_0
  have hxX0_5_0 : (w4.alloc (.cells #[.slice AW0_0 wc0_0.length cW0_0, .int .i64 wc0_1] 24)).cell? ⟨w.heap.size, 0, none⟩ = some (.slice A0_0 l0_0.length c0_0) := bt_ HX0_5 0
  have hxX0_5_1 : (w4.alloc (.cells #[.slice AW0_0 wc0_0.length cW0_0, .int .i64 wc0_1] 24)).cell? ⟨w.heap.size, 1, none⟩ = some (.int .i64 a0_1) := bt_ HX0_5 1
  go_wp2_with fail
  refine (laws_toStore.calls k _ _ l0_0 a0_1 x0c0 x0c1 _ (Kd.C_below HR0_0.out HB_5.out) HC0_0.out HT0.out).mono ?_
  rintro e w6 ⟨v0_0, rfl, ho0_0, hb6⟩
  clear hxX0_5_0
  clear hxX0_5_1
  have HB_6 := Aside0.mk (below_step HB_5.out hb6)
  clear HB_5
  have HX0_6 := Aside0.mk (blk_below HX0_5.out hb6)
  clear HX0_5
  have HW0_0_6 := Aside0.mk (Kd.N_below HW0_0_5.out hb6)
  clear HW0_0_5
  have HYW0_6 := Aside0.mk (blk_below HYW0_5.out hb6)
  clear HYW0_5
  have HL6 := Aside0.mk (show (w4.alloc (.cells #[.slice AW0_0 wc0_0.length cW0_0, .int .i64 wc0_1] 24)).heap.size ≤ w6.heap.size from hb6.size)
  have HD0_0_306 := Aside0.mk (Kd.S_lower (Kd.S_mono (ok' := fun k_ => ((w4.alloc (.cells #[.slice AW0_0 wc0_0.length cW0_0, .int .i64 wc0_1] 24)).heap.size ≤ k_ ∧ k_ < w6.heap.size) ∧ ∃ q_, q_ ∈ 65 :: (k65).E ∧ ∃ c_, w6.heap[k_]? = some (.cells c_ q_ (0, 0))) (Kd.S_bound ho0_0) (fun k_ h_ => ⟨⟨h_.2.1, h_.2.2.1⟩, h_.2.2.2⟩)) (show w.heap.size ≤ (w4.alloc (.cells #[.slice AW0_0 wc0_0.length cW0_0, .int .i64 wc0_1] 24)).heap.size by have l0_ := HL1.out; have l1_ := HL2.out; have l2_ := HL3.out; have l3_ := HL4.out; have l4_ := HL5.out; have l5_ := HL6.out; omega))
  clear ho0_0 hb6
  obtain ⟨AD0_0, cD0_0, rfl⟩ := Kd.S_slice HD0_0_306.out
  have HB_7 := Aside0.mk (below_alloc HB_6.out (.cells #[.slice AD0_0 x0c0.length cD0_0, .int .i64 x0c1] 24))
  clear HB_6
  have HX0_7 := Aside0.mk (blk_alloc HX0_6.out (.cells #[.slice AD0_0 x0c0.length cD0_0, .int .i64 x0c1] 24))
  clear HX0_6
  have HW0_0_7 := Aside0.mk (Kd.N_alloc HW0_0_6.out (.cells #[.slice AD0_0 x0c0.length cD0_0, .int .i64 x0c1] 24))
  clear HW0_0_6
  have HYW0_7 := Aside0.mk (blk_alloc HYW0_6.out (.cells #[.slice AD0_0 x0c0.length cD0_0, .int .i64 x0c1] 24))
  clear HYW0_6
  have HD0_0_7 := Aside0.mk (Kd.S_alloc HD0_0_306.out (.cells #[.slice AD0_0 x0c0.length cD0_0, .int .i64 x0c1] 24))
  clear HD0_0_306
  have HL7 := Aside0.mk (show (w6.alloc (.cells #[.slice AD0_0 x0c0.length cD0_0, .int .i64 x0c1] 24)).heap.size = w6.heap.size + 1 by rw [World.alloc]; exact Array.size_push _)
  have HYD0_7 := Aside0.mk (show (w6.alloc (.cells #[.slice AD0_0 x0c0.length cD0_0, .int .i64 x0c1] 24)).heap[w6.heap.size]? = some (.cells #[.slice AD0_0 x0c0.length cD0_0, .int .i64 x0c1] 24 (0, 0)) by rw [World.alloc]; exact Array.getElem?_push_size)
  have hxYD0_7_0 : (w6.alloc (.cells #[.slice AD0_0 x0c0.length cD0_0, .int .i64 x0c1] 24)).cell? ⟨w6.heap.size, 0, none⟩ = some (.slice AD0_0 x0c0.length cD0_0) := bt_ HYD0_7 0
  have hxYD0_7_1 : (w6.alloc (.cells #[.slice AD0_0 x0c0.length cD0_0, .int .i64 x0c1] 24)).cell? ⟨w6.heap.size, 1, none⟩ = some (.int .i64 x0c1) := bt_ HYD0_7 1
  go_wp2_with fail
  refine (impl_TruncateTo.calls k _ _ x0c0 x0c1 a1 gc0_0 gc0_1 wc1_0 _ (Kd.S_reads' HD0_0_7.out).2.2 (Kd.S_reads' HD0_0_7.out).2.1 HGI.out).mono ?_
  rintro e w8 ⟨ug0, rfl, ho0, hb8⟩
  clear hxYD0_7_0
  clear hxYD0_7_1
  have HB_8 := Aside0.mk (below_step HB_7.out hb8)
  clear HB_7
  have HX0_8 := Aside0.mk (blk_below HX0_7.out hb8)
  clear HX0_7
  have HW0_0_8 := Aside0.mk (Kd.N_below HW0_0_7.out hb8)
  clear HW0_0_7
  have HYW0_8 := Aside0.mk (blk_below HYW0_7.out hb8)
  clear HYW0_7
  have HD0_0_8 := Aside0.mk (Kd.S_below HD0_0_7.out hb8)
  clear HD0_0_7
  have HYD0_8 := Aside0.mk (blk_below HYD0_7.out hb8)
  clear HYD0_7
  have HL8 := Aside0.mk (show (w6.alloc (.cells #[.slice AD0_0 x0c0.length cD0_0, .int .i64 x0c1] 24)).heap.size ≤ w8.heap.size from hb8.size)
  have HG0_0_308 := Aside0.mk (Kd.S_lower (Kd.S_mono (ok' := fun k_ => ((w6.alloc (.cells #[.slice AD0_0 x0c0.length cD0_0, .int .i64 x0c1] 24)).heap.size ≤ k_ ∧ k_ < w8.heap.size) ∧ ∃ q_, q_ ∈ 65 :: (k65).E ∧ ∃ c_, w8.heap[k_]? = some (.cells c_ q_ (0, 0))) (Kd.S_bound ho0) (fun k_ h_ => ⟨⟨h_.2.1, h_.2.2.1⟩, h_.2.2.2⟩)) (show w.heap.size ≤ (w6.alloc (.cells #[.slice AD0_0 x0c0.length cD0_0, .int .i64 x0c1] 24)).heap.size by have l0_ := HL1.out; have l1_ := HL2.out; have l2_ := HL3.out; have l3_ := HL4.out; have l4_ := HL5.out; have l5_ := HL6.out; have l6_ := HL7.out; have l7_ := HL8.out; omega))
  clear ho0 hb8
  obtain ⟨AG0_0, cG0_0, rfl⟩ := Kd.S_slice HG0_0_308.out
  have HB_9 := Aside0.mk (below_alloc HB_8.out (.cells #[.slice AG0_0 gc0_0.length cG0_0, .int .i64 gc0_1] 24))
  clear HB_8
  have HX0_9 := Aside0.mk (blk_alloc HX0_8.out (.cells #[.slice AG0_0 gc0_0.length cG0_0, .int .i64 gc0_1] 24))
  clear HX0_8
  have HW0_0_9 := Aside0.mk (Kd.N_alloc HW0_0_8.out (.cells #[.slice AG0_0 gc0_0.length cG0_0, .int .i64 gc0_1] 24))
  clear HW0_0_8
  have HYW0_9 := Aside0.mk (blk_alloc HYW0_8.out (.cells #[.slice AG0_0 gc0_0.length cG0_0, .int .i64 gc0_1] 24))
  clear HYW0_8
  have HD0_0_9 := Aside0.mk (Kd.S_alloc HD0_0_8.out (.cells #[.slice AG0_0 gc0_0.length cG0_0, .int .i64 gc0_1] 24))
  clear HD0_0_8
  have HYD0_9 := Aside0.mk (blk_alloc HYD0_8.out (.cells #[.slice AG0_0 gc0_0.length cG0_0, .int .i64 gc0_1] 24))
  clear HYD0_8
  have HG0_0_9 := Aside0.mk (Kd.S_alloc HG0_0_308.out (.cells #[.slice AG0_0 gc0_0.length cG0_0, .int .i64 gc0_1] 24))
  clear HG0_0_308
  have HL9 := Aside0.mk (show (w8.alloc (.cells #[.slice AG0_0 gc0_0.length cG0_0, .int .i64 gc0_1] 24)).heap.size = w8.heap.size + 1 by rw [World.alloc]; exact Array.size_push _)
  have HYG0_9 := Aside0.mk (show (w8.alloc (.cells #[.slice AG0_0 gc0_0.length cG0_0, .int .i64 gc0_1] 24)).heap[w8.heap.size]? = some (.cells #[.slice AG0_0 gc0_0.length cG0_0, .int .i64 gc0_1] 24 (0, 0)) by rw [World.alloc]; exact Array.getElem?_push_size)
  have hxYG0_9_0 : (w8.alloc (.cells #[.slice AG0_0 gc0_0.length cG0_0, .int .i64 gc0_1] 24)).cell? ⟨w8.heap.size, 0, none⟩ = some (.slice AG0_0 gc0_0.length cG0_0) := bt_ HYG0_9 0
  have hxYG0_9_1 : (w8.alloc (.cells #[.slice AG0_0 gc0_0.length cG0_0, .int .i64 gc0_1] 24)).cell? ⟨w8.heap.size, 1, none⟩ = some (.int .i64 gc0_1) := bt_ HYG0_9 1
  have hxYW0_9_0 : (w8.alloc (.cells #[.slice AG0_0 gc0_0.length cG0_0, .int .i64 gc0_1] 24)).cell? ⟨w4.heap.size, 0, none⟩ = some (.slice AW0_0 wc0_0.length cW0_0) := bt_ HYW0_9 0
  have hxYW0_9_1 : (w8.alloc (.cells #[.slice AG0_0 gc0_0.length cG0_0, .int .i64 gc0_1] 24)).cell? ⟨w4.heap.size, 1, none⟩ = some (.int .i64 wc0_1) := bt_ HYW0_9 1
  go_wp2_with fail
  refine (laws_eqStore.calls k _ _ gc0_0 gc0_1 _ _ wc0_0 wc0_1 true _ (Kd.S_reads' HG0_0_9.out).2.2 (Kd.S_reads' HG0_0_9.out).2.1 (Kd.N_reads' HW0_0_9.out).2.2 (Kd.N_reads' HW0_0_9.out).2.1 HE0.out).mono ?_
  rintro e w10 ⟨rfl, hb10⟩
  try replace hb10 := hb10.below
  clear hxYG0_9_0
  clear hxYG0_9_1
  clear hxYW0_9_0
  clear hxYW0_9_1
  have HB_10 := Aside0.mk (below_step HB_9.out hb10)
  clear HB_9
  have HX0_10 := Aside0.mk (blk_below HX0_9.out hb10)
  clear HX0_9
  have HW0_0_10 := Aside0.mk (Kd.N_below HW0_0_9.out hb10)
  clear HW0_0_9
  have HYW0_10 := Aside0.mk (blk_below HYW0_9.out hb10)
  clear HYW0_9
  have HD0_0_10 := Aside0.mk (Kd.S_below HD0_0_9.out hb10)
  clear HD0_0_9
  have HYD0_10 := Aside0.mk (blk_below HYD0_9.out hb10)
  clear HYD0_9
  have HG0_0_10 := Aside0.mk (Kd.S_below HG0_0_9.out hb10)
  clear HG0_0_9
  have HYG0_10 := Aside0.mk (blk_below HYG0_9.out hb10)
  clear HYG0_9
  have HL10 := Aside0.mk (show (w8.alloc (.cells #[.slice AG0_0 gc0_0.length cG0_0, .int .i64 gc0_1] 24)).heap.size ≤ w10.heap.size from hb10.size)
  clear hb10
  try go_wp2
  have HB_11 := qH_ HB_10
  clear HB_10
  have HX0_11 := qK_ HX0_10
  clear HX0_10
  have HW0_0_11 := Aside0.mk (Kd.N_drew HW0_0_10.out)
  clear HW0_0_10
  have HYW0_11 := qK_ HYW0_10
  clear HYW0_10
  have HD0_0_11 := Aside0.mk (Kd.S_drew HD0_0_10.out)
  clear HD0_0_10
  have HYD0_11 := qK_ HYD0_10
  clear HYD0_10
  have HG0_0_11 := Aside0.mk (Kd.S_drew HG0_0_10.out)
  clear HG0_0_10
  have HYG0_11 := qK_ HYG0_10
  clear HYG0_10
  have HL11 := Aside0.mk (show w10.heap.size = w10.drew.heap.size from rfl)
  refine start_ (n := 5) (S := fun w' => w'.cell? ⟨w6.heap.size, 0, none⟩ = some (.slice AD0_0 x0c0.length cD0_0) ∧ w'.cell? ⟨w6.heap.size, 1, none⟩ = some (.int .i64 x0c1) ∧ w'.cell? ⟨w.heap.size, 0, none⟩ = some (.slice A0_0 l0_0.length c0_0) ∧ w'.cell? ⟨w.heap.size, 1, none⟩ = some (.int .i64 a0_1)) (ds := []) #[false, false, false, false, false] (by kernel_rfl) rfl rfl ⟨bt_ HYD0_11 0, bt_ HYD0_11 1, bt_ HX0_11 0, bt_ HX0_11 1⟩ (fun hHeld => ?_)
  generalize w10.drew = w11 at HB_11 HX0_11 HW0_0_11 HYW0_11 HD0_0_11 HYD0_11 HG0_0_11 HYG0_11 HL11 hHeld ⊢
  refine take_ (i := 0) (N := some 45) (v := ?_) (a' := ?_) #[true, false, false, false, false] rfl rfl (by kernel_rfl) (fun _ _ _ h => h) (Or.inl ⟨by rfl, ?_⟩) hHeld ?_ ?_
  rotate_left
  ·rintro w' ⟨s0, s1, s2, s3⟩
   go_simp
   with_reducible rfl
  rotate_left
  ·simp only [Act.put, List.setIfInBounds_toArray, List.set_cons_zero, List.set_cons_succ, i64_w, i32_w]
   rfl
  refine take_ (i := 1) (N := some 46) (v := ?_) (a' := ?_) #[true, true, false, false, false] rfl rfl (by kernel_rfl) (fun _ _ _ h => h) (Or.inl ⟨by rfl, ?_⟩) hHeld ?_ ?_
  rotate_left
  ·rintro w' ⟨s0, s1, s2, s3⟩
   go_simp
   with_reducible rfl
  rotate_left
  ·simp only [Act.put, List.setIfInBounds_toArray, List.set_cons_zero, List.set_cons_succ, i64_w, i32_w]
   rfl
  refine one_ (i := 2) (N := some 47) #[true, true, true, false, false] rfl rfl (by kernel_rfl) (by decide) (fun K hK => ?_)
  refine gs_ Try.func21 #[.agg #[.slice A0_0 l0_0.length c0_0, .int .i64 a0_1]] rfl (by (try simp only [List.map_toArray, List.map_cons, List.map_nil]); first | done | rfl) ?_
  refine (laws_toStore.calls k _ _ l0_0 a0_1 x0c0 x0c1 _ (Kd.C_below HR0_0.out HB_11.out) HC0_0.out HT0.out).mono ?_
  rintro e w12 ⟨v9_0, rfl, ho0, hb12⟩
  have HB_12 := Aside0.mk (below_step HB_11.out hb12)
  clear HB_11
  have HX0_12 := Aside0.mk (blk_below HX0_11.out hb12)
  clear HX0_11
  have HW0_0_12 := Aside0.mk (Kd.N_below HW0_0_11.out hb12)
  clear HW0_0_11
  have HYW0_12 := Aside0.mk (blk_below HYW0_11.out hb12)
  clear HYW0_11
  have HD0_0_12 := Aside0.mk (Kd.S_below HD0_0_11.out hb12)
  clear HD0_0_11
  have HYD0_12 := Aside0.mk (blk_below HYD0_11.out hb12)
  clear HYD0_11
  have HG0_0_12 := Aside0.mk (Kd.S_below HG0_0_11.out hb12)
  clear HG0_0_11
  have HYG0_12 := Aside0.mk (blk_below HYG0_11.out hb12)
  clear HYG0_11
  have HL12 := Aside0.mk (show w11.heap.size ≤ w12.heap.size from hb12.size)
  refine ⟨_, rfl, ?_⟩
  have HE9_0 := Aside0.mk ho0
  obtain ⟨A9_0, c9_0, rfl⟩ := Kd.S_slice HE9_0.out
  clear ho0 hb12
  refine hK.out _ _ ⟨bt_ HYD0_12 0, bt_ HYD0_12 1, bt_ HX0_12 0, bt_ HX0_12 1⟩ (fun hHeld => ?_)
  clear hK K
  refine no_ ?_
  refine one_ (i := 3) (N := some 48) #[true, true, true, true, false] rfl rfl (by kernel_rfl) (by decide) (fun K hK => ?_)
  refine gs_ Try.func16 #[.agg #[.slice AD0_0 x0c0.length cD0_0, .int .i64 x0c1], .agg #[.slice A9_0 x0c0.length c9_0, .int .i64 x0c1]] rfl (by (try simp only [List.map_toArray, List.map_cons, List.map_nil]); first | done | rfl) ?_
  refine (laws_eqStore.calls k _ _ x0c0 x0c1 _ _ x0c0 x0c1 true _ (Kd.S_reads' HD0_0_12.out).2.2 (Kd.S_reads' HD0_0_12.out).2.1 (Kd.S_reads' HE9_0.out).2.2 (Kd.S_reads' HE9_0.out).2.1 HF0.out).mono ?_
  rintro e w13 ⟨rfl, hb13⟩
  try replace hb13 := hb13.below
  have HB_13 := Aside0.mk (below_step HB_12.out hb13)
  clear HB_12
  have HX0_13 := Aside0.mk (blk_below HX0_12.out hb13)
  clear HX0_12
  have HW0_0_13 := Aside0.mk (Kd.N_below HW0_0_12.out hb13)
  clear HW0_0_12
  have HYW0_13 := Aside0.mk (blk_below HYW0_12.out hb13)
  clear HYW0_12
  have HD0_0_13 := Aside0.mk (Kd.S_below HD0_0_12.out hb13)
  clear HD0_0_12
  have HYD0_13 := Aside0.mk (blk_below HYD0_12.out hb13)
  clear HYD0_12
  have HG0_0_13 := Aside0.mk (Kd.S_below HG0_0_12.out hb13)
  clear HG0_0_12
  have HYG0_13 := Aside0.mk (blk_below HYG0_12.out hb13)
  clear HYG0_12
  have HL13 := Aside0.mk (show w12.heap.size ≤ w13.heap.size from hb13.size)
  refine ⟨_, rfl, ?_⟩
  clear HE9_0 hb13
  refine hK.out _ _ ⟨bt_ HYD0_13 0, bt_ HYD0_13 1, bt_ HX0_13 0, bt_ HX0_13 1⟩ (fun hHeld => ?_)
  clear hK K
  refine no_ ?_
  refine pure_ (i := 4) (N := some 49) (v := ?_) (a' := ?_) #[true, true, true, true, true] rfl rfl (by kernel_rfl) (fun _ _ _ h => h) (Or.inl ⟨by rfl, ?_⟩) ?_ ?_
  rotate_left
  ·intro w'
   go_simp
   with_reducible rfl
  rotate_left
  ·simp only [Act.put, List.setIfInBounds_toArray, List.set_cons_zero, List.set_cons_succ, i64_w, i32_w]
   rfl
  refine done_ (by kernel_rfl) ?_
  have hxYD0_13_0 : w13.cell? ⟨w6.heap.size, 0, none⟩ = some (.slice AD0_0 x0c0.length cD0_0) := bt_ HYD0_13 0
  have hxYD0_13_1 : w13.cell? ⟨w6.heap.size, 1, none⟩ = some (.int .i64 x0c1) := bt_ HYD0_13 1
  go_wp2_with fail
  refine (laws_markStore.calls k (fun k_ => ((w4.alloc (.cells #[.slice AW0_0 wc0_0.length cW0_0, .int .i64 wc0_1] 24)).heap.size ≤ k_ ∧ k_ < w6.heap.size) ∧ ∃ q_, q_ ∈ 65 :: (k65).E ∧ ∃ c_, w6.heap[k_]? = some (.cells c_ q_ (0, 0))) _ x0c0 x0c1 1 k0 kx0_0 w _ HB_13.out HD0_0_13.out HK0.out).mono ?_
  rintro e w14 ⟨rfl, hy0, hb, hk⟩
  clear hxYD0_13_0
  clear hxYD0_13_1
  have HB_14 := Aside0.mk (hb)
  clear HB_13
  have HX0_14 := Aside0.mk (blk_kept HX0_13.out hk (fun h2_ => by have h3_ := h2_.1.1; have h4_ := h2_.1.2; clear h2_; have l0_ := HL1.out; have l1_ := HL2.out; have l2_ := HL3.out; have l3_ := HL4.out; have l4_ := HL5.out; have l5_ := HL6.out; have l6_ := HL7.out; have l7_ := HL8.out; have l8_ := HL9.out; have l9_ := HL10.out; have l10_ := HL11.out; have l11_ := HL12.out; have l12_ := HL13.out; omega))
  clear HX0_13
  have HW0_0_14 := Aside0.mk (Kd.N_kept HW0_0_13.out hk (fun k_ h_ h2_ => by have h3_ := h_.1.1; have h4_ := h_.1.2; have h5_ := h2_.1.1; have h6_ := h2_.1.2; clear h_ h2_; have l0_ := HL1.out; have l1_ := HL2.out; have l2_ := HL3.out; have l3_ := HL4.out; have l4_ := HL5.out; have l5_ := HL6.out; have l6_ := HL7.out; have l7_ := HL8.out; have l8_ := HL9.out; have l9_ := HL10.out; have l10_ := HL11.out; have l11_ := HL12.out; have l12_ := HL13.out; omega))
  clear HW0_0_13
  have HYW0_14 := Aside0.mk (blk_kept HYW0_13.out hk (fun h2_ => by have h3_ := h2_.1.1; have h4_ := h2_.1.2; clear h2_; have l0_ := HL1.out; have l1_ := HL2.out; have l2_ := HL3.out; have l3_ := HL4.out; have l4_ := HL5.out; have l5_ := HL6.out; have l6_ := HL7.out; have l7_ := HL8.out; have l8_ := HL9.out; have l9_ := HL10.out; have l10_ := HL11.out; have l11_ := HL12.out; have l12_ := HL13.out; omega))
  clear HYW0_13
  have HYD0_14 := Aside0.mk (blk_kept HYD0_13.out hk (fun h2_ => by have h3_ := h2_.1.1; have h4_ := h2_.1.2; clear h2_; have l0_ := HL1.out; have l1_ := HL2.out; have l2_ := HL3.out; have l3_ := HL4.out; have l4_ := HL5.out; have l5_ := HL6.out; have l6_ := HL7.out; have l7_ := HL8.out; have l8_ := HL9.out; have l9_ := HL10.out; have l10_ := HL11.out; have l11_ := HL12.out; have l12_ := HL13.out; omega))
  clear HYD0_13
  have HG0_0_14 := Aside0.mk (Kd.S_kept HG0_0_13.out hk (fun k_ h_ h2_ => by have h3_ := h_.1.1; have h4_ := h_.1.2; have h5_ := h2_.1.1; have h6_ := h2_.1.2; clear h_ h2_; have l0_ := HL1.out; have l1_ := HL2.out; have l2_ := HL3.out; have l3_ := HL4.out; have l4_ := HL5.out; have l5_ := HL6.out; have l6_ := HL7.out; have l7_ := HL8.out; have l8_ := HL9.out; have l9_ := HL10.out; have l10_ := HL11.out; have l11_ := HL12.out; have l12_ := HL13.out; omega))
  clear HG0_0_13
  have HYG0_14 := Aside0.mk (blk_kept HYG0_13.out hk (fun h2_ => by have h3_ := h2_.1.1; have h4_ := h2_.1.2; clear h2_; have l0_ := HL1.out; have l1_ := HL2.out; have l2_ := HL3.out; have l3_ := HL4.out; have l4_ := HL5.out; have l5_ := HL6.out; have l6_ := HL7.out; have l7_ := HL8.out; have l8_ := HL9.out; have l9_ := HL10.out; have l10_ := HL11.out; have l11_ := HL12.out; have l12_ := HL13.out; omega))
  clear HYG0_13
  have HD0_0_14 := Aside0.mk (hy0)
  clear HD0_0_13
  have HL14 := Aside0.mk (show w13.heap.size ≤ w14.heap.size from hk.1)
  clear hb hk hy0
  clear HD0_0_14
  clear HYD0_14
  have hxYG0_14_0 : w14.cell? ⟨w8.heap.size, 0, none⟩ = some (.slice AG0_0 gc0_0.length cG0_0) := bt_ HYG0_14 0
  have hxYG0_14_1 : w14.cell? ⟨w8.heap.size, 1, none⟩ = some (.int .i64 gc0_1) := bt_ HYG0_14 1
  have hxYW0_14_0 : w14.cell? ⟨w4.heap.size, 0, none⟩ = some (.slice AW0_0 wc0_0.length cW0_0) := bt_ HYW0_14 0
  have hxYW0_14_1 : w14.cell? ⟨w4.heap.size, 1, none⟩ = some (.int .i64 wc0_1) := bt_ HYW0_14 1
  go_wp2_with fail
  refine (laws_eqStore.calls k _ _ gc0_0 gc0_1 _ _ wc0_0 wc0_1 true _ (Kd.S_reads' HG0_0_14.out).2.2 (Kd.S_reads' HG0_0_14.out).2.1 (Kd.N_reads' HW0_0_14.out).2.2 (Kd.N_reads' HW0_0_14.out).2.1 HE0.out).mono ?_
  rintro e w15 ⟨rfl, hb15⟩
  try replace hb15 := hb15.below
  clear hxYG0_14_0
  clear hxYG0_14_1
  clear hxYW0_14_0
  clear hxYW0_14_1
  have HB_15 := Aside0.mk (below_step HB_14.out hb15)
  clear HB_14
  have HX0_15 := Aside0.mk (blk_below HX0_14.out hb15)
  clear HX0_14
  have HW0_0_15 := Aside0.mk (Kd.N_below HW0_0_14.out hb15)
  clear HW0_0_14
  have HYW0_15 := Aside0.mk (blk_below HYW0_14.out hb15)
  clear HYW0_14
  have HG0_0_15 := Aside0.mk (Kd.S_below HG0_0_14.out hb15)
  clear HG0_0_14
  have HYG0_15 := Aside0.mk (blk_below HYG0_14.out hb15)
  clear HYG0_14
  have HL15 := Aside0.mk (show w14.heap.size ≤ w15.heap.size from hb15.size)
  clear hb15
  have hxYG0_15_0 : w15.cell? ⟨w8.heap.size, 0, none⟩ = some (.slice AG0_0 gc0_0.length cG0_0) := bt_ HYG0_15 0
  have hxYG0_15_1 : w15.cell? ⟨w8.heap.size, 1, none⟩ = some (.int .i64 gc0_1) := bt_ HYG0_15 1
  go_wp2_with fail
  refine (laws_markStore.calls k (fun k_ => ((w6.alloc (.cells #[.slice AD0_0 x0c0.length cD0_0, .int .i64 x0c1] 24)).heap.size ≤ k_ ∧ k_ < w8.heap.size) ∧ ∃ q_, q_ ∈ 65 :: (k65).E ∧ ∃ c_, w8.heap[k_]? = some (.cells c_ q_ (0, 0))) _ gc0_0 gc0_1 1 q0 mg0_0 w _ HB_15.out HG0_0_15.out HM0.out).mono ?_
  rintro e w16 ⟨rfl, hy0, hb, hk⟩
  clear hxYG0_15_0
  clear hxYG0_15_1
  have HB_16 := Aside0.mk (hb)
  clear HB_15
  have HX0_16 := Aside0.mk (blk_kept HX0_15.out hk (fun h2_ => by have h3_ := h2_.1.1; have h4_ := h2_.1.2; clear h2_; have l0_ := HL1.out; have l1_ := HL2.out; have l2_ := HL3.out; have l3_ := HL4.out; have l4_ := HL5.out; have l5_ := HL6.out; have l6_ := HL7.out; have l7_ := HL8.out; have l8_ := HL9.out; have l9_ := HL10.out; have l10_ := HL11.out; have l11_ := HL12.out; have l12_ := HL13.out; have l13_ := HL14.out; have l14_ := HL15.out; omega))
  clear HX0_15
  have HW0_0_16 := Aside0.mk (Kd.N_kept HW0_0_15.out hk (fun k_ h_ h2_ => by have h3_ := h_.1.1; have h4_ := h_.1.2; have h5_ := h2_.1.1; have h6_ := h2_.1.2; clear h_ h2_; have l0_ := HL1.out; have l1_ := HL2.out; have l2_ := HL3.out; have l3_ := HL4.out; have l4_ := HL5.out; have l5_ := HL6.out; have l6_ := HL7.out; have l7_ := HL8.out; have l8_ := HL9.out; have l9_ := HL10.out; have l10_ := HL11.out; have l11_ := HL12.out; have l12_ := HL13.out; have l13_ := HL14.out; have l14_ := HL15.out; omega))
  clear HW0_0_15
  have HYW0_16 := Aside0.mk (blk_kept HYW0_15.out hk (fun h2_ => by have h3_ := h2_.1.1; have h4_ := h2_.1.2; clear h2_; have l0_ := HL1.out; have l1_ := HL2.out; have l2_ := HL3.out; have l3_ := HL4.out; have l4_ := HL5.out; have l5_ := HL6.out; have l6_ := HL7.out; have l7_ := HL8.out; have l8_ := HL9.out; have l9_ := HL10.out; have l10_ := HL11.out; have l11_ := HL12.out; have l12_ := HL13.out; have l13_ := HL14.out; have l14_ := HL15.out; omega))
  clear HYW0_15
  have HYG0_16 := Aside0.mk (blk_kept HYG0_15.out hk (fun h2_ => by have h3_ := h2_.1.1; have h4_ := h2_.1.2; clear h2_; have l0_ := HL1.out; have l1_ := HL2.out; have l2_ := HL3.out; have l3_ := HL4.out; have l4_ := HL5.out; have l5_ := HL6.out; have l6_ := HL7.out; have l7_ := HL8.out; have l8_ := HL9.out; have l9_ := HL10.out; have l10_ := HL11.out; have l11_ := HL12.out; have l12_ := HL13.out; have l13_ := HL14.out; have l14_ := HL15.out; omega))
  clear HYG0_15
  have HG0_0_16 := Aside0.mk (hy0)
  clear HG0_0_15
  have HL16 := Aside0.mk (show w15.heap.size ≤ w16.heap.size from hk.1)
  clear hb hk hy0
  have HLG0_0 := Aside0.mk (Kd.S_reads' HG0_0_16.out).1
  have HG0_0_516 := Aside0.mk (show Kd.S k65 65 w16 w.heap.size (fun k_ => ((w6.alloc (.cells #[.slice AD0_0 x0c0.length cD0_0, .int .i64 x0c1] 24)).heap.size ≤ k_ ∧ k_ < w8.heap.size) ∧ ∃ q_, q_ ∈ 65 :: (k65).E ∧ ∃ c_, w8.heap[k_]? = some (.cells c_ q_ (0, 0))) (.slice AG0_0 mg0_0.length cG0_0) mg0_0 by rw [← HLG0_0.out]; exact HG0_0_16.out)
  clear HG0_0_16
  have hxYG0_16_0 : w16.cell? ⟨w8.heap.size, 0, none⟩ = some (.slice AG0_0 gc0_0.length cG0_0) := bt_ HYG0_16 0
  have hxYG0_16_1 : w16.cell? ⟨w8.heap.size, 1, none⟩ = some (.int .i64 gc0_1) := bt_ HYG0_16 1
  go_wp2_with fail
  rw [HLG0_0.out]
  refine (laws_heldStore.calls k _ _ mg0_0 gc0_1 1 q0 _ (Kd.S_reads' HG0_0_516.out).2.2 (Kd.S_reads' HG0_0_516.out).2.1 HQ0.out).mono ?_
  rintro e w17 ⟨rfl, hb17⟩
  clear hxYG0_16_0
  clear hxYG0_16_1
  have HB_17 := Aside0.mk (below_step HB_16.out hb17)
  clear HB_16
  have HX0_17 := Aside0.mk (blk_below HX0_16.out hb17)
  clear HX0_16
  have HW0_0_17 := Aside0.mk (Kd.N_below HW0_0_16.out hb17)
  clear HW0_0_16
  have HYW0_17 := Aside0.mk (blk_below HYW0_16.out hb17)
  clear HYW0_16
  have HG0_0_17 := Aside0.mk (Kd.S_below HG0_0_516.out hb17)
  clear HG0_0_516
  have HYG0_17 := Aside0.mk (blk_below HYG0_16.out hb17)
  clear HYG0_16
  have HL17 := Aside0.mk (show w16.heap.size ≤ w17.heap.size from hb17.size)
  clear hb17
  have hxX0_17_0 : w17.cell? ⟨w.heap.size, 0, none⟩ = some (.slice A0_0 l0_0.length c0_0) := bt_ HX0_17 0
  have hxX0_17_1 : w17.cell? ⟨w.heap.size, 1, none⟩ = some (.int .i64 a0_1) := bt_ HX0_17 1
  go_wp2_with fail
  refine (laws_toStore.calls k _ _ l0_0 a0_1 x0c0 x0c1 _ (Kd.C_below HR0_0.out HB_17.out) HC0_0.out HT0.out).mono ?_
  rintro e w18 ⟨v0_0, rfl, ho0_0, hb18⟩
  clear hxX0_17_0
  clear hxX0_17_1
  have HB_18 := Aside0.mk (below_step HB_17.out hb18)
  clear HB_17
  have HX0_18 := Aside0.mk (blk_below HX0_17.out hb18)
  clear HX0_17
  have HW0_0_18 := Aside0.mk (Kd.N_below HW0_0_17.out hb18)
  clear HW0_0_17
  have HYW0_18 := Aside0.mk (blk_below HYW0_17.out hb18)
  clear HYW0_17
  have HG0_0_18 := Aside0.mk (Kd.S_below HG0_0_17.out hb18)
  clear HG0_0_17
  have HYG0_18 := Aside0.mk (blk_below HYG0_17.out hb18)
  clear HYG0_17
  have HL18 := Aside0.mk (show w17.heap.size ≤ w18.heap.size from hb18.size)
  have HD0_0 := Aside0.mk ho0_0
  obtain ⟨Ad0_0, cd0_0, rfl⟩ := Kd.S_slice HD0_0.out
  clear ho0_0 hb18
  clear HX0_18
  go_wp2_with fail
  refine (impl_TruncateTo.calls k _ _ x0c0 x0c1 a1 gc0_0 gc0_1 wc1_0 _ (Kd.S_reads' HD0_0.out).2.2 (Kd.S_reads' HD0_0.out).2.1 HGI.out).mono ?_
  rintro e w19 ⟨ug0, rfl, ho0, hb19⟩
  have HB_19 := Aside0.mk (below_step HB_18.out hb19)
  clear HB_18
  have HW0_0_19 := Aside0.mk (Kd.N_below HW0_0_18.out hb19)
  clear HW0_0_18
  have HYW0_19 := Aside0.mk (blk_below HYW0_18.out hb19)
  clear HYW0_18
  have HG0_0_19 := Aside0.mk (Kd.S_below HG0_0_18.out hb19)
  clear HG0_0_18
  have HYG0_19 := Aside0.mk (blk_below HYG0_18.out hb19)
  clear HYG0_18
  have HL19 := Aside0.mk (show w18.heap.size ≤ w19.heap.size from hb19.size)
  have HH0_0_319 := Aside0.mk (Kd.S_lower (Kd.S_mono (ok' := fun k_ => (w18.heap.size ≤ k_ ∧ k_ < w19.heap.size) ∧ ∃ q_, q_ ∈ 65 :: (k65).E ∧ ∃ c_, w19.heap[k_]? = some (.cells c_ q_ (0, 0))) (Kd.S_bound ho0) (fun k_ h_ => ⟨⟨h_.2.1, h_.2.2.1⟩, h_.2.2.2⟩)) (show w.heap.size ≤ w18.heap.size by have l0_ := HL1.out; have l1_ := HL2.out; have l2_ := HL3.out; have l3_ := HL4.out; have l4_ := HL5.out; have l5_ := HL6.out; have l6_ := HL7.out; have l7_ := HL8.out; have l8_ := HL9.out; have l9_ := HL10.out; have l10_ := HL11.out; have l11_ := HL12.out; have l12_ := HL13.out; have l13_ := HL14.out; have l14_ := HL15.out; have l15_ := HL16.out; have l16_ := HL17.out; have l17_ := HL18.out; have l18_ := HL19.out; omega))
  clear ho0 hb19
  obtain ⟨AH0_0, cH0_0, rfl⟩ := Kd.S_slice HH0_0_319.out
  have HB_20 := Aside0.mk (below_alloc HB_19.out (.cells #[.slice AH0_0 gc0_0.length cH0_0, .int .i64 gc0_1] 24))
  clear HB_19
  have HW0_0_20 := Aside0.mk (Kd.N_alloc HW0_0_19.out (.cells #[.slice AH0_0 gc0_0.length cH0_0, .int .i64 gc0_1] 24))
  clear HW0_0_19
  have HYW0_20 := Aside0.mk (blk_alloc HYW0_19.out (.cells #[.slice AH0_0 gc0_0.length cH0_0, .int .i64 gc0_1] 24))
  clear HYW0_19
  have HG0_0_20 := Aside0.mk (Kd.S_alloc HG0_0_19.out (.cells #[.slice AH0_0 gc0_0.length cH0_0, .int .i64 gc0_1] 24))
  clear HG0_0_19
  have HYG0_20 := Aside0.mk (blk_alloc HYG0_19.out (.cells #[.slice AH0_0 gc0_0.length cH0_0, .int .i64 gc0_1] 24))
  clear HYG0_19
  have HH0_0_20 := Aside0.mk (Kd.S_alloc HH0_0_319.out (.cells #[.slice AH0_0 gc0_0.length cH0_0, .int .i64 gc0_1] 24))
  clear HH0_0_319
  have HL20 := Aside0.mk (show (w19.alloc (.cells #[.slice AH0_0 gc0_0.length cH0_0, .int .i64 gc0_1] 24)).heap.size = w19.heap.size + 1 by rw [World.alloc]; exact Array.size_push _)
  have HYH0_20 := Aside0.mk (show (w19.alloc (.cells #[.slice AH0_0 gc0_0.length cH0_0, .int .i64 gc0_1] 24)).heap[w19.heap.size]? = some (.cells #[.slice AH0_0 gc0_0.length cH0_0, .int .i64 gc0_1] 24 (0, 0)) by rw [World.alloc]; exact Array.getElem?_push_size)
  clear HD0_0
  have hxYH0_20_0 : (w19.alloc (.cells #[.slice AH0_0 gc0_0.length cH0_0, .int .i64 gc0_1] 24)).cell? ⟨w19.heap.size, 0, none⟩ = some (.slice AH0_0 gc0_0.length cH0_0) := bt_ HYH0_20 0
  have hxYH0_20_1 : (w19.alloc (.cells #[.slice AH0_0 gc0_0.length cH0_0, .int .i64 gc0_1] 24)).cell? ⟨w19.heap.size, 1, none⟩ = some (.int .i64 gc0_1) := bt_ HYH0_20 1
  have hxYW0_20_0 : (w19.alloc (.cells #[.slice AH0_0 gc0_0.length cH0_0, .int .i64 gc0_1] 24)).cell? ⟨w4.heap.size, 0, none⟩ = some (.slice AW0_0 wc0_0.length cW0_0) := bt_ HYW0_20 0
  have hxYW0_20_1 : (w19.alloc (.cells #[.slice AH0_0 gc0_0.length cH0_0, .int .i64 gc0_1] 24)).cell? ⟨w4.heap.size, 1, none⟩ = some (.int .i64 wc0_1) := bt_ HYW0_20 1
  go_wp2_with fail
  refine (laws_eqStore.calls k _ _ gc0_0 gc0_1 _ _ wc0_0 wc0_1 true _ (Kd.S_reads' HH0_0_20.out).2.2 (Kd.S_reads' HH0_0_20.out).2.1 (Kd.N_reads' HW0_0_20.out).2.2 (Kd.N_reads' HW0_0_20.out).2.1 HE0.out).mono ?_
  rintro e w21 ⟨rfl, hb21⟩
  try replace hb21 := hb21.below
  clear hxYH0_20_0
  clear hxYH0_20_1
  clear hxYW0_20_0
  clear hxYW0_20_1
  have HB_21 := Aside0.mk (below_step HB_20.out hb21)
  clear HB_20
  have HW0_0_21 := Aside0.mk (Kd.N_below HW0_0_20.out hb21)
  clear HW0_0_20
  have HYW0_21 := Aside0.mk (blk_below HYW0_20.out hb21)
  clear HYW0_20
  have HG0_0_21 := Aside0.mk (Kd.S_below HG0_0_20.out hb21)
  clear HG0_0_20
  have HYG0_21 := Aside0.mk (blk_below HYG0_20.out hb21)
  clear HYG0_20
  have HH0_0_21 := Aside0.mk (Kd.S_below HH0_0_20.out hb21)
  clear HH0_0_20
  have HYH0_21 := Aside0.mk (blk_below HYH0_20.out hb21)
  clear HYH0_20
  have HL21 := Aside0.mk (show (w19.alloc (.cells #[.slice AH0_0 gc0_0.length cH0_0, .int .i64 gc0_1] 24)).heap.size ≤ w21.heap.size from hb21.size)
  clear hb21
  clear HW0_0_21
  clear HYW0_21
  clear HH0_0_21
  clear HYH0_21
  have hxYG0_21_0 : w21.cell? ⟨w8.heap.size, 0, none⟩ = some (.slice AG0_0 gc0_0.length cG0_0) := bt_ HYG0_21 0
  have hxYG0_21_1 : w21.cell? ⟨w8.heap.size, 1, none⟩ = some (.int .i64 gc0_1) := bt_ HYG0_21 1
  go_wp2_with fail
  rw [HLG0_0.out]
  refine (laws_heldStore.calls k _ _ mg0_0 gc0_1 1 q0 _ (Kd.S_reads' HG0_0_21.out).2.2 (Kd.S_reads' HG0_0_21.out).2.1 HQ0.out).mono ?_
  rintro e w22 ⟨rfl, hb22⟩
  clear hxYG0_21_0
  clear hxYG0_21_1
  have HB_22 := Aside0.mk (below_step HB_21.out hb22)
  clear HB_21
  have HG0_0_22 := Aside0.mk (Kd.S_below HG0_0_21.out hb22)
  clear HG0_0_21
  have HYG0_22 := Aside0.mk (blk_below HYG0_21.out hb22)
  clear HYG0_21
  have HL22 := Aside0.mk (show w21.heap.size ≤ w22.heap.size from hb22.size)
  clear hb22
  go_wp2_with fail
  go_ret
  exact ⟨rfl, HB_22.out⟩


/-- The one pure statement of laws_FnExactTruncateTo. -/
def laws_FnExactTruncateTo.Pure : Prop := ∀ (x0 : S32) (a1 : Int), ok32 x0 → (Lit.int .i64 a1).wf = true → ∃ k, laws_FnExactTruncateTo.f k x0.f0 x0.f1 a1 = some true
end Go.Proofs.Ytffpeklekkpbjaa.QFnExactTruncateTo
