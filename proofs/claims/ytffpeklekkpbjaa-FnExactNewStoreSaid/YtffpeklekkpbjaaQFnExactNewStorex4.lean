/- For each Go function that one statement reaches: a plain function with the same answers, and the proof that the call comes to them. Conditions: those that each contract names. Written by a program of this repository. -/
import Derived.Test.YtffpeklekkpbjaaVNewStorea
import Derived.Test.YtffpeklekkpbjaaQFnExactNewStorex0
import Derived.Test.YtffpeklekkpbjaaQFnExactNewStorex1
import Derived.Test.YtffpeklekkpbjaaQFnExactNewStorex2
import Derived.Test.YtffpeklekkpbjaaQFnExactNewStorex3
namespace Go.Proofs.Ytffpeklekkpbjaa.QFnExactNewStore
open Go.RowKit Go.Proofs.YtffpeklekkpbjaaW.PrintWords Go.Proofs.YtffpeklekkpbjaaW.PrintLast Go.Proofs.YtffpeklekkpbjaaW.PrintMore
attribute [local go_sem] max2_int min2_int max_two min_two max_three min_three max_four min_four Go.Proofs.YtffpeklekkpbjaaW.PrintMore2.isSome_setCell   -- for this text's walks alone
set_option linter.unusedVariables false
set_option linter.unusedSimpArgs false

/-! ### laws_FnExactNewStore: function 3 -/
def laws_FnExactNewStore.f (k : Nat) (a0 : Int) : Option (Bool) :=
 (spec_NewStore.f a0).bind fun w => (impl_NewStore.f a0).bind fun g => (laws_eqStore.f k g.1 g.2.1 w.1 w.2.1).bind fun e0 => if e0 = true ∧ g.2.2 = w.2.2 then
 (laws_markStore.f k g.1 g.2.1 1).bind fun m0 => (laws_heldStore.f k m0.2 g.2.1 1).bind fun q0 => if 0 ≤ q0 ∧ q0 = m0.1 then some true else none else none
set_option maxHeartbeats 8000000 in
set_option maxRecDepth 100000 in
theorem laws_FnExactNewStore.calls (k : Nat) (a0 : Int) (r : Bool) (w : World)  (h : laws_FnExactNewStore.f k a0 = some r) :
  Calls Try.prog 3 #[.int .i64 a0] w fun e w' => e = .returned (.bool r) ∧ Below w.heap.size w w' := by
 unfold laws_FnExactNewStore.f at h
 obtain ⟨⟨wc0_0, wc0_1, wc1_0⟩, hw, g1⟩ := Option.bind_eq_some_iff.1 h
 clear h
 obtain ⟨⟨gc0_0, gc0_1, gc1_0⟩, hg, g2⟩ := Option.bind_eq_some_iff.1 g1
 clear g1
 obtain ⟨e0, he0, g3⟩ := Option.bind_eq_some_iff.1 g2
 clear g2
 obtain ⟨⟨he0', hs1⟩, g4⟩ := Option.ite_none_right_eq_some.1 g3
 clear g3
 subst he0'
 obtain rfl : wc1_0 = gc1_0 := hs1.symm
 obtain ⟨⟨m0, mg0_0⟩, hm0, g5⟩ := Option.bind_eq_some_iff.1 g4
 clear g4
 obtain ⟨q0, hq0, g6⟩ := Option.bind_eq_some_iff.1 g5
 clear g5
 obtain ⟨⟨hn0, hqm⟩, g7⟩ := Option.ite_none_right_eq_some.1 g6
 clear g6
 obtain rfl : q0 = m0 := hqm
 obtain rfl : true = r := Option.some.inj g7
 clear g7
 have hqd0 : decide (q0 < 0) = false := decide_eq_false (by omega)
 have HWS := Aside0.mk (show spec_NewStore.f a0 = some (wc0_0, wc0_1, wc1_0) from hw)
 have HGI := Aside0.mk (show impl_NewStore.f a0 = some (gc0_0, gc0_1, wc1_0) from hg)
 have HE0 := Aside0.mk (show laws_eqStore.f k gc0_0 gc0_1 wc0_0 wc0_1 = some true from he0)
 have HM0 := Aside0.mk (show laws_markStore.f k gc0_0 gc0_1 1 = some (q0, mg0_0) from hm0)
 have HQ0 := Aside0.mk (show laws_heldStore.f k mg0_0 gc0_1 1 = some q0 from hq0)
 clear hw hg he0 hm0 hq0 hn0
 go_enter Try.func3, Try.ntmps3
 have HB_0 := Aside0.mk (Below.refl w.heap.size w)
 go_wp2_with fail
 refine (spec_NewStore.calls a0 wc0_0 wc0_1 wc1_0 _  HWS.out).mono ?_
 rintro e w1 ⟨uw0, rfl, ho0, hb1⟩
 have HB_1 := Aside0.mk (below_step HB_0.out hb1)
 clear HB_0
 have HL1 := Aside0.mk (show w.heap.size ≤ w1.heap.size from hb1.size)
 have HW0_0_301 := Aside0.mk (Kd.S_lower (Kd.S_mono (ok' := fun k_ => (w.heap.size ≤ k_ ∧ k_ < w1.heap.size) ∧ ∃ q_, q_ ∈ 65 :: (k65).E ∧ ∃ c_, w1.heap[k_]? = some (.cells c_ q_ (0, 0))) (Kd.S_bound ho0) (fun k_ h_ => ⟨⟨h_.2.1, h_.2.2.1⟩, h_.2.2.2⟩)) (show w.heap.size ≤ w.heap.size by have l0_ := HL1.out; omega))
 clear ho0 hb1
 obtain ⟨AW0_0, cW0_0, rfl⟩ := Kd.S_slice HW0_0_301.out
 have HB_2 := Aside0.mk (below_alloc HB_1.out (.cells #[.slice AW0_0 wc0_0.length cW0_0, .int .i64 wc0_1] 24))
 clear HB_1
 have HW0_0_2 := Aside0.mk (Kd.S_alloc HW0_0_301.out (.cells #[.slice AW0_0 wc0_0.length cW0_0, .int .i64 wc0_1] 24))
 clear HW0_0_301
 have HL2 := Aside0.mk (show (w1.alloc (.cells #[.slice AW0_0 wc0_0.length cW0_0, .int .i64 wc0_1] 24)).heap.size = w1.heap.size + 1 by rw [World.alloc]; exact Array.size_push _)
 have HYW0_2 := Aside0.mk (show (w1.alloc (.cells #[.slice AW0_0 wc0_0.length cW0_0, .int .i64 wc0_1] 24)).heap[w1.heap.size]? = some (.cells #[.slice AW0_0 wc0_0.length cW0_0, .int .i64 wc0_1] 24 (0, 0)) by rw [World.alloc]; exact Array.getElem?_push_size)
 go_wp2_with fail
 refine (impl_NewStore.calls a0 gc0_0 gc0_1 wc1_0 _  HGI.out).mono ?_
 rintro e w3 ⟨ug0, rfl, ho0, hb3⟩
 have HB_3 := Aside0.mk (below_step HB_2.out hb3)
 clear HB_2
 have HW0_0_3 := Aside0.mk (Kd.S_below HW0_0_2.out hb3)
 clear HW0_0_2
 have HYW0_3 := Aside0.mk (blk_below HYW0_2.out hb3)
 clear HYW0_2
 have HL3 := Aside0.mk (show (w1.alloc (.cells #[.slice AW0_0 wc0_0.length cW0_0, .int .i64 wc0_1] 24)).heap.size ≤ w3.heap.size from hb3.size)
 have HG0_0_303 := Aside0.mk (Kd.S_lower (Kd.S_mono (ok' := fun k_ => ((w1.alloc (.cells #[.slice AW0_0 wc0_0.length cW0_0, .int .i64 wc0_1] 24)).heap.size ≤ k_ ∧ k_ < w3.heap.size) ∧ ∃ q_, q_ ∈ 65 :: (k65).E ∧ ∃ c_, w3.heap[k_]? = some (.cells c_ q_ (0, 0))) (Kd.S_bound ho0) (fun k_ h_ => ⟨⟨h_.2.1, h_.2.2.1⟩, h_.2.2.2⟩)) (show w.heap.size ≤ (w1.alloc (.cells #[.slice AW0_0 wc0_0.length cW0_0, .int .i64 wc0_1] 24)).heap.size by have l0_ := HL1.out; have l1_ := HL2.out; have l2_ := HL3.out; omega))
 clear ho0 hb3
 obtain ⟨AG0_0, cG0_0, rfl⟩ := Kd.S_slice HG0_0_303.out
 have HB_4 := Aside0.mk (below_alloc HB_3.out (.cells #[.slice AG0_0 gc0_0.length cG0_0, .int .i64 gc0_1] 24))
 clear HB_3
 have HW0_0_4 := Aside0.mk (Kd.S_alloc HW0_0_3.out (.cells #[.slice AG0_0 gc0_0.length cG0_0, .int .i64 gc0_1] 24))
 clear HW0_0_3
 have HYW0_4 := Aside0.mk (blk_alloc HYW0_3.out (.cells #[.slice AG0_0 gc0_0.length cG0_0, .int .i64 gc0_1] 24))
 clear HYW0_3
 have HG0_0_4 := Aside0.mk (Kd.S_alloc HG0_0_303.out (.cells #[.slice AG0_0 gc0_0.length cG0_0, .int .i64 gc0_1] 24))
 clear HG0_0_303
 have HL4 := Aside0.mk (show (w3.alloc (.cells #[.slice AG0_0 gc0_0.length cG0_0, .int .i64 gc0_1] 24)).heap.size = w3.heap.size + 1 by rw [World.alloc]; exact Array.size_push _)
 have HYG0_4 := Aside0.mk (show (w3.alloc (.cells #[.slice AG0_0 gc0_0.length cG0_0, .int .i64 gc0_1] 24)).heap[w3.heap.size]? = some (.cells #[.slice AG0_0 gc0_0.length cG0_0, .int .i64 gc0_1] 24 (0, 0)) by rw [World.alloc]; exact Array.getElem?_push_size)
 have hxYG0_4_0 : (w3.alloc (.cells #[.slice AG0_0 gc0_0.length cG0_0, .int .i64 gc0_1] 24)).cell? ⟨w3.heap.size, 0, none⟩ = some (.slice AG0_0 gc0_0.length cG0_0) := (blk_cell HYG0_4.out 0).trans rfl
 have hxYG0_4_1 : (w3.alloc (.cells #[.slice AG0_0 gc0_0.length cG0_0, .int .i64 gc0_1] 24)).cell? ⟨w3.heap.size, 1, none⟩ = some (.int .i64 gc0_1) := (blk_cell HYG0_4.out 1).trans rfl
 have hxYW0_4_0 : (w3.alloc (.cells #[.slice AG0_0 gc0_0.length cG0_0, .int .i64 gc0_1] 24)).cell? ⟨w1.heap.size, 0, none⟩ = some (.slice AW0_0 wc0_0.length cW0_0) := (blk_cell HYW0_4.out 0).trans rfl
 have hxYW0_4_1 : (w3.alloc (.cells #[.slice AG0_0 gc0_0.length cG0_0, .int .i64 gc0_1] 24)).cell? ⟨w1.heap.size, 1, none⟩ = some (.int .i64 wc0_1) := (blk_cell HYW0_4.out 1).trans rfl
 go_wp2_with fail
 refine (laws_eqStore.calls k _ _ gc0_0 gc0_1 _ _ wc0_0 wc0_1 true _ (Kd.S_reads' HG0_0_4.out).2.2 (Kd.S_reads' HG0_0_4.out).2.1 (Kd.S_reads' HW0_0_4.out).2.2 (Kd.S_reads' HW0_0_4.out).2.1 HE0.out).mono ?_
 rintro e w5 ⟨rfl, hb5⟩
 clear hxYG0_4_0
 clear hxYG0_4_1
 clear hxYW0_4_0
 clear hxYW0_4_1
 have HB_5 := Aside0.mk (below_step HB_4.out hb5)
 clear HB_4
 have HW0_0_5 := Aside0.mk (Kd.S_below HW0_0_4.out hb5)
 clear HW0_0_4
 have HYW0_5 := Aside0.mk (blk_below HYW0_4.out hb5)
 clear HYW0_4
 have HG0_0_5 := Aside0.mk (Kd.S_below HG0_0_4.out hb5)
 clear HG0_0_4
 have HYG0_5 := Aside0.mk (blk_below HYG0_4.out hb5)
 clear HYG0_4
 have HL5 := Aside0.mk (show (w3.alloc (.cells #[.slice AG0_0 gc0_0.length cG0_0, .int .i64 gc0_1] 24)).heap.size ≤ w5.heap.size from hb5.size)
 clear hb5
 have hxYG0_5_0 : w5.cell? ⟨w3.heap.size, 0, none⟩ = some (.slice AG0_0 gc0_0.length cG0_0) := (blk_cell HYG0_5.out 0).trans rfl
 have hxYG0_5_1 : w5.cell? ⟨w3.heap.size, 1, none⟩ = some (.int .i64 gc0_1) := (blk_cell HYG0_5.out 1).trans rfl
 go_wp2_with fail
 refine (laws_markStore.calls k (fun k_ => ((w1.alloc (.cells #[.slice AW0_0 wc0_0.length cW0_0, .int .i64 wc0_1] 24)).heap.size ≤ k_ ∧ k_ < w3.heap.size) ∧ ∃ q_, q_ ∈ 65 :: (k65).E ∧ ∃ c_, w3.heap[k_]? = some (.cells c_ q_ (0, 0))) _ gc0_0 gc0_1 1 q0 mg0_0 w _ HB_5.out HG0_0_5.out HM0.out).mono ?_
 rintro e w6 ⟨rfl, hy0, hb, hk⟩
 clear hxYG0_5_0
 clear hxYG0_5_1
 have HB_6 := Aside0.mk (hb)
 clear HB_5
 have HW0_0_6 := Aside0.mk (Kd.S_kept HW0_0_5.out hk (fun k_ h_ h2_ => by have h3_ := h_.1.1; have h4_ := h_.1.2; have h5_ := h2_.1.1; have h6_ := h2_.1.2; clear h_ h2_; have l0_ := HL1.out; have l1_ := HL2.out; have l2_ := HL3.out; have l3_ := HL4.out; have l4_ := HL5.out; omega))
 clear HW0_0_5
 have HYW0_6 := Aside0.mk (blk_kept HYW0_5.out hk (fun h2_ => by have h3_ := h2_.1.1; have h4_ := h2_.1.2; clear h2_; have l0_ := HL1.out; have l1_ := HL2.out; have l2_ := HL3.out; have l3_ := HL4.out; have l4_ := HL5.out; omega))
 clear HYW0_5
 have HYG0_6 := Aside0.mk (blk_kept HYG0_5.out hk (fun h2_ => by have h3_ := h2_.1.1; have h4_ := h2_.1.2; clear h2_; have l0_ := HL1.out; have l1_ := HL2.out; have l2_ := HL3.out; have l3_ := HL4.out; have l4_ := HL5.out; omega))
 clear HYG0_5
 have HG0_0_6 := Aside0.mk (hy0)
 clear HG0_0_5
 have HL6 := Aside0.mk (show w5.heap.size ≤ w6.heap.size from hk.1)
 clear hb hk hy0
 have HLG0_0 := Aside0.mk (Kd.S_reads' HG0_0_6.out).1
 have HG0_0_506 := Aside0.mk (show Kd.S k65 65 w6 w.heap.size (fun k_ => ((w1.alloc (.cells #[.slice AW0_0 wc0_0.length cW0_0, .int .i64 wc0_1] 24)).heap.size ≤ k_ ∧ k_ < w3.heap.size) ∧ ∃ q_, q_ ∈ 65 :: (k65).E ∧ ∃ c_, w3.heap[k_]? = some (.cells c_ q_ (0, 0))) (.slice AG0_0 mg0_0.length cG0_0) mg0_0 by rw [← HLG0_0.out]; exact HG0_0_6.out)
 clear HG0_0_6
 have hxYG0_6_0 : w6.cell? ⟨w3.heap.size, 0, none⟩ = some (.slice AG0_0 gc0_0.length cG0_0) := (blk_cell HYG0_6.out 0).trans rfl
 have hxYG0_6_1 : w6.cell? ⟨w3.heap.size, 1, none⟩ = some (.int .i64 gc0_1) := (blk_cell HYG0_6.out 1).trans rfl
 go_wp2_with fail
 rw [HLG0_0.out]
 refine (laws_heldStore.calls k _ _ mg0_0 gc0_1 1 q0 _ (Kd.S_reads' HG0_0_506.out).2.2 (Kd.S_reads' HG0_0_506.out).2.1 HQ0.out).mono ?_
 rintro e w7 ⟨rfl, hb7⟩
 clear hxYG0_6_0
 clear hxYG0_6_1
 have HB_7 := Aside0.mk (below_step HB_6.out hb7)
 clear HB_6
 have HW0_0_7 := Aside0.mk (Kd.S_below HW0_0_6.out hb7)
 clear HW0_0_6
 have HYW0_7 := Aside0.mk (blk_below HYW0_6.out hb7)
 clear HYW0_6
 have HG0_0_7 := Aside0.mk (Kd.S_below HG0_0_506.out hb7)
 clear HG0_0_506
 have HYG0_7 := Aside0.mk (blk_below HYG0_6.out hb7)
 clear HYG0_6
 have HL7 := Aside0.mk (show w6.heap.size ≤ w7.heap.size from hb7.size)
 clear hb7
 go_wp2_with fail
 refine (impl_NewStore.calls a0 gc0_0 gc0_1 wc1_0 _  HGI.out).mono ?_
 rintro e w8 ⟨ug0, rfl, ho0, hb8⟩
 have HB_8 := Aside0.mk (below_step HB_7.out hb8)
 clear HB_7
 have HW0_0_8 := Aside0.mk (Kd.S_below HW0_0_7.out hb8)
 clear HW0_0_7
 have HYW0_8 := Aside0.mk (blk_below HYW0_7.out hb8)
 clear HYW0_7
 have HG0_0_8 := Aside0.mk (Kd.S_below HG0_0_7.out hb8)
 clear HG0_0_7
 have HYG0_8 := Aside0.mk (blk_below HYG0_7.out hb8)
 clear HYG0_7
 have HL8 := Aside0.mk (show w7.heap.size ≤ w8.heap.size from hb8.size)
 have HH0_0_308 := Aside0.mk (Kd.S_lower (Kd.S_mono (ok' := fun k_ => (w7.heap.size ≤ k_ ∧ k_ < w8.heap.size) ∧ ∃ q_, q_ ∈ 65 :: (k65).E ∧ ∃ c_, w8.heap[k_]? = some (.cells c_ q_ (0, 0))) (Kd.S_bound ho0) (fun k_ h_ => ⟨⟨h_.2.1, h_.2.2.1⟩, h_.2.2.2⟩)) (show w.heap.size ≤ w7.heap.size by have l0_ := HL1.out; have l1_ := HL2.out; have l2_ := HL3.out; have l3_ := HL4.out; have l4_ := HL5.out; have l5_ := HL6.out; have l6_ := HL7.out; have l7_ := HL8.out; omega))
 clear ho0 hb8
 obtain ⟨AH0_0, cH0_0, rfl⟩ := Kd.S_slice HH0_0_308.out
 have HB_9 := Aside0.mk (below_alloc HB_8.out (.cells #[.slice AH0_0 gc0_0.length cH0_0, .int .i64 gc0_1] 24))
 clear HB_8
 have HW0_0_9 := Aside0.mk (Kd.S_alloc HW0_0_8.out (.cells #[.slice AH0_0 gc0_0.length cH0_0, .int .i64 gc0_1] 24))
 clear HW0_0_8
 have HYW0_9 := Aside0.mk (blk_alloc HYW0_8.out (.cells #[.slice AH0_0 gc0_0.length cH0_0, .int .i64 gc0_1] 24))
 clear HYW0_8
 have HG0_0_9 := Aside0.mk (Kd.S_alloc HG0_0_8.out (.cells #[.slice AH0_0 gc0_0.length cH0_0, .int .i64 gc0_1] 24))
 clear HG0_0_8
 have HYG0_9 := Aside0.mk (blk_alloc HYG0_8.out (.cells #[.slice AH0_0 gc0_0.length cH0_0, .int .i64 gc0_1] 24))
 clear HYG0_8
 have HH0_0_9 := Aside0.mk (Kd.S_alloc HH0_0_308.out (.cells #[.slice AH0_0 gc0_0.length cH0_0, .int .i64 gc0_1] 24))
 clear HH0_0_308
 have HL9 := Aside0.mk (show (w8.alloc (.cells #[.slice AH0_0 gc0_0.length cH0_0, .int .i64 gc0_1] 24)).heap.size = w8.heap.size + 1 by rw [World.alloc]; exact Array.size_push _)
 have HYH0_9 := Aside0.mk (show (w8.alloc (.cells #[.slice AH0_0 gc0_0.length cH0_0, .int .i64 gc0_1] 24)).heap[w8.heap.size]? = some (.cells #[.slice AH0_0 gc0_0.length cH0_0, .int .i64 gc0_1] 24 (0, 0)) by rw [World.alloc]; exact Array.getElem?_push_size)
 have hxYH0_9_0 : (w8.alloc (.cells #[.slice AH0_0 gc0_0.length cH0_0, .int .i64 gc0_1] 24)).cell? ⟨w8.heap.size, 0, none⟩ = some (.slice AH0_0 gc0_0.length cH0_0) := (blk_cell HYH0_9.out 0).trans rfl
 have hxYH0_9_1 : (w8.alloc (.cells #[.slice AH0_0 gc0_0.length cH0_0, .int .i64 gc0_1] 24)).cell? ⟨w8.heap.size, 1, none⟩ = some (.int .i64 gc0_1) := (blk_cell HYH0_9.out 1).trans rfl
 have hxYW0_9_0 : (w8.alloc (.cells #[.slice AH0_0 gc0_0.length cH0_0, .int .i64 gc0_1] 24)).cell? ⟨w1.heap.size, 0, none⟩ = some (.slice AW0_0 wc0_0.length cW0_0) := (blk_cell HYW0_9.out 0).trans rfl
 have hxYW0_9_1 : (w8.alloc (.cells #[.slice AH0_0 gc0_0.length cH0_0, .int .i64 gc0_1] 24)).cell? ⟨w1.heap.size, 1, none⟩ = some (.int .i64 wc0_1) := (blk_cell HYW0_9.out 1).trans rfl
 go_wp2_with fail
 refine (laws_eqStore.calls k _ _ gc0_0 gc0_1 _ _ wc0_0 wc0_1 true _ (Kd.S_reads' HH0_0_9.out).2.2 (Kd.S_reads' HH0_0_9.out).2.1 (Kd.S_reads' HW0_0_9.out).2.2 (Kd.S_reads' HW0_0_9.out).2.1 HE0.out).mono ?_
 rintro e w10 ⟨rfl, hb10⟩
 clear hxYH0_9_0
 clear hxYH0_9_1
 clear hxYW0_9_0
 clear hxYW0_9_1
 have HB_10 := Aside0.mk (below_step HB_9.out hb10)
 clear HB_9
 have HW0_0_10 := Aside0.mk (Kd.S_below HW0_0_9.out hb10)
 clear HW0_0_9
 have HYW0_10 := Aside0.mk (blk_below HYW0_9.out hb10)
 clear HYW0_9
 have HG0_0_10 := Aside0.mk (Kd.S_below HG0_0_9.out hb10)
 clear HG0_0_9
 have HYG0_10 := Aside0.mk (blk_below HYG0_9.out hb10)
 clear HYG0_9
 have HH0_0_10 := Aside0.mk (Kd.S_below HH0_0_9.out hb10)
 clear HH0_0_9
 have HYH0_10 := Aside0.mk (blk_below HYH0_9.out hb10)
 clear HYH0_9
 have HL10 := Aside0.mk (show (w8.alloc (.cells #[.slice AH0_0 gc0_0.length cH0_0, .int .i64 gc0_1] 24)).heap.size ≤ w10.heap.size from hb10.size)
 clear hb10
 clear HW0_0_10
 clear HYW0_10
 clear HH0_0_10
 clear HYH0_10
 have hxYG0_10_0 : w10.cell? ⟨w3.heap.size, 0, none⟩ = some (.slice AG0_0 gc0_0.length cG0_0) := (blk_cell HYG0_10.out 0).trans rfl
 have hxYG0_10_1 : w10.cell? ⟨w3.heap.size, 1, none⟩ = some (.int .i64 gc0_1) := (blk_cell HYG0_10.out 1).trans rfl
 go_wp2_with fail
 rw [HLG0_0.out]
 refine (laws_heldStore.calls k _ _ mg0_0 gc0_1 1 q0 _ (Kd.S_reads' HG0_0_10.out).2.2 (Kd.S_reads' HG0_0_10.out).2.1 HQ0.out).mono ?_
 rintro e w11 ⟨rfl, hb11⟩
 clear hxYG0_10_0
 clear hxYG0_10_1
 have HB_11 := Aside0.mk (below_step HB_10.out hb11)
 clear HB_10
 have HG0_0_11 := Aside0.mk (Kd.S_below HG0_0_10.out hb11)
 clear HG0_0_10
 have HYG0_11 := Aside0.mk (blk_below HYG0_10.out hb11)
 clear HYG0_10
 have HL11 := Aside0.mk (show w10.heap.size ≤ w11.heap.size from hb11.size)
 clear hb11
 go_wp2_with fail
 go_ret
 exact ⟨rfl, HB_11.out⟩


/-- The one pure statement of laws_FnExactNewStore. -/
def laws_FnExactNewStore.Pure : Prop := ∀ (a0 : Int), (Lit.int .i64 a0).wf = true → ∃ k, laws_FnExactNewStore.f k a0 = some true

end Go.Proofs.Ytffpeklekkpbjaa.QFnExactNewStore
