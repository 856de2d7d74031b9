/- For each Go function that one statement reaches: a plain function with the same answers, and the proof that the call comes to them. Conditions: those that each contract names. Written by a program of this repository. -/
import Derived.Test.YtpdpipfkllfhmaaVRecoverFilea
import Derived.Test.YtpdpipfkllfhmaaQFnExactRecoverFilex0
import Derived.Test.YtpdpipfkllfhmaaQFnExactRecoverFilex1
import Derived.Test.YtpdpipfkllfhmaaQFnExactRecoverFilex2
import Derived.Test.YtpdpipfkllfhmaaQFnExactRecoverFilex3
import Derived.Test.YtpdpipfkllfhmaaQFnExactRecoverFilex4
import Derived.Test.YtpdpipfkllfhmaaQFnExactRecoverFilex5
import Derived.Test.YtpdpipfkllfhmaaQFnExactRecoverFilex10
import Derived.Test.YtpdpipfkllfhmaaQFnExactRecoverFilex14
namespace Go.Proofs.Ytpdpipfkllfhmaa.QFnExactRecoverFile
open Go.RowKit Go.Proofs.YtpdpipfkllfhmaaW.PrintWords Go.Proofs.YtpdpipfkllfhmaaW.PrintLast Go.Proofs.YtpdpipfkllfhmaaW.PrintMore
attribute [local go_sem] max2_int min2_int max_two min_two max_three min_three max_four min_four Go.Proofs.YtpdpipfkllfhmaaW.PrintMore2.isSome_setCell   -- for this text's walks alone
set_option linter.unusedVariables false
set_option linter.unusedSimpArgs false

/-! ### laws_FnExactRecoverFile: function 5 -/
def laws_FnExactRecoverFile.f (k : Nat) (l0_0 : List S100) (a1 : Int) : Option (Bool) :=
 (laws_szDisk.f k l0_0 1048576).bind fun z => if z < 0 then some true else
 (laws_toDisk.f k l0_0).bind fun d => (spec_RecoverFile.f k d a1).bind fun w => (impl_RecoverFile.f k d a1).bind fun g => (laws_eqDisk.f k g.1 w.1).bind fun e => (laws_eqBatchS.f k g.2.1 w.2.1).bind fun e1 => if e = true ∧ e1 = true ∧ g.2.2 = w.2.2 then
  (laws_eqDisk.f k d d).bind fun e2 => (laws_markDisk.f k d 1).bind fun md => if e2 = true ∧ 0 ≤ md.1 then
  (laws_markDisk.f k g.1 1).bind fun m0 => (laws_markBatchS.f k g.2.1 m0.1).bind fun m1 => (laws_heldDisk.f k m0.2 1).bind fun q0 => (laws_heldBatchS.f k m1.2 q0).bind fun q => if 0 ≤ q0 ∧ q = m1.1 ∧ 0 ≤ q then some true else none else none else none
set_option maxHeartbeats 8000000 in
set_option maxRecDepth 100000 in
theorem laws_FnExactRecoverFile.calls (k : Nat) (A0_0 : Option Addr) (c0_0 : Nat) (l0_0 : List S100) (a1 : Int) (r : Bool) (w : World) (hr0_0 : Kd.C k100 w A0_0 l0_0.length l0_0) (hc0_0 : l0_0.length ≤ c0_0) (h : laws_FnExactRecoverFile.f k l0_0 a1 = some r) :
  Calls Try.prog 5 #[.agg #[.slice A0_0 l0_0.length c0_0], .int .i64 a1] w fun e w' => e = .returned (.bool r) ∧ Below w.heap.size w w' := by
 have HR0 := Aside0.mk hr0_0
 have HC0 := Aside0.mk hc0_0
 clear hr0_0 hc0_0
 unfold laws_FnExactRecoverFile.f at h
 obtain ⟨z, h1, g1⟩ := Option.bind_eq_some_iff.1 h
 clear h
 have H1 := Aside0.mk h1
 clear h1
 by_cases hz : z < 0
 ·rw [if_pos hz] at g1
  obtain rfl : true = r := Option.some.inj g1
  have hz1 : decide (z < 0) = true := decide_eq_true hz
  clear hz g1
  go_enter Try.func5, Try.ntmps5
  go_wp2_with fail
  refine (laws_szDisk.calls k _ _ l0_0 1048576 z _ (Kd.C_alloc HR0.out _) HC0.out H1.out).mono ?_
  rintro e w1 ⟨rfl, hb1⟩
  have HB1 := Aside0.mk (below_step (below_alloc (Below.refl _ _) _) hb1)
  clear hb1
  go_wp2_with fail
  go_ret
  exact ⟨rfl, HB1.out⟩
 ·rw [if_neg hz] at g1
  have hz1 : decide (z < 0) = false := decide_eq_false hz
  clear hz
  obtain ⟨d, h2, g2⟩ := Option.bind_eq_some_iff.1 g1
  clear g1
  obtain ⟨⟨ws0, ws1, wo⟩, h3, g3⟩ := Option.bind_eq_some_iff.1 g2
  clear g2
  obtain ⟨⟨gs0, gs1, wo'⟩, h4, g4⟩ := Option.bind_eq_some_iff.1 g3
  clear g3
  obtain ⟨e, h5, g5⟩ := Option.bind_eq_some_iff.1 g4
  clear g4
  obtain ⟨e1, h5b, g5b⟩ := Option.bind_eq_some_iff.1 g5
  clear g5
  obtain ⟨⟨he, he1, hbb⟩, g6⟩ := Option.ite_none_right_eq_some.1 g5b
  clear g5b
  subst he
  subst he1
  obtain rfl : wo' = wo := hbb
  obtain ⟨e2, h6, g7⟩ := Option.bind_eq_some_iff.1 g6
  clear g6
  obtain ⟨⟨mk, md⟩, h7, g8⟩ := Option.bind_eq_some_iff.1 g7
  clear g7
  obtain ⟨⟨he2, hmk⟩, g9⟩ := Option.ite_none_right_eq_some.1 g8
  clear g8
  subst he2
  obtain ⟨⟨m0, ms0⟩, h8, g10⟩ := Option.bind_eq_some_iff.1 g9
  clear g9
  obtain ⟨⟨m1, ms1⟩, h8b, g10b⟩ := Option.bind_eq_some_iff.1 g10
  clear g10
  obtain ⟨q0, h9, g11⟩ := Option.bind_eq_some_iff.1 g10b
  clear g10b
  obtain ⟨q, h9b, g11b⟩ := Option.bind_eq_some_iff.1 g11
  clear g11
  obtain ⟨⟨hq00, hqm, hq0⟩, g12⟩ := Option.ite_none_right_eq_some.1 g11b
  clear g11b
  obtain rfl : q = m1 := hqm
  obtain rfl : true = r := Option.some.inj g12
  clear g12
  have hq01 : decide (q0 < 0) = false := decide_eq_false (by omega)
  have hq1 : decide (q < 0) = false := decide_eq_false (by omega)
  have hmk1 : decide (mk < 0) = false := decide_eq_false (by have : 0 ≤ mk := hmk; omega)
  have H2 := Aside0.mk h2
  have H3 := Aside0.mk (show spec_RecoverFile.f k d a1 = some (ws0, ws1, wo') from h3)
  have H4 := Aside0.mk (show impl_RecoverFile.f k d a1 = some (gs0, gs1, wo') from h4)
  have H5 := Aside0.mk (show laws_eqDisk.f k gs0 ws0 = some true from h5)
  have H5b := Aside0.mk (show laws_eqBatchS.f k gs1 ws1 = some true from h5b)
  have H6 := Aside0.mk h6
  have H7 := Aside0.mk (show laws_markDisk.f k d 1 = some (mk, md) from h7)
  have H8 := Aside0.mk (show laws_markDisk.f k gs0 1 = some (m0, ms0) from h8)
  have H8b := Aside0.mk (show laws_markBatchS.f k gs1 m0 = some (q, ms1) from h8b)
  have H9 := Aside0.mk (show laws_heldDisk.f k ms0 1 = some q0 from h9)
  have H9b := Aside0.mk (show laws_heldBatchS.f k ms1 q0 = some q from h9b)
  clear h2 h3 h4 h5 h5b h6 h7 h8 h8b h9 h9b hmk hq0 hq00
  go_enter Try.func5, Try.ntmps5
  go_wp2_with fail
  refine (laws_szDisk.calls k _ _ l0_0 1048576 z _ (Kd.C_alloc HR0.out _) HC0.out H1.out).mono ?_
  rintro e w1 ⟨rfl, hb1⟩
  have HX_1 := Aside0.mk (blk_below (g := w.heap.size) (o := .cells #[.slice A0_0 l0_0.length c0_0] 24 (0, 0)) (show (w.alloc (.cells #[.slice A0_0 l0_0.length c0_0] 24)).heap[w.heap.size]? = _ by rw [World.alloc]; exact Array.getElem?_push_size) hb1)
  have HB_1 := Aside0.mk (below_step (below_alloc (Below.refl _ _) _) hb1)
  clear hb1
  have HL1 := Aside0.mk (show w.heap.size < w1.heap.size from blk_lt HX_1.out)
  have hxX_1 : w1.cell? ⟨w.heap.size, 0, none⟩ = some (.slice A0_0 l0_0.length c0_0) := (blk_cell HX_1.out 0).trans rfl
  go_wp2_with fail
  refine (laws_toDisk.calls k _ _ l0_0 d _ (Kd.C_below HR0.out HB_1.out) HC0.out H2.out).mono ?_
  rintro e w2 ⟨vd, rfl, ho, hb2⟩
  clear hxX_1
  have HX_2 := Aside0.mk (blk_below HX_1.out hb2)
  clear HX_1
  have HB_2 := Aside0.mk (below_step HB_1.out hb2)
  clear HB_1
  have HL2 := Aside0.mk (show w1.heap.size ≤ w2.heap.size from hb2.size)
  obtain ⟨Ad, cd, rfl⟩ := Kd.R_slice ho
  have HD := Aside0.mk ho
  clear ho hb2
  go_wp2_with fail
  refine (spec_RecoverFile.calls k _ _ d a1 ws0 ws1 wo' _ (Kd.R_reads' HD.out).2.2 (Kd.R_reads' HD.out).2.1 H3.out).mono ?_
  rintro e w3 ⟨v0, v1, rfl, ho0, ho1, hb3⟩
  have HX_3 := Aside0.mk (blk_below HX_2.out hb3)
  clear HX_2
  have HB_3 := Aside0.mk (below_step HB_2.out hb3)
  clear HB_2
  have HL3 := Aside0.mk (show w2.heap.size ≤ w3.heap.size from hb3.size)
  have HW0_103 := Aside0.mk (Kd.R_lower (Kd.R_mono (ok' := fun k_ => k_ < w3.heap.size) (Kd.R_bound ho0) (fun k_ h_ => by exact h_.2.2.1)) (show w.heap.size ≤ w2.heap.size by have l0_ := HL1.out; have l1_ := HL2.out; have l2_ := HL3.out; omega))
  have HW1_103 := Aside0.mk (Kd.S_lower (Kd.S_mono (ok' := fun k_ => k_ < w3.heap.size) (Kd.S_bound ho1) (fun k_ h_ => by exact h_.2.2.1)) (show w.heap.size ≤ w2.heap.size by have l0_ := HL1.out; have l1_ := HL2.out; have l2_ := HL3.out; omega))
  clear HD ho0 ho1 hb3
  obtain ⟨Aw0, cw0, rfl⟩ := Kd.R_slice HW0_103.out
  obtain ⟨Aw1, cw1, rfl⟩ := Kd.S_slice HW1_103.out
  have HX_4 := Aside0.mk (blk_alloc HX_3.out (.cells #[.slice Aw0 ws0.length cw0] 31))
  clear HX_3
  have HB_4 := Aside0.mk (below_alloc HB_3.out (.cells #[.slice Aw0 ws0.length cw0] 31))
  clear HB_3
  have HW0_4 := Aside0.mk (Kd.R_alloc HW0_103.out (.cells #[.slice Aw0 ws0.length cw0] 31))
  clear HW0_103
  have HW1_4 := Aside0.mk (Kd.S_alloc HW1_103.out (.cells #[.slice Aw0 ws0.length cw0] 31))
  clear HW1_103
  have HL4 := Aside0.mk (show (w3.alloc (.cells #[.slice Aw0 ws0.length cw0] 31)).heap.size = w3.heap.size + 1 by rw [World.alloc]; exact Array.size_push _)
  have HY0_4 := Aside0.mk (show (w3.alloc (.cells #[.slice Aw0 ws0.length cw0] 31)).heap[w3.heap.size]? = some (.cells #[.slice Aw0 ws0.length cw0] 31 (0, 0)) by rw [World.alloc]; exact Array.getElem?_push_size)
  have hxX_4 : (w3.alloc (.cells #[.slice Aw0 ws0.length cw0] 31)).cell? ⟨w.heap.size, 0, none⟩ = some (.slice A0_0 l0_0.length c0_0) := (blk_cell HX_4.out 0).trans rfl
  go_wp2_with fail
  refine (laws_toDisk.calls k _ _ l0_0 d _ (Kd.C_below HR0.out HB_4.out) HC0.out H2.out).mono ?_
  rintro e w5 ⟨vx, rfl, ho, hb5⟩
  clear hxX_4
  have HX_5 := Aside0.mk (blk_below HX_4.out hb5)
  clear HX_4
  have HB_5 := Aside0.mk (below_step HB_4.out hb5)
  clear HB_4
  have HW0_5 := Aside0.mk (Kd.R_below HW0_4.out hb5)
  clear HW0_4
  have HW1_5 := Aside0.mk (Kd.S_below HW1_4.out hb5)
  clear HW1_4
  have HY0_5 := Aside0.mk (blk_below HY0_4.out hb5)
  clear HY0_4
  have HL5 := Aside0.mk (show (w3.alloc (.cells #[.slice Aw0 ws0.length cw0] 31)).heap.size ≤ w5.heap.size from hb5.size)
  have HDX_105 := Aside0.mk (Kd.R_lower (Kd.R_mono (ok' := fun k_ => w3.heap.size < k_ ∧ k_ < w5.heap.size) (Kd.R_bound ho) (fun k_ h_ => by have l_ := h_.2.1; have r_ := h_.2.2.1; refine ⟨?_, r_⟩; have l0_ := HL1.out; have l1_ := HL2.out; have l2_ := HL3.out; have l3_ := HL4.out; have l4_ := HL5.out; omega)) (show w.heap.size ≤ (w3.alloc (.cells #[.slice Aw0 ws0.length cw0] 31)).heap.size by have l0_ := HL1.out; have l1_ := HL2.out; have l2_ := HL3.out; have l3_ := HL4.out; have l4_ := HL5.out; omega))
  obtain ⟨Ax, cx, rfl⟩ := Kd.R_slice ho
  clear ho hb5
  have HX_6 := Aside0.mk (blk_alloc HX_5.out (.cells #[.slice Ax d.length cx] 31))
  clear HX_5
  have HB_6 := Aside0.mk (below_alloc HB_5.out (.cells #[.slice Ax d.length cx] 31))
  clear HB_5
  have HW0_6 := Aside0.mk (Kd.R_alloc HW0_5.out (.cells #[.slice Ax d.length cx] 31))
  clear HW0_5
  have HW1_6 := Aside0.mk (Kd.S_alloc HW1_5.out (.cells #[.slice Ax d.length cx] 31))
  clear HW1_5
  have HY0_6 := Aside0.mk (blk_alloc HY0_5.out (.cells #[.slice Ax d.length cx] 31))
  clear HY0_5
  have HDX_6 := Aside0.mk (Kd.R_alloc HDX_105.out (.cells #[.slice Ax d.length cx] 31))
  clear HDX_105
  have HL6 := Aside0.mk (show (w5.alloc (.cells #[.slice Ax d.length cx] 31)).heap.size = w5.heap.size + 1 by rw [World.alloc]; exact Array.size_push _)
  have HYX_6 := Aside0.mk (show (w5.alloc (.cells #[.slice Ax d.length cx] 31)).heap[w5.heap.size]? = some (.cells #[.slice Ax d.length cx] 31 (0, 0)) by rw [World.alloc]; exact Array.getElem?_push_size)
  have hxYX_6 : (w5.alloc (.cells #[.slice Ax d.length cx] 31)).cell? ⟨w5.heap.size, 0, none⟩ = some (.slice Ax d.length cx) := (blk_cell HYX_6.out 0).trans rfl
  go_wp2_with fail
  refine (impl_RecoverFile.calls k _ _ d a1 gs0 gs1 wo' _ (Kd.R_reads' HDX_6.out).2.2 (Kd.R_reads' HDX_6.out).2.1 H4.out).mono ?_
  rintro e w7 ⟨v2, v3, rfl, ho0, ho1, hb7⟩
  clear hxYX_6
  have HX_7 := Aside0.mk (blk_below HX_6.out hb7)
  clear HX_6
  have HB_7 := Aside0.mk (below_step HB_6.out hb7)
  clear HB_6
  have HW0_7 := Aside0.mk (Kd.R_below HW0_6.out hb7)
  clear HW0_6
  have HW1_7 := Aside0.mk (Kd.S_below HW1_6.out hb7)
  clear HW1_6
  have HY0_7 := Aside0.mk (blk_below HY0_6.out hb7)
  clear HY0_6
  have HDX_7 := Aside0.mk (Kd.R_below HDX_6.out hb7)
  clear HDX_6
  have HYX_7 := Aside0.mk (blk_below HYX_6.out hb7)
  clear HYX_6
  have HL7 := Aside0.mk (show (w5.alloc (.cells #[.slice Ax d.length cx] 31)).heap.size ≤ w7.heap.size from hb7.size)
  have HG0_107 := Aside0.mk (Kd.R_lower (Kd.R_mono (ok' := fun k_ => w5.heap.size < k_ ∧ k_ < w7.heap.size ∧ ∃ q_, q_ ∈ 56 :: (k56).E ∧ ∃ c_, w7.heap[k_]? = some (.cells c_ q_ (0, 0))) (Kd.R_bound ho0) (fun k_ h_ => by have l_ := h_.2.1; refine ⟨?_, h_.2.2.1, h_.2.2.2⟩; clear h_; have l0_ := HL1.out; have l1_ := HL2.out; have l2_ := HL3.out; have l3_ := HL4.out; have l4_ := HL5.out; have l5_ := HL6.out; have l6_ := HL7.out; omega)) (show w.heap.size ≤ (w5.alloc (.cells #[.slice Ax d.length cx] 31)).heap.size by have l0_ := HL1.out; have l1_ := HL2.out; have l2_ := HL3.out; have l3_ := HL4.out; have l4_ := HL5.out; have l5_ := HL6.out; have l6_ := HL7.out; omega))
  have HG1_107 := Aside0.mk (Kd.S_lower (Kd.S_mono (ok' := fun k_ => w5.heap.size < k_ ∧ k_ < w7.heap.size ∧ ∃ q_, q_ ∈ 44 :: (k44).E ∧ ∃ c_, w7.heap[k_]? = some (.cells c_ q_ (0, 0))) (Kd.S_bound ho1) (fun k_ h_ => by have l_ := h_.2.1; refine ⟨?_, h_.2.2.1, h_.2.2.2⟩; clear h_; have l0_ := HL1.out; have l1_ := HL2.out; have l2_ := HL3.out; have l3_ := HL4.out; have l4_ := HL5.out; have l5_ := HL6.out; have l6_ := HL7.out; omega)) (show w.heap.size ≤ (w5.alloc (.cells #[.slice Ax d.length cx] 31)).heap.size by have l0_ := HL1.out; have l1_ := HL2.out; have l2_ := HL3.out; have l3_ := HL4.out; have l4_ := HL5.out; have l5_ := HL6.out; have l6_ := HL7.out; omega))
  clear ho0 ho1 hb7
  obtain ⟨Ag0, cg0, rfl⟩ := Kd.R_slice HG0_107.out
  obtain ⟨Ag1, cg1, rfl⟩ := Kd.S_slice HG1_107.out
  have HX_8 := Aside0.mk (blk_alloc HX_7.out (.cells #[.slice Ag0 gs0.length cg0] 31))
  clear HX_7
  have HB_8 := Aside0.mk (below_alloc HB_7.out (.cells #[.slice Ag0 gs0.length cg0] 31))
  clear HB_7
  have HW0_8 := Aside0.mk (Kd.R_alloc HW0_7.out (.cells #[.slice Ag0 gs0.length cg0] 31))
  clear HW0_7
  have HW1_8 := Aside0.mk (Kd.S_alloc HW1_7.out (.cells #[.slice Ag0 gs0.length cg0] 31))
  clear HW1_7
  have HY0_8 := Aside0.mk (blk_alloc HY0_7.out (.cells #[.slice Ag0 gs0.length cg0] 31))
  clear HY0_7
  have HDX_8 := Aside0.mk (Kd.R_alloc HDX_7.out (.cells #[.slice Ag0 gs0.length cg0] 31))
  clear HDX_7
  have HYX_8 := Aside0.mk (blk_alloc HYX_7.out (.cells #[.slice Ag0 gs0.length cg0] 31))
  clear HYX_7
  have HG0_8 := Aside0.mk (Kd.R_alloc HG0_107.out (.cells #[.slice Ag0 gs0.length cg0] 31))
  clear HG0_107
  have HG1_8 := Aside0.mk (Kd.S_alloc HG1_107.out (.cells #[.slice Ag0 gs0.length cg0] 31))
  clear HG1_107
  have HL8 := Aside0.mk (show (w7.alloc (.cells #[.slice Ag0 gs0.length cg0] 31)).heap.size = w7.heap.size + 1 by rw [World.alloc]; exact Array.size_push _)
  have HYG_8 := Aside0.mk (show (w7.alloc (.cells #[.slice Ag0 gs0.length cg0] 31)).heap[w7.heap.size]? = some (.cells #[.slice Ag0 gs0.length cg0] 31 (0, 0)) by rw [World.alloc]; exact Array.getElem?_push_size)
  have hxYG_8 : (w7.alloc (.cells #[.slice Ag0 gs0.length cg0] 31)).cell? ⟨w7.heap.size, 0, none⟩ = some (.slice Ag0 gs0.length cg0) := (blk_cell HYG_8.out 0).trans rfl
  have hxY0_8 : (w7.alloc (.cells #[.slice Ag0 gs0.length cg0] 31)).cell? ⟨w3.heap.size, 0, none⟩ = some (.slice Aw0 ws0.length cw0) := (blk_cell HY0_8.out 0).trans rfl
  go_wp2_with fail
  refine (laws_eqDisk.calls k _ _ gs0 _ _ ws0 true _ (Kd.R_reads' HG0_8.out).2.2 (Kd.R_reads' HG0_8.out).2.1 (Kd.R_reads' HW0_8.out).2.2 (Kd.R_reads' HW0_8.out).2.1 H5.out).mono ?_
  rintro e w9 ⟨rfl, hb9⟩
  clear hxYG_8
  clear hxY0_8
  have HX_9 := Aside0.mk (blk_below HX_8.out hb9)
  clear HX_8
  have HB_9 := Aside0.mk (below_step HB_8.out hb9)
  clear HB_8
  have HW0_9 := Aside0.mk (Kd.R_below HW0_8.out hb9)
  clear HW0_8
  have HW1_9 := Aside0.mk (Kd.S_below HW1_8.out hb9)
  clear HW1_8
  have HY0_9 := Aside0.mk (blk_below HY0_8.out hb9)
  clear HY0_8
  have HDX_9 := Aside0.mk (Kd.R_below HDX_8.out hb9)
  clear HDX_8
  have HYX_9 := Aside0.mk (blk_below HYX_8.out hb9)
  clear HYX_8
  have HG0_9 := Aside0.mk (Kd.R_below HG0_8.out hb9)
  clear HG0_8
  have HG1_9 := Aside0.mk (Kd.S_below HG1_8.out hb9)
  clear HG1_8
  have HYG_9 := Aside0.mk (blk_below HYG_8.out hb9)
  clear HYG_8
  have HL9 := Aside0.mk (show (w7.alloc (.cells #[.slice Ag0 gs0.length cg0] 31)).heap.size ≤ w9.heap.size from hb9.size)
  clear hb9
  go_wp2_with fail
  refine (laws_eqBatchS.calls k _ _ gs1 _ _ ws1 true _ (Kd.S_reads' HG1_9.out).2.2 (Kd.S_reads' HG1_9.out).2.1 (Kd.S_reads' HW1_9.out).2.2 (Kd.S_reads' HW1_9.out).2.1 H5b.out).mono ?_
  rintro e w10 ⟨rfl, hb10⟩
  have HX_10 := Aside0.mk (blk_below HX_9.out hb10)
  clear HX_9
  have HB_10 := Aside0.mk (below_step HB_9.out hb10)
  clear HB_9
  have HW0_10 := Aside0.mk (Kd.R_below HW0_9.out hb10)
  clear HW0_9
  have HW1_10 := Aside0.mk (Kd.S_below HW1_9.out hb10)
  clear HW1_9
  have HY0_10 := Aside0.mk (blk_below HY0_9.out hb10)
  clear HY0_9
  have HDX_10 := Aside0.mk (Kd.R_below HDX_9.out hb10)
  clear HDX_9
  have HYX_10 := Aside0.mk (blk_below HYX_9.out hb10)
  clear HYX_9
  have HG0_10 := Aside0.mk (Kd.R_below HG0_9.out hb10)
  clear HG0_9
  have HG1_10 := Aside0.mk (Kd.S_below HG1_9.out hb10)
  clear HG1_9
  have HYG_10 := Aside0.mk (blk_below HYG_9.out hb10)
  clear HYG_9
  have HL10 := Aside0.mk (show w9.heap.size ≤ w10.heap.size from hb10.size)
  clear hb10
  try go_wp2
  have HX_11 := Aside0.mk (blk_drew HX_10.out)
  clear HX_10
  have HB_11 := Aside0.mk (below_drew1 HB_10.out)
  clear HB_10
  have HW0_11 := Aside0.mk (Kd.R_drew HW0_10.out)
  clear HW0_10
  have HW1_11 := Aside0.mk (Kd.S_drew HW1_10.out)
  clear HW1_10
  have HY0_11 := Aside0.mk (blk_drew HY0_10.out)
  clear HY0_10
  have HDX_11 := Aside0.mk (Kd.R_drew HDX_10.out)
  clear HDX_10
  have HYX_11 := Aside0.mk (blk_drew HYX_10.out)
  clear HYX_10
  have HG0_11 := Aside0.mk (Kd.R_drew HG0_10.out)
  clear HG0_10
  have HG1_11 := Aside0.mk (Kd.S_drew HG1_10.out)
  clear HG1_10
  have HYG_11 := Aside0.mk (blk_drew HYG_10.out)
  clear HYG_10
  have HL11 := Aside0.mk (show w10.heap.size = w10.drew.heap.size from rfl)
  refine start_ (n := 5) (S := fun w' => w'.cell? ⟨w5.heap.size, 0, none⟩ = some (.slice Ax d.length cx) ∧ w'.cell? ⟨w.heap.size, 0, none⟩ = some (.slice A0_0 l0_0.length c0_0)) (ds := []) #[false, false, false, false, false] (by kernel_rfl) rfl rfl ⟨(blk_cell HYX_11.out 0).trans rfl, (blk_cell HX_11.out 0).trans rfl⟩ (fun hHeld => ?_)
  generalize w10.drew = w11 at HX_11 HB_11 HW0_11 HW1_11 HY0_11 HDX_11 HYX_11 HG0_11 HG1_11 HYG_11 HL11 hHeld ⊢
  refine take_ (i := 0) (N := some 56) (v := ?_) (a' := ?_) #[true, false, false, false, false] rfl rfl (by kernel_rfl) (fun _ _ _ h => h) (Or.inl ⟨by rfl, ?_⟩) hHeld ?_ ?_
  rotate_left
  ·rintro w' ⟨s0, s1⟩
   go_simp
   with_reducible rfl
  rotate_left
  ·simp only [Act.put, List.setIfInBounds_toArray, List.set_cons_zero, List.set_cons_succ, i64_w, i32_w]
   rfl
  refine take_ (i := 1) (N := some 57) (v := ?_) (a' := ?_) #[true, true, false, false, false] rfl rfl (by kernel_rfl) (fun _ _ _ h => h) (Or.inl ⟨by rfl, ?_⟩) hHeld ?_ ?_
  rotate_left
  ·rintro w' ⟨s0, s1⟩
   go_simp
   with_reducible rfl
  rotate_left
  ·simp only [Act.put, List.setIfInBounds_toArray, List.set_cons_zero, List.set_cons_succ, i64_w, i32_w]
   rfl
  refine one_ (i := 2) (N := some 58) #[true, true, true, false, false] rfl rfl (by kernel_rfl) (by decide) (fun K hK => ?_)
  refine goes_ Try.func10 (by kernel_rfl) rfl #[.agg #[.slice A0_0 l0_0.length c0_0]] (by rfl) rfl rfl (by (try simp only [List.map_toArray, List.map_cons, List.map_nil]); first | done | rfl) ?_
  refine (laws_toDisk.calls k _ _ l0_0 d _ (Kd.C_below HR0.out HB_11.out) HC0.out H2.out).mono ?_
  rintro e w12 ⟨v9, rfl, ho, hb12⟩
  have HX_12 := Aside0.mk (blk_below HX_11.out hb12)
  clear HX_11
  have HB_12 := Aside0.mk (below_step HB_11.out hb12)
  clear HB_11
  have HW0_12 := Aside0.mk (Kd.R_below HW0_11.out hb12)
  clear HW0_11
  have HW1_12 := Aside0.mk (Kd.S_below HW1_11.out hb12)
  clear HW1_11
  have HY0_12 := Aside0.mk (blk_below HY0_11.out hb12)
  clear HY0_11
  have HDX_12 := Aside0.mk (Kd.R_below HDX_11.out hb12)
  clear HDX_11
  have HYX_12 := Aside0.mk (blk_below HYX_11.out hb12)
  clear HYX_11
  have HG0_12 := Aside0.mk (Kd.R_below HG0_11.out hb12)
  clear HG0_11
  have HG1_12 := Aside0.mk (Kd.S_below HG1_11.out hb12)
  clear HG1_11
  have HYG_12 := Aside0.mk (blk_below HYG_11.out hb12)
  clear HYG_11
  have HL12 := Aside0.mk (show w11.heap.size ≤ w12.heap.size from hb12.size)
  refine ⟨_, rfl, ?_⟩
  have HE := Aside0.mk ho
  clear ho hb12
  obtain ⟨A9, c9, rfl⟩ := Kd.R_slice HE.out
  refine hK.out _ _ ⟨(blk_cell HYX_12.out 0).trans rfl, (blk_cell HX_12.out 0).trans rfl⟩ (fun hHeld => ?_)
  clear hK K
  refine no_ ?_
  refine one_ (i := 3) (N := some 59) #[true, true, true, true, false] rfl rfl (by kernel_rfl) (by decide) (fun K hK => ?_)
  refine goes_ Try.func13 (by kernel_rfl) rfl #[.agg #[.slice Ax d.length cx], .agg #[.slice A9 d.length c9]] (by rfl) rfl rfl (by (try simp only [List.map_toArray, List.map_cons, List.map_nil]); first | done | rfl) ?_
  refine (laws_eqDisk.calls k _ _ d _ _ d true _ (Kd.R_reads' HDX_12.out).2.2 (Kd.R_reads' HDX_12.out).2.1 (Kd.R_reads' HE.out).2.2 (Kd.R_reads' HE.out).2.1 H6.out).mono ?_
  rintro e w13 ⟨rfl, hb13⟩
  have HX_13 := Aside0.mk (blk_below HX_12.out hb13)
  clear HX_12
  have HB_13 := Aside0.mk (below_step HB_12.out hb13)
  clear HB_12
  have HW0_13 := Aside0.mk (Kd.R_below HW0_12.out hb13)
  clear HW0_12
  have HW1_13 := Aside0.mk (Kd.S_below HW1_12.out hb13)
  clear HW1_12
  have HY0_13 := Aside0.mk (blk_below HY0_12.out hb13)
  clear HY0_12
  have HDX_13 := Aside0.mk (Kd.R_below HDX_12.out hb13)
  clear HDX_12
  have HYX_13 := Aside0.mk (blk_below HYX_12.out hb13)
  clear HYX_12
  have HG0_13 := Aside0.mk (Kd.R_below HG0_12.out hb13)
  clear HG0_12
  have HG1_13 := Aside0.mk (Kd.S_below HG1_12.out hb13)
  clear HG1_12
  have HYG_13 := Aside0.mk (blk_below HYG_12.out hb13)
  clear HYG_12
  have HL13 := Aside0.mk (show w12.heap.size ≤ w13.heap.size from hb13.size)
  refine ⟨_, rfl, ?_⟩
  clear HE hb13
  refine hK.out _ _ ⟨(blk_cell HYX_13.out 0).trans rfl, (blk_cell HX_13.out 0).trans rfl⟩ (fun hHeld => ?_)
  clear hK K
  refine no_ ?_
  refine pure_ (i := 4) (N := some 60) (v := ?_) (a' := ?_) #[true, true, true, true, true] rfl rfl (by kernel_rfl) (fun _ _ _ h => h) (Or.inl ⟨by rfl, ?_⟩) ?_ ?_
  rotate_left
  ·intro w'
   go_simp
   with_reducible rfl
  rotate_left
  ·simp only [Act.put, List.setIfInBounds_toArray, List.set_cons_zero, List.set_cons_succ, i64_w, i32_w]
   rfl
  refine done_ (by kernel_rfl) ?_
  have hxYX_13 : w13.cell? ⟨w5.heap.size, 0, none⟩ = some (.slice Ax d.length cx) := (blk_cell HYX_13.out 0).trans rfl
  go_wp2_with fail
  refine (laws_markDisk.calls k (fun k_ => w3.heap.size < k_ ∧ k_ < w5.heap.size) _ d 1 mk md w _ HB_13.out HDX_13.out H7.out).mono ?_
  rintro e w14 ⟨rfl, ho, hb, hk⟩
  clear hxYX_13
  have HX_14 := Aside0.mk (blk_kept HX_13.out hk (fun h2_ => by have h3_ := h2_.1; have h4_ := h2_.2; clear h2_; have l0_ := HL1.out; have l1_ := HL2.out; have l2_ := HL3.out; have l3_ := HL4.out; have l4_ := HL5.out; have l5_ := HL6.out; have l6_ := HL7.out; have l7_ := HL8.out; have l8_ := HL9.out; have l9_ := HL10.out; have l10_ := HL11.out; have l11_ := HL12.out; have l12_ := HL13.out; omega))
  clear HX_13
  have HB_14 := Aside0.mk (hb)
  clear HB_13
  have HW0_14 := Aside0.mk (Kd.R_kept HW0_13.out hk (fun k_ h_ h2_ => by have h3_ := h2_.1; clear h2_; have l0_ := HL1.out; have l1_ := HL2.out; have l2_ := HL3.out; have l3_ := HL4.out; have l4_ := HL5.out; have l5_ := HL6.out; have l6_ := HL7.out; have l7_ := HL8.out; have l8_ := HL9.out; have l9_ := HL10.out; have l10_ := HL11.out; have l11_ := HL12.out; have l12_ := HL13.out; omega))
  clear HW0_13
  have HW1_14 := Aside0.mk (Kd.S_kept HW1_13.out hk (fun k_ h_ h2_ => by have h3_ := h2_.1; clear h2_; have l0_ := HL1.out; have l1_ := HL2.out; have l2_ := HL3.out; have l3_ := HL4.out; have l4_ := HL5.out; have l5_ := HL6.out; have l6_ := HL7.out; have l7_ := HL8.out; have l8_ := HL9.out; have l9_ := HL10.out; have l10_ := HL11.out; have l11_ := HL12.out; have l12_ := HL13.out; omega))
  clear HW1_13
  have HY0_14 := Aside0.mk (blk_kept HY0_13.out hk (fun h2_ => by have h3_ := h2_.1; have h4_ := h2_.2; clear h2_; have l0_ := HL1.out; have l1_ := HL2.out; have l2_ := HL3.out; have l3_ := HL4.out; have l4_ := HL5.out; have l5_ := HL6.out; have l6_ := HL7.out; have l7_ := HL8.out; have l8_ := HL9.out; have l9_ := HL10.out; have l10_ := HL11.out; have l11_ := HL12.out; have l12_ := HL13.out; omega))
  clear HY0_13
  have HYX_14 := Aside0.mk (blk_kept HYX_13.out hk (fun h2_ => by have h3_ := h2_.1; have h4_ := h2_.2; clear h2_; have l0_ := HL1.out; have l1_ := HL2.out; have l2_ := HL3.out; have l3_ := HL4.out; have l4_ := HL5.out; have l5_ := HL6.out; have l6_ := HL7.out; have l7_ := HL8.out; have l8_ := HL9.out; have l9_ := HL10.out; have l10_ := HL11.out; have l11_ := HL12.out; have l12_ := HL13.out; omega))
  clear HYX_13
  have HG0_14 := Aside0.mk (Kd.R_kept HG0_13.out hk (fun k_ h_ h2_ => by have h3_ := h_.1; have h4_ := h2_.2; clear h_ h2_; have l0_ := HL1.out; have l1_ := HL2.out; have l2_ := HL3.out; have l3_ := HL4.out; have l4_ := HL5.out; have l5_ := HL6.out; have l6_ := HL7.out; have l7_ := HL8.out; have l8_ := HL9.out; have l9_ := HL10.out; have l10_ := HL11.out; have l11_ := HL12.out; have l12_ := HL13.out; omega))
  clear HG0_13
  have HG1_14 := Aside0.mk (Kd.S_kept HG1_13.out hk (fun k_ h_ h2_ => by have h3_ := h_.1; have h4_ := h2_.2; clear h_ h2_; have l0_ := HL1.out; have l1_ := HL2.out; have l2_ := HL3.out; have l3_ := HL4.out; have l4_ := HL5.out; have l5_ := HL6.out; have l6_ := HL7.out; have l7_ := HL8.out; have l8_ := HL9.out; have l9_ := HL10.out; have l10_ := HL11.out; have l11_ := HL12.out; have l12_ := HL13.out; omega))
  clear HG1_13
  have HYG_14 := Aside0.mk (blk_kept HYG_13.out hk (fun h2_ => by have h3_ := h2_.1; have h4_ := h2_.2; clear h2_; have l0_ := HL1.out; have l1_ := HL2.out; have l2_ := HL3.out; have l3_ := HL4.out; have l4_ := HL5.out; have l5_ := HL6.out; have l6_ := HL7.out; have l7_ := HL8.out; have l8_ := HL9.out; have l9_ := HL10.out; have l10_ := HL11.out; have l11_ := HL12.out; have l12_ := HL13.out; omega))
  clear HYG_13
  have HDX_14 := Aside0.mk (ho)
  clear HDX_13
  have HL14 := Aside0.mk (show w13.heap.size ≤ w14.heap.size from hk.1)
  clear ho hb hk
  clear HDX_14
  have hxYG_14 : w14.cell? ⟨w7.heap.size, 0, none⟩ = some (.slice Ag0 gs0.length cg0) := (blk_cell HYG_14.out 0).trans rfl
  have hxY0_14 : w14.cell? ⟨w3.heap.size, 0, none⟩ = some (.slice Aw0 ws0.length cw0) := (blk_cell HY0_14.out 0).trans rfl
  clear HYX_14
  go_wp2_with fail
  refine (laws_eqDisk.calls k _ _ gs0 _ _ ws0 true _ (Kd.R_reads' HG0_14.out).2.2 (Kd.R_reads' HG0_14.out).2.1 (Kd.R_reads' HW0_14.out).2.2 (Kd.R_reads' HW0_14.out).2.1 H5.out).mono ?_
  rintro e w15 ⟨rfl, hb15⟩
  clear hxYG_14
  clear hxY0_14
  have HX_15 := Aside0.mk (blk_below HX_14.out hb15)
  clear HX_14
  have HB_15 := Aside0.mk (below_step HB_14.out hb15)
  clear HB_14
  have HW0_15 := Aside0.mk (Kd.R_below HW0_14.out hb15)
  clear HW0_14
  have HW1_15 := Aside0.mk (Kd.S_below HW1_14.out hb15)
  clear HW1_14
  have HY0_15 := Aside0.mk (blk_below HY0_14.out hb15)
  clear HY0_14
  have HG0_15 := Aside0.mk (Kd.R_below HG0_14.out hb15)
  clear HG0_14
  have HG1_15 := Aside0.mk (Kd.S_below HG1_14.out hb15)
  clear HG1_14
  have HYG_15 := Aside0.mk (blk_below HYG_14.out hb15)
  clear HYG_14
  have HL15 := Aside0.mk (show w14.heap.size ≤ w15.heap.size from hb15.size)
  clear hb15
  go_wp2_with fail
  refine (laws_eqBatchS.calls k _ _ gs1 _ _ ws1 true _ (Kd.S_reads' HG1_15.out).2.2 (Kd.S_reads' HG1_15.out).2.1 (Kd.S_reads' HW1_15.out).2.2 (Kd.S_reads' HW1_15.out).2.1 H5b.out).mono ?_
  rintro e w16 ⟨rfl, hb16⟩
  have HX_16 := Aside0.mk (blk_below HX_15.out hb16)
  clear HX_15
  have HB_16 := Aside0.mk (below_step HB_15.out hb16)
  clear HB_15
  have HW0_16 := Aside0.mk (Kd.R_below HW0_15.out hb16)
  clear HW0_15
  have HW1_16 := Aside0.mk (Kd.S_below HW1_15.out hb16)
  clear HW1_15
  have HY0_16 := Aside0.mk (blk_below HY0_15.out hb16)
  clear HY0_15
  have HG0_16 := Aside0.mk (Kd.R_below HG0_15.out hb16)
  clear HG0_15
  have HG1_16 := Aside0.mk (Kd.S_below HG1_15.out hb16)
  clear HG1_15
  have HYG_16 := Aside0.mk (blk_below HYG_15.out hb16)
  clear HYG_15
  have HL16 := Aside0.mk (show w15.heap.size ≤ w16.heap.size from hb16.size)
  clear hb16
  have hxYG_16 : w16.cell? ⟨w7.heap.size, 0, none⟩ = some (.slice Ag0 gs0.length cg0) := (blk_cell HYG_16.out 0).trans rfl
  go_wp2_with fail
  refine (laws_markDisk.calls k (fun k_ => w5.heap.size < k_ ∧ k_ < w7.heap.size ∧ ∃ q_, q_ ∈ 56 :: (k56).E ∧ ∃ c_, w7.heap[k_]? = some (.cells c_ q_ (0, 0))) _ gs0 1 m0 ms0 w _ HB_16.out HG0_16.out H8.out).mono ?_
  rintro e w17 ⟨rfl, ho, hb, hk⟩
  clear hxYG_16
  have HX_17 := Aside0.mk (blk_kept HX_16.out hk (fun h2_ => by have h3_ := h2_.1; have h4_ := h2_.2; clear h2_; have l0_ := HL1.out; have l1_ := HL2.out; have l2_ := HL3.out; have l3_ := HL4.out; have l4_ := HL5.out; have l5_ := HL6.out; have l6_ := HL7.out; have l7_ := HL8.out; have l8_ := HL9.out; have l9_ := HL10.out; have l10_ := HL11.out; have l11_ := HL12.out; have l12_ := HL13.out; have l13_ := HL14.out; have l14_ := HL15.out; have l15_ := HL16.out; omega))
  clear HX_16
  have HB_17 := Aside0.mk (hb)
  clear HB_16
  have HW0_17 := Aside0.mk (Kd.R_kept HW0_16.out hk (fun k_ h_ h2_ => by have h3_ := h2_.1; clear h2_; have l0_ := HL1.out; have l1_ := HL2.out; have l2_ := HL3.out; have l3_ := HL4.out; have l4_ := HL5.out; have l5_ := HL6.out; have l6_ := HL7.out; have l7_ := HL8.out; have l8_ := HL9.out; have l9_ := HL10.out; have l10_ := HL11.out; have l11_ := HL12.out; have l12_ := HL13.out; have l13_ := HL14.out; have l14_ := HL15.out; have l15_ := HL16.out; omega))
  clear HW0_16
  have HW1_17 := Aside0.mk (Kd.S_kept HW1_16.out hk (fun k_ h_ h2_ => by have h3_ := h2_.1; clear h2_; have l0_ := HL1.out; have l1_ := HL2.out; have l2_ := HL3.out; have l3_ := HL4.out; have l4_ := HL5.out; have l5_ := HL6.out; have l6_ := HL7.out; have l7_ := HL8.out; have l8_ := HL9.out; have l9_ := HL10.out; have l10_ := HL11.out; have l11_ := HL12.out; have l12_ := HL13.out; have l13_ := HL14.out; have l14_ := HL15.out; have l15_ := HL16.out; omega))
  clear HW1_16
  have HY0_17 := Aside0.mk (blk_kept HY0_16.out hk (fun h2_ => by have h3_ := h2_.1; have h4_ := h2_.2; clear h2_; have l0_ := HL1.out; have l1_ := HL2.out; have l2_ := HL3.out; have l3_ := HL4.out; have l4_ := HL5.out; have l5_ := HL6.out; have l6_ := HL7.out; have l7_ := HL8.out; have l8_ := HL9.out; have l9_ := HL10.out; have l10_ := HL11.out; have l11_ := HL12.out; have l12_ := HL13.out; have l13_ := HL14.out; have l14_ := HL15.out; have l15_ := HL16.out; omega))
  clear HY0_16
  have HG1_17 := Aside0.mk (Kd.S_kept HG1_16.out hk (fun k_ h_ h2_ => by obtain ⟨_, _, q_, hq_, c_, hc_⟩ := h_; obtain ⟨_, _, q2_, hq2_, c2_, hc2_⟩ := h2_; rw [hc_] at hc2_; injection hc2_ with e1_; injection e1_ with _ e2_ _; subst e2_; exact (by decide : ∀ x_ ∈ (44 :: (k44).E), x_ ∉ (56 :: (k56).E)) _ hq_ hq2_))
  clear HG1_16
  have HYG_17 := Aside0.mk (blk_kept HYG_16.out hk (fun h2_ => by have h3_ := h2_.1; have h4_ := h2_.2; clear h2_; have l0_ := HL1.out; have l1_ := HL2.out; have l2_ := HL3.out; have l3_ := HL4.out; have l4_ := HL5.out; have l5_ := HL6.out; have l6_ := HL7.out; have l7_ := HL8.out; have l8_ := HL9.out; have l9_ := HL10.out; have l10_ := HL11.out; have l11_ := HL12.out; have l12_ := HL13.out; have l13_ := HL14.out; have l14_ := HL15.out; have l15_ := HL16.out; omega))
  clear HYG_16
  have HG0_17 := Aside0.mk (ho)
  clear HG0_16
  have HL17 := Aside0.mk (show w16.heap.size ≤ w17.heap.size from hk.1)
  clear ho hb hk
  have HGL := Aside0.mk (Kd.R_reads' HG0_17.out).1
  have HG0_517 := Aside0.mk (show Kd.R k56 56 w17 w.heap.size (fun k_ => (w5.heap.size < k_ ∧ k_ < w7.heap.size ∧ ∃ q_, q_ ∈ 56 :: (k56).E ∧ ∃ c_, w7.heap[k_]? = some (.cells c_ q_ (0, 0))) ∨ w16.heap.size ≤ k_) (.slice Ag0 ms0.length cg0) ms0 by rw [← HGL.out]; exact HG0_17.out)
  clear HG0_17
  go_wp2_with fail
  refine (laws_markBatchS.calls k (fun k_ => w5.heap.size < k_ ∧ k_ < w7.heap.size ∧ ∃ q_, q_ ∈ 44 :: (k44).E ∧ ∃ c_, w7.heap[k_]? = some (.cells c_ q_ (0, 0))) _ gs1 m0 q ms1 w _ HB_17.out HG1_17.out H8b.out).mono ?_
  rintro e w18 ⟨rfl, ho, hb, hk⟩
  have HX_18 := Aside0.mk (blk_kept HX_17.out hk (fun h2_ => by have h3_ := h2_.1; have h4_ := h2_.2; clear h2_; have l0_ := HL1.out; have l1_ := HL2.out; have l2_ := HL3.out; have l3_ := HL4.out; have l4_ := HL5.out; have l5_ := HL6.out; have l6_ := HL7.out; have l7_ := HL8.out; have l8_ := HL9.out; have l9_ := HL10.out; have l10_ := HL11.out; have l11_ := HL12.out; have l12_ := HL13.out; have l13_ := HL14.out; have l14_ := HL15.out; have l15_ := HL16.out; have l16_ := HL17.out; omega))
  clear HX_17
  have HB_18 := Aside0.mk (hb)
  clear HB_17
  have HW0_18 := Aside0.mk (Kd.R_kept HW0_17.out hk (fun k_ h_ h2_ => by have h3_ := h2_.1; clear h2_; have l0_ := HL1.out; have l1_ := HL2.out; have l2_ := HL3.out; have l3_ := HL4.out; have l4_ := HL5.out; have l5_ := HL6.out; have l6_ := HL7.out; have l7_ := HL8.out; have l8_ := HL9.out; have l9_ := HL10.out; have l10_ := HL11.out; have l11_ := HL12.out; have l12_ := HL13.out; have l13_ := HL14.out; have l14_ := HL15.out; have l15_ := HL16.out; have l16_ := HL17.out; omega))
  clear HW0_17
  have HW1_18 := Aside0.mk (Kd.S_kept HW1_17.out hk (fun k_ h_ h2_ => by have h3_ := h2_.1; clear h2_; have l0_ := HL1.out; have l1_ := HL2.out; have l2_ := HL3.out; have l3_ := HL4.out; have l4_ := HL5.out; have l5_ := HL6.out; have l6_ := HL7.out; have l7_ := HL8.out; have l8_ := HL9.out; have l9_ := HL10.out; have l10_ := HL11.out; have l11_ := HL12.out; have l12_ := HL13.out; have l13_ := HL14.out; have l14_ := HL15.out; have l15_ := HL16.out; have l16_ := HL17.out; omega))
  clear HW1_17
  have HY0_18 := Aside0.mk (blk_kept HY0_17.out hk (fun h2_ => by have h3_ := h2_.1; have h4_ := h2_.2; clear h2_; have l0_ := HL1.out; have l1_ := HL2.out; have l2_ := HL3.out; have l3_ := HL4.out; have l4_ := HL5.out; have l5_ := HL6.out; have l6_ := HL7.out; have l7_ := HL8.out; have l8_ := HL9.out; have l9_ := HL10.out; have l10_ := HL11.out; have l11_ := HL12.out; have l12_ := HL13.out; have l13_ := HL14.out; have l14_ := HL15.out; have l15_ := HL16.out; have l16_ := HL17.out; omega))
  clear HY0_17
  have HG0_18 := Aside0.mk (Kd.R_kept HG0_517.out hk (fun k_ h_ h2_ => by rcases h_ with h_ | h_; (· obtain ⟨_, _, q_, hq_, c_, hc_⟩ := h_; obtain ⟨_, _, q2_, hq2_, c2_, hc2_⟩ := h2_; rw [hc_] at hc2_; injection hc2_ with e1_; injection e1_ with _ e2_ _; subst e2_; exact (by decide : ∀ x_ ∈ (56 :: (k56).E), x_ ∉ (44 :: (k44).E)) _ hq_ hq2_); (· have h3_ := h2_.2.1; clear h2_; have l0_ := HL1.out; have l1_ := HL2.out; have l2_ := HL3.out; have l3_ := HL4.out; have l4_ := HL5.out; have l5_ := HL6.out; have l6_ := HL7.out; have l7_ := HL8.out; have l8_ := HL9.out; have l9_ := HL10.out; have l10_ := HL11.out; have l11_ := HL12.out; have l12_ := HL13.out; have l13_ := HL14.out; have l14_ := HL15.out; have l15_ := HL16.out; have l16_ := HL17.out; omega)))
  clear HG0_517
  have HYG_18 := Aside0.mk (blk_kept HYG_17.out hk (fun h2_ => by have h3_ := h2_.1; have h4_ := h2_.2; clear h2_; have l0_ := HL1.out; have l1_ := HL2.out; have l2_ := HL3.out; have l3_ := HL4.out; have l4_ := HL5.out; have l5_ := HL6.out; have l6_ := HL7.out; have l7_ := HL8.out; have l8_ := HL9.out; have l9_ := HL10.out; have l10_ := HL11.out; have l11_ := HL12.out; have l12_ := HL13.out; have l13_ := HL14.out; have l14_ := HL15.out; have l15_ := HL16.out; have l16_ := HL17.out; omega))
  clear HYG_17
  have HG1_18 := Aside0.mk (ho)
  clear HG1_17
  have HL18 := Aside0.mk (show w17.heap.size ≤ w18.heap.size from hk.1)
  clear ho hb hk
  have HGM := Aside0.mk (Kd.S_reads' HG1_18.out).1
  have HG1_518 := Aside0.mk (show Kd.S k44 44 w18 w.heap.size (fun k_ => w5.heap.size < k_ ∧ k_ < w7.heap.size ∧ ∃ q_, q_ ∈ 44 :: (k44).E ∧ ∃ c_, w7.heap[k_]? = some (.cells c_ q_ (0, 0))) (.slice Ag1 ms1.length cg1) ms1 by rw [← HGM.out]; exact HG1_18.out)
  clear HG1_18
  have hxYG_18 : w18.cell? ⟨w7.heap.size, 0, none⟩ = some (.slice Ag0 gs0.length cg0) := (blk_cell HYG_18.out 0).trans rfl
  go_wp2_with fail
  rw [HGL.out]
  refine (laws_heldDisk.calls k _ _ ms0 1 q0 _ (Kd.R_reads' HG0_18.out).2.2 (Kd.R_reads' HG0_18.out).2.1 H9.out).mono ?_
  rintro e w19 ⟨rfl, hb19⟩
  clear hxYG_18
  have HX_19 := Aside0.mk (blk_below HX_18.out hb19)
  clear HX_18
  have HB_19 := Aside0.mk (below_step HB_18.out hb19)
  clear HB_18
  have HW0_19 := Aside0.mk (Kd.R_below HW0_18.out hb19)
  clear HW0_18
  have HW1_19 := Aside0.mk (Kd.S_below HW1_18.out hb19)
  clear HW1_18
  have HY0_19 := Aside0.mk (blk_below HY0_18.out hb19)
  clear HY0_18
  have HG0_19 := Aside0.mk (Kd.R_below HG0_18.out hb19)
  clear HG0_18
  have HG1_19 := Aside0.mk (Kd.S_below HG1_518.out hb19)
  clear HG1_518
  have HYG_19 := Aside0.mk (blk_below HYG_18.out hb19)
  clear HYG_18
  have HL19 := Aside0.mk (show w18.heap.size ≤ w19.heap.size from hb19.size)
  clear hb19
  go_wp2_with fail
  rw [HGM.out]
  refine (laws_heldBatchS.calls k _ _ ms1 q0 q _ (Kd.S_reads' HG1_19.out).2.2 (Kd.S_reads' HG1_19.out).2.1 H9b.out).mono ?_
  rintro e w20 ⟨rfl, hb20⟩
  have HX_20 := Aside0.mk (blk_below HX_19.out hb20)
  clear HX_19
  have HB_20 := Aside0.mk (below_step HB_19.out hb20)
  clear HB_19
  have HW0_20 := Aside0.mk (Kd.R_below HW0_19.out hb20)
  clear HW0_19
  have HW1_20 := Aside0.mk (Kd.S_below HW1_19.out hb20)
  clear HW1_19
  have HY0_20 := Aside0.mk (blk_below HY0_19.out hb20)
  clear HY0_19
  have HG0_20 := Aside0.mk (Kd.R_below HG0_19.out hb20)
  clear HG0_19
  have HG1_20 := Aside0.mk (Kd.S_below HG1_19.out hb20)
  clear HG1_19
  have HYG_20 := Aside0.mk (blk_below HYG_19.out hb20)
  clear HYG_19
  have HL20 := Aside0.mk (show w19.heap.size ≤ w20.heap.size from hb20.size)
  clear hb20
  have hxX_20 : w20.cell? ⟨w.heap.size, 0, none⟩ = some (.slice A0_0 l0_0.length c0_0) := (blk_cell HX_20.out 0).trans rfl
  go_wp2_with fail
  refine (laws_toDisk.calls k _ _ l0_0 d _ (Kd.C_below HR0.out HB_20.out) HC0.out H2.out).mono ?_
  rintro e w21 ⟨vy, rfl, ho, hb21⟩
  clear hxX_20
  have HX_21 := Aside0.mk (blk_below HX_20.out hb21)
  clear HX_20
  have HB_21 := Aside0.mk (below_step HB_20.out hb21)
  clear HB_20
  have HW0_21 := Aside0.mk (Kd.R_below HW0_20.out hb21)
  clear HW0_20
  have HW1_21 := Aside0.mk (Kd.S_below HW1_20.out hb21)
  clear HW1_20
  have HY0_21 := Aside0.mk (blk_below HY0_20.out hb21)
  clear HY0_20
  have HG0_21 := Aside0.mk (Kd.R_below HG0_20.out hb21)
  clear HG0_20
  have HG1_21 := Aside0.mk (Kd.S_below HG1_20.out hb21)
  clear HG1_20
  have HYG_21 := Aside0.mk (blk_below HYG_20.out hb21)
  clear HYG_20
  have HL21 := Aside0.mk (show w20.heap.size ≤ w21.heap.size from hb21.size)
  obtain ⟨Ay, cy, rfl⟩ := Kd.R_slice ho
  have HD := Aside0.mk ho
  clear ho hb21
  clear HX_21
  go_wp2_with fail
  refine (impl_RecoverFile.calls k _ _ d a1 gs0 gs1 wo' _ (Kd.R_reads' HD.out).2.2 (Kd.R_reads' HD.out).2.1 H4.out).mono ?_
  rintro e w22 ⟨v4, v5, rfl, ho0, ho1, hb22⟩
  have HB_22 := Aside0.mk (below_step HB_21.out hb22)
  clear HB_21
  have HW0_22 := Aside0.mk (Kd.R_below HW0_21.out hb22)
  clear HW0_21
  have HW1_22 := Aside0.mk (Kd.S_below HW1_21.out hb22)
  clear HW1_21
  have HY0_22 := Aside0.mk (blk_below HY0_21.out hb22)
  clear HY0_21
  have HG0_22 := Aside0.mk (Kd.R_below HG0_21.out hb22)
  clear HG0_21
  have HG1_22 := Aside0.mk (Kd.S_below HG1_21.out hb22)
  clear HG1_21
  have HYG_22 := Aside0.mk (blk_below HYG_21.out hb22)
  clear HYG_21
  have HL22 := Aside0.mk (show w21.heap.size ≤ w22.heap.size from hb22.size)
  obtain ⟨Ah0, ch0, rfl⟩ := Kd.R_slice ho0
  obtain ⟨Ah1, ch1, rfl⟩ := Kd.S_slice ho1
  clear HD hb22
  have HH0_722 := Aside0.mk (ho0)
  have HH1_722 := Aside0.mk (ho1)
  clear ho0 ho1
  have HB_23 := Aside0.mk (below_alloc HB_22.out (.cells #[.slice Ah0 gs0.length ch0] 31))
  clear HB_22
  have HW0_23 := Aside0.mk (Kd.R_alloc HW0_22.out (.cells #[.slice Ah0 gs0.length ch0] 31))
  clear HW0_22
  have HW1_23 := Aside0.mk (Kd.S_alloc HW1_22.out (.cells #[.slice Ah0 gs0.length ch0] 31))
  clear HW1_22
  have HY0_23 := Aside0.mk (blk_alloc HY0_22.out (.cells #[.slice Ah0 gs0.length ch0] 31))
  clear HY0_22
  have HG0_23 := Aside0.mk (Kd.R_alloc HG0_22.out (.cells #[.slice Ah0 gs0.length ch0] 31))
  clear HG0_22
  have HG1_23 := Aside0.mk (Kd.S_alloc HG1_22.out (.cells #[.slice Ah0 gs0.length ch0] 31))
  clear HG1_22
  have HYG_23 := Aside0.mk (blk_alloc HYG_22.out (.cells #[.slice Ah0 gs0.length ch0] 31))
  clear HYG_22
  have HH0_23 := Aside0.mk (Kd.R_alloc HH0_722.out (.cells #[.slice Ah0 gs0.length ch0] 31))
  clear HH0_722
  have HH1_23 := Aside0.mk (Kd.S_alloc HH1_722.out (.cells #[.slice Ah0 gs0.length ch0] 31))
  clear HH1_722
  have HL23 := Aside0.mk (show (w22.alloc (.cells #[.slice Ah0 gs0.length ch0] 31)).heap.size = w22.heap.size + 1 by rw [World.alloc]; exact Array.size_push _)
  have HYH_23 := Aside0.mk (show (w22.alloc (.cells #[.slice Ah0 gs0.length ch0] 31)).heap[w22.heap.size]? = some (.cells #[.slice Ah0 gs0.length ch0] 31 (0, 0)) by rw [World.alloc]; exact Array.getElem?_push_size)
  have hxYH_23 : (w22.alloc (.cells #[.slice Ah0 gs0.length ch0] 31)).cell? ⟨w22.heap.size, 0, none⟩ = some (.slice Ah0 gs0.length ch0) := (blk_cell HYH_23.out 0).trans rfl
  have hxY0_23 : (w22.alloc (.cells #[.slice Ah0 gs0.length ch0] 31)).cell? ⟨w3.heap.size, 0, none⟩ = some (.slice Aw0 ws0.length cw0) := (blk_cell HY0_23.out 0).trans rfl
  go_wp2_with fail
  refine (laws_eqDisk.calls k _ _ gs0 _ _ ws0 true _ (Kd.R_reads' HH0_23.out).2.2 (Kd.R_reads' HH0_23.out).2.1 (Kd.R_reads' HW0_23.out).2.2 (Kd.R_reads' HW0_23.out).2.1 H5.out).mono ?_
  rintro e w24 ⟨rfl, hb24⟩
  clear hxYH_23
  clear hxY0_23
  have HB_24 := Aside0.mk (below_step HB_23.out hb24)
  clear HB_23
  have HW0_24 := Aside0.mk (Kd.R_below HW0_23.out hb24)
  clear HW0_23
  have HW1_24 := Aside0.mk (Kd.S_below HW1_23.out hb24)
  clear HW1_23
  have HY0_24 := Aside0.mk (blk_below HY0_23.out hb24)
  clear HY0_23
  have HG0_24 := Aside0.mk (Kd.R_below HG0_23.out hb24)
  clear HG0_23
  have HG1_24 := Aside0.mk (Kd.S_below HG1_23.out hb24)
  clear HG1_23
  have HYG_24 := Aside0.mk (blk_below HYG_23.out hb24)
  clear HYG_23
  have HH0_24 := Aside0.mk (Kd.R_below HH0_23.out hb24)
  clear HH0_23
  have HH1_24 := Aside0.mk (Kd.S_below HH1_23.out hb24)
  clear HH1_23
  have HYH_24 := Aside0.mk (blk_below HYH_23.out hb24)
  clear HYH_23
  have HL24 := Aside0.mk (show (w22.alloc (.cells #[.slice Ah0 gs0.length ch0] 31)).heap.size ≤ w24.heap.size from hb24.size)
  clear hb24
  go_wp2_with fail
  refine (laws_eqBatchS.calls k _ _ gs1 _ _ ws1 true _ (Kd.S_reads' HH1_24.out).2.2 (Kd.S_reads' HH1_24.out).2.1 (Kd.S_reads' HW1_24.out).2.2 (Kd.S_reads' HW1_24.out).2.1 H5b.out).mono ?_
  rintro e w25 ⟨rfl, hb25⟩
  have HB_25 := Aside0.mk (below_step HB_24.out hb25)
  clear HB_24
  have HW0_25 := Aside0.mk (Kd.R_below HW0_24.out hb25)
  clear HW0_24
  have HW1_25 := Aside0.mk (Kd.S_below HW1_24.out hb25)
  clear HW1_24
  have HY0_25 := Aside0.mk (blk_below HY0_24.out hb25)
  clear HY0_24
  have HG0_25 := Aside0.mk (Kd.R_below HG0_24.out hb25)
  clear HG0_24
  have HG1_25 := Aside0.mk (Kd.S_below HG1_24.out hb25)
  clear HG1_24
  have HYG_25 := Aside0.mk (blk_below HYG_24.out hb25)
  clear HYG_24
  have HH0_25 := Aside0.mk (Kd.R_below HH0_24.out hb25)
  clear HH0_24
  have HH1_25 := Aside0.mk (Kd.S_below HH1_24.out hb25)
  clear HH1_24
  have HYH_25 := Aside0.mk (blk_below HYH_24.out hb25)
  clear HYH_24
  have HL25 := Aside0.mk (show w24.heap.size ≤ w25.heap.size from hb25.size)
  clear hb25
  clear HW0_25
  clear HW1_25
  clear HH0_25
  clear HH1_25
  clear HY0_25
  clear HYH_25
  have hxYG_25 : w25.cell? ⟨w7.heap.size, 0, none⟩ = some (.slice Ag0 gs0.length cg0) := (blk_cell HYG_25.out 0).trans rfl
  go_wp2_with fail
  rw [HGL.out]
  refine (laws_heldDisk.calls k _ _ ms0 1 q0 _ (Kd.R_reads' HG0_25.out).2.2 (Kd.R_reads' HG0_25.out).2.1 H9.out).mono ?_
  rintro e w26 ⟨rfl, hb26⟩
  clear hxYG_25
  have HB_26 := Aside0.mk (below_step HB_25.out hb26)
  clear HB_25
  have HG0_26 := Aside0.mk (Kd.R_below HG0_25.out hb26)
  clear HG0_25
  have HG1_26 := Aside0.mk (Kd.S_below HG1_25.out hb26)
  clear HG1_25
  have HYG_26 := Aside0.mk (blk_below HYG_25.out hb26)
  clear HYG_25
  have HL26 := Aside0.mk (show w25.heap.size ≤ w26.heap.size from hb26.size)
  clear hb26
  go_wp2_with fail
  rw [HGM.out]
  refine (laws_heldBatchS.calls k _ _ ms1 q0 q _ (Kd.S_reads' HG1_26.out).2.2 (Kd.S_reads' HG1_26.out).2.1 H9b.out).mono ?_
  rintro e w27 ⟨rfl, hb27⟩
  have HB_27 := Aside0.mk (below_step HB_26.out hb27)
  clear HB_26
  have HG0_27 := Aside0.mk (Kd.R_below HG0_26.out hb27)
  clear HG0_26
  have HG1_27 := Aside0.mk (Kd.S_below HG1_26.out hb27)
  clear HG1_26
  have HYG_27 := Aside0.mk (blk_below HYG_26.out hb27)
  clear HYG_26
  have HL27 := Aside0.mk (show w26.heap.size ≤ w27.heap.size from hb27.size)
  clear hb27
  go_wp2_with fail
  go_ret
  exact ⟨rfl, HB_27.out⟩


/-- The one pure statement of laws_FnExactRecoverFile. -/
def laws_FnExactRecoverFile.Pure : Prop := ∀ (x0 : S24) (a1 : Int), ok24 x0 → (Lit.int .i64 a1).wf = true → ∃ k, laws_FnExactRecoverFile.f k x0.f0 a1 = some true

end Go.Proofs.Ytpdpipfkllfhmaa.QFnExactRecoverFile
