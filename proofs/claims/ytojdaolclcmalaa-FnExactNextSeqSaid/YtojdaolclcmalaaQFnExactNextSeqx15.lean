/- Functions that one statement reaches: of each a plain function, and the proof that calls come to it. Conditions: those that each contract names. Written by a program of this repository. -/
import Derived.Test.YtojdaolclcmalaaVNextSeqa
import Derived.Test.YtojdaolclcmalaaQFnExactNextSeqx0
import Derived.Test.YtojdaolclcmalaaQFnExactNextSeqx2
import Derived.Test.YtojdaolclcmalaaQFnExactNextSeqx3
import Derived.Test.YtojdaolclcmalaaQFnExactNextSeqx5
import Derived.Test.YtojdaolclcmalaaQFnExactNextSeqx11
import Derived.Test.YtojdaolclcmalaaQFnExactNextSeqx14
namespace Go.Proofs.Ytojdaolclcmalaa.QFnExactNextSeq
open Go.RowKit Go.Proofs.YtojdaolclcmalaaW.PrintWords Go.Proofs.YtojdaolclcmalaaW.PrintLast Go.Proofs.YtojdaolclcmalaaW.PrintMore
attribute [local go_sem] max2_int min2_int max_two min_two max_three min_three max_four min_four Go.Proofs.YtojdaolclcmalaaW.PrintMore2.isSome_setCell   -- for this text's walks alone
set_option linter.unusedVariables false
set_option linter.unusedSimpArgs false

/-! ### laws_FnExactNextSeq: function 8 -/
def laws_FnExactNextSeq.j0 : Nat → Bool → List (S105) → List (S99) → Int → List (S81) → List (S78) → Int → Option (Bool)
 | 0, _, _, _, _, _, _, _ => none
 | k + 1, x38, x301000, x301001, x301002, x319000, x319001, x319002 => if x38 = true then (some false) else ((laws_toPart.f k x301000 x301001 x301002).bind fun bt321 => ((laws_eqPart.f k x319000 x319001 x319002 bt321.1 bt321.2.1 bt321.2.2).bind fun t328 => (if t328 = true then (some true) else (some false))))
def laws_FnExactNextSeq.f (k : Nat) (l0_0 : List (S105)) (l0_1 : List (S99)) (a0_2 : Int) (a1 : Int) : Option (Bool) := (laws_szPart.f k l0_0 l0_1 a0_2 1048576).bind fun t301 => (if t301 < 0 then (some true) else ((laws_toPart.f k l0_0 l0_1 a0_2).bind fun bt302 => ((spec_NextSeq.f k bt302.1 bt302.2.1 bt302.2.2 a1).bind fun bt309 => ((laws_toPart.f k l0_0 l0_1 a0_2).bind fun bt311 => ((impl_NextSeq.f k bt311.1 bt311.2.1 bt311.2.2 a1).bind fun bt319 => (if bt319.1 = bt309.1 then (laws_FnExactNextSeq.j0 k (bt319.2 != bt309.2) l0_0 l0_1 a0_2 bt311.1 bt311.2.1 bt311.2.2) else (laws_FnExactNextSeq.j0 k true l0_0 l0_1 a0_2 bt311.1 bt311.2.1 bt311.2.2)))))))
theorem laws_FnExactNextSeq.mono_l : ∀ k, (∀ y0 y1 y2 y3 y4 y5 y6, LeO (laws_FnExactNextSeq.j0 k y0 y1 y2 y3 y4 y5 y6) (laws_FnExactNextSeq.j0 (k + 1) y0 y1 y2 y3 y4 y5 y6))
 | 0 => fun _ _ _ _ _ _ _ r h => by simp [laws_FnExactNextSeq.j0] at h
 | k + 1 => by
  have ih0 := laws_FnExactNextSeq.mono_l k
  ·intro y0 y1 y2 y3 y4 y5 y6
   unfold laws_FnExactNextSeq.j0
   repeat' first
   | (with_reducible first | apply ih0 | apply impl_NextSeq.mono | apply laws_eqPart.mono | apply laws_szPart.mono | apply laws_toPart.mono | apply spec_NextSeq.mono | exact LeO.refl _ | exact LeO.none _ | refine LeO.ite ?_ ?_ | refine LeO.bind ?_ (fun _ => ?_))
theorem laws_FnExactNextSeq.mono : ∀ a0 a1 a2 a3 k, LeO (laws_FnExactNextSeq.f k a0 a1 a2 a3) (laws_FnExactNextSeq.f (k + 1) a0 a1 a2 a3) := by
 intro a0 a1 a2 a3 k
 have ih0 := laws_FnExactNextSeq.mono_l k
 unfold laws_FnExactNextSeq.f
 repeat' first
   | (with_reducible first | apply ih0 | apply impl_NextSeq.mono | apply laws_eqPart.mono | apply laws_szPart.mono | apply laws_toPart.mono | apply spec_NextSeq.mono | exact LeO.refl _ | exact LeO.none _ | refine LeO.ite ?_ ?_ | refine LeO.bind ?_ (fun _ => ?_))
set_option maxHeartbeats 8000000 in
set_option maxRecDepth 100000 in
theorem laws_FnExactNextSeq.calls (k : Nat) (A0_0 : Option Addr) (c0_0 : Nat) (l0_0 : List (S105)) (A0_1 : Option Addr) (c0_1 : Nat) (l0_1 : List (S99)) (a0_2 : Int) (a1 : Int) (r : Bool) (w : World) (hr0_0 : Kd.C k105 w A0_0 l0_0.length l0_0) (hc0_0 : l0_0.length ≤ c0_0) (hr0_1 : Kd.C k99 w A0_1 l0_1.length l0_1) (hc0_1 : l0_1.length ≤ c0_1) (h : laws_FnExactNextSeq.f k l0_0 l0_1 a0_2 a1 = some r) :
  Calls Try.prog 8 #[.agg #[.slice A0_0 l0_0.length c0_0, .slice A0_1 l0_1.length c0_1, .int .i64 a0_2], .int .i64 a1] w fun e w' => e = .returned (.bool r) ∧ Below w.heap.size w w' := by
 have hu25 := Try.underlying25
 have hu33 := Try.underlying33
 have HR0_0 := am_ hr0_0
 have HC0_0 := am_ hc0_0
 clear hr0_0 hc0_0
 have HR0_1 := am_ hr0_1
 have HC0_1 := am_ hc0_1
 clear hr0_1 hc0_1
 have HB := am_ (Below.refl w.heap.size w)
 have H : ((laws_szPart.f k l0_0 l0_1 a0_2 1048576).bind fun t301 => (if t301 < 0 then (some true) else ((laws_toPart.f k l0_0 l0_1 a0_2).bind fun bt302 => ((spec_NextSeq.f k bt302.1 bt302.2.1 bt302.2.2 a1).bind fun bt309 => ((laws_toPart.f k l0_0 l0_1 a0_2).bind fun bt311 => ((impl_NextSeq.f k bt311.1 bt311.2.1 bt311.2.2 a1).bind fun bt319 => (if bt319.1 = bt309.1 then (laws_FnExactNextSeq.j0 k (bt319.2 != bt309.2) l0_0 l0_1 a0_2 bt311.1 bt311.2.1 bt311.2.2) else (laws_FnExactNextSeq.j0 k true l0_0 l0_1 a0_2 bt311.1 bt311.2.1 bt311.2.2)))))))) = some r := h
 clear h
 replace H := bnd_ H
 obtain ⟨t301, A3, H⟩ := H
 replace H := ite_ H
 obtain ⟨c4, H⟩ | ⟨c4, H⟩ := H
 ·have c4b0 := decide_eq_true c4
  clear c4
  obtain rfl := Option.some.inj H
  go_enter Try.func8, Try.ntmps8
  go_wp2_with (first | ((with_reducible refine gate_dst (N := 2) rfl ?_); refine bq_ (N := 2) #[.slice A0_0 l0_0.length c0_0, .slice A0_1 l0_1.length c0_1, .int .i64 a0_2] 25 ?_; intro gb300 hg w5 BK300 hb; have GE300 := ge_ hg; replace HB := nb_ hb; clear hb hg; obtain ⟨hcz6_0, hcz6_1, hcz6_2, hfz6_0, hfz6_1, hfz6_2⟩ := cf3_ BK300.out) | ((with_reducible refine gate_callee (f := 10) rfl ?_); refine gl_ 13 Try.func10 #[.agg #[.slice A0_0 l0_0.length c0_0, .slice A0_1 l0_1.length c0_1, .int .i64 a0_2], .int .i64 1048576] rfl ma_ ?_; (with_reducible refine (laws_szPart.calls k _ _ l0_0 _ _ l0_1 a0_2 1048576 t301 _ ?side1 ?side2 ?side3 ?side4 A3.out).mono ?_); (case side1 => exact cs_ ((Kd.C_below HR0_0.out HB.out))); (case side2 => exact HC0_0.out); (case side3 => exact cs_ ((Kd.C_below HR0_1.out HB.out))); (case side4 => exact HC0_1.out); rintro e w7 ⟨rfl, hb⟩; refine ⟨_, rfl, ?_⟩; replace BK300 := bK_ BK300 hb; replace HB := nc_ GE300 hb; (try clear hb); (try clear hb2); (try clear hk); (try clear hi)))
  go_ret
  exact ⟨er_, hs_ GE300.out⟩
 have c4b0 := decide_eq_false c4
 clear c4
 replace H := bnd_ H
 obtain ⟨⟨t302, t305, t308⟩, A8, H⟩ := H
 replace H := red_ H
 replace H := bnd_ H
 obtain ⟨⟨t309, t310⟩, A9, H⟩ := H
 replace H := red_ H
 replace H := bnd_ H
 obtain ⟨⟨t311, t314, t317⟩, A10, H⟩ := H
 replace H := red_ H
 replace H := bnd_ H
 obtain ⟨⟨t319, t320⟩, A11, H⟩ := H
 replace H := red_ H
 have HC12 := am_ H
 clear H
 go_enter Try.func8, Try.ntmps8
 go_upto_region 8 with (first | ((with_reducible refine gate_dst (N := 2) rfl ?_); refine bq_ (N := 2) #[.slice A0_0 l0_0.length c0_0, .slice A0_1 l0_1.length c0_1, .int .i64 a0_2] 25 ?_; intro gb300 hg w13 BK300 hb; have GE300 := ge_ hg; replace HB := nb_ hb; clear hb hg; obtain ⟨hcz14_0, hcz14_1, hcz14_2, hfz14_0, hfz14_1, hfz14_2⟩ := cf3_ BK300.out) | ((with_reducible refine gate_callee (f := 10) rfl ?_); refine gl_ 13 Try.func10 #[.agg #[.slice A0_0 l0_0.length c0_0, .slice A0_1 l0_1.length c0_1, .int .i64 a0_2], .int .i64 1048576] rfl ma_ ?_; (with_reducible refine (laws_szPart.calls k _ _ l0_0 _ _ l0_1 a0_2 1048576 t301 _ ?side1 ?side2 ?side3 ?side4 A3.out).mono ?_); (case side1 => exact cs_ ((Kd.C_below HR0_0.out HB.out))); (case side2 => exact HC0_0.out); (case side3 => exact cs_ ((Kd.C_below HR0_1.out HB.out))); (case side4 => exact HC0_1.out); rintro e w15 ⟨rfl, hb⟩; refine ⟨_, rfl, ?_⟩; replace BK300 := bK_ BK300 hb; replace HB := nc_ GE300 hb; (try clear hb); (try clear hb2); (try clear hk); (try clear hi); obtain ⟨hcz16_0, hcz16_1, hcz16_2, hfz16_0, hfz16_1, hfz16_2⟩ := cf3_ BK300.out) | ((with_reducible refine gate_callee (f := 12) rfl ?_); refine gl_ 18 Try.func12 #[.agg #[.slice A0_0 l0_0.length c0_0, .slice A0_1 l0_1.length c0_1, .int .i64 a0_2]] rfl ma_ ?_; (with_reducible refine (laws_toPart.calls k _ _ l0_0 _ _ l0_1 a0_2 t302 t305 t308 _ ?side1 ?side2 ?side3 ?side4 A8.out).mono ?_); (case side1 => exact cs_ ((Kd.C_below HR0_0.out HB.out))); (case side2 => exact HC0_0.out); (case side3 => exact cs_ ((Kd.C_below HR0_1.out HB.out))); (case side4 => exact HC0_1.out); rintro e w17 ⟨v303, v306, rfl, ho0, ho1, hb⟩; refine ⟨_, rfl, ?_⟩; have HO304 := am_ (Kd.S_lower ho0 (below_size (hs_ GE300.out))); have HO307 := am_ (Kd.S_lower ho1 (below_size (hs_ GE300.out))); replace BK300 := bK_ BK300 hb; replace HB := nc_ GE300 hb; (try clear hb); (try clear hb2); (try clear hk); (try clear hi); (try clear ho0); (try clear ho1); obtain ⟨Ao18, co18, eo18⟩ := Kd.S_slice HO304.out; subst eo18; obtain ⟨Ao19, co19, eo19⟩ := Kd.S_slice HO307.out; subst eo19) | ((with_reducible refine gate_callee (f := 39) rfl ?_); refine gl_ 20 Try.func39 #[.agg #[.slice Ao18 t302.length co18, .slice Ao19 t305.length co19, .int .i64 t308], .int .i64 a1] rfl ma_ ?_; (with_reducible refine (spec_NextSeq.calls k _ _ t302 _ _ t305 t308 a1 t309 t310 _ ?side1 ?side2 ?side3 ?side4 A9.out).mono ?_); (case side1 => exact cs_ ((Kd.S_reads' HO304.out).2.2)); (case side2 => exact (Kd.S_reads' HO304.out).2.1); (case side3 => exact cs_ ((Kd.S_reads' HO307.out).2.2)); (case side4 => exact (Kd.S_reads' HO307.out).2.1); rintro e w20 ⟨rfl, hb⟩; refine ⟨_, rfl, ?_⟩; replace HO304 := sB_ HO304 hb; replace HO307 := sB_ HO307 hb; replace BK300 := bK_ BK300 hb; replace HB := nc_ GE300 hb; (try clear hb); (try clear hb2); (try clear hk); (try clear hi); obtain ⟨hcz21_0, hcz21_1, hcz21_2, hfz21_0, hfz21_1, hfz21_2⟩ := cf3_ BK300.out) | ((with_reducible refine gate_callee (f := 12) rfl ?_); refine gl_ 24 Try.func12 #[.agg #[.slice A0_0 l0_0.length c0_0, .slice A0_1 l0_1.length c0_1, .int .i64 a0_2]] rfl ma_ ?_; (with_reducible refine (laws_toPart.calls k _ _ l0_0 _ _ l0_1 a0_2 t311 t314 t317 _ ?side1 ?side2 ?side3 ?side4 A10.out).mono ?_); (case side1 => exact cs_ ((Kd.C_below HR0_0.out HB.out))); (case side2 => exact HC0_0.out); (case side3 => exact cs_ ((Kd.C_below HR0_1.out HB.out))); (case side4 => exact HC0_1.out); rintro e w22 ⟨v312, v315, rfl, ho0, ho1, hb⟩; refine ⟨_, rfl, ?_⟩; have HO313 := am_ (Kd.S_lower (Kd.S_new' ho0 (Kd.S_lt (ks_ HO304.out))) (below_size (hs_ GE300.out))); replace HO304 := am_ (Kd.S_elder' (ks_ HO304.out) (Kd.S_base ho0) hb); have HO316 := am_ (Kd.S_lower (Kd.S_new' ho1 (Kd.S_lt (ks_ HO307.out))) (below_size (hs_ GE300.out))); replace HO307 := am_ (Kd.S_elder' (ks_ HO307.out) (Kd.S_base ho1) hb); replace BK300 := bK_ BK300 hb; replace HB := nc_ GE300 hb; (try clear hb); (try clear hb2); (try clear hk); (try clear hi); (try clear ho0); (try clear ho1)) | ((with_reducible refine gate_dst (N := 8) rfl ?_); refine bq_ (N := 8) #[.slice none 0 0, .slice none 0 0, .int .i64 0] 33 ?_; intro gb318 hg w23 BK318 hb; replace HO304 := sB_ HO304 hb; replace HO307 := sB_ HO307 hb; replace HO313 := sB_ HO313 hb; replace HO316 := sB_ HO316 hb; have GE318 := ge1_ hg GE300; replace HB := nc_ GE300 hb; have NB300_318 := nl_ BK300 hg; have NB318_300 := ng_ BK300 hg; replace BK300 := bK_ BK300 hb; clear hb hg; obtain ⟨Ao24, co24, eo24⟩ := Kd.S_slice HO313.out; subst eo24; have hnb25 := NB318_300.out; have hnc25 := NB300_318.out; obtain ⟨hcz26_0, hcz26_1, hcz26_2, hfz26_0, hfz26_1, hfz26_2⟩ := cf3_ BK318.out; obtain ⟨Ao27, co27, eo27⟩ := Kd.S_slice HO316.out; subst eo27) | ((with_reducible refine gate_callee (f := 40) rfl ?_); refine gl_ 28 Try.func40 #[.agg #[.slice Ao24 t311.length co24, .slice Ao27 t314.length co27, .int .i64 t317], .int .i64 a1] rfl ma_ ?_; (with_reducible refine (impl_NextSeq.calls k _ _ t311 _ _ t314 t317 a1 t319 t320 _ ?side1 ?side2 ?side3 ?side4 A11.out).mono ?_); (case side1 => refine (Kd.S_reads' (e := 81) (base := w.heap.size) (ok := fun k_ => (True ∧ some k_ ≠ (.slice Ao18 t302.length co18 : Value).ownBlock)) (n := t311.length) (c := co24) ?_).2.2; exact ((Kd.S_mono (sF_ (Kd.S_types HO313.out BK318.out (by decide))) (fun _ h_ => h_.1)))); (case side2 => exact (Kd.S_reads' HO313.out).2.1); (case side3 => refine (Kd.S_reads' (e := 78) (base := w.heap.size) (ok := fun k_ => (True ∧ some k_ ≠ (.slice Ao19 t305.length co19 : Value).ownBlock)) (n := t314.length) (c := co27) ?_).2.2; exact ((Kd.S_mono (sF_ (Kd.S_types HO316.out BK318.out (by decide))) (fun _ h_ => h_.1)))); (case side4 => exact (Kd.S_reads' HO316.out).2.1); rintro e w28 ⟨rfl, hb⟩; refine ⟨_, rfl, ?_⟩; replace HO304 := am_ (Kd.S_below ((Kd.S_mono (sF_ (Kd.S_types HO304.out BK318.out (by decide))) (fun _ h_ => h_.1))) hb); replace HO307 := am_ (Kd.S_below ((Kd.S_mono (sF_ (Kd.S_types HO307.out BK318.out (by decide))) (fun _ h_ => h_.1))) hb); replace HO313 := am_ (Kd.S_below ((Kd.S_mono (sF_ (Kd.S_types HO313.out BK318.out (by decide))) (fun _ h_ => h_.1))) hb); replace HO316 := am_ (Kd.S_below ((Kd.S_mono (sF_ (Kd.S_types HO316.out BK318.out (by decide))) (fun _ h_ => h_.1))) hb); replace BK300 := am_ (blk_below (g := gb300) (o := .cells #[.slice A0_0 l0_0.length c0_0, .slice A0_1 l0_1.length c0_1, .int .i64 a0_2] 25 (0, 0)) (uf_ BK300 NB300_318.out) hb); replace BK318 := am_ (blk_below (g := gb318) (o := .cells #[.slice Ao24 t311.length co24, .slice Ao27 t314.length co27, .int .i64 t317] 33 (0, 0)) (up_ BK318) hb); replace HB := nc2_ GE300 GE318 hb; (try clear hb); (try clear hb2); (try clear hk); (try clear hi)))
 (try simp only [Act.put, List.setIfInBounds_toArray, List.set_cons_zero, List.set_cons_succ])
 go_cut [38] (fun v38 wc => ∃ (kq : Nat) (x38_11 : Bool), v38 = .bool x38_11 ∧ Aside0 (laws_FnExactNextSeq.j0 kq x38_11 l0_0 l0_1 a0_2 t311 t314 t317 = some r) ∧ Aside0 (kq ≤ k) ∧ Aside0 (Kd.S k81 81 wc w.heap.size (fun _ => True) (.slice Ao24 t311.length co24) t311) ∧ Aside0 (Kd.S k78 78 wc w.heap.size (fun _ => True) (.slice Ao27 t314.length co27) t314) ∧ Aside0 (wc.heap[gb300]? = some (.cells #[(.slice A0_0 l0_0.length c0_0), (.slice A0_1 l0_1.length c0_1), .int .i64 a0_2] 25 (0, 0))) ∧ Aside0 (wc.heap[gb318]? = some (.cells #[(.slice Ao24 t311.length co24), (.slice Ao27 t314.length co27), .int .i64 t317] 33 (0, 0))) ∧ Aside0 (Below w.heap.size w wc))
 case first =>
  have H := HC12.out
  clear HC12
  replace H := ite_ H
  obtain ⟨c29, H⟩ | ⟨c29, H⟩ := H
  rotate_left
  ·have c29b0 : (t319 == t309) = false := beq_eq_false_iff_ne.mpr c29
   have c29b1 : (t319 != t309) = true := bne_iff_ne.mpr c29
   (first | rw [c29b0] | (simp only [i64_w, i32_w]; rw [c29b0]) | rw [c29b1] | skip)
   have H' := am_ H
   clear H
   go_wp2
   go_meet
   case rel => exact ⟨_, (true), sr_, H', ⟨by first | omega | exact Nat.le_refl _⟩, ⟨sF_ (Kd.S_mono HO313.out (fun _ hk => trivial))⟩, ⟨sF_ (Kd.S_mono HO316.out (fun _ hk => trivial))⟩, ⟨kb_ BK300.out⟩, ⟨kb_ BK318.out⟩, ⟨hs2_ GE300.out GE318.out⟩⟩
  have c29b0 : (t319 == t309) = true := beq_iff_eq.mpr c29
  have c29b1 : (t319 != t309) = false := bne_eq_false_iff_eq.mpr c29
  clear c29
  (first | rw [c29b0] | (simp only [i64_w, i32_w]; rw [c29b0]) | rw [c29b1] | skip)
  have H' := am_ H
  clear H
  go_wp2
  go_meet
  case rel => exact ⟨_, ((t320 != t310)), sr_, H', ⟨by first | omega | exact Nat.le_refl _⟩, ⟨sF_ (Kd.S_mono HO313.out (fun _ hk => trivial))⟩, ⟨sF_ (Kd.S_mono HO316.out (fun _ hk => trivial))⟩, ⟨kb_ BK300.out⟩, ⟨kb_ BK318.out⟩, ⟨hs2_ GE300.out GE318.out⟩⟩
 case rest =>
  clear HC12
  try clear c4
  try clear c4b0
  try clear hcz14_0
  try clear hcz14_1
  try clear hcz14_2
  try clear hcz16_0
  try clear hcz16_1
  try clear hcz16_2
  try clear hcz21_0
  try clear hcz21_1
  try clear hcz21_2
  try clear hcz26_0
  try clear hcz26_1
  try clear hcz26_2
  try clear hfz14_0
  try clear hfz14_1
  try clear hfz14_2
  try clear hfz16_0
  try clear hfz16_1
  try clear hfz16_2
  try clear hfz21_0
  try clear hfz21_1
  try clear hfz21_2
  try clear hfz26_0
  try clear hfz26_1
  try clear hfz26_2
  obtain ⟨kq, x38_11, rfl, HA, HJ11, HO_319000, HO_319001, BK300, BK318, HB⟩ := hcut
  cases kq with
  | zero => exact absurd HA.out (by simp [laws_FnExactNextSeq.j0])
  | succ kj11 =>
   have H := HA.out
   clear HA
   simp only [laws_FnExactNextSeq.j0] at H
   replace H := ifb_ H
   obtain ⟨rfl, H⟩ | ⟨rfl, H⟩ := H
   ·obtain rfl := Option.some.inj H
    go_wp2
    go_ret
    exact ⟨er_, hs2_ GE300.out GE318.out⟩
   replace H := bnd_ H
   obtain ⟨⟨t321, t324, t327⟩, A31, H⟩ := H
   replace H := red_ H
   replace H := bnd_ H
   obtain ⟨t328, A32, H⟩ := H
   replace H := ifb_ H
   obtain ⟨rfl, H⟩ | ⟨rfl, H⟩ := H
   ·obtain rfl := Option.some.inj H
    try go_wp2
    replace HO_319000 := am_ (Kd.S_drew HO_319000.out)
    replace HO_319001 := am_ (Kd.S_drew HO_319001.out)
    replace BK300 := qK_ BK300
    replace BK318 := qK_ BK318
    replace HB := qH_ HB
    refine start_ (n := 5) (S := fun w' => w'.cell? ⟨gb318, 0, none⟩ = some (.slice Ao24 t311.length co24) ∧ w'.cell? ⟨gb318, 1, none⟩ = some (.slice Ao27 t314.length co27) ∧ w'.cell? ⟨gb318, 2, none⟩ = some (.int .i64 t317) ∧ w'.cell? ⟨gb300, 0, none⟩ = some (.slice A0_0 l0_0.length c0_0) ∧ w'.cell? ⟨gb300, 1, none⟩ = some (.slice A0_1 l0_1.length c0_1) ∧ w'.cell? ⟨gb300, 2, none⟩ = some (.int .i64 a0_2)) (ds := []) #[false, false, false, false, false] (by kernel_rfl) rfl rfl ⟨bt_ BK318 0, bt_ BK318 1, bt_ BK318 2, bt_ BK300 0, bt_ BK300 1, bt_ BK300 2⟩ (fun hHeld => ?_)
    generalize wc.drew = w34 at HO_319000 HO_319001 BK300 BK318 HB hHeld ⊢
    refine tx_ 0 39 ?_
    refine tx_ 1 40 ?_
    refine ox_ 2 41 fun K hK => ?_
    refine gs_ Try.func12 #[.agg #[.slice A0_0 l0_0.length c0_0, .slice A0_1 l0_1.length c0_1, .int .i64 a0_2]] rfl ma_ ?_
    with_reducible refine (laws_toPart.calls kj11 _ _ l0_0 _ _ l0_1 a0_2 t321 t324 t327 _ ?side1 ?side2 ?side3 ?side4 A31.out).mono ?_
    (case side1 => exact cs_ ((Kd.C_below HR0_0.out HB.out)))
    (case side2 => exact HC0_0.out)
    (case side3 => exact cs_ ((Kd.C_below HR0_1.out HB.out)))
    (case side4 => exact HC0_1.out)
    rintro e w35 ⟨v322, v325, rfl, ho0, ho1, hb⟩
    refine ⟨_, rfl, ?_⟩
    have HO323 := am_ (Kd.S_lower (Kd.S_new' ho0 (Kd.S_lt (ks_ HO_319000.out))) (below_size (hs2_ GE300.out GE318.out)))
    replace HO_319000 := am_ (Kd.S_elder' (ks_ HO_319000.out) (Kd.S_base ho0) hb)
    have HO326 := am_ (Kd.S_lower (Kd.S_new' ho1 (Kd.S_lt (ks_ HO_319001.out))) (below_size (hs2_ GE300.out GE318.out)))
    replace HO_319001 := am_ (Kd.S_elder' (ks_ HO_319001.out) (Kd.S_base ho1) hb)
    replace BK300 := bK_ BK300 hb
    replace BK318 := bK_ BK318 hb
    replace HB := nc2_ GE300 GE318 hb
    (try clear hb)
    (try clear hb2)
    (try clear hk)
    (try clear hi)
    (try clear ho0)
    (try clear ho1)
    obtain ⟨Ao36, co36, eo36⟩ := Kd.S_slice HO323.out
    (first | subst eo36 | (injection eo36 with f1_ f2_ f3_; have f4_ := f1_.symm; have f5_ := f3_.symm; clear f1_ f2_ f3_; subst f4_; subst f5_))
    obtain ⟨Ao37, co37, eo37⟩ := Kd.S_slice HO326.out
    (first | subst eo37 | (injection eo37 with f1_ f2_ f3_; have f4_ := f1_.symm; have f5_ := f3_.symm; clear f1_ f2_ f3_; subst f4_; subst f5_))
    refine hK.out _ _ ⟨bt_ BK318 0, bt_ BK318 1, bt_ BK318 2, bt_ BK300 0, bt_ BK300 1, bt_ BK300 2⟩ (fun hHeld => ?_)
    clear hK K
    refine no_ ?_
    refine ox_ 3 42 fun K hK => ?_
    refine gs_ Try.func15 #[.agg #[.slice Ao24 t311.length co24, .slice Ao27 t314.length co27, .int .i64 t317], .agg #[.slice Ao36 t321.length co36, .slice Ao37 t324.length co37, .int .i64 t327]] rfl ma_ ?_
    with_reducible refine (laws_eqPart.calls kj11 _ _ t311 _ _ t314 t317 _ _ t321 _ _ t324 t327 true _ ?side1 ?side2 ?side3 ?side4 ?side5 ?side6 ?side7 ?side8 A32.out).mono ?_
    (case side1 => exact cs_ ((Kd.S_reads' HO_319000.out).2.2))
    (case side2 => exact (Kd.S_reads' HO_319000.out).2.1)
    (case side3 => exact cs_ ((Kd.S_reads' HO_319001.out).2.2))
    (case side4 => exact (Kd.S_reads' HO_319001.out).2.1)
    (case side5 => exact cs_ ((Kd.S_reads' HO323.out).2.2))
    (case side6 => exact (Kd.S_reads' HO323.out).2.1)
    (case side7 => exact cs_ ((Kd.S_reads' HO326.out).2.2))
    (case side8 => exact (Kd.S_reads' HO326.out).2.1)
    rintro e w38 ⟨rfl, hb⟩
    refine ⟨_, rfl, ?_⟩
    replace HO_319000 := sB_ HO_319000 hb
    replace HO_319001 := sB_ HO_319001 hb
    replace HO323 := sB_ HO323 hb
    replace HO326 := sB_ HO326 hb
    replace BK300 := bK_ BK300 hb
    replace BK318 := bK_ BK318 hb
    replace HB := nc2_ GE300 GE318 hb
    (try clear hb)
    (try clear hb2)
    (try clear hk)
    (try clear hi)
    refine hK.out _ _ ⟨bt_ BK318 0, bt_ BK318 1, bt_ BK318 2, bt_ BK300 0, bt_ BK300 1, bt_ BK300 2⟩ (fun hHeld => ?_)
    clear hK K
    refine no_ ?_
    refine px_ 4 43 ?_
    refine done_ (by kernel_rfl) ?_
    try go_wp2
    go_ret
    exact ⟨er_, hs2_ GE300.out GE318.out⟩
   obtain rfl := Option.some.inj H
   try go_wp2
   replace HO_319000 := am_ (Kd.S_drew HO_319000.out)
   replace HO_319001 := am_ (Kd.S_drew HO_319001.out)
   replace BK300 := qK_ BK300
   replace BK318 := qK_ BK318
   replace HB := qH_ HB
   refine start_ (n := 5) (S := fun w' => w'.cell? ⟨gb318, 0, none⟩ = some (.slice Ao24 t311.length co24) ∧ w'.cell? ⟨gb318, 1, none⟩ = some (.slice Ao27 t314.length co27) ∧ w'.cell? ⟨gb318, 2, none⟩ = some (.int .i64 t317) ∧ w'.cell? ⟨gb300, 0, none⟩ = some (.slice A0_0 l0_0.length c0_0) ∧ w'.cell? ⟨gb300, 1, none⟩ = some (.slice A0_1 l0_1.length c0_1) ∧ w'.cell? ⟨gb300, 2, none⟩ = some (.int .i64 a0_2)) (ds := []) #[false, false, false, false, false] (by kernel_rfl) rfl rfl ⟨bt_ BK318 0, bt_ BK318 1, bt_ BK318 2, bt_ BK300 0, bt_ BK300 1, bt_ BK300 2⟩ (fun hHeld => ?_)
   generalize wc.drew = w39 at HO_319000 HO_319001 BK300 BK318 HB hHeld ⊢
   refine tx_ 0 39 ?_
   refine tx_ 1 40 ?_
   refine ox_ 2 41 fun K hK => ?_
   refine gs_ Try.func12 #[.agg #[.slice A0_0 l0_0.length c0_0, .slice A0_1 l0_1.length c0_1, .int .i64 a0_2]] rfl ma_ ?_
   with_reducible refine (laws_toPart.calls kj11 _ _ l0_0 _ _ l0_1 a0_2 t321 t324 t327 _ ?side1 ?side2 ?side3 ?side4 A31.out).mono ?_
   (case side1 => exact cs_ ((Kd.C_below HR0_0.out HB.out)))
   (case side2 => exact HC0_0.out)
   (case side3 => exact cs_ ((Kd.C_below HR0_1.out HB.out)))
   (case side4 => exact HC0_1.out)
   rintro e w40 ⟨v322, v325, rfl, ho0, ho1, hb⟩
   refine ⟨_, rfl, ?_⟩
   have HO323 := am_ (Kd.S_lower (Kd.S_new' ho0 (Kd.S_lt (ks_ HO_319000.out))) (below_size (hs2_ GE300.out GE318.out)))
   replace HO_319000 := am_ (Kd.S_elder' (ks_ HO_319000.out) (Kd.S_base ho0) hb)
   have HO326 := am_ (Kd.S_lower (Kd.S_new' ho1 (Kd.S_lt (ks_ HO_319001.out))) (below_size (hs2_ GE300.out GE318.out)))
   replace HO_319001 := am_ (Kd.S_elder' (ks_ HO_319001.out) (Kd.S_base ho1) hb)
   replace BK300 := bK_ BK300 hb
   replace BK318 := bK_ BK318 hb
   replace HB := nc2_ GE300 GE318 hb
   (try clear hb)
   (try clear hb2)
   (try clear hk)
   (try clear hi)
   (try clear ho0)
   (try clear ho1)
   obtain ⟨Ao41, co41, eo41⟩ := Kd.S_slice HO323.out
   (first | subst eo41 | (injection eo41 with f1_ f2_ f3_; have f4_ := f1_.symm; have f5_ := f3_.symm; clear f1_ f2_ f3_; subst f4_; subst f5_))
   obtain ⟨Ao42, co42, eo42⟩ := Kd.S_slice HO326.out
   (first | subst eo42 | (injection eo42 with f1_ f2_ f3_; have f4_ := f1_.symm; have f5_ := f3_.symm; clear f1_ f2_ f3_; subst f4_; subst f5_))
   refine hK.out _ _ ⟨bt_ BK318 0, bt_ BK318 1, bt_ BK318 2, bt_ BK300 0, bt_ BK300 1, bt_ BK300 2⟩ (fun hHeld => ?_)
   clear hK K
   refine no_ ?_
   refine ox_ 3 42 fun K hK => ?_
   refine gs_ Try.func15 #[.agg #[.slice Ao24 t311.length co24, .slice Ao27 t314.length co27, .int .i64 t317], .agg #[.slice Ao41 t321.length co41, .slice Ao42 t324.length co42, .int .i64 t327]] rfl ma_ ?_
   with_reducible refine (laws_eqPart.calls kj11 _ _ t311 _ _ t314 t317 _ _ t321 _ _ t324 t327 false _ ?side1 ?side2 ?side3 ?side4 ?side5 ?side6 ?side7 ?side8 A32.out).mono ?_
   (case side1 => exact cs_ ((Kd.S_reads' HO_319000.out).2.2))
   (case side2 => exact (Kd.S_reads' HO_319000.out).2.1)
   (case side3 => exact cs_ ((Kd.S_reads' HO_319001.out).2.2))
   (case side4 => exact (Kd.S_reads' HO_319001.out).2.1)
   (case side5 => exact cs_ ((Kd.S_reads' HO323.out).2.2))
   (case side6 => exact (Kd.S_reads' HO323.out).2.1)
   (case side7 => exact cs_ ((Kd.S_reads' HO326.out).2.2))
   (case side8 => exact (Kd.S_reads' HO326.out).2.1)
   rintro e w43 ⟨rfl, hb⟩
   refine ⟨_, rfl, ?_⟩
   replace HO_319000 := sB_ HO_319000 hb
   replace HO_319001 := sB_ HO_319001 hb
   replace HO323 := sB_ HO323 hb
   replace HO326 := sB_ HO326 hb
   replace BK300 := bK_ BK300 hb
   replace BK318 := bK_ BK318 hb
   replace HB := nc2_ GE300 GE318 hb
   (try clear hb)
   (try clear hb2)
   (try clear hk)
   (try clear hi)
   refine hK.out _ _ ⟨bt_ BK318 0, bt_ BK318 1, bt_ BK318 2, bt_ BK300 0, bt_ BK300 1, bt_ BK300 2⟩ (fun hHeld => ?_)
   clear hK K
   refine no_ ?_
   refine px_ 4 43 ?_
   refine done_ (by kernel_rfl) ?_
   try go_wp2
   go_ret
   exact ⟨er_, hs2_ GE300.out GE318.out⟩

/-- The one pure statement of laws_FnExactNextSeq. -/
def laws_FnExactNextSeq.Pure : Prop := ∀ (x0 : S25) (a1 : Int), ok25 x0 → (Lit.int .i64 a1).wf = true → ∃ k, laws_FnExactNextSeq.f k x0.f0 x0.f1 x0.f2 a1 = some true

end Go.Proofs.Ytojdaolclcmalaa.QFnExactNextSeq
