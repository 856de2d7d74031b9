/- Functions that one statement reaches: of each a plain function, and the proof that calls come to it. Conditions: those that each contract names. Written by a program of this repository. -/
import Derived.Test.YtojdaolclcmalaaVGoodParta
import Derived.Test.YtojdaolclcmalaaQFnExactGoodPartx0
import Derived.Test.YtojdaolclcmalaaQFnExactGoodPartx2
import Derived.Test.YtojdaolclcmalaaQFnExactGoodPartx3
import Derived.Test.YtojdaolclcmalaaQFnExactGoodPartx5
import Derived.Test.YtojdaolclcmalaaQFnExactGoodPartx11
import Derived.Test.YtojdaolclcmalaaQFnExactGoodPartx14
namespace Go.Proofs.Ytojdaolclcmalaa.QFnExactGoodPart
open Go.RowKit Go.Proofs.YtojdaolclcmalaaW.PrintWords Go.Proofs.YtojdaolclcmalaaW.PrintLast Go.Proofs.YtojdaolclcmalaaW.PrintMore
attribute [local go_sem] max2_int min2_int max_two min_two max_three min_three max_four min_four Go.Proofs.YtojdaolclcmalaaW.PrintMore2.isSome_setCell   -- for this text's walks alone
set_option linter.unusedVariables false
set_option linter.unusedSimpArgs false

/-! ### laws_FnExactGoodPart: function 7 -/
def laws_FnExactGoodPart.f (k : Nat) (l0_0 : List (S105)) (l0_1 : List (S99)) (a0_2 : Int) : Option (Bool) := (laws_szPart.f k l0_0 l0_1 a0_2 1048576).bind fun t295 => (if t295 < 0 then (some true) else ((laws_toPart.f k l0_0 l0_1 a0_2).bind fun bt296 => ((spec_GoodPart.f k bt296.1 bt296.2.1 bt296.2.2).bind fun t303 => ((laws_toPart.f k l0_0 l0_1 a0_2).bind fun bt304 => ((impl_GoodPart.f k bt304.1 bt304.2.1 bt304.2.2).bind fun t312 => (if (t312 != t303) = true then (some false) else ((laws_toPart.f k l0_0 l0_1 a0_2).bind fun bt313 => ((laws_eqPart.f k bt304.1 bt304.2.1 bt304.2.2 bt313.1 bt313.2.1 bt313.2.2).bind fun t320 => (if t320 = true then (some true) else (some false))))))))))
theorem laws_FnExactGoodPart.mono : ∀ a0 a1 a2 k, LeO (laws_FnExactGoodPart.f k a0 a1 a2) (laws_FnExactGoodPart.f (k + 1) a0 a1 a2) := by
 intro a0 a1 a2 k
 unfold laws_FnExactGoodPart.f
 repeat' first
   | (with_reducible first | apply impl_GoodPart.mono | apply laws_eqPart.mono | apply laws_szPart.mono | apply laws_toPart.mono | apply spec_GoodPart.mono | exact LeO.refl _ | exact LeO.none _ | refine LeO.ite ?_ ?_ | refine LeO.bind ?_ (fun _ => ?_))
set_option maxHeartbeats 8000000 in
set_option maxRecDepth 100000 in
theorem laws_FnExactGoodPart.calls (k : Nat) (A0_0 : Option Addr) (c0_0 : Nat) (l0_0 : List (S105)) (A0_1 : Option Addr) (c0_1 : Nat) (l0_1 : List (S99)) (a0_2 : Int) (r : Bool) (w : World) (hr0_0 : Kd.C k105 w A0_0 l0_0.length l0_0) (hc0_0 : l0_0.length ≤ c0_0) (hr0_1 : Kd.C k99 w A0_1 l0_1.length l0_1) (hc0_1 : l0_1.length ≤ c0_1) (h : laws_FnExactGoodPart.f k l0_0 l0_1 a0_2 = some r) :
  Calls Try.prog 7 #[.agg #[.slice A0_0 l0_0.length c0_0, .slice A0_1 l0_1.length c0_1, .int .i64 a0_2]] w fun e w' => e = .returned (.bool r) ∧ Below w.heap.size w w' := by
 have hu25 := Try.underlying25
 have hu33 := Try.underlying33
 have HR0_0 := am_ hr0_0
 have HC0_0 := am_ hc0_0
 clear hr0_0 hc0_0
 have HR0_1 := am_ hr0_1
 have HC0_1 := am_ hc0_1
 clear hr0_1 hc0_1
 have HB := am_ (Below.refl w.heap.size w)
 have H : ((laws_szPart.f k l0_0 l0_1 a0_2 1048576).bind fun t295 => (if t295 < 0 then (some true) else ((laws_toPart.f k l0_0 l0_1 a0_2).bind fun bt296 => ((spec_GoodPart.f k bt296.1 bt296.2.1 bt296.2.2).bind fun t303 => ((laws_toPart.f k l0_0 l0_1 a0_2).bind fun bt304 => ((impl_GoodPart.f k bt304.1 bt304.2.1 bt304.2.2).bind fun t312 => (if (t312 != t303) = true then (some false) else ((laws_toPart.f k l0_0 l0_1 a0_2).bind fun bt313 => ((laws_eqPart.f k bt304.1 bt304.2.1 bt304.2.2 bt313.1 bt313.2.1 bt313.2.2).bind fun t320 => (if t320 = true then (some true) else (some false))))))))))) = some r := h
 clear h
 replace H := bnd_ H
 obtain ⟨t295, A2, H⟩ := H
 replace H := ite_ H
 obtain ⟨c3, H⟩ | ⟨c3, H⟩ := H
 ·have c3b0 := decide_eq_true c3
  clear c3
  obtain rfl := Option.some.inj H
  go_enter Try.func7, Try.ntmps7
  go_wp2_with (first | ((with_reducible refine gate_dst (N := 1) rfl ?_); refine bq_ (N := 1) #[.slice A0_0 l0_0.length c0_0, .slice A0_1 l0_1.length c0_1, .int .i64 a0_2] 25 ?_; intro gb294 hg w4 BK294 hb; have GE294 := ge_ hg; replace HB := nb_ hb; clear hb hg; obtain ⟨hcz5_0, hcz5_1, hcz5_2, hfz5_0, hfz5_1, hfz5_2⟩ := cf3_ BK294.out) | ((with_reducible refine gate_callee (f := 10) rfl ?_); refine gl_ 9 Try.func10 #[.agg #[.slice A0_0 l0_0.length c0_0, .slice A0_1 l0_1.length c0_1, .int .i64 a0_2], .int .i64 1048576] rfl ma_ ?_; (with_reducible refine (laws_szPart.calls k _ _ l0_0 _ _ l0_1 a0_2 1048576 t295 _ ?side1 ?side2 ?side3 ?side4 A2.out).mono ?_); (case side1 => exact cs_ ((Kd.C_below HR0_0.out HB.out))); (case side2 => exact HC0_0.out); (case side3 => exact cs_ ((Kd.C_below HR0_1.out HB.out))); (case side4 => exact HC0_1.out); rintro e w6 ⟨rfl, hb⟩; refine ⟨_, rfl, ?_⟩; replace BK294 := bK_ BK294 hb; replace HB := nc_ GE294 hb; (try clear hb); (try clear hb2); (try clear hk); (try clear hi)))
  go_ret
  exact ⟨er_, hs_ GE294.out⟩
 have c3b0 := decide_eq_false c3
 clear c3
 replace H := bnd_ H
 obtain ⟨⟨t296, t299, t302⟩, A7, H⟩ := H
 replace H := red_ H
 replace H := bnd_ H
 obtain ⟨t303, A8, H⟩ := H
 replace H := bnd_ H
 obtain ⟨⟨t304, t307, t310⟩, A9, H⟩ := H
 replace H := red_ H
 replace H := bnd_ H
 obtain ⟨t312, A10, H⟩ := H
 replace H := ite_ H
 obtain ⟨c11, H⟩ | ⟨c11, H⟩ := H
 ·have c11b0 : (t312 != t303) = true := c11
  (try (have c11b1 : decide (t312 = t303) = false := by simpa using c11))
  (try (have c11b2 : (t312 == t303) = false := by simpa using c11))
  (try (have c11b3 : ¬ (t312 = t303) := by simpa using c11))
  clear c11
  obtain rfl := Option.some.inj H
  go_enter Try.func7, Try.ntmps7
  go_wp2_with (first | ((with_reducible refine gate_dst (N := 1) rfl ?_); refine bq_ (N := 1) #[.slice A0_0 l0_0.length c0_0, .slice A0_1 l0_1.length c0_1, .int .i64 a0_2] 25 ?_; intro gb294 hg w12 BK294 hb; have GE294 := ge_ hg; replace HB := nb_ hb; clear hb hg; obtain ⟨hcz13_0, hcz13_1, hcz13_2, hfz13_0, hfz13_1, hfz13_2⟩ := cf3_ BK294.out) | ((with_reducible refine gate_callee (f := 10) rfl ?_); refine gl_ 9 Try.func10 #[.agg #[.slice A0_0 l0_0.length c0_0, .slice A0_1 l0_1.length c0_1, .int .i64 a0_2], .int .i64 1048576] rfl ma_ ?_; (with_reducible refine (laws_szPart.calls k _ _ l0_0 _ _ l0_1 a0_2 1048576 t295 _ ?side1 ?side2 ?side3 ?side4 A2.out).mono ?_); (case side1 => exact cs_ ((Kd.C_below HR0_0.out HB.out))); (case side2 => exact HC0_0.out); (case side3 => exact cs_ ((Kd.C_below HR0_1.out HB.out))); (case side4 => exact HC0_1.out); rintro e w14 ⟨rfl, hb⟩; refine ⟨_, rfl, ?_⟩; replace BK294 := bK_ BK294 hb; replace HB := nc_ GE294 hb; (try clear hb); (try clear hb2); (try clear hk); (try clear hi); obtain ⟨hcz15_0, hcz15_1, hcz15_2, hfz15_0, hfz15_1, hfz15_2⟩ := cf3_ BK294.out) | ((with_reducible refine gate_callee (f := 12) rfl ?_); refine gl_ 13 Try.func12 #[.agg #[.slice A0_0 l0_0.length c0_0, .slice A0_1 l0_1.length c0_1, .int .i64 a0_2]] rfl ma_ ?_; (with_reducible refine (laws_toPart.calls k _ _ l0_0 _ _ l0_1 a0_2 t296 t299 t302 _ ?side1 ?side2 ?side3 ?side4 A7.out).mono ?_); (case side1 => exact cs_ ((Kd.C_below HR0_0.out HB.out))); (case side2 => exact HC0_0.out); (case side3 => exact cs_ ((Kd.C_below HR0_1.out HB.out))); (case side4 => exact HC0_1.out); rintro e w16 ⟨v297, v300, rfl, ho0, ho1, hb⟩; refine ⟨_, rfl, ?_⟩; have HO298 := am_ (Kd.S_lower ho0 (below_size (hs_ GE294.out))); have HO301 := am_ (Kd.S_lower ho1 (below_size (hs_ GE294.out))); replace BK294 := bK_ BK294 hb; replace HB := nc_ GE294 hb; (try clear hb); (try clear hb2); (try clear hk); (try clear hi); (try clear ho0); (try clear ho1); obtain ⟨Ao17, co17, eo17⟩ := Kd.S_slice HO298.out; subst eo17; obtain ⟨Ao18, co18, eo18⟩ := Kd.S_slice HO301.out; subst eo18) | ((with_reducible refine gate_callee (f := 37) rfl ?_); refine gl_ 14 Try.func37 #[.agg #[.slice Ao17 t296.length co17, .slice Ao18 t299.length co18, .int .i64 t302]] rfl ma_ ?_; (with_reducible refine (spec_GoodPart.calls k _ _ t296 _ _ t299 t302 t303 _ ?side1 ?side2 ?side3 ?side4 A8.out).mono ?_); (case side1 => exact cs_ ((Kd.S_reads' HO298.out).2.2)); (case side2 => exact (Kd.S_reads' HO298.out).2.1); (case side3 => exact cs_ ((Kd.S_reads' HO301.out).2.2)); (case side4 => exact (Kd.S_reads' HO301.out).2.1); rintro e w19 ⟨rfl, hb⟩; refine ⟨_, rfl, ?_⟩; replace HO298 := sB_ HO298 hb; replace HO301 := sB_ HO301 hb; replace BK294 := bK_ BK294 hb; replace HB := nc_ GE294 hb; (try clear hb); (try clear hb2); (try clear hk); (try clear hi); obtain ⟨hcz20_0, hcz20_1, hcz20_2, hfz20_0, hfz20_1, hfz20_2⟩ := cf3_ BK294.out) | ((with_reducible refine gate_callee (f := 12) rfl ?_); refine gl_ 16 Try.func12 #[.agg #[.slice A0_0 l0_0.length c0_0, .slice A0_1 l0_1.length c0_1, .int .i64 a0_2]] rfl ma_ ?_; (with_reducible refine (laws_toPart.calls k _ _ l0_0 _ _ l0_1 a0_2 t304 t307 t310 _ ?side1 ?side2 ?side3 ?side4 A9.out).mono ?_); (case side1 => exact cs_ ((Kd.C_below HR0_0.out HB.out))); (case side2 => exact HC0_0.out); (case side3 => exact cs_ ((Kd.C_below HR0_1.out HB.out))); (case side4 => exact HC0_1.out); rintro e w21 ⟨v305, v308, rfl, ho0, ho1, hb⟩; refine ⟨_, rfl, ?_⟩; have HO306 := am_ (Kd.S_lower (Kd.S_new' ho0 (Kd.S_lt (ks_ HO298.out))) (below_size (hs_ GE294.out))); replace HO298 := am_ (Kd.S_elder' (ks_ HO298.out) (Kd.S_base ho0) hb); have HO309 := am_ (Kd.S_lower (Kd.S_new' ho1 (Kd.S_lt (ks_ HO301.out))) (below_size (hs_ GE294.out))); replace HO301 := am_ (Kd.S_elder' (ks_ HO301.out) (Kd.S_base ho1) hb); replace BK294 := bK_ BK294 hb; replace HB := nc_ GE294 hb; (try clear hb); (try clear hb2); (try clear hk); (try clear hi); (try clear ho0); (try clear ho1)) | ((with_reducible refine gate_dst (N := 5) rfl ?_); refine bq_ (N := 5) #[.slice none 0 0, .slice none 0 0, .int .i64 0] 33 ?_; intro gb311 hg w22 BK311 hb; replace HO298 := sB_ HO298 hb; replace HO301 := sB_ HO301 hb; replace HO306 := sB_ HO306 hb; replace HO309 := sB_ HO309 hb; have GE311 := ge1_ hg GE294; replace HB := nc_ GE294 hb; have NB294_311 := nl_ BK294 hg; have NB311_294 := ng_ BK294 hg; replace BK294 := bK_ BK294 hb; clear hb hg; obtain ⟨Ao23, co23, eo23⟩ := Kd.S_slice HO306.out; subst eo23; have hnb24 := NB311_294.out; have hnc24 := NB294_311.out; obtain ⟨hcz25_0, hcz25_1, hcz25_2, hfz25_0, hfz25_1, hfz25_2⟩ := cf3_ BK311.out; obtain ⟨Ao26, co26, eo26⟩ := Kd.S_slice HO309.out; subst eo26) | ((with_reducible refine gate_callee (f := 38) rfl ?_); refine gl_ 18 Try.func38 #[.agg #[.slice Ao23 t304.length co23, .slice Ao26 t307.length co26, .int .i64 t310]] rfl ma_ ?_; (with_reducible refine (impl_GoodPart.calls k _ _ t304 _ _ t307 t310 t312 _ ?side1 ?side2 ?side3 ?side4 A10.out).mono ?_); (case side1 => refine (Kd.S_reads' (e := 81) (base := w.heap.size) (ok := fun k_ => (True ∧ some k_ ≠ (.slice Ao17 t296.length co17 : Value).ownBlock)) (n := t304.length) (c := co23) ?_).2.2; exact ((Kd.S_mono (sF_ (Kd.S_types HO306.out BK311.out (by decide))) (fun _ h_ => h_.1)))); (case side2 => exact (Kd.S_reads' HO306.out).2.1); (case side3 => refine (Kd.S_reads' (e := 78) (base := w.heap.size) (ok := fun k_ => (True ∧ some k_ ≠ (.slice Ao18 t299.length co18 : Value).ownBlock)) (n := t307.length) (c := co26) ?_).2.2; exact ((Kd.S_mono (sF_ (Kd.S_types HO309.out BK311.out (by decide))) (fun _ h_ => h_.1)))); (case side4 => exact (Kd.S_reads' HO309.out).2.1); rintro e w27 ⟨rfl, hb⟩; refine ⟨_, rfl, ?_⟩; replace HO298 := am_ (Kd.S_below ((Kd.S_mono (sF_ (Kd.S_types HO298.out BK311.out (by decide))) (fun _ h_ => h_.1))) hb); replace HO301 := am_ (Kd.S_below ((Kd.S_mono (sF_ (Kd.S_types HO301.out BK311.out (by decide))) (fun _ h_ => h_.1))) hb); replace HO306 := am_ (Kd.S_below ((Kd.S_mono (sF_ (Kd.S_types HO306.out BK311.out (by decide))) (fun _ h_ => h_.1))) hb); replace HO309 := am_ (Kd.S_below ((Kd.S_mono (sF_ (Kd.S_types HO309.out BK311.out (by decide))) (fun _ h_ => h_.1))) hb); replace BK294 := am_ (blk_below (g := gb294) (o := .cells #[.slice A0_0 l0_0.length c0_0, .slice A0_1 l0_1.length c0_1, .int .i64 a0_2] 25 (0, 0)) (uf_ BK294 NB294_311.out) hb); replace BK311 := am_ (blk_below (g := gb311) (o := .cells #[.slice Ao23 t304.length co23, .slice Ao26 t307.length co26, .int .i64 t310] 33 (0, 0)) (up_ BK311) hb); replace HB := nc2_ GE294 GE311 hb; (try clear hb); (try clear hb2); (try clear hk); (try clear hi)))
  go_ret
  exact ⟨er_, hs2_ GE294.out GE311.out⟩
 have c11b0 : (t312 != t303) = false := by simpa using c11
 (try (have c11b1 : decide (t312 = t303) = true := by simpa using c11))
 (try (have c11b2 : (t312 == t303) = true := by simpa using c11))
 clear c11
 replace H := bnd_ H
 obtain ⟨⟨t313, t316, t319⟩, A28, H⟩ := H
 replace H := red_ H
 replace H := bnd_ H
 obtain ⟨t320, A29, H⟩ := H
 replace H := ifb_ H
 obtain ⟨rfl, H⟩ | ⟨rfl, H⟩ := H
 ·obtain rfl := Option.some.inj H
  go_enter Try.func7, Try.ntmps7
  try go_wp2_with (first | ((with_reducible refine gate_dst (N := 1) rfl ?_); refine bq_ (N := 1) #[.slice A0_0 l0_0.length c0_0, .slice A0_1 l0_1.length c0_1, .int .i64 a0_2] 25 ?_; intro gb294 hg w31 BK294 hb; have GE294 := ge_ hg; replace HB := nb_ hb; clear hb hg; obtain ⟨hcz32_0, hcz32_1, hcz32_2, hfz32_0, hfz32_1, hfz32_2⟩ := cf3_ BK294.out) | ((with_reducible refine gate_callee (f := 10) rfl ?_); refine gl_ 9 Try.func10 #[.agg #[.slice A0_0 l0_0.length c0_0, .slice A0_1 l0_1.length c0_1, .int .i64 a0_2], .int .i64 1048576] rfl ma_ ?_; (with_reducible refine (laws_szPart.calls k _ _ l0_0 _ _ l0_1 a0_2 1048576 t295 _ ?side1 ?side2 ?side3 ?side4 A2.out).mono ?_); (case side1 => exact cs_ ((Kd.C_below HR0_0.out HB.out))); (case side2 => exact HC0_0.out); (case side3 => exact cs_ ((Kd.C_below HR0_1.out HB.out))); (case side4 => exact HC0_1.out); rintro e w33 ⟨rfl, hb⟩; refine ⟨_, rfl, ?_⟩; replace BK294 := bK_ BK294 hb; replace HB := nc_ GE294 hb; (try clear hb); (try clear hb2); (try clear hk); (try clear hi); obtain ⟨hcz34_0, hcz34_1, hcz34_2, hfz34_0, hfz34_1, hfz34_2⟩ := cf3_ BK294.out) | ((with_reducible refine gate_callee (f := 12) rfl ?_); refine gl_ 13 Try.func12 #[.agg #[.slice A0_0 l0_0.length c0_0, .slice A0_1 l0_1.length c0_1, .int .i64 a0_2]] rfl ma_ ?_; (with_reducible refine (laws_toPart.calls k _ _ l0_0 _ _ l0_1 a0_2 t296 t299 t302 _ ?side1 ?side2 ?side3 ?side4 A7.out).mono ?_); (case side1 => exact cs_ ((Kd.C_below HR0_0.out HB.out))); (case side2 => exact HC0_0.out); (case side3 => exact cs_ ((Kd.C_below HR0_1.out HB.out))); (case side4 => exact HC0_1.out); rintro e w35 ⟨v297, v300, rfl, ho0, ho1, hb⟩; refine ⟨_, rfl, ?_⟩; have HO298 := am_ (Kd.S_lower ho0 (below_size (hs_ GE294.out))); have HO301 := am_ (Kd.S_lower ho1 (below_size (hs_ GE294.out))); replace BK294 := bK_ BK294 hb; replace HB := nc_ GE294 hb; (try clear hb); (try clear hb2); (try clear hk); (try clear hi); (try clear ho0); (try clear ho1); obtain ⟨Ao36, co36, eo36⟩ := Kd.S_slice HO298.out; subst eo36; obtain ⟨Ao37, co37, eo37⟩ := Kd.S_slice HO301.out; subst eo37) | ((with_reducible refine gate_callee (f := 37) rfl ?_); refine gl_ 14 Try.func37 #[.agg #[.slice Ao36 t296.length co36, .slice Ao37 t299.length co37, .int .i64 t302]] rfl ma_ ?_; (with_reducible refine (spec_GoodPart.calls k _ _ t296 _ _ t299 t302 t303 _ ?side1 ?side2 ?side3 ?side4 A8.out).mono ?_); (case side1 => exact cs_ ((Kd.S_reads' HO298.out).2.2)); (case side2 => exact (Kd.S_reads' HO298.out).2.1); (case side3 => exact cs_ ((Kd.S_reads' HO301.out).2.2)); (case side4 => exact (Kd.S_reads' HO301.out).2.1); rintro e w38 ⟨rfl, hb⟩; refine ⟨_, rfl, ?_⟩; replace HO298 := sB_ HO298 hb; replace HO301 := sB_ HO301 hb; replace BK294 := bK_ BK294 hb; replace HB := nc_ GE294 hb; (try clear hb); (try clear hb2); (try clear hk); (try clear hi); obtain ⟨hcz39_0, hcz39_1, hcz39_2, hfz39_0, hfz39_1, hfz39_2⟩ := cf3_ BK294.out) | ((with_reducible refine gate_callee (f := 12) rfl ?_); refine gl_ 16 Try.func12 #[.agg #[.slice A0_0 l0_0.length c0_0, .slice A0_1 l0_1.length c0_1, .int .i64 a0_2]] rfl ma_ ?_; (with_reducible refine (laws_toPart.calls k _ _ l0_0 _ _ l0_1 a0_2 t304 t307 t310 _ ?side1 ?side2 ?side3 ?side4 A9.out).mono ?_); (case side1 => exact cs_ ((Kd.C_below HR0_0.out HB.out))); (case side2 => exact HC0_0.out); (case side3 => exact cs_ ((Kd.C_below HR0_1.out HB.out))); (case side4 => exact HC0_1.out); rintro e w40 ⟨v305, v308, rfl, ho0, ho1, hb⟩; refine ⟨_, rfl, ?_⟩; have HO306 := am_ (Kd.S_lower (Kd.S_new' ho0 (Kd.S_lt (ks_ HO298.out))) (below_size (hs_ GE294.out))); replace HO298 := am_ (Kd.S_elder' (ks_ HO298.out) (Kd.S_base ho0) hb); have HO309 := am_ (Kd.S_lower (Kd.S_new' ho1 (Kd.S_lt (ks_ HO301.out))) (below_size (hs_ GE294.out))); replace HO301 := am_ (Kd.S_elder' (ks_ HO301.out) (Kd.S_base ho1) hb); replace BK294 := bK_ BK294 hb; replace HB := nc_ GE294 hb; (try clear hb); (try clear hb2); (try clear hk); (try clear hi); (try clear ho0); (try clear ho1)) | ((with_reducible refine gate_dst (N := 5) rfl ?_); refine bq_ (N := 5) #[.slice none 0 0, .slice none 0 0, .int .i64 0] 33 ?_; intro gb311 hg w41 BK311 hb; replace HO298 := sB_ HO298 hb; replace HO301 := sB_ HO301 hb; replace HO306 := sB_ HO306 hb; replace HO309 := sB_ HO309 hb; have GE311 := ge1_ hg GE294; replace HB := nc_ GE294 hb; have NB294_311 := nl_ BK294 hg; have NB311_294 := ng_ BK294 hg; replace BK294 := bK_ BK294 hb; clear hb hg; obtain ⟨Ao42, co42, eo42⟩ := Kd.S_slice HO306.out; subst eo42; have hnb43 := NB311_294.out; have hnc43 := NB294_311.out; obtain ⟨hcz44_0, hcz44_1, hcz44_2, hfz44_0, hfz44_1, hfz44_2⟩ := cf3_ BK311.out; obtain ⟨Ao45, co45, eo45⟩ := Kd.S_slice HO309.out; subst eo45) | ((with_reducible refine gate_callee (f := 38) rfl ?_); refine gl_ 18 Try.func38 #[.agg #[.slice Ao42 t304.length co42, .slice Ao45 t307.length co45, .int .i64 t310]] rfl ma_ ?_; (with_reducible refine (impl_GoodPart.calls k _ _ t304 _ _ t307 t310 t312 _ ?side1 ?side2 ?side3 ?side4 A10.out).mono ?_); (case side1 => refine (Kd.S_reads' (e := 81) (base := w.heap.size) (ok := fun k_ => (True ∧ some k_ ≠ (.slice Ao36 t296.length co36 : Value).ownBlock)) (n := t304.length) (c := co42) ?_).2.2; exact ((Kd.S_mono (sF_ (Kd.S_types HO306.out BK311.out (by decide))) (fun _ h_ => h_.1)))); (case side2 => exact (Kd.S_reads' HO306.out).2.1); (case side3 => refine (Kd.S_reads' (e := 78) (base := w.heap.size) (ok := fun k_ => (True ∧ some k_ ≠ (.slice Ao37 t299.length co37 : Value).ownBlock)) (n := t307.length) (c := co45) ?_).2.2; exact ((Kd.S_mono (sF_ (Kd.S_types HO309.out BK311.out (by decide))) (fun _ h_ => h_.1)))); (case side4 => exact (Kd.S_reads' HO309.out).2.1); rintro e w46 ⟨rfl, hb⟩; refine ⟨_, rfl, ?_⟩; replace HO298 := am_ (Kd.S_below ((Kd.S_mono (sF_ (Kd.S_types HO298.out BK311.out (by decide))) (fun _ h_ => h_.1))) hb); replace HO301 := am_ (Kd.S_below ((Kd.S_mono (sF_ (Kd.S_types HO301.out BK311.out (by decide))) (fun _ h_ => h_.1))) hb); replace HO306 := am_ (Kd.S_below ((Kd.S_mono (sF_ (Kd.S_types HO306.out BK311.out (by decide))) (fun _ h_ => h_.1))) hb); replace HO309 := am_ (Kd.S_below ((Kd.S_mono (sF_ (Kd.S_types HO309.out BK311.out (by decide))) (fun _ h_ => h_.1))) hb); replace BK294 := am_ (blk_below (g := gb294) (o := .cells #[.slice A0_0 l0_0.length c0_0, .slice A0_1 l0_1.length c0_1, .int .i64 a0_2] 25 (0, 0)) (uf_ BK294 NB294_311.out) hb); replace BK311 := am_ (blk_below (g := gb311) (o := .cells #[.slice Ao42 t304.length co42, .slice Ao45 t307.length co45, .int .i64 t310] 33 (0, 0)) (up_ BK311) hb); replace HB := nc2_ GE294 GE311 hb; (try clear hb); (try clear hb2); (try clear hk); (try clear hi)))
  replace HO298 := am_ (Kd.S_drew HO298.out)
  replace HO301 := am_ (Kd.S_drew HO301.out)
  replace HO306 := am_ (Kd.S_drew HO306.out)
  replace HO309 := am_ (Kd.S_drew HO309.out)
  replace BK294 := qK_ BK294
  replace BK311 := qK_ BK311
  replace HB := qH_ HB
  refine start_ (n := 5) (S := fun w' => w'.cell? ⟨gb311, 0, none⟩ = some (.slice Ao42 t304.length co42) ∧ w'.cell? ⟨gb311, 1, none⟩ = some (.slice Ao45 t307.length co45) ∧ w'.cell? ⟨gb311, 2, none⟩ = some (.int .i64 t310) ∧ w'.cell? ⟨gb294, 0, none⟩ = some (.slice A0_0 l0_0.length c0_0) ∧ w'.cell? ⟨gb294, 1, none⟩ = some (.slice A0_1 l0_1.length c0_1) ∧ w'.cell? ⟨gb294, 2, none⟩ = some (.int .i64 a0_2)) (ds := []) #[false, false, false, false, false] (by kernel_rfl) rfl rfl ⟨bt_ BK311 0, bt_ BK311 1, bt_ BK311 2, bt_ BK294 0, bt_ BK294 1, bt_ BK294 2⟩ (fun hHeld => ?_)
  generalize w46.drew = w47 at HO298 HO301 HO306 HO309 BK294 BK311 HB hHeld ⊢
  refine tx_ 0 22 ?_
  refine tx_ 1 23 ?_
  refine ox_ 2 24 fun K hK => ?_
  refine gs_ Try.func12 #[.agg #[.slice A0_0 l0_0.length c0_0, .slice A0_1 l0_1.length c0_1, .int .i64 a0_2]] rfl ma_ ?_
  with_reducible refine (laws_toPart.calls k _ _ l0_0 _ _ l0_1 a0_2 t313 t316 t319 _ ?side1 ?side2 ?side3 ?side4 A28.out).mono ?_
  (case side1 => exact cs_ ((Kd.C_below HR0_0.out HB.out)))
  (case side2 => exact HC0_0.out)
  (case side3 => exact cs_ ((Kd.C_below HR0_1.out HB.out)))
  (case side4 => exact HC0_1.out)
  rintro e w48 ⟨v314, v317, rfl, ho0, ho1, hb⟩
  refine ⟨_, rfl, ?_⟩
  have HO315 := am_ (Kd.S_lower (Kd.S_new' (Kd.S_new' ho0 (Kd.S_lt (ks_ HO298.out))) (Kd.S_lt (ks_ HO306.out))) (below_size (hs2_ GE294.out GE311.out)))
  replace HO298 := am_ (Kd.S_elder' (ks_ HO298.out) (Kd.S_base ho0) hb)
  replace HO306 := am_ (Kd.S_elder' (ks_ HO306.out) (Kd.S_base ho0) hb)
  have HO318 := am_ (Kd.S_lower (Kd.S_new' (Kd.S_new' ho1 (Kd.S_lt (ks_ HO301.out))) (Kd.S_lt (ks_ HO309.out))) (below_size (hs2_ GE294.out GE311.out)))
  replace HO301 := am_ (Kd.S_elder' (ks_ HO301.out) (Kd.S_base ho1) hb)
  replace HO309 := am_ (Kd.S_elder' (ks_ HO309.out) (Kd.S_base ho1) hb)
  replace BK294 := bK_ BK294 hb
  replace BK311 := bK_ BK311 hb
  replace HB := nc2_ GE294 GE311 hb
  (try clear hb)
  (try clear hb2)
  (try clear hk)
  (try clear hi)
  (try clear ho0)
  (try clear ho1)
  obtain ⟨Ao49, co49, eo49⟩ := Kd.S_slice HO315.out
  (first | subst eo49 | (injection eo49 with f1_ f2_ f3_; have f4_ := f1_.symm; have f5_ := f3_.symm; clear f1_ f2_ f3_; subst f4_; subst f5_))
  obtain ⟨Ao50, co50, eo50⟩ := Kd.S_slice HO318.out
  (first | subst eo50 | (injection eo50 with f1_ f2_ f3_; have f4_ := f1_.symm; have f5_ := f3_.symm; clear f1_ f2_ f3_; subst f4_; subst f5_))
  refine hK.out _ _ ⟨bt_ BK311 0, bt_ BK311 1, bt_ BK311 2, bt_ BK294 0, bt_ BK294 1, bt_ BK294 2⟩ (fun hHeld => ?_)
  clear hK K
  refine no_ ?_
  refine ox_ 3 25 fun K hK => ?_
  refine gs_ Try.func15 #[.agg #[.slice Ao42 t304.length co42, .slice Ao45 t307.length co45, .int .i64 t310], .agg #[.slice Ao49 t313.length co49, .slice Ao50 t316.length co50, .int .i64 t319]] rfl ma_ ?_
  with_reducible refine (laws_eqPart.calls k _ _ t304 _ _ t307 t310 _ _ t313 _ _ t316 t319 true _ ?side1 ?side2 ?side3 ?side4 ?side5 ?side6 ?side7 ?side8 A29.out).mono ?_
  (case side1 => exact cs_ ((Kd.S_reads' HO306.out).2.2))
  (case side2 => exact (Kd.S_reads' HO306.out).2.1)
  (case side3 => exact cs_ ((Kd.S_reads' HO309.out).2.2))
  (case side4 => exact (Kd.S_reads' HO309.out).2.1)
  (case side5 => exact cs_ ((Kd.S_reads' HO315.out).2.2))
  (case side6 => exact (Kd.S_reads' HO315.out).2.1)
  (case side7 => exact cs_ ((Kd.S_reads' HO318.out).2.2))
  (case side8 => exact (Kd.S_reads' HO318.out).2.1)
  rintro e w51 ⟨rfl, hb⟩
  refine ⟨_, rfl, ?_⟩
  replace HO298 := sB_ HO298 hb
  replace HO301 := sB_ HO301 hb
  replace HO306 := sB_ HO306 hb
  replace HO309 := sB_ HO309 hb
  replace HO315 := sB_ HO315 hb
  replace HO318 := sB_ HO318 hb
  replace BK294 := bK_ BK294 hb
  replace BK311 := bK_ BK311 hb
  replace HB := nc2_ GE294 GE311 hb
  (try clear hb)
  (try clear hb2)
  (try clear hk)
  (try clear hi)
  refine hK.out _ _ ⟨bt_ BK311 0, bt_ BK311 1, bt_ BK311 2, bt_ BK294 0, bt_ BK294 1, bt_ BK294 2⟩ (fun hHeld => ?_)
  clear hK K
  refine no_ ?_
  refine px_ 4 26 ?_
  refine done_ (by kernel_rfl) ?_
  try go_wp2
  go_ret
  exact ⟨er_, hs2_ GE294.out GE311.out⟩
 obtain rfl := Option.some.inj H
 go_enter Try.func7, Try.ntmps7
 try go_wp2_with (first | ((with_reducible refine gate_dst (N := 1) rfl ?_); refine bq_ (N := 1) #[.slice A0_0 l0_0.length c0_0, .slice A0_1 l0_1.length c0_1, .int .i64 a0_2] 25 ?_; intro gb294 hg w52 BK294 hb; have GE294 := ge_ hg; replace HB := nb_ hb; clear hb hg; obtain ⟨hcz53_0, hcz53_1, hcz53_2, hfz53_0, hfz53_1, hfz53_2⟩ := cf3_ BK294.out) | ((with_reducible refine gate_callee (f := 10) rfl ?_); refine gl_ 9 Try.func10 #[.agg #[.slice A0_0 l0_0.length c0_0, .slice A0_1 l0_1.length c0_1, .int .i64 a0_2], .int .i64 1048576] rfl ma_ ?_; (with_reducible refine (laws_szPart.calls k _ _ l0_0 _ _ l0_1 a0_2 1048576 t295 _ ?side1 ?side2 ?side3 ?side4 A2.out).mono ?_); (case side1 => exact cs_ ((Kd.C_below HR0_0.out HB.out))); (case side2 => exact HC0_0.out); (case side3 => exact cs_ ((Kd.C_below HR0_1.out HB.out))); (case side4 => exact HC0_1.out); rintro e w54 ⟨rfl, hb⟩; refine ⟨_, rfl, ?_⟩; replace BK294 := bK_ BK294 hb; replace HB := nc_ GE294 hb; (try clear hb); (try clear hb2); (try clear hk); (try clear hi); obtain ⟨hcz55_0, hcz55_1, hcz55_2, hfz55_0, hfz55_1, hfz55_2⟩ := cf3_ BK294.out) | ((with_reducible refine gate_callee (f := 12) rfl ?_); refine gl_ 13 Try.func12 #[.agg #[.slice A0_0 l0_0.length c0_0, .slice A0_1 l0_1.length c0_1, .int .i64 a0_2]] rfl ma_ ?_; (with_reducible refine (laws_toPart.calls k _ _ l0_0 _ _ l0_1 a0_2 t296 t299 t302 _ ?side1 ?side2 ?side3 ?side4 A7.out).mono ?_); (case side1 => exact cs_ ((Kd.C_below HR0_0.out HB.out))); (case side2 => exact HC0_0.out); (case side3 => exact cs_ ((Kd.C_below HR0_1.out HB.out))); (case side4 => exact HC0_1.out); rintro e w56 ⟨v297, v300, rfl, ho0, ho1, hb⟩; refine ⟨_, rfl, ?_⟩; have HO298 := am_ (Kd.S_lower ho0 (below_size (hs_ GE294.out))); have HO301 := am_ (Kd.S_lower ho1 (below_size (hs_ GE294.out))); replace BK294 := bK_ BK294 hb; replace HB := nc_ GE294 hb; (try clear hb); (try clear hb2); (try clear hk); (try clear hi); (try clear ho0); (try clear ho1); obtain ⟨Ao57, co57, eo57⟩ := Kd.S_slice HO298.out; subst eo57; obtain ⟨Ao58, co58, eo58⟩ := Kd.S_slice HO301.out; subst eo58) | ((with_reducible refine gate_callee (f := 37) rfl ?_); refine gl_ 14 Try.func37 #[.agg #[.slice Ao57 t296.length co57, .slice Ao58 t299.length co58, .int .i64 t302]] rfl ma_ ?_; (with_reducible refine (spec_GoodPart.calls k _ _ t296 _ _ t299 t302 t303 _ ?side1 ?side2 ?side3 ?side4 A8.out).mono ?_); (case side1 => exact cs_ ((Kd.S_reads' HO298.out).2.2)); (case side2 => exact (Kd.S_reads' HO298.out).2.1); (case side3 => exact cs_ ((Kd.S_reads' HO301.out).2.2)); (case side4 => exact (Kd.S_reads' HO301.out).2.1); rintro e w59 ⟨rfl, hb⟩; refine ⟨_, rfl, ?_⟩; replace HO298 := sB_ HO298 hb; replace HO301 := sB_ HO301 hb; replace BK294 := bK_ BK294 hb; replace HB := nc_ GE294 hb; (try clear hb); (try clear hb2); (try clear hk); (try clear hi); obtain ⟨hcz60_0, hcz60_1, hcz60_2, hfz60_0, hfz60_1, hfz60_2⟩ := cf3_ BK294.out) | ((with_reducible refine gate_callee (f := 12) rfl ?_); refine gl_ 16 Try.func12 #[.agg #[.slice A0_0 l0_0.length c0_0, .slice A0_1 l0_1.length c0_1, .int .i64 a0_2]] rfl ma_ ?_; (with_reducible refine (laws_toPart.calls k _ _ l0_0 _ _ l0_1 a0_2 t304 t307 t310 _ ?side1 ?side2 ?side3 ?side4 A9.out).mono ?_); (case side1 => exact cs_ ((Kd.C_below HR0_0.out HB.out))); (case side2 => exact HC0_0.out); (case side3 => exact cs_ ((Kd.C_below HR0_1.out HB.out))); (case side4 => exact HC0_1.out); rintro e w61 ⟨v305, v308, rfl, ho0, ho1, hb⟩; refine ⟨_, rfl, ?_⟩; have HO306 := am_ (Kd.S_lower (Kd.S_new' ho0 (Kd.S_lt (ks_ HO298.out))) (below_size (hs_ GE294.out))); replace HO298 := am_ (Kd.S_elder' (ks_ HO298.out) (Kd.S_base ho0) hb); have HO309 := am_ (Kd.S_lower (Kd.S_new' ho1 (Kd.S_lt (ks_ HO301.out))) (below_size (hs_ GE294.out))); replace HO301 := am_ (Kd.S_elder' (ks_ HO301.out) (Kd.S_base ho1) hb); replace BK294 := bK_ BK294 hb; replace HB := nc_ GE294 hb; (try clear hb); (try clear hb2); (try clear hk); (try clear hi); (try clear ho0); (try clear ho1)) | ((with_reducible refine gate_dst (N := 5) rfl ?_); refine bq_ (N := 5) #[.slice none 0 0, .slice none 0 0, .int .i64 0] 33 ?_; intro gb311 hg w62 BK311 hb; replace HO298 := sB_ HO298 hb; replace HO301 := sB_ HO301 hb; replace HO306 := sB_ HO306 hb; replace HO309 := sB_ HO309 hb; have GE311 := ge1_ hg GE294; replace HB := nc_ GE294 hb; have NB294_311 := nl_ BK294 hg; have NB311_294 := ng_ BK294 hg; replace BK294 := bK_ BK294 hb; clear hb hg; obtain ⟨Ao63, co63, eo63⟩ := Kd.S_slice HO306.out; subst eo63; have hnb64 := NB311_294.out; have hnc64 := NB294_311.out; obtain ⟨hcz65_0, hcz65_1, hcz65_2, hfz65_0, hfz65_1, hfz65_2⟩ := cf3_ BK311.out; obtain ⟨Ao66, co66, eo66⟩ := Kd.S_slice HO309.out; subst eo66) | ((with_reducible refine gate_callee (f := 38) rfl ?_); refine gl_ 18 Try.func38 #[.agg #[.slice Ao63 t304.length co63, .slice Ao66 t307.length co66, .int .i64 t310]] rfl ma_ ?_; (with_reducible refine (impl_GoodPart.calls k _ _ t304 _ _ t307 t310 t312 _ ?side1 ?side2 ?side3 ?side4 A10.out).mono ?_); (case side1 => refine (Kd.S_reads' (e := 81) (base := w.heap.size) (ok := fun k_ => (True ∧ some k_ ≠ (.slice Ao57 t296.length co57 : Value).ownBlock)) (n := t304.length) (c := co63) ?_).2.2; exact ((Kd.S_mono (sF_ (Kd.S_types HO306.out BK311.out (by decide))) (fun _ h_ => h_.1)))); (case side2 => exact (Kd.S_reads' HO306.out).2.1); (case side3 => refine (Kd.S_reads' (e := 78) (base := w.heap.size) (ok := fun k_ => (True ∧ some k_ ≠ (.slice Ao58 t299.length co58 : Value).ownBlock)) (n := t307.length) (c := co66) ?_).2.2; exact ((Kd.S_mono (sF_ (Kd.S_types HO309.out BK311.out (by decide))) (fun _ h_ => h_.1)))); (case side4 => exact (Kd.S_reads' HO309.out).2.1); rintro e w67 ⟨rfl, hb⟩; refine ⟨_, rfl, ?_⟩; replace HO298 := am_ (Kd.S_below ((Kd.S_mono (sF_ (Kd.S_types HO298.out BK311.out (by decide))) (fun _ h_ => h_.1))) hb); replace HO301 := am_ (Kd.S_below ((Kd.S_mono (sF_ (Kd.S_types HO301.out BK311.out (by decide))) (fun _ h_ => h_.1))) hb); replace HO306 := am_ (Kd.S_below ((Kd.S_mono (sF_ (Kd.S_types HO306.out BK311.out (by decide))) (fun _ h_ => h_.1))) hb); replace HO309 := am_ (Kd.S_below ((Kd.S_mono (sF_ (Kd.S_types HO309.out BK311.out (by decide))) (fun _ h_ => h_.1))) hb); replace BK294 := am_ (blk_below (g := gb294) (o := .cells #[.slice A0_0 l0_0.length c0_0, .slice A0_1 l0_1.length c0_1, .int .i64 a0_2] 25 (0, 0)) (uf_ BK294 NB294_311.out) hb); replace BK311 := am_ (blk_below (g := gb311) (o := .cells #[.slice Ao63 t304.length co63, .slice Ao66 t307.length co66, .int .i64 t310] 33 (0, 0)) (up_ BK311) hb); replace HB := nc2_ GE294 GE311 hb; (try clear hb); (try clear hb2); (try clear hk); (try clear hi)))
 replace HO298 := am_ (Kd.S_drew HO298.out)
 replace HO301 := am_ (Kd.S_drew HO301.out)
 replace HO306 := am_ (Kd.S_drew HO306.out)
 replace HO309 := am_ (Kd.S_drew HO309.out)
 replace BK294 := qK_ BK294
 replace BK311 := qK_ BK311
 replace HB := qH_ HB
 refine start_ (n := 5) (S := fun w' => w'.cell? ⟨gb311, 0, none⟩ = some (.slice Ao63 t304.length co63) ∧ w'.cell? ⟨gb311, 1, none⟩ = some (.slice Ao66 t307.length co66) ∧ w'.cell? ⟨gb311, 2, none⟩ = some (.int .i64 t310) ∧ w'.cell? ⟨gb294, 0, none⟩ = some (.slice A0_0 l0_0.length c0_0) ∧ w'.cell? ⟨gb294, 1, none⟩ = some (.slice A0_1 l0_1.length c0_1) ∧ w'.cell? ⟨gb294, 2, none⟩ = some (.int .i64 a0_2)) (ds := []) #[false, false, false, false, false] (by kernel_rfl) rfl rfl ⟨bt_ BK311 0, bt_ BK311 1, bt_ BK311 2, bt_ BK294 0, bt_ BK294 1, bt_ BK294 2⟩ (fun hHeld => ?_)
 generalize w67.drew = w68 at HO298 HO301 HO306 HO309 BK294 BK311 HB hHeld ⊢
 refine tx_ 0 22 ?_
 refine tx_ 1 23 ?_
 refine ox_ 2 24 fun K hK => ?_
 refine gs_ Try.func12 #[.agg #[.slice A0_0 l0_0.length c0_0, .slice A0_1 l0_1.length c0_1, .int .i64 a0_2]] rfl ma_ ?_
 with_reducible refine (laws_toPart.calls k _ _ l0_0 _ _ l0_1 a0_2 t313 t316 t319 _ ?side1 ?side2 ?side3 ?side4 A28.out).mono ?_
 (case side1 => exact cs_ ((Kd.C_below HR0_0.out HB.out)))
 (case side2 => exact HC0_0.out)
 (case side3 => exact cs_ ((Kd.C_below HR0_1.out HB.out)))
 (case side4 => exact HC0_1.out)
 rintro e w69 ⟨v314, v317, rfl, ho0, ho1, hb⟩
 refine ⟨_, rfl, ?_⟩
 have HO315 := am_ (Kd.S_lower (Kd.S_new' (Kd.S_new' ho0 (Kd.S_lt (ks_ HO298.out))) (Kd.S_lt (ks_ HO306.out))) (below_size (hs2_ GE294.out GE311.out)))
 replace HO298 := am_ (Kd.S_elder' (ks_ HO298.out) (Kd.S_base ho0) hb)
 replace HO306 := am_ (Kd.S_elder' (ks_ HO306.out) (Kd.S_base ho0) hb)
 have HO318 := am_ (Kd.S_lower (Kd.S_new' (Kd.S_new' ho1 (Kd.S_lt (ks_ HO301.out))) (Kd.S_lt (ks_ HO309.out))) (below_size (hs2_ GE294.out GE311.out)))
 replace HO301 := am_ (Kd.S_elder' (ks_ HO301.out) (Kd.S_base ho1) hb)
 replace HO309 := am_ (Kd.S_elder' (ks_ HO309.out) (Kd.S_base ho1) hb)
 replace BK294 := bK_ BK294 hb
 replace BK311 := bK_ BK311 hb
 replace HB := nc2_ GE294 GE311 hb
 (try clear hb)
 (try clear hb2)
 (try clear hk)
 (try clear hi)
 (try clear ho0)
 (try clear ho1)
 obtain ⟨Ao70, co70, eo70⟩ := Kd.S_slice HO315.out
 (first | subst eo70 | (injection eo70 with f1_ f2_ f3_; have f4_ := f1_.symm; have f5_ := f3_.symm; clear f1_ f2_ f3_; subst f4_; subst f5_))
 obtain ⟨Ao71, co71, eo71⟩ := Kd.S_slice HO318.out
 (first | subst eo71 | (injection eo71 with f1_ f2_ f3_; have f4_ := f1_.symm; have f5_ := f3_.symm; clear f1_ f2_ f3_; subst f4_; subst f5_))
 refine hK.out _ _ ⟨bt_ BK311 0, bt_ BK311 1, bt_ BK311 2, bt_ BK294 0, bt_ BK294 1, bt_ BK294 2⟩ (fun hHeld => ?_)
 clear hK K
 refine no_ ?_
 refine ox_ 3 25 fun K hK => ?_
 refine gs_ Try.func15 #[.agg #[.slice Ao63 t304.length co63, .slice Ao66 t307.length co66, .int .i64 t310], .agg #[.slice Ao70 t313.length co70, .slice Ao71 t316.length co71, .int .i64 t319]] rfl ma_ ?_
 with_reducible refine (laws_eqPart.calls k _ _ t304 _ _ t307 t310 _ _ t313 _ _ t316 t319 false _ ?side1 ?side2 ?side3 ?side4 ?side5 ?side6 ?side7 ?side8 A29.out).mono ?_
 (case side1 => exact cs_ ((Kd.S_reads' HO306.out).2.2))
 (case side2 => exact (Kd.S_reads' HO306.out).2.1)
 (case side3 => exact cs_ ((Kd.S_reads' HO309.out).2.2))
 (case side4 => exact (Kd.S_reads' HO309.out).2.1)
 (case side5 => exact cs_ ((Kd.S_reads' HO315.out).2.2))
 (case side6 => exact (Kd.S_reads' HO315.out).2.1)
 (case side7 => exact cs_ ((Kd.S_reads' HO318.out).2.2))
 (case side8 => exact (Kd.S_reads' HO318.out).2.1)
 rintro e w72 ⟨rfl, hb⟩
 refine ⟨_, rfl, ?_⟩
 replace HO298 := sB_ HO298 hb
 replace HO301 := sB_ HO301 hb
 replace HO306 := sB_ HO306 hb
 replace HO309 := sB_ HO309 hb
 replace HO315 := sB_ HO315 hb
 replace HO318 := sB_ HO318 hb
 replace BK294 := bK_ BK294 hb
 replace BK311 := bK_ BK311 hb
 replace HB := nc2_ GE294 GE311 hb
 (try clear hb)
 (try clear hb2)
 (try clear hk)
 (try clear hi)
 refine hK.out _ _ ⟨bt_ BK311 0, bt_ BK311 1, bt_ BK311 2, bt_ BK294 0, bt_ BK294 1, bt_ BK294 2⟩ (fun hHeld => ?_)
 clear hK K
 refine no_ ?_
 refine px_ 4 26 ?_
 refine done_ (by kernel_rfl) ?_
 try go_wp2
 go_ret
 exact ⟨er_, hs2_ GE294.out GE311.out⟩

/-- The one pure statement of laws_FnExactGoodPart. -/
def laws_FnExactGoodPart.Pure : Prop := ∀ (x0 : S25), ok25 x0 → ∃ k, laws_FnExactGoodPart.f k x0.f0 x0.f1 x0.f2 = some true

end Go.Proofs.Ytojdaolclcmalaa.QFnExactGoodPart
