/- Functions that one statement reaches: of each a plain function, and the proof that calls come to it. Conditions: those that each contract names. Written by a program of this repository. -/
import Derived.Test.YtffpeklekkpbjaaVTruncateToa
import Derived.Test.YtffpeklekkpbjaaQFnExactTruncateTox2
import Derived.Test.YtffpeklekkpbjaaQFnExactTruncateTox16
import Derived.Test.YtffpeklekkpbjaaQFnExactTruncateTox20
namespace Go.Proofs.Ytffpeklekkpbjaa.QFnExactTruncateTo
open Go.RowKit Go.Proofs.YtffpeklekkpbjaaW.PrintWords Go.Proofs.YtffpeklekkpbjaaW.PrintLast Go.Proofs.YtffpeklekkpbjaaW.PrintMore
attribute [local go_sem] max2_int min2_int max_two min_two max_three min_three max_four min_four Go.Proofs.YtffpeklekkpbjaaW.PrintMore2.isSome_setCell   -- for this text's walks alone
set_option linter.unusedVariables false
set_option linter.unusedSimpArgs false

/-! ### impl_follows: function 118 -/
def impl_follows.f (l0 : List (S43)) (a1_0 : Int) (a1_1 : Int) (a1_2 : Int) (a1_3 : Int) (l1_4 : List ByteArray) : Option (Bool) := if (l0.length : Int) = 0 then (some true) else (if 0 ≤ (wrap64 ((l0.length : Int) - 1)) then (if (wrap64 ((l0.length : Int) - 1)) < (l0.length : Int) then ((impl_Batch_end.f ((rd_T43 l0 (wrap64 ((l0.length : Int) - 1))).f0) ((rd_T43 l0 (wrap64 ((l0.length : Int) - 1))).f1) ((rd_T43 l0 (wrap64 ((l0.length : Int) - 1))).f2) ((rd_T43 l0 (wrap64 ((l0.length : Int) - 1))).f3) ((rd_T43 l0 (wrap64 ((l0.length : Int) - 1))).f4)).bind fun t373 => (if a1_0 = t373 then (some (decide (a1_1 ≥ ((rd_T43 l0 (wrap64 ((l0.length : Int) - 1))).f1)))) else (some false))) else (none)) else (none))
def impl_follows.T4 : Bool × List (List Nat × List Nat) := (true, [([], []), ([0], [0]), ([], []), ([2], [2]), ([1, 3], [1, 3]), ([4, 3], [4]), ([5], [5]), ([6, 5], [5, 6]), ([5], [5]), ([8, 5], [5, 8]), ([7, 9, 5], [5, 7, 9]), ([5, 10], [5, 10]), ([11, 5, 0, 1, 2, 3, 4, 5, 6, 7, 8, 9, 10, 11], [11])])
def impl_follows.B4 : List Nat := [0, 1, 0, 4, 15, 31, 63, 127, 63, 319, 1023, 2047, 4095]
theorem impl_follows.tab4 : rtab .any (opsOf Try.f118 4) = impl_follows.T4 := by kernel_rfl
theorem impl_follows.bits4 : waitsOk impl_follows.T4.2 impl_follows.B4 = true := by kernel_rfl
set_option maxHeartbeats 8000000 in
set_option maxRecDepth 100000 in
theorem impl_follows.calls (A0 : Option Addr) (c0 : Nat) (l0 : List (S43)) (a1_0 : Int) (a1_1 : Int) (a1_2 : Int) (a1_3 : Int) (A1_4 : Option Addr) (c1_4 : Nat) (l1_4 : List ByteArray) (r : Bool) (w : World) (hr0 : Kd.C k43 w A0 l0.length l0) (hc0 : l0.length ≤ c0) (hr1_4 : Kd.C Kd.string w A1_4 l1_4.length l1_4) (hc1_4 : l1_4.length ≤ c1_4) (h : impl_follows.f l0 a1_0 a1_1 a1_2 a1_3 l1_4 = some r) :
  Calls Try.prog 118 #[.slice A0 l0.length c0, .agg #[.int .i64 a1_0, .int .i64 a1_1, .int .i64 a1_2, .int .i64 a1_3, .slice A1_4 l1_4.length c1_4]] w fun e w' => e = .returned (.bool r) ∧ Below w.heap.size w w' := by
 have hu43 := Try.underlying43
 have HR0 := Aside0.mk hr0
 have HC0 := Aside0.mk hc0
 clear hr0 hc0
 have HR1_4 := Aside0.mk hr1_4
 have HC1_4 := Aside0.mk hc1_4
 clear hr1_4 hc1_4
 have HB := Aside0.mk (Below.refl w.heap.size w)
 have H : (if (l0.length : Int) = 0 then (some true) else (if 0 ≤ (wrap64 ((l0.length : Int) - 1)) then (if (wrap64 ((l0.length : Int) - 1)) < (l0.length : Int) then ((impl_Batch_end.f ((rd_T43 l0 (wrap64 ((l0.length : Int) - 1))).f0) ((rd_T43 l0 (wrap64 ((l0.length : Int) - 1))).f1) ((rd_T43 l0 (wrap64 ((l0.length : Int) - 1))).f2) ((rd_T43 l0 (wrap64 ((l0.length : Int) - 1))).f3) ((rd_T43 l0 (wrap64 ((l0.length : Int) - 1))).f4)).bind fun t373 => (if a1_0 = t373 then (some (decide (a1_1 ≥ ((rd_T43 l0 (wrap64 ((l0.length : Int) - 1))).f1)))) else (some false))) else (none)) else (none))) = some r := h
 clear h
 replace H := ite_ H
 obtain ⟨c3, H⟩ | ⟨c3, H⟩ := H
 ·have c3b0 : ((l0.length : Int) == 0) = true := beq_iff_eq.mpr c3
  have c3b1 : ((l0.length : Int) != 0) = false := bne_eq_false_iff_eq.mpr c3
  clear c3
  obtain rfl := Option.some.inj H
  go_enter Try.func118, Try.ntmps118
  go_wp2_with (first | ((with_reducible refine gate_dst (N := 3) rfl ?_); refine bq_ (N := 3) #[.int .i64 a1_0, .int .i64 a1_1, .int .i64 a1_2, .int .i64 a1_3, .slice A1_4 l1_4.length c1_4] 43 ?_; intro gb370 hg w4 BK370 hb; have GE370 := ge_ hg; replace HB := nb_ hb; clear hb hg))
  go_ret
  exact ⟨er_, hs_ GE370.out⟩
 have c3b0 : ((l0.length : Int) == 0) = false := beq_eq_false_iff_ne.mpr c3
 have c3b1 : ((l0.length : Int) != 0) = true := bne_iff_ne.mpr c3
 have c3b2 : ¬ (l0 = []) := fun h_ => c3 (by rw [h_]; rfl)
 obtain ⟨ji5, hji5⟩ : ∃ j_ : Int, (wrap64 ((l0.length : Int) - 1)) = j_ := ⟨_, rfl⟩
 first | rw [hji5] at H | simp only [hji5] at H
 have hji5w : (IntKind.i64.wrap ((l0.length : Int) - 1)) = ji5 := (i64_w _).trans hji5
 replace H := ifs_ H
 obtain ⟨c6, H⟩ := H
 have c6b0 := decide_eq_true c6
 clear c6
 replace H := ifs_ H
 obtain ⟨c7, H⟩ := H
 have c7b0 := decide_eq_true c7
 clear c7
 replace H := bnd_ H
 obtain ⟨t373, A8, H⟩ := H
 replace H := ite_ H
 obtain ⟨c9, H⟩ | ⟨c9, H⟩ := H
 ·have c9b0 : (a1_0 == t373) = true := beq_iff_eq.mpr c9
  have c9b1 : (a1_0 != t373) = false := bne_eq_false_iff_eq.mpr c9
  clear c9
  obtain rfl := Option.some.inj H
  go_enter Try.func118, Try.ntmps118
  try go_wp2_with (first | ((with_reducible refine gate_dst (N := 3) rfl ?_); refine bq_ (N := 3) #[.int .i64 a1_0, .int .i64 a1_1, .int .i64 a1_2, .int .i64 a1_3, .slice A1_4 l1_4.length c1_4] 43 ?_; intro gb370 hg w10 BK370 hb; have GE370 := ge_ hg; replace HB := nb_ hb; clear hb hg; have p371 : 0 ≤ ((ji5) : Int) := oa_; have q371 : (ji5) < (l0.length : Int) := oa_; obtain ⟨ad371, A371_4, c371_4, e371, hx371_0, hx371_1, hx371_2, hx371_3, hx371_4, hl371_4, hi371_4⟩ := at_T43 HR0.out (ji5) p371 q371; cases e371; replace hx371_0 := pc_ HB.out hx371_0; replace hx371_1 := pc_ HB.out hx371_1; replace hx371_2 := pc_ HB.out hx371_2; replace hx371_3 := pc_ HB.out hx371_3; replace hx371_4 := pc_ HB.out hx371_4; have HR371_4 := Aside0.mk hi371_4; have HC371_4 := Aside0.mk hl371_4; clear hi371_4 hl371_4; replace p371 := eq_true p371; replace q371 := eq_true q371) | ((with_reducible refine gate_dst (N := 5) rfl ?_); refine bq_ (N := 5) #[.int .i64 0, .int .i64 0, .int .i64 0, .int .i64 0, .slice none 0 0] 43 ?_; intro gb372 hg w11 BK372 hb; have GE372 := ge1_ hg GE370; replace HB := nc_ GE370 hb; have NB370_372 := nl_ BK370 hg; have NB372_370 := ng_ BK370 hg; replace BK370 := bK_ BK370 hb; clear hb hg; have hnb12 := NB372_370.out; have hnc12 := NB370_372.out; obtain ⟨hcz13_0, hcz13_1, hcz13_2, hcz13_3, hcz13_4, hfz13_0, hfz13_1, hfz13_2, hfz13_3, hfz13_4⟩ := cf5_ BK372.out))
  have n0_ : Aside0 ((((((w11.setCell ⟨gb372, 0, none⟩ (.int .i64 ((rd_T43 l0 (ji5)).f0))).setCell ⟨gb372, 1, none⟩ (.int .i64 ((rd_T43 l0 (ji5)).f1))).setCell ⟨gb372, 2, none⟩ (.int .i64 ((rd_T43 l0 (ji5)).f2))).setCell ⟨gb372, 3, none⟩ (.int .i64 ((rd_T43 l0 (ji5)).f3))).setCell ⟨gb372, 4, none⟩ (.slice A371_4 ((rd_T43 l0 (ji5)).f4).length c371_4)).heap[gb370]? = some (.cells #[.int .i64 a1_0, .int .i64 a1_1, .int .i64 a1_2, .int .i64 a1_3, .slice A1_4 l1_4.length c1_4] 43 (0, 0))) := ⟨uf_ BK370 NB370_372.out⟩
  have n1_ : Aside0 ((((((w11.setCell ⟨gb372, 0, none⟩ (.int .i64 ((rd_T43 l0 (ji5)).f0))).setCell ⟨gb372, 1, none⟩ (.int .i64 ((rd_T43 l0 (ji5)).f1))).setCell ⟨gb372, 2, none⟩ (.int .i64 ((rd_T43 l0 (ji5)).f2))).setCell ⟨gb372, 3, none⟩ (.int .i64 ((rd_T43 l0 (ji5)).f3))).setCell ⟨gb372, 4, none⟩ (.slice A371_4 ((rd_T43 l0 (ji5)).f4).length c371_4)).heap[gb372]? = some (.cells #[.int .i64 ((rd_T43 l0 (ji5)).f0), .int .i64 ((rd_T43 l0 (ji5)).f1), .int .i64 ((rd_T43 l0 (ji5)).f2), .int .i64 ((rd_T43 l0 (ji5)).f3), .slice A371_4 ((rd_T43 l0 (ji5)).f4).length c371_4] 43 (0, 0))) := ⟨up_ BK372⟩
  have n2_ : Aside0 (Below w.heap.size w (((((w11.setCell ⟨gb372, 0, none⟩ (.int .i64 ((rd_T43 l0 (ji5)).f0))).setCell ⟨gb372, 1, none⟩ (.int .i64 ((rd_T43 l0 (ji5)).f1))).setCell ⟨gb372, 2, none⟩ (.int .i64 ((rd_T43 l0 (ji5)).f2))).setCell ⟨gb372, 3, none⟩ (.int .i64 ((rd_T43 l0 (ji5)).f3))).setCell ⟨gb372, 4, none⟩ (.slice A371_4 ((rd_T43 l0 (ji5)).f4).length c371_4))) := ⟨hs2_ GE370.out GE372.out⟩
  (try clear BK370)
  (try clear BK372)
  (try clear HB)
  generalize (((((w11.setCell ⟨gb372, 0, none⟩ (.int .i64 ((rd_T43 l0 (ji5)).f0))).setCell ⟨gb372, 1, none⟩ (.int .i64 ((rd_T43 l0 (ji5)).f1))).setCell ⟨gb372, 2, none⟩ (.int .i64 ((rd_T43 l0 (ji5)).f2))).setCell ⟨gb372, 3, none⟩ (.int .i64 ((rd_T43 l0 (ji5)).f3))).setCell ⟨gb372, 4, none⟩ (.slice A371_4 ((rd_T43 l0 (ji5)).f4).length c371_4)) = w14 at n0_ n1_ n2_ ⊢
  have BK370 := n0_
  have BK372 := n1_
  have HB := n2_
  clear n0_ n1_ n2_
  replace BK370 := qK_ BK370
  replace BK372 := qK_ BK372
  replace HB := qH_ HB
  refine start_ (n := 13) (S := fun w' => w'.cell? ⟨gb370, 0, none⟩ = some (.int .i64 a1_0) ∧ w'.cell? ⟨gb370, 1, none⟩ = some (.int .i64 a1_1) ∧ w'.cell? ⟨gb370, 2, none⟩ = some (.int .i64 a1_2) ∧ w'.cell? ⟨gb370, 3, none⟩ = some (.int .i64 a1_3) ∧ w'.cell? ⟨gb370, 4, none⟩ = some (.slice A1_4 l1_4.length c1_4) ∧ w'.cell? ⟨gb372, 0, none⟩ = some (.int .i64 ((rd_T43 l0 (ji5)).f0)) ∧ w'.cell? ⟨gb372, 1, none⟩ = some (.int .i64 ((rd_T43 l0 (ji5)).f1)) ∧ w'.cell? ⟨gb372, 2, none⟩ = some (.int .i64 ((rd_T43 l0 (ji5)).f2)) ∧ w'.cell? ⟨gb372, 3, none⟩ = some (.int .i64 ((rd_T43 l0 (ji5)).f3)) ∧ w'.cell? ⟨gb372, 4, none⟩ = some (.slice A371_4 ((rd_T43 l0 (ji5)).f4).length c371_4)) (ds := []) (List.replicate 13 false).toArray (by kernel_rfl) rfl rfl ⟨bt_ BK370 0, bt_ BK370 1, bt_ BK370 2, bt_ BK370 3, bt_ BK370 4, bt_ BK372 0, bt_ BK372 1, bt_ BK372 2, bt_ BK372 3, bt_ BK372 4⟩ (fun hHeld => ?_); refine with_tabW impl_follows.tab4 impl_follows.bits4 (fun HT_ HW_ => ?_)
  generalize w14.drew = w15 at BK370 BK372 HB hHeld ⊢
  refine pv_ 0 15 ?_
  refine tk_ 1 16 ?_
  refine tk_ 2 17 ?_
  refine on_ 3 18 (fun K hK => ?_)
  refine gs_ Try.func77 #[.agg #[.int .i64 ((rd_T43 l0 (ji5)).f0), .int .i64 ((rd_T43 l0 (ji5)).f1), .int .i64 ((rd_T43 l0 (ji5)).f2), .int .i64 ((rd_T43 l0 (ji5)).f3), .slice A371_4 ((rd_T43 l0 (ji5)).f4).length c371_4]] rfl (mb_ hji5) ?_
  with_reducible refine (impl_Batch_end.calls ((rd_T43 l0 (ji5)).f0) ((rd_T43 l0 (ji5)).f1) ((rd_T43 l0 (ji5)).f2) ((rd_T43 l0 (ji5)).f3) _ _ ((rd_T43 l0 (ji5)).f4) t373 _ ?side1 ?side2 A8.out).mono ?_
  (case side1 => exact cs_ ((Kd.C_below HR371_4.out HB.out)))
  (case side2 => exact HC371_4.out)
  rintro e w16 ⟨rfl, hb⟩
  refine ⟨_, rfl, ?_⟩
  replace BK370 := bK_ BK370 hb
  replace BK372 := bK_ BK372 hb
  replace HB := nc2_ GE370 GE372 hb
  (try clear hb)
  (try clear hb2)
  (try clear hk)
  (try clear hi)
  refine hK.out _ _ ⟨bt_ BK370 0, bt_ BK370 1, bt_ BK370 2, bt_ BK370 3, bt_ BK370 4, bt_ BK372 0, bt_ BK372 1, bt_ BK372 2, bt_ BK372 3, bt_ BK372 4⟩ (fun hHeld => ?_)
  clear hK K
  refine no_ ?_
  refine pv_ 4 19 ?_
  refine pv_ 5 20 ?_
  refine pv_ 6 21 ?_
  refine pv_ 8 23 ?_
  refine tk_ 7 22 ?_
  refine tk_ 9 24 ?_
  refine pv_ 10 25 ?_
  refine pv_ 11 26 ?_
  refine pv_ 12 4 ?_
  refine done_ (done_of HT_.out (by kernel_rfl)) ?_
  try go_wp2
  go_ret
  exact ⟨by first | rfl | (simp [errW_none, errW_some] <;> rfl) | (simp only [← hji5]; first | rfl | (simp [errW_none, errW_some] <;> rfl)) | (simp [*, errW_none, errW_some] <;> rfl), hs2_ GE370.out GE372.out⟩
 have c9b0 : (a1_0 == t373) = false := beq_eq_false_iff_ne.mpr c9
 have c9b1 : (a1_0 != t373) = true := bne_iff_ne.mpr c9
 obtain rfl := Option.some.inj H
 go_enter Try.func118, Try.ntmps118
 try go_wp2_with (first | ((with_reducible refine gate_dst (N := 3) rfl ?_); refine bq_ (N := 3) #[.int .i64 a1_0, .int .i64 a1_1, .int .i64 a1_2, .int .i64 a1_3, .slice A1_4 l1_4.length c1_4] 43 ?_; intro gb370 hg w17 BK370 hb; have GE370 := ge_ hg; replace HB := nb_ hb; clear hb hg; have p371 : 0 ≤ ((ji5) : Int) := oa_; have q371 : (ji5) < (l0.length : Int) := oa_; obtain ⟨ad371, A371_4, c371_4, e371, hx371_0, hx371_1, hx371_2, hx371_3, hx371_4, hl371_4, hi371_4⟩ := at_T43 HR0.out (ji5) p371 q371; cases e371; replace hx371_0 := pc_ HB.out hx371_0; replace hx371_1 := pc_ HB.out hx371_1; replace hx371_2 := pc_ HB.out hx371_2; replace hx371_3 := pc_ HB.out hx371_3; replace hx371_4 := pc_ HB.out hx371_4; have HR371_4 := Aside0.mk hi371_4; have HC371_4 := Aside0.mk hl371_4; clear hi371_4 hl371_4; replace p371 := eq_true p371; replace q371 := eq_true q371) | ((with_reducible refine gate_dst (N := 5) rfl ?_); refine bq_ (N := 5) #[.int .i64 0, .int .i64 0, .int .i64 0, .int .i64 0, .slice none 0 0] 43 ?_; intro gb372 hg w18 BK372 hb; have GE372 := ge1_ hg GE370; replace HB := nc_ GE370 hb; have NB370_372 := nl_ BK370 hg; have NB372_370 := ng_ BK370 hg; replace BK370 := bK_ BK370 hb; clear hb hg; have hnb19 := NB372_370.out; have hnc19 := NB370_372.out; obtain ⟨hcz20_0, hcz20_1, hcz20_2, hcz20_3, hcz20_4, hfz20_0, hfz20_1, hfz20_2, hfz20_3, hfz20_4⟩ := cf5_ BK372.out))
 have n0_ : Aside0 ((((((w18.setCell ⟨gb372, 0, none⟩ (.int .i64 ((rd_T43 l0 (ji5)).f0))).setCell ⟨gb372, 1, none⟩ (.int .i64 ((rd_T43 l0 (ji5)).f1))).setCell ⟨gb372, 2, none⟩ (.int .i64 ((rd_T43 l0 (ji5)).f2))).setCell ⟨gb372, 3, none⟩ (.int .i64 ((rd_T43 l0 (ji5)).f3))).setCell ⟨gb372, 4, none⟩ (.slice A371_4 ((rd_T43 l0 (ji5)).f4).length c371_4)).heap[gb370]? = some (.cells #[.int .i64 a1_0, .int .i64 a1_1, .int .i64 a1_2, .int .i64 a1_3, .slice A1_4 l1_4.length c1_4] 43 (0, 0))) := ⟨uf_ BK370 NB370_372.out⟩
 have n1_ : Aside0 ((((((w18.setCell ⟨gb372, 0, none⟩ (.int .i64 ((rd_T43 l0 (ji5)).f0))).setCell ⟨gb372, 1, none⟩ (.int .i64 ((rd_T43 l0 (ji5)).f1))).setCell ⟨gb372, 2, none⟩ (.int .i64 ((rd_T43 l0 (ji5)).f2))).setCell ⟨gb372, 3, none⟩ (.int .i64 ((rd_T43 l0 (ji5)).f3))).setCell ⟨gb372, 4, none⟩ (.slice A371_4 ((rd_T43 l0 (ji5)).f4).length c371_4)).heap[gb372]? = some (.cells #[.int .i64 ((rd_T43 l0 (ji5)).f0), .int .i64 ((rd_T43 l0 (ji5)).f1), .int .i64 ((rd_T43 l0 (ji5)).f2), .int .i64 ((rd_T43 l0 (ji5)).f3), .slice A371_4 ((rd_T43 l0 (ji5)).f4).length c371_4] 43 (0, 0))) := ⟨up_ BK372⟩
 have n2_ : Aside0 (Below w.heap.size w (((((w18.setCell ⟨gb372, 0, none⟩ (.int .i64 ((rd_T43 l0 (ji5)).f0))).setCell ⟨gb372, 1, none⟩ (.int .i64 ((rd_T43 l0 (ji5)).f1))).setCell ⟨gb372, 2, none⟩ (.int .i64 ((rd_T43 l0 (ji5)).f2))).setCell ⟨gb372, 3, none⟩ (.int .i64 ((rd_T43 l0 (ji5)).f3))).setCell ⟨gb372, 4, none⟩ (.slice A371_4 ((rd_T43 l0 (ji5)).f4).length c371_4))) := ⟨hs2_ GE370.out GE372.out⟩
 (try clear BK370)
 (try clear BK372)
 (try clear HB)
 generalize (((((w18.setCell ⟨gb372, 0, none⟩ (.int .i64 ((rd_T43 l0 (ji5)).f0))).setCell ⟨gb372, 1, none⟩ (.int .i64 ((rd_T43 l0 (ji5)).f1))).setCell ⟨gb372, 2, none⟩ (.int .i64 ((rd_T43 l0 (ji5)).f2))).setCell ⟨gb372, 3, none⟩ (.int .i64 ((rd_T43 l0 (ji5)).f3))).setCell ⟨gb372, 4, none⟩ (.slice A371_4 ((rd_T43 l0 (ji5)).f4).length c371_4)) = w21 at n0_ n1_ n2_ ⊢
 have BK370 := n0_
 have BK372 := n1_
 have HB := n2_
 clear n0_ n1_ n2_
 replace BK370 := qK_ BK370
 replace BK372 := qK_ BK372
 replace HB := qH_ HB
 refine start_ (n := 13) (S := fun w' => w'.cell? ⟨gb370, 0, none⟩ = some (.int .i64 a1_0) ∧ w'.cell? ⟨gb370, 1, none⟩ = some (.int .i64 a1_1) ∧ w'.cell? ⟨gb370, 2, none⟩ = some (.int .i64 a1_2) ∧ w'.cell? ⟨gb370, 3, none⟩ = some (.int .i64 a1_3) ∧ w'.cell? ⟨gb370, 4, none⟩ = some (.slice A1_4 l1_4.length c1_4) ∧ w'.cell? ⟨gb372, 0, none⟩ = some (.int .i64 ((rd_T43 l0 (ji5)).f0)) ∧ w'.cell? ⟨gb372, 1, none⟩ = some (.int .i64 ((rd_T43 l0 (ji5)).f1)) ∧ w'.cell? ⟨gb372, 2, none⟩ = some (.int .i64 ((rd_T43 l0 (ji5)).f2)) ∧ w'.cell? ⟨gb372, 3, none⟩ = some (.int .i64 ((rd_T43 l0 (ji5)).f3)) ∧ w'.cell? ⟨gb372, 4, none⟩ = some (.slice A371_4 ((rd_T43 l0 (ji5)).f4).length c371_4)) (ds := []) (List.replicate 13 false).toArray (by kernel_rfl) rfl rfl ⟨bt_ BK370 0, bt_ BK370 1, bt_ BK370 2, bt_ BK370 3, bt_ BK370 4, bt_ BK372 0, bt_ BK372 1, bt_ BK372 2, bt_ BK372 3, bt_ BK372 4⟩ (fun hHeld => ?_); refine with_tabW impl_follows.tab4 impl_follows.bits4 (fun HT_ HW_ => ?_)
 generalize w21.drew = w22 at BK370 BK372 HB hHeld ⊢
 refine pv_ 0 15 ?_
 refine tk_ 1 16 ?_
 refine tk_ 2 17 ?_
 refine on_ 3 18 (fun K hK => ?_)
 refine gs_ Try.func77 #[.agg #[.int .i64 ((rd_T43 l0 (ji5)).f0), .int .i64 ((rd_T43 l0 (ji5)).f1), .int .i64 ((rd_T43 l0 (ji5)).f2), .int .i64 ((rd_T43 l0 (ji5)).f3), .slice A371_4 ((rd_T43 l0 (ji5)).f4).length c371_4]] rfl (mb_ hji5) ?_
 with_reducible refine (impl_Batch_end.calls ((rd_T43 l0 (ji5)).f0) ((rd_T43 l0 (ji5)).f1) ((rd_T43 l0 (ji5)).f2) ((rd_T43 l0 (ji5)).f3) _ _ ((rd_T43 l0 (ji5)).f4) t373 _ ?side1 ?side2 A8.out).mono ?_
 (case side1 => exact cs_ ((Kd.C_below HR371_4.out HB.out)))
 (case side2 => exact HC371_4.out)
 rintro e w23 ⟨rfl, hb⟩
 refine ⟨_, rfl, ?_⟩
 replace BK370 := bK_ BK370 hb
 replace BK372 := bK_ BK372 hb
 replace HB := nc2_ GE370 GE372 hb
 (try clear hb)
 (try clear hb2)
 (try clear hk)
 (try clear hi)
 refine hK.out _ _ ⟨bt_ BK370 0, bt_ BK370 1, bt_ BK370 2, bt_ BK370 3, bt_ BK370 4, bt_ BK372 0, bt_ BK372 1, bt_ BK372 2, bt_ BK372 3, bt_ BK372 4⟩ (fun hHeld => ?_)
 clear hK K
 refine no_ ?_
 refine pv_ 4 19 ?_
 refine pv_ 5 20 ?_
 refine po_ 6 21 ?_
 refine po_ 7 22 ?_
 refine po_ 8 23 ?_
 refine po_ 9 24 ?_
 refine po_ 10 25 ?_
 refine pv_ 11 26 ?_
 refine pv_ 12 4 ?_
 refine done_ (done_of HT_.out (by kernel_rfl)) ?_
 try go_wp2
 go_ret
 exact ⟨by first | rfl | (simp [errW_none, errW_some] <;> rfl) | (simp only [← hji5]; first | rfl | (simp [errW_none, errW_some] <;> rfl)) | (simp [*, errW_none, errW_some] <;> rfl), hs2_ GE370.out GE372.out⟩

/-! ### impl_readLog: function 105 -/
def impl_readLog.l0 : Nat → ByteArray → List (S43) → Int → Option ((List (S43)) × Int)
 | 0, _, _, _ => none
 | k + 1, x0, x4, x5 => (impl_takeBatch.f k x0 x5).bind fun bt377 => (if bt377.2.2.2.2.2.2 = true then ((impl_follows.f x4 bt377.1 bt377.2.1 bt377.2.2.1 bt377.2.2.2.1 bt377.2.2.2.2.1).bind fun t387 => (if t387 = true then (if x4.length < 2513169434916 then (impl_readLog.l0 k x0 (x4 ++ [(⟨bt377.1, bt377.2.1, bt377.2.2.1, bt377.2.2.2.1, bt377.2.2.2.2.1⟩ : S43)]) bt377.2.2.2.2.2.1) else (none)) else (some (x4, x5)))) else (some (x4, x5)))
def impl_readLog.f (k : Nat) (a0 : ByteArray) : Option ((List (S43)) × Int) := impl_readLog.l0 k a0 (([] : List (S43))) 0
theorem impl_readLog.mono_l : ∀ k, (∀ y0 y1 y2, LeO (impl_readLog.l0 k y0 y1 y2) (impl_readLog.l0 (k + 1) y0 y1 y2))
 | 0 => fun _ _ _ r h => by simp [impl_readLog.l0] at h
 | k + 1 => by
  have ih0 := impl_readLog.mono_l k
  ·intro y0 y1 y2
   unfold impl_readLog.l0
   repeat' first
   | (with_reducible first | apply ih0 | apply impl_takeBatch.mono | exact LeO.refl _ | exact LeO.none _ | refine LeO.ite ?_ ?_ | refine LeO.bind ?_ (fun _ => ?_))
theorem impl_readLog.mono : ∀ a0 k, LeO (impl_readLog.f k a0) (impl_readLog.f (k + 1) a0) := by
 intro a0 k
 have ih0 := impl_readLog.mono_l k
 unfold impl_readLog.f
 repeat' first
   | (with_reducible first | apply ih0 | apply impl_takeBatch.mono | exact LeO.refl _ | exact LeO.none _ | refine LeO.ite ?_ ?_ | refine LeO.bind ?_ (fun _ => ?_))
set_option maxHeartbeats 8000000 in
set_option maxRecDepth 100000 in
theorem impl_readLog.calls (k : Nat) (a0 : ByteArray) (r1 : List (S43)) (r2 : Int) (w : World) (h : impl_readLog.f k a0 = some (r1, r2)) :
  Calls Try.prog 105 #[.string a0] w fun e w' => ∃ v0_ : Value, e = .returned (.tuple #[v0_, .int .i64 r2]) ∧ Kd.S k43 43 w' w.heap.size (fun _ => True) v0_ r1 ∧ Below w.heap.size w w' := by
 have hu43 := Try.underlying43
 have HB := Aside0.mk (Below.refl w.heap.size w)
 have H : (impl_readLog.l0 k a0 (([] : List (S43))) 0) = some (r1, r2) := h
 clear h
 obtain ⟨y374, hy374⟩ : ∃ y_ : List (S43), y_ = (([] : List (S43))) := ⟨_, rfl⟩
 replace H : (impl_readLog.l0 k a0 y374 0) = some (r1, r2) := by first | (rw [hy374]; with_reducible exact H) | (have H2_ := (Option.bind_some _ _).symm.trans H; rw [hy374]; with_reducible exact H2_) | (have H2_ := (Option.bind_some _ _).symm.trans H; with_reducible exact H2_) | with_reducible exact H | (rw [hy374]; exact H) | exact H
 have Ny374 := Aside0.mk hy374
 clear hy374
 have H' := Aside0.mk H
 clear H
 go_enter Try.func105, Try.ntmps105
 go_wp2_with (first | ((with_reducible refine gate_dst (N := 9) rfl ?_); refine Kd.S_lit k43 _ 43 ?hg (N := 9) ?hd (xs := ([] : List (S43))) (inner := []) (ok := fun _ => True) (okp := fun _ => True) ?hr ?hp (fun _ hk => hk) trivial (Below.refl _ _) (Nat.le_refl _) (by simp) ?_; (case hd => rfl); (case hg => rfl); (case hr => first | (go_simp; done) | (go_simp; rfl)); (case hp => exact (Reps.none _ _)); intro v375 w2 ho3 hb hg_ hnew_; clear hg_ hnew_; (first | rw [← Ny374.out] at ho3 | (simp only [Int.reduceToNat] at ho3; rw [← Ny374.out] at ho3)); have HO376 := Aside0.mk (Kd.S_lower ho3 (below_size (hb_))); replace HB := nb_ hb; clear hb ho3))
 go_loopg [4, 5] k (fun kq v4 v5 w' => ∃ (x4_1 : List (S43)) (x5_1 : Int), v5 = .int .i64 x5_1 ∧ Aside0 (impl_readLog.l0 kq a0 x4_1 x5_1 = some (r1, r2)) ∧ Aside0 (kq ≤ k) ∧ Aside0 (Kd.S k43 43 w' w.heap.size (fun _ => True) v4 x4_1) ∧ Aside0 (Below w.heap.size w w'))
 case atStart => exact ⟨(y374), (0), sr_, H', ⟨Nat.le_refl _⟩, ⟨ks_ HO376.out⟩, ⟨hb_⟩⟩
 case round =>
  clear H'
  obtain ⟨x4_1, x5_1, rfl, HA, HK1, HO_4, HB⟩ := hrel
  cases gk with
  | zero => exact absurd HA.out (by simp [impl_readLog.l0])
  | succ k1 =>
   have H := HA.out
   clear HA
   simp only [impl_readLog.l0] at H
   replace H := bnd_ H
   obtain ⟨⟨t377, t378, t379, t380, t381, t384, t385⟩, A4, H⟩ := H
   replace H := red_ H
   replace H := ifb_ H
   obtain ⟨rfl, H⟩ | ⟨rfl, H⟩ := H
   rotate_left
   ·simp only [Option.some.injEq, Prod.mk.injEq] at H
    obtain ⟨rfl, rfl⟩ := H
    go_wp2_with (first | ((with_reducible refine gate_callee (f := 89) rfl ?_); refine gl_ 13 Try.func89 #[.string a0, .int .i64 x5_1] rfl ma_ ?_; (with_reducible refine (impl_takeBatch.calls k1 a0 x5_1 t377 t378 t379 t380 t381 t384 false _ A4.out).mono ?_); rintro e w23 ⟨v382, rfl, ho0, hb⟩; refine ⟨_, rfl, ?_⟩; replace HO_4 := Aside0.mk (Kd.S_elder' (ks_ HO_4.out) (Kd.R_base ho0) hb); have HO383 := Aside0.mk (Kd.R_lower ho0 (below_size (hb_))); replace HB := nb_ hb; (try clear hb); (try clear hb2); (try clear hk); (try clear hi); (try clear ho0)) | ((with_reducible refine gate_dst (N := 6) rfl ?_); refine bq_ (N := 6) #[.int .i64 0, .int .i64 0, .int .i64 0, .int .i64 0, .slice none 0 0] 43 ?_; intro gb386 hg w24 BK386 hb; replace HO_4 := Aside0.mk (Kd.S_below (Kd.S_elderB (ks_ HO_4.out) gb386 (Nat.le_of_eq hg.symm)) hb); replace HO383 := rB_ HO383 hb; have GE386 := ge_ hg; replace HB := nb_ hb; clear hb hg; obtain ⟨hcz25_0, hcz25_1, hcz25_2, hcz25_3, hcz25_4, hfz25_0, hfz25_1, hfz25_2, hfz25_3, hfz25_4⟩ := cf5_ BK386.out; obtain ⟨Ao26, co26, eo26⟩ := Kd.R_slice HO383.out; subst eo26))
    go_ret2
    exact ⟨_, er_, Kd.S_mono (sF_ (Kd.S_mono HO_4.out (fun k_ hk => (⟨hk, hk.2⟩ : _ ∧ k_ ≠ gb386)))) (fun _ hk => trivial), hs_ GE386.out⟩
   replace H := bnd_ H
   obtain ⟨t387, A6, H⟩ := H
   replace H := ifb_ H
   obtain ⟨rfl, H⟩ | ⟨rfl, H⟩ := H
   rotate_left
   ·simp only [Option.some.injEq, Prod.mk.injEq] at H
    obtain ⟨rfl, rfl⟩ := H
    go_wp2_with (first | ((with_reducible refine gate_callee (f := 89) rfl ?_); refine gl_ 13 Try.func89 #[.string a0, .int .i64 x5_1] rfl ma_ ?_; (with_reducible refine (impl_takeBatch.calls k1 a0 x5_1 t377 t378 t379 t380 t381 t384 true _ A4.out).mono ?_); rintro e w17 ⟨v382, rfl, ho0, hb⟩; refine ⟨_, rfl, ?_⟩; replace HO_4 := Aside0.mk (Kd.S_elder' (ks_ HO_4.out) (Kd.R_base ho0) hb); have HO383 := Aside0.mk (Kd.R_lower ho0 (below_size (hb_))); replace HB := nb_ hb; (try clear hb); (try clear hb2); (try clear hk); (try clear hi); (try clear ho0)) | ((with_reducible refine gate_dst (N := 6) rfl ?_); refine bq_ (N := 6) #[.int .i64 0, .int .i64 0, .int .i64 0, .int .i64 0, .slice none 0 0] 43 ?_; intro gb386 hg w18 BK386 hb; replace HO_4 := Aside0.mk (Kd.S_below (Kd.S_elderB (ks_ HO_4.out) gb386 (Nat.le_of_eq hg.symm)) hb); replace HO383 := rB_ HO383 hb; have GE386 := ge_ hg; replace HB := nb_ hb; clear hb hg; obtain ⟨hcz19_0, hcz19_1, hcz19_2, hcz19_3, hcz19_4, hfz19_0, hfz19_1, hfz19_2, hfz19_3, hfz19_4⟩ := cf5_ BK386.out; obtain ⟨Ao20, co20, eo20⟩ := Kd.R_slice HO383.out; subst eo20; obtain ⟨Ao21, co21, eo21⟩ := Kd.S_slice HO_4.out; subst eo21) | (go_at_call 118; (with_reducible refine (impl_follows.calls _ _ x4_1 t377 t378 t379 t380 _ _ t381 false _ ?side1 ?side2 ?side3 ?side4 A6.out).mono ?_); (case side1 => refine (Kd.S_reads' (e := 43) (base := w.heap.size) (ok := fun k_ => ((True ∧ some k_ ≠ (.slice Ao20 t381.length co20 : Value).ownBlock) ∧ k_ ≠ gb386)) (n := x4_1.length) (c := co21) ?_).2.2; exact ((Kd.S_mono (sF_ (Kd.S_mono HO_4.out (fun k_ hk => (⟨hk, hk.2⟩ : _ ∧ k_ ≠ gb386)))) (fun _ h_ => h_.1)))); (case side2 => exact (Kd.S_reads' HO_4.out).2.1); (case side3 => refine (Kd.R_reads' (e := 9) (base := w.heap.size) (ok := fun k_ => True) (n := t381.length) (c := co20) ?_).2.2; exact ((Kd.R_mono (rF_ (Kd.R_types HO383.out BK386.out (by decide))) (fun _ h_ => h_.1)))); (case side4 => exact (Kd.R_reads' HO383.out).2.1); rintro e w22 ⟨rfl, hb⟩; replace HO_4 := Aside0.mk (Kd.S_below ((Kd.S_mono (sF_ (Kd.S_mono HO_4.out (fun k_ hk => (⟨hk, hk.2⟩ : _ ∧ k_ ≠ gb386)))) (fun _ h_ => h_.1))) hb); replace HO383 := Aside0.mk (Kd.R_below ((Kd.R_mono (rF_ (Kd.R_types HO383.out BK386.out (by decide))) (fun _ h_ => h_.1))) hb); replace BK386 := Aside0.mk (blk_below (g := gb386) (o := .cells #[.int .i64 t377, .int .i64 t378, .int .i64 t379, .int .i64 t380, .slice Ao20 t381.length co20] 43 (0, 0)) (up_ BK386) hb); replace HB := nc_ GE386 hb; (try clear hb); (try clear hb2); (try clear hk); (try clear hi)))
    go_ret2
    exact ⟨_, er_, sF_ (Kd.S_mono HO_4.out (fun _ hk => trivial)), hs_ GE386.out⟩
   replace H := ifs_ H
   obtain ⟨c8, H⟩ := H
   have LMc8 := Aside0.mk c8
   clear c8
   obtain ⟨y388, hy388⟩ : ∃ y_ : List (S43), y_ = (x4_1 ++ [(⟨t377, t378, t379, t380, t381⟩ : S43)]) := ⟨_, rfl⟩
   replace H : (impl_readLog.l0 k1 a0 y388 t384) = some (r1, r2) := by first | (rw [hy388]; with_reducible exact H) | (have H2_ := (Option.bind_some _ _).symm.trans H; rw [hy388]; with_reducible exact H2_) | (have H2_ := (Option.bind_some _ _).symm.trans H; with_reducible exact H2_) | with_reducible exact H | (rw [hy388]; exact H) | exact H
   have Ny388 := Aside0.mk hy388
   clear hy388
   have H' := Aside0.mk H
   clear H
   go_wp2_with (first | ((with_reducible refine gate_callee (f := 89) rfl ?_); refine gl_ 13 Try.func89 #[.string a0, .int .i64 x5_1] rfl ma_ ?_; (with_reducible refine (impl_takeBatch.calls k1 a0 x5_1 t377 t378 t379 t380 t381 t384 true _ A4.out).mono ?_); rintro e w9 ⟨v382, rfl, ho0, hb⟩; refine ⟨_, rfl, ?_⟩; replace HO_4 := Aside0.mk (Kd.S_elder' (ks_ HO_4.out) (Kd.R_base ho0) hb); have HO383 := Aside0.mk (Kd.R_lower ho0 (below_size (hb_))); replace HB := nb_ hb; (try clear hb); (try clear hb2); (try clear hk); (try clear hi); (try clear ho0)) | ((with_reducible refine gate_dst (N := 6) rfl ?_); refine bq_ (N := 6) #[.int .i64 0, .int .i64 0, .int .i64 0, .int .i64 0, .slice none 0 0] 43 ?_; intro gb386 hg w10 BK386 hb; replace HO_4 := Aside0.mk (Kd.S_below (Kd.S_elderB (ks_ HO_4.out) gb386 (Nat.le_of_eq hg.symm)) hb); replace HO383 := rB_ HO383 hb; have GE386 := ge_ hg; replace HB := nb_ hb; clear hb hg; obtain ⟨hcz11_0, hcz11_1, hcz11_2, hcz11_3, hcz11_4, hfz11_0, hfz11_1, hfz11_2, hfz11_3, hfz11_4⟩ := cf5_ BK386.out; obtain ⟨Ao12, co12, eo12⟩ := Kd.R_slice HO383.out; subst eo12; obtain ⟨Ao13, co13, eo13⟩ := Kd.S_slice HO_4.out; subst eo13) | (go_at_call 118; (with_reducible refine (impl_follows.calls _ _ x4_1 t377 t378 t379 t380 _ _ t381 true _ ?side1 ?side2 ?side3 ?side4 A6.out).mono ?_); (case side1 => refine (Kd.S_reads' (e := 43) (base := w.heap.size) (ok := fun k_ => ((True ∧ some k_ ≠ (.slice Ao12 t381.length co12 : Value).ownBlock) ∧ k_ ≠ gb386)) (n := x4_1.length) (c := co13) ?_).2.2; exact ((Kd.S_mono (sF_ (Kd.S_mono HO_4.out (fun k_ hk => (⟨hk, hk.2⟩ : _ ∧ k_ ≠ gb386)))) (fun _ h_ => h_.1)))); (case side2 => exact (Kd.S_reads' HO_4.out).2.1); (case side3 => refine (Kd.R_reads' (e := 9) (base := w.heap.size) (ok := fun k_ => True) (n := t381.length) (c := co12) ?_).2.2; exact ((Kd.R_mono (rF_ (Kd.R_types HO383.out BK386.out (by decide))) (fun _ h_ => h_.1)))); (case side4 => exact (Kd.R_reads' HO383.out).2.1); rintro e w14 ⟨rfl, hb⟩; replace HO_4 := Aside0.mk (Kd.S_below ((Kd.S_mono (sF_ (Kd.S_mono HO_4.out (fun k_ hk => (⟨hk, hk.2⟩ : _ ∧ k_ ≠ gb386)))) (fun _ h_ => h_.1))) hb); replace HO383 := Aside0.mk (Kd.R_below ((Kd.R_mono (rF_ (Kd.R_types HO383.out BK386.out (by decide))) (fun _ h_ => h_.1))) hb); replace BK386 := Aside0.mk (blk_below (g := gb386) (o := .cells #[.int .i64 t377, .int .i64 t378, .int .i64 t379, .int .i64 t380, .slice Ao12 t381.length co12] 43 (0, 0)) (up_ BK386) hb); replace HB := nc_ GE386 hb; (try clear hb); (try clear hb2); (try clear hk); (try clear hi); obtain ⟨hcz15_0, hcz15_1, hcz15_2, hcz15_3, hcz15_4, hfz15_0, hfz15_1, hfz15_2, hfz15_3, hfz15_4⟩ := cf5_ BK386.out) | ((with_reducible refine gate_builtin (b := .append) (xs := #[.tmp 27, .tmp 29]) rfl ?_); at_builtin; refine Kd.S_append k43 (w0 := w) w.heap.size rfl (.tmp 27) (.tmp 29) 48 43 (.agg #[(.int .i64 0), (.int .i64 0), (.int .i64 0), (.int .i64 0), (.slice none 0 0)]) 56 rfl Try.underlying48 info43 rfl (by decide) (by omega) (.slice Ao13 x4_1.length co13) x4_1 (⟨t377, t378, t379, t380, t381⟩ : S43) [.int .i64 t377, .int .i64 t378, .int .i64 t379, .int .i64 t380, .slice Ao12 t381.length co12] (fun k_ => k_ ≠ gb386) (fun k_ => some k_ = (.slice Ao12 t381.length co12 : Value).ownBlock) rfl rfl ?aP (fun k_ hk_ => ((Kd.R_mono (ok' := fun k_ => ((fun k_ => k_ ≠ gb386)) k_ ∧ some k_ ≠ (.slice Ao13 x4_1.length co13 : Value).ownBlock) (Kd.R_types (Kd.R_apart' (HO383.out) (Kd.S_typed HO_4.out) (by decide)) BK386.out (by decide)) (fun k_ hk => ⟨hk.2, hk.1.2⟩))).1 k_ hk_.symm) ?aF ?aO ?aB ?aS ?aL ?_; (case aP => exact k43_mkM _ _ _ (⟨t377, t378, t379, t380, t381⟩ : S43) (Kd.R_mono (Kd.R_tight rfl (Kd.R_mono (ok' := fun k_ => ((fun k_ => k_ ≠ gb386)) k_ ∧ some k_ ≠ (.slice Ao13 x4_1.length co13 : Value).ownBlock) (Kd.R_types (Kd.R_apart' (HO383.out) (Kd.S_typed HO_4.out) (by decide)) BK386.out (by decide)) (fun k_ hk => ⟨hk.2, hk.1.2⟩))) (fun _ h_ => h_))); (case aB => exact (hs_ GE386.out)); (case aF => exact (fun k_ hk => Kd.freshB (g := gb386) (o := .cells #[.int .i64 t377, .int .i64 t378, .int .i64 t379, .int .i64 t380, .slice Ao12 t381.length co12] 43 (0, 0)) (kb_ BK386.out) k_ hk)); (case aO => exact (sF_ (Kd.S_mono HO_4.out (fun k_ hk => ⟨hk.2, fun e_ => hk.1.2 e_⟩)))); (case aS => exact (below_size (hs_ GE386.out))); (case aL => have := LMc8.out; omega); intro v389 w16 ho hb hg hat; rw [← Ny388.out] at ho; replace BK386 := Aside0.mk (blk_grown (g := gb386) (o := .cells #[.int .i64 t377, .int .i64 t378, .int .i64 t379, .int .i64 t380, .slice Ao12 t381.length co12] 43 (0, 0)) (kb_ BK386.out) hg (Kd.S_away HO_4.out (fun _ hk => hk.2))); replace HB := Aside0.mk (hb); have HO390 := Aside0.mk (ho); clear HO_4 HO383; clear ho hb hg hat))
   go_roundg k1
   case measure => have := HK1.out; omega
   case rel => exact ⟨(y388), (t384), sr_, H', ⟨by have := HK1.out; omega⟩, ⟨sF_ (Kd.S_mono HO390.out (fun _ hk => trivial))⟩, ⟨hs_ GE386.out⟩⟩

/-! ### impl_Store_logs: function 73 -/
def impl_Store_logs.l0 : Nat → List (List (S43)) → List (S65) → Int → Int → Option ((List (List (S43))))
 | 0, _, _, _, _ => none
 | k + 1, x3, x10, x11, x12 => if x12 < x11 then (if 0 ≤ x12 then (if x12 < (x10.length : Int) then ((impl_readLog.f k ((rd_T65 x10 x12).f1)).bind fun bt397 => (if x3.length < 5864062014805 then (impl_Store_logs.l0 k (x3 ++ [bt397.1]) x10 x11 (wrap64 (x12 + 1))) else (none))) else (none)) else (none)) else (some x3)
def impl_Store_logs.f (k : Nat) (l0_0 : List (S65)) (a0_1 : Int) : Option ((List (List (S43)))) := impl_Store_logs.l0 k (([] : List (List (S43)))) l0_0 (l0_0.length : Int) 0
theorem impl_Store_logs.mono_l : ∀ k, (∀ y0 y1 y2 y3, LeO (impl_Store_logs.l0 k y0 y1 y2 y3) (impl_Store_logs.l0 (k + 1) y0 y1 y2 y3))
 | 0 => fun _ _ _ _ r h => by simp [impl_Store_logs.l0] at h
 | k + 1 => by
  have ih0 := impl_Store_logs.mono_l k
  ·intro y0 y1 y2 y3
   unfold impl_Store_logs.l0
   repeat' first
   | (with_reducible first | apply ih0 | apply impl_readLog.mono | exact LeO.refl _ | exact LeO.none _ | refine LeO.ite ?_ ?_ | refine LeO.bind ?_ (fun _ => ?_))
theorem impl_Store_logs.mono : ∀ a0 a1 k, LeO (impl_Store_logs.f k a0 a1) (impl_Store_logs.f (k + 1) a0 a1) := by
 intro a0 a1 k
 have ih0 := impl_Store_logs.mono_l k
 unfold impl_Store_logs.f
 repeat' first
   | (with_reducible first | apply ih0 | apply impl_readLog.mono | exact LeO.refl _ | exact LeO.none _ | refine LeO.ite ?_ ?_ | refine LeO.bind ?_ (fun _ => ?_))
set_option maxHeartbeats 8000000 in
set_option maxRecDepth 100000 in
theorem impl_Store_logs.calls (k : Nat) (A0_0 : Option Addr) (c0_0 : Nat) (l0_0 : List (S65)) (a0_1 : Int) (r : List (List (S43))) (w : World) (hr0_0 : Kd.C k65 w A0_0 l0_0.length l0_0) (hc0_0 : l0_0.length ≤ c0_0) (h : impl_Store_logs.f k l0_0 a0_1 = some r) :
  Calls Try.prog 73 #[.agg #[.slice A0_0 l0_0.length c0_0, .int .i64 a0_1]] w fun e w' => ∃ v0_ : Value, e = .returned (v0_) ∧ Kd.R (Kd.slice 43 k43) 48 w' w.heap.size (fun _ => True) v0_ r ∧ Below w.heap.size w w' := by
 have hu24 := Try.underlying24
 have hu65 := Try.underlying65
 have HR0_0 := Aside0.mk hr0_0
 have HC0_0 := Aside0.mk hc0_0
 clear hr0_0 hc0_0
 have HB := Aside0.mk (Below.refl w.heap.size w)
 have H : (impl_Store_logs.l0 k (([] : List (List (S43)))) l0_0 (l0_0.length : Int) 0) = some r := h
 clear h
 obtain ⟨y392, hy392⟩ : ∃ y_ : List (List (S43)), y_ = (([] : List (List (S43)))) := ⟨_, rfl⟩
 replace H : (impl_Store_logs.l0 k y392 l0_0 (l0_0.length : Int) 0) = some r := by first | (rw [hy392]; with_reducible exact H) | (have H2_ := (Option.bind_some _ _).symm.trans H; rw [hy392]; with_reducible exact H2_) | (have H2_ := (Option.bind_some _ _).symm.trans H; with_reducible exact H2_) | with_reducible exact H | (rw [hy392]; exact H) | exact H
 have Ny392 := Aside0.mk hy392
 clear hy392
 have H' := Aside0.mk H
 clear H
 go_enter Try.func73, Try.ntmps73
 go_wp2_with (first | ((with_reducible refine gate_dst (N := 1) rfl ?_); refine bq_ (N := 1) #[.slice A0_0 l0_0.length c0_0, .int .i64 a0_1] 24 ?_; intro gb391 hg w2 BK391 hb; have GE391 := ge_ hg; replace HB := nb_ hb; clear hb hg) | ((with_reducible refine gate_dst (N := 8) rfl ?_); refine Kd.R_lit (Kd.slice 43 k43) _ 48 ?hg (N := 8) ?hd (xs := ([] : List (List (S43)))) (inner := []) (ok := fun _ => True) (okp := fun _ => True) ?hr ?hp (fun _ hk => hk) trivial (Below.refl _ _) (Nat.le_refl _) (by simp) ?_; (case hd => rfl); (case hg => rfl); (case hr => first | (go_simp; done) | (go_simp; rfl)); (case hp => exact (Reps.none _ _)); intro v393 w3 ho4 hb hg_ hnew_; clear hg_ hnew_; (first | rw [← Ny392.out] at ho4 | (simp only [Int.reduceToNat] at ho4; rw [← Ny392.out] at ho4)); have HO394 := Aside0.mk (Kd.R_lower ho4 (below_size (hs_ GE391.out))); replace BK391 := bK_ BK391 hb; replace HB := nc_ GE391 hb; clear hb ho4; obtain ⟨hcz5_0, hcz5_1, hfz5_0, hfz5_1⟩ := cf2_ BK391.out))
 go_loopg [3, 12] k (fun kq v3 v12 w' => ∃ (x3_1 : List (List (S43))) (x12_1 : Int), v12 = .int .i64 x12_1 ∧ Aside0 (impl_Store_logs.l0 kq x3_1 l0_0 (l0_0.length : Int) x12_1 = some r) ∧ Aside0 (kq ≤ k) ∧ Aside0 (Kd.R (Kd.slice 43 k43) 48 w' w.heap.size (fun _ => True) v3 x3_1) ∧ Aside0 (w'.heap[gb391]? = some (.cells #[(.slice A0_0 l0_0.length c0_0), .int .i64 a0_1] 24 (0, 0))) ∧ Aside0 (Below w.heap.size w w'))
 case atStart => exact ⟨(y392), (0), sr_, H', ⟨Nat.le_refl _⟩, ⟨kr_ HO394.out⟩, ⟨kb_ BK391.out⟩, ⟨hs_ GE391.out⟩⟩
 case round =>
  clear H'
  try clear hcz5_0
  try clear hcz5_1
  try clear hfz5_0
  try clear hfz5_1
  obtain ⟨x3_1, x12_1, rfl, HA, HK1, HO_3, BK391, HB⟩ := hrel
  cases gk with
  | zero => exact absurd HA.out (by simp [impl_Store_logs.l0])
  | succ k1 =>
   have H := HA.out
   clear HA
   simp only [impl_Store_logs.l0] at H
   replace H := ite_ H
   obtain ⟨c6, H⟩ | ⟨c6, H⟩ := H
   rotate_left
   ·have c6b0 := decide_eq_false c6
    clear c6
    obtain rfl := Option.some.inj H
    go_wp2
    go_ret
    exact ⟨_, er_, kr_ HO_3.out, hs_ GE391.out⟩
   have c6b0 := decide_eq_true c6
   clear c6
   replace H := ifs_ H
   obtain ⟨c7, H⟩ := H
   have c7b0 := decide_eq_true c7
   clear c7
   replace H := ifs_ H
   obtain ⟨c8, H⟩ := H
   have c8b0 := decide_eq_true c8
   clear c8
   replace H := bnd_ H
   obtain ⟨⟨t397, t398⟩, A9, H⟩ := H
   replace H := red_ H
   replace H := ifs_ H
   obtain ⟨c10, H⟩ := H
   have LMc10 := Aside0.mk c10
   clear c10
   obtain ⟨y401, hy401⟩ : ∃ y_ : List (List (S43)), y_ = (x3_1 ++ [t397]) := ⟨_, rfl⟩
   replace H : (impl_Store_logs.l0 k1 y401 l0_0 (l0_0.length : Int) (wrap64 (x12_1 + 1))) = some r := by first | (rw [hy401]; with_reducible exact H) | (have H2_ := (Option.bind_some _ _).symm.trans H; rw [hy401]; with_reducible exact H2_) | (have H2_ := (Option.bind_some _ _).symm.trans H; with_reducible exact H2_) | with_reducible exact H | (rw [hy401]; exact H) | exact H
   have Ny401 := Aside0.mk hy401
   clear hy401
   have H' := Aside0.mk H
   clear H
   have p395 : 0 ≤ (x12_1 : Int) := oa_
   have q395 : x12_1 < (l0_0.length : Int) := oa_
   obtain ⟨ad395, A395_2, c395_2, e395, hx395_0, hx395_1, hx395_2, hl395_2, hi395_2⟩ := at_T65 HR0_0.out x12_1 p395 q395
   cases e395
   replace hx395_0 := pc_ HB.out hx395_0
   replace hx395_1 := pc_ HB.out hx395_1
   replace hx395_2 := pc_ HB.out hx395_2
   have HR395_2 := Aside0.mk hi395_2
   have HC395_2 := Aside0.mk hl395_2
   clear hi395_2 hl395_2
   replace p395 := eq_true p395
   replace q395 := eq_true q395
   go_wp2_with (first | ((with_reducible refine gate_dst (N := 5) rfl ?_); refine box_event ?hg (N := 5) ?hd (cs := #[.int .i64 0, .string (⟨#[]⟩ : ByteArray), .slice none 0 0]) (t := 65) ?hr ?_; (case hd => rfl); (case hg => rfl); (case hr => first | (go_simp; done) | (go_simp; rfl)); intro gb396 hg w11 hbox hb; replace HO_3 := rB_ HO_3 hb; have BK396 := Aside0.mk (hbox); have GE396 := ge1_ hg GE391; replace HB := nc_ GE391 hb; have NB391_396 := nl_ BK391 hg; have NB396_391 := ng_ BK391 hg; replace BK391 := bK_ BK391 hb; clear hb hbox hg; have hnb12 := NB396_391.out; have hnc12 := NB391_396.out; obtain ⟨hcz13_0, hcz13_1, hcz13_2, hfz13_0, hfz13_1, hfz13_2⟩ := cf3_ BK396.out) | ((with_reducible refine gate_callee (f := 105) rfl ?_); refine gl_ 19 Try.func105 #[.string ((rd_T65 l0_0 x12_1).f1)] rfl ma_ ?_; (with_reducible refine (impl_readLog.calls k1 ((rd_T65 l0_0 x12_1).f1) t397 t398 _ A9.out).mono ?_); rintro e w14 ⟨v399, rfl, ho0, hb⟩; refine ⟨_, rfl, ?_⟩; replace HO_3 := Aside0.mk (Kd.R_elder' ((Kd.R_mono (rF_ (Kd.R_types HO_3.out BK396.out (by decide))) (fun _ h_ => h_.1))) (Kd.S_base ho0) hb); have HO400 := Aside0.mk (Kd.S_lower ho0 (below_size (hs2_ GE391.out GE396.out))); replace BK391 := Aside0.mk (blk_below (g := gb391) (o := .cells #[.slice (some ad395) l0_0.length c0_0, .int .i64 a0_1] 24 (0, 0)) (uf_ BK391 NB391_396.out) hb); replace BK396 := Aside0.mk (blk_below (g := gb396) (o := .cells #[.int .i64 ((rd_T65 l0_0 x12_1).f0), .string ((rd_T65 l0_0 x12_1).f1), .slice A395_2 ((rd_T65 l0_0 x12_1).f2).length c395_2] 65 (0, 0)) (up_ BK396) hb); replace HB := nc2_ GE391 GE396 hb; (try clear hb); (try clear hb2); (try clear hk); (try clear hi); (try clear ho0); obtain ⟨Ao16, co16, eo16⟩ := Kd.S_slice HO400.out; subst eo16) | ((with_reducible refine gate_builtin (b := .append) (xs := #[.tmp 22, .tmp 24]) rfl ?_); at_builtin; refine Kd.R_append (Kd.slice 43 k43) (w0 := w) w.heap.size rfl (.tmp 22) (.tmp 24) 92 48 (.slice none 0 0) 24 rfl Try.underlying92 info48 rfl (by decide) (by omega) u3 x3_1 t397 [.slice Ao16 t397.length co16] (fun _ => True) (fun k_ => ((fun _ => True)) k_ ∧ some k_ ≠ (u3 : Value).ownBlock) rfl rfl ?aP (fun _ hk => hk) ?aF ?aO ?aB ?aS ?aL ?_; (case aP => exact Kd.M_row (Kd.R_mono (Kd.R_apart' ((Kd.S_R HO400.out)) (Kd.R_typed HO_3.out) (by decide)) (fun k_ hk => ⟨trivial, hk.2⟩))); (case aB => exact (hs2_ GE391.out GE396.out)); (case aF => exact (fun _ _ => trivial)); (case aO => exact (rF_ (Kd.R_mono HO_3.out (fun _ hk => trivial)))); (case aS => exact (below_size (hs2_ GE391.out GE396.out))); (case aL => have := LMc10.out; omega); intro v402 w15 ho hb hg hat; rw [← Ny401.out] at ho; replace BK391 := Aside0.mk (blk_grown (g := gb391) (o := .cells #[.slice (some ad395) l0_0.length c0_0, .int .i64 a0_1] 24 (0, 0)) (kb_ BK391.out) hg (Kd.R_ne HO_3.out BK391.out (by decide))); replace BK396 := Aside0.mk (blk_grown (g := gb396) (o := .cells #[.int .i64 ((rd_T65 l0_0 x12_1).f0), .string ((rd_T65 l0_0 x12_1).f1), .slice A395_2 ((rd_T65 l0_0 x12_1).f2).length c395_2] 65 (0, 0)) (kb_ BK396.out) hg (Kd.R_ne HO_3.out BK396.out (by decide))); replace HB := Aside0.mk (hb); have HO403 := Aside0.mk (ho); clear HO_3 HO400; clear ho hb hg hat))
   go_roundg k1
   case measure => have := HK1.out; omega
   case rel => exact ⟨(y401), (wrap64 (x12_1 + 1)), sr_, H', ⟨by have := HK1.out; omega⟩, ⟨kr_ HO403.out⟩, ⟨kb_ BK391.out⟩, ⟨hs2_ GE391.out GE396.out⟩⟩
end Go.Proofs.Ytffpeklekkpbjaa.QFnExactTruncateTo
