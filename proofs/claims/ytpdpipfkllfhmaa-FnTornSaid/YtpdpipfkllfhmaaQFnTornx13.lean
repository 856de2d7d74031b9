/- Functions that one statement reaches: of each a plain function, and the proof that calls come to it. Conditions: those that each contract names. Written by a program of this repository. -/
import Derived.Test.YtpdpipfkllfhmaaVFnTorna
import Derived.Test.YtpdpipfkllfhmaaQFnTornx2
import Derived.Test.YtpdpipfkllfhmaaQFnTornx10
namespace Go.Proofs.Ytpdpipfkllfhmaa.QFnTorn
open Go.RowKit Go.Proofs.YtpdpipfkllfhmaaW.PrintWords Go.Proofs.YtpdpipfkllfhmaaW.PrintLast Go.Proofs.YtpdpipfkllfhmaaW.PrintMore
attribute [local go_sem] max2_int min2_int max_two min_two max_three min_three max_four min_four Go.Proofs.YtpdpipfkllfhmaaW.PrintMore2.isSome_setCell   -- for this text's walks alone
set_option linter.unusedVariables false
set_option linter.unusedSimpArgs false

/-! ### spec_SyncFile: function 37 -/
def spec_SyncFile.f (k : Nat) (l0_0 : List (S56)) (a1 : Int) : Option ((List (S56)) × Bool) := (spec_l3File.f k l0_0 a1).bind fun t328 => (if t328 = true then ((spec_l3Own.f l0_0).bind fun t329 => (if 0 ≤ a1 then (if a1 < (t329.length : Int) then (some ((t329.set (a1 : Int).toNat (⟨(rd_T56 t329 a1).f0, (((rd_T56 t329 a1).f0).size : Int)⟩ : S56)), true)) else (none)) else (none))) else (some (([] : List (S56)), false)))
theorem spec_SyncFile.mono : ∀ a0 a1 k, LeO (spec_SyncFile.f k a0 a1) (spec_SyncFile.f (k + 1) a0 a1) := by
 intro a0 a1 k
 unfold spec_SyncFile.f
 repeat' first
   | (with_reducible first | apply spec_l3File.mono | exact LeO.refl _ | exact LeO.none _ | refine LeO.ite ?_ ?_ | refine LeO.bind ?_ (fun _ => ?_))
def spec_SyncFile.T4 : Bool × List (List Nat × List Nat) := (true, [([], []), ([0], [0]), ([], []), ([], []), ([3], [3]), ([], []), ([4, 5], [4, 5]), ([6], [6]), ([7], [7]), ([8], [8]), ([1, 2, 0, 1, 2, 3, 4, 5, 6, 7, 8, 9], [1, 2]), ([10, 0, 1, 2, 3, 4, 5, 6, 7, 8, 9], [10]), ([11, 9, 0, 1, 2, 3, 4, 5, 6, 7, 8, 9], [9, 11])])
def spec_SyncFile.B4 : List Nat := [0, 1, 0, 0, 8, 0, 56, 120, 248, 504, 1023, 2047, 4095]
theorem spec_SyncFile.tab4 : rtab .any (opsOf Try.f37 4) = spec_SyncFile.T4 := by kernel_rfl
theorem spec_SyncFile.bits4 : waitsOk spec_SyncFile.T4.2 spec_SyncFile.B4 = true := by kernel_rfl
set_option maxHeartbeats 8000000 in
set_option maxRecDepth 100000 in
theorem spec_SyncFile.calls (k : Nat) (A0_0 : Option Addr) (c0_0 : Nat) (l0_0 : List (S56)) (a1 : Int) (r1 : List (S56)) (r2 : Bool) (w : World) (hr0_0 : Kd.C k56 w A0_0 l0_0.length l0_0) (hc0_0 : l0_0.length ≤ c0_0) (h : spec_SyncFile.f k l0_0 a1 = some (r1, r2)) :
  Calls Try.prog 37 #[.agg #[.slice A0_0 l0_0.length c0_0], .int .i64 a1] w fun e w' => ∃ v0_ : Value, e = .returned (.tuple #[.agg #[v0_], .bool r2]) ∧ Kd.R k56 56 w' w.heap.size (fun _ => True) v0_ r1 ∧ Below w.heap.size w w' := by
 have hu31 := Try.underlying31
 have HR0_0 := Aside0.mk hr0_0
 have HC0_0 := Aside0.mk hc0_0
 clear hr0_0 hc0_0
 have HB := Aside0.mk (Below.refl w.heap.size w)
 have H : ((spec_l3File.f k l0_0 a1).bind fun t328 => (if t328 = true then ((spec_l3Own.f l0_0).bind fun t329 => (if 0 ≤ a1 then (if a1 < (t329.length : Int) then (some ((t329.set (a1 : Int).toNat (⟨(rd_T56 t329 a1).f0, (((rd_T56 t329 a1).f0).size : Int)⟩ : S56)), true)) else (none)) else (none))) else (some (([] : List (S56)), false)))) = some (r1, r2) := h
 clear h
 replace H := bnd_ H
 obtain ⟨t328, A3, H⟩ := H
 replace H := ifb_ H
 obtain ⟨rfl, H⟩ | ⟨rfl, H⟩ := H
 rotate_left
 ·simp only [Option.some.injEq, Prod.mk.injEq] at H
  obtain ⟨rfl, rfl⟩ := H
  go_enter Try.func37, Try.ntmps37
  go_wp2_with (first | ((with_reducible refine gate_dst (N := 2) rfl ?_); refine bq_ (N := 2) #[.slice A0_0 l0_0.length c0_0] 31 ?_; intro gb326 hg w27 BK326 hb; have GE326 := ge_ hg; replace HB := nb_ hb; clear hb hg) | ((with_reducible refine gate_dst (N := 4) rfl ?_); refine bq_ (N := 4) #[.slice none 0 0] 31 ?_; intro gb327 hg w28 BK327 hb; have GE327 := ge1_ hg GE326; replace HB := nc_ GE326 hb; have NB326_327 := nl_ BK326 hg; have NB327_326 := ng_ BK326 hg; replace BK326 := bK_ BK326 hb; clear hb hg; have hnb29 := NB326_327.out; have hnc29 := NB327_326.out; obtain ⟨hcz30_0, hfz30_0⟩ := cf1_ BK326.out) | ((with_reducible refine gate_callee (f := 49) rfl ?_); refine gl_ 9 Try.func49 #[.agg #[.slice A0_0 l0_0.length c0_0], .int .i64 a1] rfl ma_ ?_; (with_reducible refine (spec_l3File.calls k _ _ l0_0 a1 false _ ?side1 ?side2 A3.out).mono ?_); (case side1 => exact cs_ ((Kd.C_below HR0_0.out HB.out))); (case side2 => exact HC0_0.out); rintro e w31 ⟨rfl, hb⟩; refine ⟨_, rfl, ?_⟩; replace BK326 := bK_ BK326 hb; replace BK327 := bK_ BK327 hb; replace HB := nc2_ GE326 GE327 hb; (try clear hb); (try clear hb2); (try clear hk); (try clear hi); obtain ⟨hcz32_0, hfz32_0⟩ := cf1_ BK327.out))
  refine bodyPost_ret (results_ct rfl _ _ gb327 31 #[.slice none 0 0] (0, 0) _ rfl (up_ BK327) Try.underlying31 rfl (by kernel_rfl)) rfl ?_
  exact ⟨_, er_, ni_, hs2_ GE326.out GE327.out⟩
 replace H := bnd_ H
 obtain ⟨t329, A5, H⟩ := H
 replace H := ifs_ H
 obtain ⟨c6, H⟩ := H
 have c6b0 := decide_eq_true c6
 clear c6
 replace H := ifs_ H
 obtain ⟨c7, H⟩ := H
 have c7b0 := decide_eq_true c7
 clear c7
 obtain ⟨y334, hy334⟩ : ∃ y_ : List (S56), y_ = (t329.set (a1 : Int).toNat (⟨(rd_T56 t329 a1).f0, (((rd_T56 t329 a1).f0).size : Int)⟩ : S56)) := ⟨_, rfl⟩
 replace H : (some (y334, true)) = some (r1, r2) := by first | (rw [hy334]; with_reducible exact H) | (have H2_ := (Option.bind_some _ _).symm.trans H; rw [hy334]; with_reducible exact H2_) | (have H2_ := (Option.bind_some _ _).symm.trans H; with_reducible exact H2_) | with_reducible exact H | (rw [hy334]; exact H) | exact H
 have Ny334 := Aside0.mk hy334
 clear hy334
 simp only [Option.some.injEq, Prod.mk.injEq] at H
 obtain ⟨rfl, rfl⟩ := H
 go_enter Try.func37, Try.ntmps37
 try go_wp2_with (first | ((with_reducible refine gate_dst (N := 2) rfl ?_); refine bq_ (N := 2) #[.slice A0_0 l0_0.length c0_0] 31 ?_; intro gb326 hg w9 BK326 hb; have GE326 := ge_ hg; replace HB := nb_ hb; clear hb hg) | ((with_reducible refine gate_dst (N := 4) rfl ?_); refine bq_ (N := 4) #[.slice none 0 0] 31 ?_; intro gb327 hg w10 BK327 hb; have GE327 := ge1_ hg GE326; replace HB := nc_ GE326 hb; have NB326_327 := nl_ BK326 hg; have NB327_326 := ng_ BK326 hg; replace BK326 := bK_ BK326 hb; clear hb hg; have hnb11 := NB326_327.out; have hnc11 := NB327_326.out; obtain ⟨hcz12_0, hfz12_0⟩ := cf1_ BK326.out) | ((with_reducible refine gate_callee (f := 49) rfl ?_); refine gl_ 9 Try.func49 #[.agg #[.slice A0_0 l0_0.length c0_0], .int .i64 a1] rfl ma_ ?_; (with_reducible refine (spec_l3File.calls k _ _ l0_0 a1 true _ ?side1 ?side2 A3.out).mono ?_); (case side1 => exact cs_ ((Kd.C_below HR0_0.out HB.out))); (case side2 => exact HC0_0.out); rintro e w13 ⟨rfl, hb⟩; refine ⟨_, rfl, ?_⟩; replace BK326 := bK_ BK326 hb; replace BK327 := bK_ BK327 hb; replace HB := nc2_ GE326 GE327 hb; (try clear hb); (try clear hb2); (try clear hk); (try clear hi); obtain ⟨hcz14_0, hfz14_0⟩ := cf1_ BK326.out) | ((with_reducible refine gate_callee (f := 76) rfl ?_); refine gl_ 13 Try.func76 #[.agg #[.slice A0_0 l0_0.length c0_0]] rfl ma_ ?_; (with_reducible refine (spec_l3Own.calls _ _ l0_0 t329 _ ?side1 ?side2 A5.out).mono ?_); (case side1 => exact cs_ ((Kd.C_below HR0_0.out HB.out))); (case side2 => exact HC0_0.out); rintro e w15 ⟨v330, rfl, ho0, hb⟩; refine ⟨_, rfl, ?_⟩; have HO331 := Aside0.mk (Kd.R_lower ho0 (below_size (hs2_ GE326.out GE327.out))); replace BK326 := bK_ BK326 hb; replace BK327 := bK_ BK327 hb; replace HB := nc2_ GE326 GE327 hb; (try clear hb); (try clear hb2); (try clear hk); (try clear hi); (try clear ho0)) | ((with_reducible refine gate_dst (N := 6) rfl ?_); refine bq_ (N := 6) #[.slice none 0 0] 31 ?_; intro gb332 hg w16 BK332 hb; replace HO331 := rB_ HO331 hb; have GE332 := ge2_ hg GE326 GE327; replace HB := nc2_ GE326 GE327 hb; have NB326_332 := nl_ BK326 hg; have NB332_326 := ng_ BK326 hg; replace BK326 := bK_ BK326 hb; have NB327_332 := nl_ BK327 hg; have NB332_327 := ng_ BK327 hg; replace BK327 := bK_ BK327 hb; clear hb hg; obtain ⟨Ao17, co17, eo17⟩ := Kd.R_slice HO331.out; subst eo17; have hnb18 := NB332_326.out; have hnc18 := NB326_332.out; have hnb19 := NB332_327.out; have hnc19 := NB327_332.out; obtain ⟨hcz20_0, hfz20_0⟩ := cf1_ BK332.out))
 have n0_ : Aside0 (Kd.R k56 56 (w16.setCell ⟨gb332, 0, none⟩ (.slice Ao17 t329.length co17)) w.heap.size (fun _ => True) (.slice Ao17 t329.length co17) t329) := ⟨rF_ (Kd.R_mono (Kd.R_far (p := ⟨gb332, 0, none⟩) (Kd.R_types HO331.out BK332.out (by decide)) (fun _ hk => hk.2) (.slice Ao17 t329.length co17)) (fun _ hk => trivial))⟩
 have n1_ : Aside0 ((w16.setCell ⟨gb332, 0, none⟩ (.slice Ao17 t329.length co17)).heap[gb326]? = some (.cells #[.slice A0_0 l0_0.length c0_0] 31 (0, 0))) := ⟨uf_ BK326 NB326_332.out⟩
 have n2_ : Aside0 ((w16.setCell ⟨gb332, 0, none⟩ (.slice Ao17 t329.length co17)).heap[gb327]? = some (.cells #[.slice none 0 0] 31 (0, 0))) := ⟨uf_ BK327 NB327_332.out⟩
 have n3_ : Aside0 ((w16.setCell ⟨gb332, 0, none⟩ (.slice Ao17 t329.length co17)).heap[gb332]? = some (.cells #[.slice Ao17 t329.length co17] 31 (0, 0))) := ⟨up_ BK332⟩
 have n4_ : Aside0 (Below w.heap.size w (w16.setCell ⟨gb332, 0, none⟩ (.slice Ao17 t329.length co17))) := ⟨hs3_ GE326.out GE327.out GE332.out⟩
 (try clear HO331)
 (try clear BK326)
 (try clear BK327)
 (try clear BK332)
 (try clear HB)
 generalize (w16.setCell ⟨gb332, 0, none⟩ (.slice Ao17 t329.length co17)) = w21 at n0_ n1_ n2_ n3_ n4_ ⊢
 have HO331 := n0_
 have BK326 := n1_
 have BK327 := n2_
 have BK332 := n3_
 have HB := n4_
 clear n0_ n1_ n2_ n3_ n4_
 replace HO331 := qR_ HO331
 replace BK326 := qK_ BK326
 replace BK327 := qK_ BK327
 replace BK332 := qK_ BK332
 replace HB := qH_ HB
 have p333 : 0 ≤ (a1 : Int) := oa_
 have q333 : a1 < (t329.length : Int) := oa_
 obtain ⟨ad333, e333, hx333_0, hx333_1⟩ := at_T56 (Kd.R_reads' HO331.out).2.2 a1 p333 q333
 cases e333
 replace p333 := eq_true p333
 replace q333 := eq_true q333
 have p8 : 0 ≤ (a1 : Int) := oa_
 have q8 : (a1 : Int) < ((t329.length : Int) : Int) := oa_
 obtain ⟨go8, co8, eo8, gb8, gl8, cl8, HG8⟩ := Kd.R_form HO331.out (by omega)
 (first | cases eo8 | (injection eo8 with ea_ en_ ec_; (first | subst ea_ | (injection ea_ with ea_; subst ea_)); subst ec_; clear en_))
 have GB8 := Aside0.mk gb8
 have GG8 := Aside0.mk HG8
 clear gb8 gl8 HG8
 (first | simp only [add_plain] at hx333_0 | skip)
 (first | simp only [add_plain] at hx333_1 | skip)
 obtain ⟨ce8, hcl8, hM8, hcc8, hfr8⟩ := Kd.R_elem HO331.out z56 (a1 : Int) p8 q8
 obtain rfl := k56_openM hM8
 have hx8_0 : World.cell? _ ⟨go8, (a1 : Int).toNat * 2, none⟩ = some (.string ((rd_T56 t329 a1).f0)) := hcc8 0 _ rfl
 have hx8_1 : World.cell? _ ⟨go8, (a1 : Int).toNat * 2 + 1, none⟩ = some (.int .i64 ((rd_T56 t329 a1).f1)) := hcc8 1 _ rfl
 have hf8_0 : World.frozen? _ ⟨go8, (a1 : Int).toNat * 2, none⟩ = false := hfr8 0
 have hf8_1 : World.frozen? _ ⟨go8, (a1 : Int).toNat * 2 + 1, none⟩ = false := hfr8 1
 clear hcl8 hcc8 hfr8; (try clear hM8)
 replace p8 := eq_true p8
 replace q8 := eq_true q8
 obtain ⟨ce23, hcl23, hM23, hcc23, hfr23⟩ := Kd.R_elem HO331.out z56 (a1 : Int) (oa_) (by have h_ : (a1 : Int) < ((t329.length : Int) : Int) := oa_; first | exact h_ | (have e_ := (Kd.R_reads' HO331.out).1; omega) | simpa using h_)
 obtain rfl := k56_openM hM23
 have HP23 := (Kd.R_seg HO331.out (a1 : Int) (oa_) (by have h_ : (a1 : Int) < ((t329.length : Int) : Int) := oa_; first | exact h_ | (have e_ := (Kd.R_reads' HO331.out).1; omega) | simpa using h_) (seg := [.int .i64 (((rd_T56 t329 a1).f0).size : Int)]) (j := 1) hcl23 hcc23 (show 2 ≤ 2 from by decide) (x' := (⟨(rd_T56 t329 a1).f0, (((rd_T56 t329 a1).f0).size : Int)⟩ : S56)) (k56_mkM _ _ _ (⟨(rd_T56 t329 a1).f0, (((rd_T56 t329 a1).f0).size : Int)⟩ : S56) ) (fun _ hk => hk)).1
 rw [← Ny334.out] at HP23
 have HQ23 := Aside0.mk HP23
 clear hcl23 hcc23 hfr23 HP23; (try clear hM23)
 refine start_ (n := 13) (S := fun w' => w'.cell? ⟨gb332, 0, none⟩ = some (.slice (some ⟨go8, 0, none⟩) t329.length co17) ∧ w'.cell? ⟨go8, ((a1).toNat * 2), none⟩ = some (.string ((rd_T56 t329 a1).f0)) ∧ w'.cell? ⟨go8, ((a1).toNat * 2) + 1, none⟩ = some (.int .i64 ((rd_T56 t329 a1).f1))) (ds := [12]) (List.replicate 13 false).toArray (by kernel_rfl) rfl rfl ⟨bt_ BK332 0, hx333_0, hx333_1⟩ (fun hHeld => ?_); refine with_tabW spec_SyncFile.tab4 spec_SyncFile.bits4 (fun HT_ HW_ => ?_)
 generalize w21.drew = w22 at HO331 BK326 BK327 BK332 HB GG8 HQ23 hf8_0 hf8_1 hx333_0 hx333_1 hx8_0 hx8_1 hHeld ⊢
 refine pv_ 0 14 ?_
 refine pv_ 2 16 ?_
 refine pv_ 3 17 ?_
 refine pv_ 5 19 ?_
 refine tk_ 1 15 ?_
 refine tk_ 4 18 ?_
 refine pv_ 6 20 ?_
 refine pv_ 7 21 ?_
 refine tk_ 8 22 ?_
 refine pv_ 9 23 ?_
 refine pv_ 10 24 ?_
 refine pv_ 11 25 ?_
 refine last_ (i := 12) (N := none) #[true, true, true, true, true, true, true, true, true, true, true, true, true] rfl rfl (one_of HT_.out (by kernel_rfl)) (by decide) (fun K hK => ?_)
 refine skip_ (w1 := ?_) (by rfl) rfl ?_ ?_
 rotate_left
 ·go_simp
  rfl
 refine hK.out _ _ ?_
 clear hK K
 refine done_ (done_of HT_.out (by kernel_rfl)) ?_
 have n0_ : Aside0 (Kd.R k56 56 (w22.setCell ⟨go8, (a1 : Int).toNat * 2 + 1, none⟩ (.int .i64 (((rd_T56 t329 a1).f0).size : Int))) w.heap.size (fun _ => True) (.slice (some ⟨go8, 0, none⟩) t329.length co17) y334) := ⟨kr_ HQ23.out⟩
 have n1_ : Aside0 ((w22.setCell ⟨go8, (a1 : Int).toNat * 2 + 1, none⟩ (.int .i64 (((rd_T56 t329 a1).f0).size : Int))).heap[gb326]? = some (.cells #[.slice A0_0 l0_0.length c0_0] 31 (0, 0))) := ⟨by (with_reducible repeat (first | refine blk_drewN ?_ _ | refine blk_drew ?_ | refine blk_alloc ?_ _)); refine blk_far ?_ (by have h_ := Kd.R_ne HO331.out BK326.out (by decide); intro e_; exact h_ (by rw [e_]; rfl)) _; (with_reducible repeat (first | refine blk_drewN ?_ _ | refine blk_drew ?_ | refine blk_alloc ?_ _)); exact BK326.out⟩
 have n2_ : Aside0 ((w22.setCell ⟨go8, (a1 : Int).toNat * 2 + 1, none⟩ (.int .i64 (((rd_T56 t329 a1).f0).size : Int))).heap[gb327]? = some (.cells #[.slice none 0 0] 31 (0, 0))) := ⟨by (with_reducible repeat (first | refine blk_drewN ?_ _ | refine blk_drew ?_ | refine blk_alloc ?_ _)); refine blk_far ?_ (by have h_ := Kd.R_ne HO331.out BK327.out (by decide); intro e_; exact h_ (by rw [e_]; rfl)) _; (with_reducible repeat (first | refine blk_drewN ?_ _ | refine blk_drew ?_ | refine blk_alloc ?_ _)); exact BK327.out⟩
 have n3_ : Aside0 ((w22.setCell ⟨go8, (a1 : Int).toNat * 2 + 1, none⟩ (.int .i64 (((rd_T56 t329 a1).f0).size : Int))).heap[gb332]? = some (.cells #[.slice (some ⟨go8, 0, none⟩) t329.length co17] 31 (0, 0))) := ⟨by (with_reducible repeat (first | refine blk_drewN ?_ _ | refine blk_drew ?_ | refine blk_alloc ?_ _)); refine blk_far ?_ (by have h_ := Kd.R_ne HO331.out BK332.out (by decide); intro e_; exact h_ (by rw [e_]; rfl)) _; (with_reducible repeat (first | refine blk_drewN ?_ _ | refine blk_drew ?_ | refine blk_alloc ?_ _)); exact BK332.out⟩
 have n4_ : Aside0 (Below w.heap.size w (w22.setCell ⟨go8, (a1 : Int).toNat * 2 + 1, none⟩ (.int .i64 (((rd_T56 t329 a1).f0).size : Int)))) := ⟨hs4_ GB8.out GE326.out GE327.out GE332.out⟩
 (try clear HO331)
 (try clear BK326)
 (try clear BK327)
 (try clear BK332)
 (try clear HB)
 generalize (w22.setCell ⟨go8, (a1 : Int).toNat * 2 + 1, none⟩ (.int .i64 (((rd_T56 t329 a1).f0).size : Int))) = w24 at n0_ n1_ n2_ n3_ n4_ ⊢
 have HO331 := n0_
 have BK326 := n1_
 have BK327 := n2_
 have BK332 := n3_
 have HB := n4_
 clear n0_ n1_ n2_ n3_ n4_
 obtain ⟨hcz25_0, hfz25_0⟩ := cf1_ BK332.out
 obtain ⟨hcz26_0, hfz26_0⟩ := cf1_ BK327.out
 try go_wp2
 refine bodyPost_ret (results_ct rfl _ _ gb327 31 #[.slice (some ⟨go8, 0, none⟩) t329.length co17] (0, 0) _ rfl (up_ BK327) Try.underlying31 rfl (by kernel_rfl)) rfl ?_
 exact ⟨_, er_, rF_ (Kd.R_mono (Kd.R_far (p := ⟨gb327, 0, none⟩) (Kd.R_types HO331.out BK327.out (by decide)) (fun _ hk => hk.2) (.slice (some ⟨go8, 0, none⟩) t329.length co17)) (fun _ hk => trivial)), hs3_ GE326.out GE327.out GE332.out⟩

/-! ### spec_NewDisk: function 40 -/
def spec_NewDisk.f (a0 : Int) : Option ((List (S56)) × Bool) := (spec_l1In.f a0 1 4).bind fun t336 => (if t336 = true then (if 0 ≤ a0 then (if (a0 : Int).toNat ≤ 11728124029610 then (some ((List.replicate (a0 : Int).toNat z56), true)) else (none)) else (none)) else (some (([] : List (S56)), false)))
set_option maxHeartbeats 8000000 in
set_option maxRecDepth 100000 in
theorem spec_NewDisk.calls (a0 : Int) (r1 : List (S56)) (r2 : Bool) (w : World) (h : spec_NewDisk.f a0 = some (r1, r2)) :
  Calls Try.prog 40 #[.int .i64 a0] w fun e w' => ∃ v0_ : Value, e = .returned (.tuple #[.agg #[v0_], .bool r2]) ∧ Kd.R k56 56 w' w.heap.size (fun _ => True) v0_ r1 ∧ Below w.heap.size w w' := by
 have hu31 := Try.underlying31
 have HB := Aside0.mk (Below.refl w.heap.size w)
 have H : ((spec_l1In.f a0 1 4).bind fun t336 => (if t336 = true then (if 0 ≤ a0 then (if (a0 : Int).toNat ≤ 11728124029610 then (some ((List.replicate (a0 : Int).toNat z56), true)) else (none)) else (none)) else (some (([] : List (S56)), false)))) = some (r1, r2) := h
 clear h
 replace H := bnd_ H
 obtain ⟨t336, A2, H⟩ := H
 replace H := ifb_ H
 obtain ⟨rfl, H⟩ | ⟨rfl, H⟩ := H
 rotate_left
 ·simp only [Option.some.injEq, Prod.mk.injEq] at H
  obtain ⟨rfl, rfl⟩ := H
  go_enter Try.func40, Try.ntmps40
  go_wp2_with (first | ((with_reducible refine gate_dst (N := 2) rfl ?_); refine bq_ (N := 2) #[.slice none 0 0] 31 ?_; intro gb335 hg w11 BK335 hb; have GE335 := ge_ hg; replace HB := nb_ hb; clear hb hg) | ((with_reducible refine gate_callee (f := 78) rfl ?_); refine gl_ 5 Try.func78 #[.int .i64 a0, .int .i64 1, .int .i64 4] rfl ma_ ?_; (with_reducible refine (spec_l1In.calls a0 1 4 false _ A2.out).mono ?_); rintro e w' ⟨rfl, ⟨nd, rfl⟩⟩; refine ⟨_, rfl, ?_⟩; (try (rw [drewN_self w11]; replace BK335 := dK_ nd BK335; replace HB := dH_ nd HB; generalize World.drewN w11 nd = w11 at BK335 HB ⊢)); obtain ⟨hcz12_0, hfz12_0⟩ := cf1_ BK335.out))
  refine bodyPost_ret (results_ct rfl _ _ gb335 31 #[.slice none 0 0] (0, 0) _ rfl (up_ BK335) Try.underlying31 rfl (by kernel_rfl)) rfl ?_
  exact ⟨_, er_, ni_, hs_ GE335.out⟩
 replace H := ifs_ H
 obtain ⟨c4, H⟩ := H
 have c4b0 := eq_true c4
 have c4b1 := decide_eq_true c4
 clear c4
 replace H := ifs_ H
 obtain ⟨c5, H⟩ := H
 have c5b0 := eq_true c5
 have c5b1 := decide_eq_true c5
 clear c5
 obtain ⟨y337, hy337⟩ : ∃ y_ : List (S56), y_ = (List.replicate (a0 : Int).toNat z56) := ⟨_, rfl⟩
 replace H : (some (y337, true)) = some (r1, r2) := by first | (rw [hy337]; with_reducible exact H) | (have H2_ := (Option.bind_some _ _).symm.trans H; rw [hy337]; with_reducible exact H2_) | (have H2_ := (Option.bind_some _ _).symm.trans H; with_reducible exact H2_) | with_reducible exact H | (rw [hy337]; exact H) | exact H
 have Ny337 := Aside0.mk hy337
 clear hy337
 simp only [Option.some.injEq, Prod.mk.injEq] at H
 obtain ⟨rfl, rfl⟩ := H
 go_enter Try.func40, Try.ntmps40
 go_wp2_with (first | ((with_reducible refine gate_dst (N := 2) rfl ?_); refine bq_ (N := 2) #[.slice none 0 0] 31 ?_; intro gb335 hg w6 BK335 hb; have GE335 := ge_ hg; replace HB := nb_ hb; clear hb hg) | ((with_reducible refine gate_callee (f := 78) rfl ?_); refine gl_ 5 Try.func78 #[.int .i64 a0, .int .i64 1, .int .i64 4] rfl ma_ ?_; (with_reducible refine (spec_l1In.calls a0 1 4 true _ A2.out).mono ?_); rintro e w' ⟨rfl, ⟨nd, rfl⟩⟩; refine ⟨_, rfl, ?_⟩; (try (rw [drewN_self w6]; replace BK335 := dK_ nd BK335; replace HB := dH_ nd HB; generalize World.drewN w6 nd = w6 at BK335 HB ⊢))) | ((with_reducible refine gate_dst (N := 9) rfl ?_); refine Kd.R_make k56 _ 56 rfl (N := 9) rfl 29 _ _ rfl a0 rfl rfl Try.underlying29 (.agg #[(.string ⟨#[]⟩), (.int .i64 0)]) 24 info56 rfl (by decide) (by omega) z56 (ok := fun _ => True) (okp := fun _ => True) (k56_mkM _ _ _ z56 ) (fun _ hk => hk) trivial (oa_) (Nat.le_trans (Nat.mul_le_mul_right _ (oa_ : a0.toNat ≤ 11728124029610)) (by omega)) (Below.refl _ _) (Nat.le_refl _) ?_; intro v338 w7 ho8 hb hg_ hnew_; clear hg_ hnew_; (first | rw [← Ny337.out] at ho8 | (simp only [Int.reduceToNat] at ho8; rw [← Ny337.out] at ho8)); have HO339 := Aside0.mk (Kd.R_lower ho8 (below_size (hs_ GE335.out))); replace BK335 := bK_ BK335 hb; replace HB := nc_ GE335 hb; clear hb ho8; obtain ⟨Ao9, co9, eo9⟩ := Kd.R_slice HO339.out; subst eo9; obtain ⟨hcz10_0, hfz10_0⟩ := cf1_ BK335.out))
 refine bodyPost_ret (results_ct rfl _ _ gb335 31 #[.slice Ao9 y337.length co9] (0, 0) _ rfl (up_ BK335) Try.underlying31 rfl (by kernel_rfl)) rfl ?_
 exact ⟨_, er_, rF_ (Kd.R_mono (Kd.R_far (p := ⟨gb335, 0, none⟩) (Kd.R_types HO339.out BK335.out (by decide)) (fun _ hk => hk.2) (.slice Ao9 y337.length co9)) (fun _ hk => trivial)), hs_ GE335.out⟩

/-- A state of type 92 at block g of W; what its slices lead to came in by w0. -/
def IsS92 (w0 W : World) (g : Nat) (f0 : List Int) (f1 : Int) (f2 : Int) : Prop := ∃ A0 c0, W.heap[g]? = some (.cells #[.slice A0 f0.length c0, .int .i64 f1, .int .u64 f2] 92 (0, 0)) ∧ w0.heap.size ≤ g ∧ Kd.C (Kd.int .u8) w0 A0 f0.length f0
theorem IsS92.grown {w0 W : World} {g : Nat} {f0 : List Int} {f1 : Int} {f2 : Int} {W1 : World} {row : Option Nat} (h : IsS92 w0 W g f0 f1 f2) (hw : W.grownBy W1 row) (hne : some g ≠ row) : IsS92 w0 W1 g f0 f1 f2 := by
 obtain ⟨A0, c0, hb, hg, hr0⟩ := h
 exact ⟨A0, c0, blk_grown hb hw hne, hg, hr0⟩
theorem IsS92.own_neN {w0 W : World} {g : Nat} {f0 : List Int} {f1 : Int} {f2 : Int} {α : Type} {d : Kd α} {e : Nat} {base : Nat} {ok : Nat → Prop} {v : Value} {xs : List α} (h : IsS92 w0 W g f0 f1 f2) (ho : Kd.N d e W base ok v xs) (ht : e ≠ 92) : some g ≠ v.ownBlock := by
 obtain ⟨A0, c0, hb, hg, hr0⟩ := h
 exact Kd.N_ne ho hb ht
theorem IsS92.fresh {w0 W : World} {g : Nat} {f0 : List Int} {f1 : Int} {f2 : Int} (h : IsS92 w0 W g f0 f1 f2) : ∀ k, W.heap.size ≤ k → k ≠ g := by
 obtain ⟨A0, c0, hb, hg, hr0⟩ := h
 exact Kd.freshB hb
theorem IsS92.kept {w0 W : World} {g : Nat} {f0 : List Int} {f1 : Int} {f2 : Int} {W1 : World} {S : Nat → Prop} (h : IsS92 w0 W g f0 f1 f2) (hk : Kept W W1 S) (hne : ¬ S g) : IsS92 w0 W1 g f0 f1 f2 := by
 obtain ⟨A0, c0, hb, hg, hr0⟩ := h
 exact ⟨A0, c0, blk_kept hb hk hne, hg, hr0⟩
theorem IsS92.below {w0 W : World} {g : Nat} {f0 : List Int} {f1 : Int} {f2 : Int} {W1 : World} (h : IsS92 w0 W g f0 f1 f2) (hw : Below W.heap.size W W1) : IsS92 w0 W1 g f0 f1 f2 := h.grown (grown_of_below hw none) (by simp)
theorem IsS92.alloc {w0 W : World} {g : Nat} {f0 : List Int} {f1 : Int} {f2 : Int} (h : IsS92 w0 W g f0 f1 f2) (o : Obj) : IsS92 w0 (W.alloc o) g f0 f1 f2 := h.below (below_alloc (Below.refl _ _) o)
theorem IsS92.drewN {w0 W : World} {g : Nat} {f0 : List Int} {f1 : Int} {f2 : Int} (h : IsS92 w0 W g f0 f1 f2) (m : Nat) : IsS92 w0 (W.drewN m) g f0 f1 f2 := h
theorem IsS92.drew {w0 W : World} {g : Nat} {f0 : List Int} {f1 : Int} {f2 : Int} (h : IsS92 w0 W g f0 f1 f2) : IsS92 w0 W.drew g f0 f1 f2 := h
theorem IsS92.at_ {w0 W : World} {g : Nat} {f0 : List Int} {f1 : Int} {f2 : Int} {w' : World} {m : Nat} (hq : W.drewN m = w') (h : IsS92 w0 W g f0 f1 f2) : IsS92 w0 w' g f0 f1 f2 := by subst hq; exact IsS92.drewN h m
theorem IsS92.apart {w0 W : World} {g : Nat} {f0 : List Int} {f1 : Int} {f2 : Int} {α : Type} {d : Kd α} {e : Nat} {base : Nat} {ok : Nat → Prop} {v : Value} {xs : List α} (h : IsS92 w0 W g f0 f1 f2) (ho : d.R e W base ok v xs) (ht : ∀ q, q ∈ e :: d.E → q ≠ 92) : d.R e W base (fun k => ok k ∧ k ≠ g) v xs := by
 obtain ⟨A0, c0, hb, hg, hr0⟩ := h
 exact Kd.R_types ho hb ht
theorem IsS92.own_ne {w0 W : World} {g : Nat} {f0 : List Int} {f1 : Int} {f2 : Int} {α : Type} {d : Kd α} {e : Nat} {base : Nat} {ok : Nat → Prop} {v : Value} {xs : List α} (h : IsS92 w0 W g f0 f1 f2) (ho : d.R e W base ok v xs) (ht : e ≠ 92) : some g ≠ v.ownBlock := by
 obtain ⟨A0, c0, hb, hg, hr0⟩ := h
 exact Kd.R_ne ho hb ht
theorem IsS92.apartQ {w0 W : World} {g : Nat} {f0 : List Int} {f1 : Int} {f2 : Int} {α : Type} {d : Kd α} {e : Nat} {base : Nat} {ok : Nat → Prop} {v : Value} {xs : List α} (h : IsS92 w0 W g f0 f1 f2) (ho : d.Q e W base ok v xs) (ht : ∀ q, q ∈ e :: d.E → q ≠ 92) : d.Q e W base (fun k => ok k ∧ k ≠ g) v xs := by
 obtain ⟨A0, c0, hb, hg, hr0⟩ := h
 exact Kd.Q_types ho hb ht
theorem IsS92.own_neQ {w0 W : World} {g : Nat} {f0 : List Int} {f1 : Int} {f2 : Int} {α : Type} {d : Kd α} {e : Nat} {base : Nat} {ok : Nat → Prop} {v : Value} {xs : List α} (h : IsS92 w0 W g f0 f1 f2) (ho : d.Q e W base ok v xs) (ht : e ≠ 92) : some g ≠ v.ownBlock := by
 obtain ⟨A0, c0, hb, hg, hr0⟩ := h
 exact Kd.Q_ne ho hb ht
theorem IsS92.apartS {w0 W : World} {g : Nat} {f0 : List Int} {f1 : Int} {f2 : Int} {α : Type} {d : Kd α} {e : Nat} {base : Nat} {ok : Nat → Prop} {v : Value} {xs : List α} (h : IsS92 w0 W g f0 f1 f2) (ho : d.S e W base ok v xs) (ht : ∀ q, q ∈ e :: d.E → q ≠ 92) : d.S e W base (fun k => ok k ∧ k ≠ g) v xs := by
 obtain ⟨A0, c0, hb, hg, hr0⟩ := h
 exact Kd.S_types ho hb ht
theorem IsS92.own_neS {w0 W : World} {g : Nat} {f0 : List Int} {f1 : Int} {f2 : Int} {α : Type} {d : Kd α} {e : Nat} {base : Nat} {ok : Nat → Prop} {v : Value} {xs : List α} (h : IsS92 w0 W g f0 f1 f2) (ho : d.S e W base ok v xs) (ht : e ≠ 92) : some g ≠ v.ownBlock := by
 obtain ⟨A0, c0, hb, hg, hr0⟩ := h
 exact Kd.S_ne ho hb ht
theorem IsS92.lt {w0 W : World} {g : Nat} {f0 : List Int} {f1 : Int} {f2 : Int} (h : IsS92 w0 W g f0 f1 f2) : g < W.heap.size := by
 obtain ⟨A0, c0, hb, hg, hr0⟩ := h
 exact blk_lt hb
theorem IsS92.ge {w0 W : World} {g : Nat} {f0 : List Int} {f1 : Int} {f2 : Int} (h : IsS92 w0 W g f0 f1 f2) : w0.heap.size ≤ g := by
 obtain ⟨A0, c0, hb, hg, hr0⟩ := h
 exact hg
theorem IsS92.ne_blk {w0 W : World} {g : Nat} {f0 : List Int} {f1 : Int} {f2 : Int} {a : Nat} {cs : Array Value} {t : TypeId} {fr : Nat × Nat} (h : IsS92 w0 W g f0 f1 f2) (hb2 : W.heap[a]? = some (.cells cs t fr)) (ht : t ≠ 92) : g ≠ a := by
 obtain ⟨A0, c0, hb, hg, hr0⟩ := h
 rintro rfl
 rw [hb] at hb2
 injection hb2 with hb2
 injection hb2 with _ ht2
 exact ht ht2.symm
theorem IsS92.far {w0 W : World} {g : Nat} {f0 : List Int} {f1 : Int} {f2 : Int} {p : Addr} (h : IsS92 w0 W g f0 f1 f2) (hne : g ≠ p.block) (u : Value) : IsS92 w0 (W.setCell p u) g f0 f1 f2 := by
 obtain ⟨A0, c0, hb, hg, hr0⟩ := h
 exact ⟨A0, c0, blk_far hb hne u, hg, hr0⟩
theorem cellS92_0 {W : World} {g : Nat} {A0 : Option Addr} {c0 : Nat} {f0 : List Int} {f1 : Int} {f2 : Int} (h : W.heap[g]? = some (.cells #[.slice A0 f0.length c0, .int .i64 f1, .int .u64 f2] 92 (0, 0))) : W.cell? ⟨g, 0, none⟩ = some (.slice A0 f0.length c0) := (blk_cell h 0).trans rfl
theorem cellS92_1 {W : World} {g : Nat} {A0 : Option Addr} {c0 : Nat} {f0 : List Int} {f1 : Int} {f2 : Int} (h : W.heap[g]? = some (.cells #[.slice A0 f0.length c0, .int .i64 f1, .int .u64 f2] 92 (0, 0))) : W.cell? ⟨g, 1, none⟩ = some (.int .i64 f1) := (blk_cell h 1).trans rfl
theorem IsS92.set_1 {w0 W : World} {g : Nat} {f0 : List Int} {f1 : Int} {f2 : Int} (h : IsS92 w0 W g f0 f1 f2) (x : Int) : IsS92 w0 (W.setCell ⟨g, 1, none⟩ (.int .i64 x)) g f0 x f2 := by
 obtain ⟨A0, c0, hb, hg, hr0⟩ := h
 exact ⟨A0, c0, by simpa using blk_set hb 1 (.int .i64 x), hg, hr0⟩
theorem cellS92_2 {W : World} {g : Nat} {A0 : Option Addr} {c0 : Nat} {f0 : List Int} {f1 : Int} {f2 : Int} (h : W.heap[g]? = some (.cells #[.slice A0 f0.length c0, .int .i64 f1, .int .u64 f2] 92 (0, 0))) : W.cell? ⟨g, 2, none⟩ = some (.int .u64 f2) := (blk_cell h 2).trans rfl
theorem IsS92.set_2 {w0 W : World} {g : Nat} {f0 : List Int} {f1 : Int} {f2 : Int} (h : IsS92 w0 W g f0 f1 f2) (x : Int) : IsS92 w0 (W.setCell ⟨g, 2, none⟩ (.int .u64 x)) g f0 f1 x := by
 obtain ⟨A0, c0, hb, hg, hr0⟩ := h
 exact ⟨A0, c0, by simpa using blk_set hb 2 (.int .u64 x), hg, hr0⟩
theorem IsS92.new (w0 W : World) (A0 : Option Addr) (c0 : Nat) (f0 : List Int) (f1 : Int) (f2 : Int) (hB : Below w0.heap.size w0 W) (hr0 : Kd.C (Kd.int .u8) w0 A0 f0.length f0) : IsS92 w0 (W.alloc (.cells #[.slice A0 f0.length c0, .int .i64 f1, .int .u64 f2] 92)) W.heap.size f0 f1 f2 := ⟨A0, c0, by simpa using heap_alloc_new W _, hB.size, hr0⟩

theorem iS92_0_ {p : Prop} (h : p := by (repeat (first | (with_reducible first | exact HI0.out | apply IsS92.alloc | apply IsS92.drewN | apply IsS92.drew | apply IsS92.set_1 | apply IsS92.set_2) | exact HI0.out))) : p := h
theorem iS92_1_ {p q1 : Prop} (g1 : q1) (h : q1 → p := by (intro g1_; repeat (first | (with_reducible first | exact HI0.out | apply IsS92.alloc | apply IsS92.drewN | apply IsS92.drew | apply IsS92.set_1 | apply IsS92.set_2 | refine IsS92.far ?_ g1_ _) | exact HI0.out))) : p := h g1
theorem iS92_2_ {p q1 q2 : Prop} (g1 : q1) (g2 : q2) (h : q1 → q2 → p := by (intro g1_ g2_; repeat (first | (with_reducible first | exact HI0.out | apply IsS92.alloc | apply IsS92.drewN | apply IsS92.drew | apply IsS92.set_1 | apply IsS92.set_2 | refine IsS92.far ?_ g1_ _ | refine IsS92.far ?_ g2_ _) | exact HI0.out))) : p := h g1 g2
theorem iS92_3_ {p q1 q2 q3 : Prop} (g1 : q1) (g2 : q2) (g3 : q3) (h : q1 → q2 → q3 → p := by (intro g1_ g2_ g3_; repeat (first | (with_reducible first | exact HI0.out | apply IsS92.alloc | apply IsS92.drewN | apply IsS92.drew | apply IsS92.set_1 | apply IsS92.set_2 | refine IsS92.far ?_ g1_ _ | refine IsS92.far ?_ g2_ _ | refine IsS92.far ?_ g3_ _) | exact HI0.out))) : p := h g1 g2 g3
theorem iS92_4_ {p q1 q2 q3 q4 : Prop} (g1 : q1) (g2 : q2) (g3 : q3) (g4 : q4) (h : q1 → q2 → q3 → q4 → p := by (intro g1_ g2_ g3_ g4_; repeat (first | (with_reducible first | exact HI0.out | apply IsS92.alloc | apply IsS92.drewN | apply IsS92.drew | apply IsS92.set_1 | apply IsS92.set_2 | refine IsS92.far ?_ g1_ _ | refine IsS92.far ?_ g2_ _ | refine IsS92.far ?_ g3_ _ | refine IsS92.far ?_ g4_ _) | exact HI0.out))) : p := h g1 g2 g3 g4
theorem iS92_5_ {p q1 q2 q3 q4 q5 : Prop} (g1 : q1) (g2 : q2) (g3 : q3) (g4 : q4) (g5 : q5) (h : q1 → q2 → q3 → q4 → q5 → p := by (intro g1_ g2_ g3_ g4_ g5_; repeat (first | (with_reducible first | exact HI0.out | apply IsS92.alloc | apply IsS92.drewN | apply IsS92.drew | apply IsS92.set_1 | apply IsS92.set_2 | refine IsS92.far ?_ g1_ _ | refine IsS92.far ?_ g2_ _ | refine IsS92.far ?_ g3_ _ | refine IsS92.far ?_ g4_ _ | refine IsS92.far ?_ g5_ _) | exact HI0.out))) : p := h g1 g2 g3 g4 g5
/-! ### spec_l1Cur_next: function 94 -/
def spec_l1Cur_next.f (s0_0 : List Int) (s0_1 : Int) (s0_2 : Int) : Option (Int × Int × Int) := if s0_1 < (s0_0.length : Int) then (if 0 ≤ s0_1 then (if (wrap64 (s0_1 + 1)) ≤ (s0_0.length : Int) then (some (wrap64 (rd s0_0 s0_1), wrap64 (s0_1 + 1), IntKind.u64.wrap ((IntKind.u64.wrap ((IntKind.u64.wrap (s0_2 * 6364136223846793005)) + (IntKind.u64.wrap (wrap64 (rd s0_0 s0_1))))) + 1442695040888963407))) else (some (wrap64 (Go.bits .and .u64 ((IntKind.u64.wrap ((IntKind.u64.wrap ((IntKind.u64.wrap (s0_2 * 6364136223846793005)) + (IntKind.u64.wrap (wrap64 (rd s0_0 s0_1))))) + 1442695040888963407)) / 1099511627776) 255), wrap64 (s0_1 + 1), IntKind.u64.wrap ((IntKind.u64.wrap ((IntKind.u64.wrap (s0_2 * 6364136223846793005)) + (IntKind.u64.wrap (wrap64 (rd s0_0 s0_1))))) + 1442695040888963407)))) else (none)) else (if (wrap64 (s0_1 + 1)) ≤ (s0_0.length : Int) then (some (0, wrap64 (s0_1 + 1), IntKind.u64.wrap ((IntKind.u64.wrap (IntKind.u64.wrap (s0_2 * 6364136223846793005))) + 1442695040888963407))) else (some (wrap64 (Go.bits .and .u64 ((IntKind.u64.wrap ((IntKind.u64.wrap (IntKind.u64.wrap (s0_2 * 6364136223846793005))) + 1442695040888963407)) / 1099511627776) 255), wrap64 (s0_1 + 1), IntKind.u64.wrap ((IntKind.u64.wrap (IntKind.u64.wrap (s0_2 * 6364136223846793005))) + 1442695040888963407))))
set_option maxHeartbeats 8000000 in
set_option maxRecDepth 100000 in
theorem spec_l1Cur_next.calls (g : Nat) (s0_0 : List Int) (s0_1 : Int) (s0_2 : Int) (r1 : Int) (r2 : Int) (r3 : Int) (w0 w : World) (hI : IsS92 w0 w g s0_0 s0_1 s0_2) (hB : Below w0.heap.size w0 w) (h : spec_l1Cur_next.f s0_0 s0_1 s0_2 = some (r1, r2, r3)) :
  Calls Try.prog 94 #[.pointer (some ⟨g, 0, none⟩)] w fun e w' => e = .returned (.int .i64 r1) ∧ IsS92 w0 w' g s0_0 r2 r3 ∧ Below w0.heap.size w0 w' ∧ KeepBut w w' g none := by
 have HI0 := Aside0.mk hI
 have HK := Aside0.mk (KeepBut.refl w g none)
 have HL := Aside0.mk hB.size
 clear hI
 have HW0 := Aside0.mk hB.size
 have HB := Aside0.mk hB
 clear hB
 have H : (if s0_1 < (s0_0.length : Int) then (if 0 ≤ s0_1 then (if (wrap64 (s0_1 + 1)) ≤ (s0_0.length : Int) then (some (wrap64 (rd s0_0 s0_1), wrap64 (s0_1 + 1), IntKind.u64.wrap ((IntKind.u64.wrap ((IntKind.u64.wrap (s0_2 * 6364136223846793005)) + (IntKind.u64.wrap (wrap64 (rd s0_0 s0_1))))) + 1442695040888963407))) else (some (wrap64 (Go.bits .and .u64 ((IntKind.u64.wrap ((IntKind.u64.wrap ((IntKind.u64.wrap (s0_2 * 6364136223846793005)) + (IntKind.u64.wrap (wrap64 (rd s0_0 s0_1))))) + 1442695040888963407)) / 1099511627776) 255), wrap64 (s0_1 + 1), IntKind.u64.wrap ((IntKind.u64.wrap ((IntKind.u64.wrap (s0_2 * 6364136223846793005)) + (IntKind.u64.wrap (wrap64 (rd s0_0 s0_1))))) + 1442695040888963407)))) else (none)) else (if (wrap64 (s0_1 + 1)) ≤ (s0_0.length : Int) then (some (0, wrap64 (s0_1 + 1), IntKind.u64.wrap ((IntKind.u64.wrap (IntKind.u64.wrap (s0_2 * 6364136223846793005))) + 1442695040888963407))) else (some (wrap64 (Go.bits .and .u64 ((IntKind.u64.wrap ((IntKind.u64.wrap (IntKind.u64.wrap (s0_2 * 6364136223846793005))) + 1442695040888963407)) / 1099511627776) 255), wrap64 (s0_1 + 1), IntKind.u64.wrap ((IntKind.u64.wrap (IntKind.u64.wrap (s0_2 * 6364136223846793005))) + 1442695040888963407))))) = some (r1, r2, r3) := h
 clear h
 replace H := ite_ H
 obtain ⟨c2, H⟩ | ⟨c2, H⟩ := H
 rotate_left
 ·have c2b0 := decide_eq_false c2
  clear c2
  replace H := ite_ H
  obtain ⟨c7, H⟩ | ⟨c7, H⟩ := H
  ·have c7b0 := decide_eq_true c7
   clear c7
   simp only [Option.some.injEq, Prod.mk.injEq] at H
   obtain ⟨rfl, rfl, rfl⟩ := H
   obtain ⟨ASz8_0, cSz8_0, HGz8, hgz8, HSz8_0⟩ := HI0.out
   have hcz8_0 := cellS92_0 HGz8
   have hcz8_1 := cellS92_1 HGz8
   have hcz8_2 := cellS92_2 HGz8
   have hfz8_1 := blk_frozen HGz8 1
   have hfz8_2 := blk_frozen HGz8 2
   clear HGz8 hgz8
   go_enter Try.func94, Try.ntmps94
   go_wp2
   repeat (go_quiet (fail); try go_wp2)
   go_ret
   exact ⟨er_, iS92_0_, hs_ (IsS92.ge HI0.out), kp0_⟩
  have c7b0 := decide_eq_false c7
  clear c7
  simp only [Option.some.injEq, Prod.mk.injEq] at H
  obtain ⟨rfl, rfl, rfl⟩ := H
  obtain ⟨ASz9_0, cSz9_0, HGz9, hgz9, HSz9_0⟩ := HI0.out
  have hcz9_0 := cellS92_0 HGz9
  have hcz9_1 := cellS92_1 HGz9
  have hcz9_2 := cellS92_2 HGz9
  have hfz9_1 := blk_frozen HGz9 1
  have hfz9_2 := blk_frozen HGz9 2
  clear HGz9 hgz9
  go_enter Try.func94, Try.ntmps94
  go_wp2
  repeat (go_quiet (fail); try go_wp2)
  go_ret
  exact ⟨er_, iS92_0_, hs_ (IsS92.ge HI0.out), kp0_⟩
 have c2b0 := decide_eq_true c2
 clear c2
 replace H := ifs_ H
 obtain ⟨c3, H⟩ := H
 have c3b0 := decide_eq_true c3
 clear c3
 replace H := ite_ H
 obtain ⟨c4, H⟩ | ⟨c4, H⟩ := H
 ·have c4b0 := decide_eq_true c4
  clear c4
  simp only [Option.some.injEq, Prod.mk.injEq] at H
  obtain ⟨rfl, rfl, rfl⟩ := H
  obtain ⟨ASz5_0, cSz5_0, HGz5, hgz5, HSz5_0⟩ := HI0.out
  have hcz5_0 := cellS92_0 HGz5
  have hcz5_1 := cellS92_1 HGz5
  have hcz5_2 := cellS92_2 HGz5
  have hfz5_1 := blk_frozen HGz5 1
  have hfz5_2 := blk_frozen HGz5 2
  clear HGz5 hgz5
  have p340 : 0 ≤ (s0_1 : Int) := oa_
  have q340 : s0_1 < (s0_0.length : Int) := oa_
  obtain ⟨ad340, e340, hx340_0⟩ := Kd.at_int HSz5_0 s0_1 p340 q340
  cases e340
  replace hx340_0 := pw_cell_below HB.out hx340_0
  replace p340 := eq_true p340
  replace q340 := eq_true q340
  go_enter Try.func94, Try.ntmps94
  go_wp2
  repeat (go_quiet (fail); try go_wp2)
  go_ret
  exact ⟨er_, iS92_0_, hs_ (IsS92.ge HI0.out), kp0_⟩
 have c4b0 := decide_eq_false c4
 clear c4
 simp only [Option.some.injEq, Prod.mk.injEq] at H
 obtain ⟨rfl, rfl, rfl⟩ := H
 obtain ⟨ASz6_0, cSz6_0, HGz6, hgz6, HSz6_0⟩ := HI0.out
 have hcz6_0 := cellS92_0 HGz6
 have hcz6_1 := cellS92_1 HGz6
 have hcz6_2 := cellS92_2 HGz6
 have hfz6_1 := blk_frozen HGz6 1
 have hfz6_2 := blk_frozen HGz6 2
 clear HGz6 hgz6
 have p340 : 0 ≤ (s0_1 : Int) := oa_
 have q340 : s0_1 < (s0_0.length : Int) := oa_
 obtain ⟨ad340, e340, hx340_0⟩ := Kd.at_int HSz6_0 s0_1 p340 q340
 cases e340
 replace hx340_0 := pw_cell_below HB.out hx340_0
 replace p340 := eq_true p340
 replace q340 := eq_true q340
 go_enter Try.func94, Try.ntmps94
 go_wp2
 repeat (go_quiet (fail); try go_wp2)
 go_ret
 exact ⟨er_, iS92_0_, hs_ (IsS92.ge HI0.out), kp0_⟩

/-! ### spec_l1Cur_pick: function 74 -/
def spec_l1Cur_pick.f (s0_0 : List Int) (s0_1 : Int) (s0_2 : Int) (a1 : Int) : Option (Int × Int × Int) := if a1 ≤ 1 then (some (0, s0_1, s0_2)) else ((spec_l1Cur_next.f s0_0 s0_1 s0_2).bind fun bt341 => (if a1 > 200 then ((spec_l1Cur_next.f s0_0 bt341.2.1 bt341.2.2).bind fun bt344 => (if a1 = 0 then (none) else (some (Int.tmod (wrap64 ((wrap64 (bt341.1 * 256)) + bt344.1)) a1, bt344.2.1, bt344.2.2)))) else (if a1 = 0 then (none) else (some (Int.tmod bt341.1 a1, bt341.2.1, bt341.2.2)))))
set_option maxHeartbeats 8000000 in
set_option maxRecDepth 100000 in
theorem spec_l1Cur_pick.calls (g : Nat) (s0_0 : List Int) (s0_1 : Int) (s0_2 : Int) (a1 : Int) (r1 : Int) (r2 : Int) (r3 : Int) (w0 w : World) (hI : IsS92 w0 w g s0_0 s0_1 s0_2) (hB : Below w0.heap.size w0 w) (h : spec_l1Cur_pick.f s0_0 s0_1 s0_2 a1 = some (r1, r2, r3)) :
  Calls Try.prog 74 #[.pointer (some ⟨g, 0, none⟩), .int .i64 a1] w fun e w' => e = .returned (.int .i64 r1) ∧ IsS92 w0 w' g s0_0 r2 r3 ∧ Below w0.heap.size w0 w' ∧ KeepBut w w' g none := by
 have HI0 := Aside0.mk hI
 have HK := Aside0.mk (KeepBut.refl w g none)
 have HL := Aside0.mk hB.size
 clear hI
 have HW0 := Aside0.mk hB.size
 have HB := Aside0.mk hB
 clear hB
 have H : (if a1 ≤ 1 then (some (0, s0_1, s0_2)) else ((spec_l1Cur_next.f s0_0 s0_1 s0_2).bind fun bt341 => (if a1 > 200 then ((spec_l1Cur_next.f s0_0 bt341.2.1 bt341.2.2).bind fun bt344 => (if a1 = 0 then (none) else (some (Int.tmod (wrap64 ((wrap64 (bt341.1 * 256)) + bt344.1)) a1, bt344.2.1, bt344.2.2)))) else (if a1 = 0 then (none) else (some (Int.tmod bt341.1 a1, bt341.2.1, bt341.2.2)))))) = some (r1, r2, r3) := h
 clear h
 replace H := ite_ H
 obtain ⟨c3, H⟩ | ⟨c3, H⟩ := H
 ·have c3b0 := decide_eq_true c3
  clear c3
  simp only [Option.some.injEq, Prod.mk.injEq] at H
  obtain ⟨rfl, rfl, rfl⟩ := H
  go_enter Try.func74, Try.ntmps74
  go_wp2
  go_ret
  exact ⟨er_, iS92_0_, hs_ (IsS92.ge HI0.out), kp0_⟩
 have c3b0 := decide_eq_false c3
 clear c3
 replace H := bnd_ H
 obtain ⟨⟨t341, t342, t343⟩, A4, H⟩ := H
 replace H := red_ H
 replace H := ite_ H
 obtain ⟨c5, H⟩ | ⟨c5, H⟩ := H
 rotate_left
 ·have c5b0 := dgf_ c5
  clear c5
  replace H := ifx_ H
  obtain ⟨c10, H⟩ := H
  have c10b0 : (a1 == 0) = false := beq_eq_false_iff_ne.mpr c10
  have c10b1 : (a1 != 0) = true := bne_iff_ne.mpr c10
  simp only [Option.some.injEq, Prod.mk.injEq] at H
  obtain ⟨rfl, rfl, rfl⟩ := H
  go_enter Try.func74, Try.ntmps74
  go_wp2_with (first | ((with_reducible refine gate_callee (f := 94) rfl ?_); refine gl_ 9 Try.func94 #[.pointer (some ⟨g, 0, none⟩)] rfl ma_ ?_; (with_reducible refine (spec_l1Cur_next.calls g s0_0 s0_1 s0_2 t341 t342 t343 w0 _ ?side1 ?side2 A4.out).mono ?_); (case side1 => exact iS92_0_); (case side2 => exact hs_ (IsS92.ge HI0.out)); rintro e w11 ⟨rfl, hi, hb, hk⟩; refine ⟨_, rfl, ?_⟩; replace HK := Aside0.mk (KeepBut.trans (kp0_) hk (.inl rfl)); replace HB := Aside0.mk (hb); replace HI0 := Aside0.mk (hi); (try clear hb); (try clear hb2); (try clear hk); (try clear hi)))
  go_ret
  exact ⟨er_, iS92_0_, hs_ (IsS92.ge HI0.out), kp0_⟩
 have c5b0 := dgt_ c5
 clear c5
 replace H := bnd_ H
 obtain ⟨⟨t344, t345, t346⟩, A6, H⟩ := H
 replace H := red_ H
 replace H := ifx_ H
 obtain ⟨c7, H⟩ := H
 have c7b0 : (a1 == 0) = false := beq_eq_false_iff_ne.mpr c7
 have c7b1 : (a1 != 0) = true := bne_iff_ne.mpr c7
 simp only [Option.some.injEq, Prod.mk.injEq] at H
 obtain ⟨rfl, rfl, rfl⟩ := H
 go_enter Try.func74, Try.ntmps74
 go_wp2_with (first | ((with_reducible refine gate_callee (f := 94) rfl ?_); refine gl_ 9 Try.func94 #[.pointer (some ⟨g, 0, none⟩)] rfl ma_ ?_; (with_reducible refine (spec_l1Cur_next.calls g s0_0 s0_1 s0_2 t341 t342 t343 w0 _ ?side1 ?side2 A4.out).mono ?_); (case side1 => exact iS92_0_); (case side2 => exact hs_ (IsS92.ge HI0.out)); rintro e w8 ⟨rfl, hi, hb, hk⟩; refine ⟨_, rfl, ?_⟩; replace HK := Aside0.mk (KeepBut.trans (kp0_) hk (.inl rfl)); replace HB := Aside0.mk (hb); replace HI0 := Aside0.mk (hi); (try clear hb); (try clear hb2); (try clear hk); (try clear hi)) | ((with_reducible refine gate_callee (f := 94) rfl ?_); refine gl_ 15 Try.func94 #[.pointer (some ⟨g, 0, none⟩)] rfl ma_ ?_; (with_reducible refine (spec_l1Cur_next.calls g s0_0 t342 t343 t344 t345 t346 w0 _ ?side1 ?side2 A6.out).mono ?_); (case side1 => exact iS92_0_); (case side2 => exact hs_ (IsS92.ge HI0.out)); rintro e w9 ⟨rfl, hi, hb, hk⟩; refine ⟨_, rfl, ?_⟩; replace HK := Aside0.mk (KeepBut.trans (kp0_) hk (.inl rfl)); replace HB := Aside0.mk (hb); replace HI0 := Aside0.mk (hi); (try clear hb); (try clear hb2); (try clear hk); (try clear hi)))
 go_ret
 exact ⟨er_, iS92_0_, hs_ (IsS92.ge HI0.out), kp0_⟩

/-! ### spec_l1Cur_among: function 92 -/
def spec_l1Cur_among.f (s0_0 : List Int) (s0_1 : Int) (s0_2 : Int) (l1 : List Int) : Option (Int × Int × Int) := (spec_l1Cur_pick.f s0_0 s0_1 s0_2 (l1.length : Int)).bind fun bt347 => (if 0 ≤ bt347.1 then (if bt347.1 < (l1.length : Int) then (some (rd l1 bt347.1, bt347.2.1, bt347.2.2)) else (none)) else (none))
set_option maxHeartbeats 8000000 in
set_option maxRecDepth 100000 in
theorem spec_l1Cur_among.calls (g : Nat) (s0_0 : List Int) (s0_1 : Int) (s0_2 : Int) (A1 : Option Addr) (c1 : Nat) (l1 : List Int) (r1 : Int) (r2 : Int) (r3 : Int) (w0 w : World) (hI : IsS92 w0 w g s0_0 s0_1 s0_2) (hB : Below w0.heap.size w0 w) (hr1 : Kd.C (Kd.int .i64) w A1 l1.length l1) (hc1 : l1.length ≤ c1) (hf1 : ∀ ad, A1 = some ad → 0 < l1.length → ad.block ≠ g) (h : spec_l1Cur_among.f s0_0 s0_1 s0_2 l1 = some (r1, r2, r3)) :
  Calls Try.prog 92 #[.pointer (some ⟨g, 0, none⟩), .slice A1 l1.length c1] w fun e w' => e = .returned (.int .i64 r1) ∧ IsS92 w0 w' g s0_0 r2 r3 ∧ Below w0.heap.size w0 w' ∧ KeepBut w w' g none := by
 have HR1 := Aside0.mk hr1
 have HC1 := Aside0.mk hc1
 clear hr1 hc1
 have HI0 := Aside0.mk hI
 have HK := Aside0.mk (KeepBut.refl w g none)
 have HL := Aside0.mk hB.size
 clear hI
 have HW0 := Aside0.mk hB.size
 have HB := Aside0.mk hB
 clear hB
 have H : ((spec_l1Cur_pick.f s0_0 s0_1 s0_2 (l1.length : Int)).bind fun bt347 => (if 0 ≤ bt347.1 then (if bt347.1 < (l1.length : Int) then (some (rd l1 bt347.1, bt347.2.1, bt347.2.2)) else (none)) else (none))) = some (r1, r2, r3) := h
 clear h
 replace H := bnd_ H
 obtain ⟨⟨t347, t348, t349⟩, A3, H⟩ := H
 replace H := red_ H
 replace H := ifs_ H
 obtain ⟨c4, H⟩ := H
 have c4b0 := decide_eq_true c4
 clear c4
 replace H := ifs_ H
 obtain ⟨c5, H⟩ := H
 have c5b0 := decide_eq_true c5
 clear c5
 simp only [Option.some.injEq, Prod.mk.injEq] at H
 obtain ⟨rfl, rfl, rfl⟩ := H
 go_enter Try.func92, Try.ntmps92
 go_wp2_with (first | ((with_reducible refine gate_callee (f := 74) rfl ?_); refine gl_ 9 Try.func74 #[.pointer (some ⟨g, 0, none⟩), .int .i64 (l1.length : Int)] rfl ma_ ?_; (with_reducible refine (spec_l1Cur_pick.calls g s0_0 s0_1 s0_2 (l1.length : Int) t347 t348 t349 w0 _ ?side1 ?side2 A3.out).mono ?_); (case side1 => exact iS92_0_); (case side2 => exact hs_ (IsS92.ge HI0.out)); rintro e w6 ⟨rfl, hi, hb, hk⟩; refine ⟨_, rfl, ?_⟩; replace HK := Aside0.mk (KeepBut.trans (kp0_) hk (.inl rfl)); replace HB := Aside0.mk (hb); replace HI0 := Aside0.mk (hi); (try clear hb); (try clear hb2); (try clear hk); (try clear hi); have p350 : 0 ≤ (t347 : Int) := oa_; have q350 : t347 < (l1.length : Int) := oa_; obtain ⟨ad350, e350, hx350_0⟩ := Kd.at_int HR1.out t347 p350 q350; cases e350; replace hx350_0 := keep_cell HK.out hx350_0 (by first | (rw [add_block]; exact hf1 _ rfl (by omega)) | exact hf1 _ rfl (by omega) | exact hf1 ad350 rfl (by omega)); replace p350 := eq_true p350; replace q350 := eq_true q350))
 go_ret
 exact ⟨er_, iS92_0_, hs_ (IsS92.ge HI0.out), kp0_⟩

/-! ### spec_l1Cur_of: function 75 -/
def spec_l1Cur_of.f (s0_0 : List Int) (s0_1 : Int) (s0_2 : Int) (l1 : List ByteArray) : Option (ByteArray × Int × Int) := (spec_l1Cur_pick.f s0_0 s0_1 s0_2 (l1.length : Int)).bind fun bt351 => (if 0 ≤ bt351.1 then (if bt351.1 < (l1.length : Int) then (some (rdOf ByteArray.empty l1 bt351.1, bt351.2.1, bt351.2.2)) else (none)) else (none))
set_option maxHeartbeats 8000000 in
set_option maxRecDepth 100000 in
theorem spec_l1Cur_of.calls (g : Nat) (s0_0 : List Int) (s0_1 : Int) (s0_2 : Int) (A1 : Option Addr) (c1 : Nat) (l1 : List ByteArray) (r1 : ByteArray) (r2 : Int) (r3 : Int) (w0 w : World) (hI : IsS92 w0 w g s0_0 s0_1 s0_2) (hB : Below w0.heap.size w0 w) (hr1 : Kd.C Kd.string w A1 l1.length l1) (hc1 : l1.length ≤ c1) (hf1 : ∀ ad, A1 = some ad → 0 < l1.length → ad.block ≠ g) (h : spec_l1Cur_of.f s0_0 s0_1 s0_2 l1 = some (r1, r2, r3)) :
  Calls Try.prog 75 #[.pointer (some ⟨g, 0, none⟩), .slice A1 l1.length c1] w fun e w' => e = .returned (.string r1) ∧ IsS92 w0 w' g s0_0 r2 r3 ∧ Below w0.heap.size w0 w' ∧ KeepBut w w' g none := by
 have HR1 := Aside0.mk hr1
 have HC1 := Aside0.mk hc1
 clear hr1 hc1
 have HI0 := Aside0.mk hI
 have HK := Aside0.mk (KeepBut.refl w g none)
 have HL := Aside0.mk hB.size
 clear hI
 have HW0 := Aside0.mk hB.size
 have HB := Aside0.mk hB
 clear hB
 have H : ((spec_l1Cur_pick.f s0_0 s0_1 s0_2 (l1.length : Int)).bind fun bt351 => (if 0 ≤ bt351.1 then (if bt351.1 < (l1.length : Int) then (some (rdOf ByteArray.empty l1 bt351.1, bt351.2.1, bt351.2.2)) else (none)) else (none))) = some (r1, r2, r3) := h
 clear h
 replace H := bnd_ H
 obtain ⟨⟨t351, t352, t353⟩, A3, H⟩ := H
 replace H := red_ H
 replace H := ifs_ H
 obtain ⟨c4, H⟩ := H
 have c4b0 := decide_eq_true c4
 clear c4
 replace H := ifs_ H
 obtain ⟨c5, H⟩ := H
 have c5b0 := decide_eq_true c5
 clear c5
 simp only [Option.some.injEq, Prod.mk.injEq] at H
 obtain ⟨rfl, rfl, rfl⟩ := H
 go_enter Try.func75, Try.ntmps75
 go_wp2_with (first | ((with_reducible refine gate_callee (f := 74) rfl ?_); refine gl_ 9 Try.func74 #[.pointer (some ⟨g, 0, none⟩), .int .i64 (l1.length : Int)] rfl ma_ ?_; (with_reducible refine (spec_l1Cur_pick.calls g s0_0 s0_1 s0_2 (l1.length : Int) t351 t352 t353 w0 _ ?side1 ?side2 A3.out).mono ?_); (case side1 => exact iS92_0_); (case side2 => exact hs_ (IsS92.ge HI0.out)); rintro e w6 ⟨rfl, hi, hb, hk⟩; refine ⟨_, rfl, ?_⟩; replace HK := Aside0.mk (KeepBut.trans (kp0_) hk (.inl rfl)); replace HB := Aside0.mk (hb); replace HI0 := Aside0.mk (hi); (try clear hb); (try clear hb2); (try clear hk); (try clear hi); have p354 : 0 ≤ (t351 : Int) := oa_; have q354 : t351 < (l1.length : Int) := oa_; obtain ⟨ad354, e354, hx354_0⟩ := Kd.at_string HR1.out t351 p354 q354; cases e354; replace hx354_0 := keep_cell HK.out hx354_0 (by first | (rw [add_block]; exact hf1 _ rfl (by omega)) | exact hf1 _ rfl (by omega) | exact hf1 ad354 rfl (by omega)); replace p354 := eq_true p354; replace q354 := eq_true q354))
 go_ret
 exact ⟨er_, iS92_0_, hs_ (IsS92.ge HI0.out), kp0_⟩

/-! ### spec_l1Cur_recordText: function 93 -/
def spec_l1Cur_recordText.f (s0_0 : List Int) (s0_1 : Int) (s0_2 : Int) : Option (ByteArray × Int × Int) := (spec_l1Cur_of.f s0_0 s0_1 s0_2 (([(⟨#[]⟩ : ByteArray), (⟨#[97]⟩ : ByteArray), (⟨#[114, 101, 99]⟩ : ByteArray), (⟨#[0, 255]⟩ : ByteArray), (⟨#[115, 111, 109, 101, 32, 109, 111, 114, 101, 32, 116, 101, 120, 116, 32, 111, 102, 32, 105, 116]⟩ : ByteArray)] : List ByteArray))).bind fun bt358 => (some (bt358.1, bt358.2.1, bt358.2.2))
set_option maxHeartbeats 8000000 in
set_option maxRecDepth 100000 in
theorem spec_l1Cur_recordText.calls (g : Nat) (s0_0 : List Int) (s0_1 : Int) (s0_2 : Int) (r1 : ByteArray) (r2 : Int) (r3 : Int) (w0 w : World) (hI : IsS92 w0 w g s0_0 s0_1 s0_2) (hB : Below w0.heap.size w0 w) (h : spec_l1Cur_recordText.f s0_0 s0_1 s0_2 = some (r1, r2, r3)) :
  Calls Try.prog 93 #[.pointer (some ⟨g, 0, none⟩)] w fun e w' => e = .returned (.string r1) ∧ IsS92 w0 w' g s0_0 r2 r3 ∧ Below w0.heap.size w0 w' ∧ KeepBut w w' g none := by
 have HI0 := Aside0.mk hI
 have HK := Aside0.mk (KeepBut.refl w g none)
 have HL := Aside0.mk hB.size
 clear hI
 have HW0 := Aside0.mk hB.size
 have HB := Aside0.mk hB
 clear hB
 have H : ((spec_l1Cur_of.f s0_0 s0_1 s0_2 (([(⟨#[]⟩ : ByteArray), (⟨#[97]⟩ : ByteArray), (⟨#[114, 101, 99]⟩ : ByteArray), (⟨#[0, 255]⟩ : ByteArray), (⟨#[115, 111, 109, 101, 32, 109, 111, 114, 101, 32, 116, 101, 120, 116, 32, 111, 102, 32, 105, 116]⟩ : ByteArray)] : List ByteArray))).bind fun bt358 => (some (bt358.1, bt358.2.1, bt358.2.2))) = some (r1, r2, r3) := h
 clear h
 obtain ⟨y355, hy355⟩ : ∃ y_ : List ByteArray, y_ = (([(⟨#[]⟩ : ByteArray), (⟨#[97]⟩ : ByteArray), (⟨#[114, 101, 99]⟩ : ByteArray), (⟨#[0, 255]⟩ : ByteArray), (⟨#[115, 111, 109, 101, 32, 109, 111, 114, 101, 32, 116, 101, 120, 116, 32, 111, 102, 32, 105, 116]⟩ : ByteArray)] : List ByteArray)) := ⟨_, rfl⟩
 replace H : ((spec_l1Cur_of.f s0_0 s0_1 s0_2 y355).bind fun bt358 => (some (bt358.1, bt358.2.1, bt358.2.2))) = some (r1, r2, r3) := by first | (rw [hy355]; with_reducible exact H) | (have H2_ := (Option.bind_some _ _).symm.trans H; rw [hy355]; with_reducible exact H2_) | (have H2_ := (Option.bind_some _ _).symm.trans H; with_reducible exact H2_) | with_reducible exact H | (rw [hy355]; exact H) | exact H
 have Ny355 := Aside0.mk hy355
 clear hy355
 replace H := bnd_ H
 obtain ⟨⟨t358, t359, t360⟩, A2, H⟩ := H
 replace H := red_ H
 simp only [Option.some.injEq, Prod.mk.injEq] at H
 obtain ⟨rfl, rfl, rfl⟩ := H
 go_enter Try.func93, Try.ntmps93
 go_wp2_with (first | ((with_reducible refine gate_dst (N := 4) rfl ?_); refine Kd.R_lit Kd.string _ 9 ?hg (N := 4) ?hd (xs := ([(⟨#[]⟩ : ByteArray), (⟨#[97]⟩ : ByteArray), (⟨#[114, 101, 99]⟩ : ByteArray), (⟨#[0, 255]⟩ : ByteArray), (⟨#[115, 111, 109, 101, 32, 109, 111, 114, 101, 32, 116, 101, 120, 116, 32, 111, 102, 32, 105, 116]⟩ : ByteArray)] : List ByteArray)) (inner := [.string (⟨#[]⟩ : ByteArray), .string (⟨#[97]⟩ : ByteArray), .string (⟨#[114, 101, 99]⟩ : ByteArray), .string (⟨#[0, 255]⟩ : ByteArray), .string (⟨#[115, 111, 109, 101, 32, 109, 111, 114, 101, 32, 116, 101, 120, 116, 32, 111, 102, 32, 105, 116]⟩ : ByteArray)]) (ok := fun _ => True) (okp := fun _ => True) ?hr ?hp (fun _ hk => hk) trivial (Below.refl _ _) (Nat.le_refl _) (by simp) ?_; (case hd => rfl); (case hg => rfl); (case hr => first | (go_simp; done) | (go_simp; rfl)); (case hp => exact (Reps.one (show Kd.M Kd.string _ _ _ (⟨#[]⟩ : ByteArray) [.string (⟨#[]⟩ : ByteArray)] from rfl) (Reps.one (show Kd.M Kd.string _ _ _ (⟨#[97]⟩ : ByteArray) [.string (⟨#[97]⟩ : ByteArray)] from rfl) (Reps.one (show Kd.M Kd.string _ _ _ (⟨#[114, 101, 99]⟩ : ByteArray) [.string (⟨#[114, 101, 99]⟩ : ByteArray)] from rfl) (Reps.one (show Kd.M Kd.string _ _ _ (⟨#[0, 255]⟩ : ByteArray) [.string (⟨#[0, 255]⟩ : ByteArray)] from rfl) (Reps.one (show Kd.M Kd.string _ _ _ (⟨#[115, 111, 109, 101, 32, 109, 111, 114, 101, 32, 116, 101, 120, 116, 32, 111, 102, 32, 105, 116]⟩ : ByteArray) [.string (⟨#[115, 111, 109, 101, 32, 109, 111, 114, 101, 32, 116, 101, 120, 116, 32, 111, 102, 32, 105, 116]⟩ : ByteArray)] from rfl) (Reps.none _ _))))))); intro v356 w3 ho4 hb hg_ hnew_; clear hg_ hnew_; (first | rw [← Ny355.out] at ho4 | (simp only [Int.reduceToNat] at ho4; rw [← Ny355.out] at ho4)); have HO357 := Aside0.mk (Kd.R_lower ho4 (keep_size (w := w) (g := g) (row := none) (kp0_))); replace HK := Aside0.mk (KeepBut.trans (kp0_) (KeepBut.of_below hb g none) (.inl rfl)); replace HB := Aside0.mk (below_step (hs_ (IsS92.ge HI0.out)) hb); replace HI0 := Aside0.mk (IsS92.below (iS92_0_) hb); clear hb ho4; obtain ⟨Ao5, co5, eo5⟩ := Kd.R_slice HO357.out; subst eo5) | ((with_reducible refine gate_callee (f := 75) rfl ?_); refine gl_ 5 Try.func75 #[.pointer (some ⟨g, 0, none⟩), .slice Ao5 y355.length co5] rfl ma_ ?_; (with_reducible refine (spec_l1Cur_of.calls g s0_0 s0_1 s0_2 _ _ y355 t358 t359 t360 w0 _ ?side1 ?side2 ?side3 ?side4 ?side5 A2.out).mono ?_); (case side1 => exact iS92_0_); (case side2 => exact hs_ (IsS92.ge HI0.out)); (case side3 => exact cs_ ((Kd.R_reads' HO357.out).2.2)); (case side4 => exact (Kd.R_reads' HO357.out).2.1); (case side5 => exact far_slice (IsS92.own_ne HI0.out HO357.out (by decide))); rintro e w6 ⟨rfl, hi, hb, hk⟩; refine ⟨_, rfl, ?_⟩; replace HO357 := Aside0.mk (Kd.R_mono (Kd.R_keep (IsS92.apart (show IsS92 w0 _ g s0_0 s0_1 s0_2 from iS92_0_) (kr_ HO357.out) (by decide)) hk (fun _ h => h.2)) (fun _ h => h.1)); replace HK := Aside0.mk (KeepBut.trans (kp0_) hk (.inl rfl)); replace HB := Aside0.mk (hb); replace HI0 := Aside0.mk (hi); (try clear hb); (try clear hb2); (try clear hk); (try clear hi)))
 go_ret
 exact ⟨er_, iS92_0_, hs_ (IsS92.ge HI0.out), kp0_⟩
end Go.Proofs.Ytpdpipfkllfhmaa.QFnTorn
