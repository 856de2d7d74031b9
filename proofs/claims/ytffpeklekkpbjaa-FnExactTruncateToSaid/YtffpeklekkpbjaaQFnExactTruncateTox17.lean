/- Functions that one statement reaches: of each a plain function, and the proof that calls come to it. Conditions: those that each contract names. Written by a program of this repository. -/
import Derived.Test.YtffpeklekkpbjaaVTruncateToa
import Derived.Test.YtffpeklekkpbjaaQFnExactTruncateTox2
import Derived.Test.YtffpeklekkpbjaaQFnExactTruncateTox16
namespace Go.Proofs.Ytffpeklekkpbjaa.QFnExactTruncateTo
open Go.RowKit Go.Proofs.YtffpeklekkpbjaaW.PrintWords Go.Proofs.YtffpeklekkpbjaaW.PrintLast Go.Proofs.YtffpeklekkpbjaaW.PrintMore
attribute [local go_sem] max2_int min2_int max_two min_two max_three min_three max_four min_four Go.Proofs.YtffpeklekkpbjaaW.PrintMore2.isSome_setCell   -- for this text's walks alone
set_option linter.unusedVariables false
set_option linter.unusedSimpArgs false

/-! ### impl_segmentOf: function 104 -/
def impl_segmentOf.l0 : Nat → Int → List (S43) → Int → Int → Int → ByteArray → List (S89) → Option (Int × ByteArray × (List (S89)))
 | 0, _, _, _, _, _, _, _ => none
 | k + 1, x6, x12, x13, x14, x324000, x324001, x324002 => if x14 < x13 then (if 0 ≤ x14 then (if x14 < (x12.length : Int) then (if x14 = 0 then (if x324002.length < 8796093022208 then ((impl_batchBytes.f k ((rd_T43 x12 x14).f0) ((rd_T43 x12 x14).f1) ((rd_T43 x12 x14).f2) ((rd_T43 x12 x14).f3) ((rd_T43 x12 x14).f4)).bind fun t329 => (if x324001.size + t329.size ≤ 9223372036854775807 then (impl_segmentOf.l0 k (x324001.size : Int) x12 x13 (wrap64 (x14 + 1)) ((rd_T43 x12 x14).f0) (x324001 ++ t329) (x324002 ++ [(⟨(rd_T43 x12 x14).f0, (x324001.size : Int)⟩ : S89)])) else (none))) else (none)) else (if (wrap64 ((x324001.size : Int) - x6)) ≥ 40 then (if x324002.length < 8796093022208 then ((impl_batchBytes.f k ((rd_T43 x12 x14).f0) ((rd_T43 x12 x14).f1) ((rd_T43 x12 x14).f2) ((rd_T43 x12 x14).f3) ((rd_T43 x12 x14).f4)).bind fun t333 => (if x324001.size + t333.size ≤ 9223372036854775807 then (impl_segmentOf.l0 k (x324001.size : Int) x12 x13 (wrap64 (x14 + 1)) x324000 (x324001 ++ t333) (x324002 ++ [(⟨(rd_T43 x12 x14).f0, (x324001.size : Int)⟩ : S89)])) else (none))) else (none)) else ((impl_batchBytes.f k ((rd_T43 x12 x14).f0) ((rd_T43 x12 x14).f1) ((rd_T43 x12 x14).f2) ((rd_T43 x12 x14).f3) ((rd_T43 x12 x14).f4)).bind fun t334 => (if x324001.size + t334.size ≤ 9223372036854775807 then (impl_segmentOf.l0 k x6 x12 x13 (wrap64 (x14 + 1)) x324000 (x324001 ++ t334) x324002) else (none))))) else (none)) else (none)) else (some (x324000, x324001, x324002))
def impl_segmentOf.f (k : Nat) (l0 : List (S43)) (a1 : Int) : Option (Int × ByteArray × (List (S89))) := impl_segmentOf.l0 k 0 l0 (l0.length : Int) 0 a1 (⟨#[]⟩ : ByteArray) ([] : List (S89))
theorem impl_segmentOf.mono_l : ∀ k, (∀ y0 y1 y2 y3 y4 y5 y6, LeO (impl_segmentOf.l0 k y0 y1 y2 y3 y4 y5 y6) (impl_segmentOf.l0 (k + 1) y0 y1 y2 y3 y4 y5 y6))
 | 0 => fun _ _ _ _ _ _ _ r h => by simp [impl_segmentOf.l0] at h
 | k + 1 => by
  have ih0 := impl_segmentOf.mono_l k
  ·intro y0 y1 y2 y3 y4 y5 y6
   unfold impl_segmentOf.l0
   repeat' first
   | (with_reducible first | apply ih0 | apply impl_batchBytes.mono | exact LeO.refl _ | exact LeO.none _ | refine LeO.ite ?_ ?_ | refine LeO.bind ?_ (fun _ => ?_))
theorem impl_segmentOf.mono : ∀ a0 a1 k, LeO (impl_segmentOf.f k a0 a1) (impl_segmentOf.f (k + 1) a0 a1) := by
 intro a0 a1 k
 have ih0 := impl_segmentOf.mono_l k
 unfold impl_segmentOf.f
 repeat' first
   | (with_reducible first | apply ih0 | apply impl_batchBytes.mono | exact LeO.refl _ | exact LeO.none _ | refine LeO.ite ?_ ?_ | refine LeO.bind ?_ (fun _ => ?_))
set_option maxHeartbeats 8000000 in
set_option maxRecDepth 100000 in
theorem impl_segmentOf.calls (k : Nat) (A0 : Option Addr) (c0 : Nat) (l0 : List (S43)) (a1 : Int) (r1 : Int) (r2 : ByteArray) (r3 : List (S89)) (w : World) (hr0 : Kd.C k43 w A0 l0.length l0) (hc0 : l0.length ≤ c0) (h : impl_segmentOf.f k l0 a1 = some (r1, r2, r3)) :
  Calls Try.prog 104 #[.slice A0 l0.length c0, .int .i64 a1] w fun e w' => ∃ v2_ : Value, e = .returned (.agg #[.int .i64 r1, .string r2, v2_]) ∧ Kd.R k89 89 w' w.heap.size (fun _ => True) v2_ r3 ∧ Below w.heap.size w w' := by
 have hu65 := Try.underlying65
 have hu43 := Try.underlying43
 have hu89 := Try.underlying89
 have HR0 := Aside0.mk hr0
 have HC0 := Aside0.mk hc0
 clear hr0 hc0
 have HB := Aside0.mk (Below.refl w.heap.size w)
 have H : (impl_segmentOf.l0 k 0 l0 (l0.length : Int) 0 a1 (⟨#[]⟩ : ByteArray) ([] : List (S89))) = some (r1, r2, r3) := h
 clear h
 have H' := Aside0.mk H
 clear H
 go_enter Try.func104, Try.ntmps104
 go_wp2_with (first | ((with_reducible refine gate_dst (N := 4) rfl ?_); refine box_event ?hg (N := 4) ?hd (cs := #[.int .i64 0, .string (⟨#[]⟩ : ByteArray), .slice none 0 0]) (t := 65) ?hr ?_; (case hd => rfl); (case hg => rfl); (case hr => first | (go_simp; done) | (go_simp; rfl)); intro gb322 hg w3 hbox hb; have BK322 := Aside0.mk (hbox); have GE322 := ge_ hg; replace HB := nb_ hb; clear hb hbox hg) | ((with_reducible refine gate_dst (N := 5) rfl ?_); refine box_event ?hg (N := 5) ?hd (cs := #[.int .i64 0, .string (⟨#[]⟩ : ByteArray), .slice none 0 0]) (t := 65) ?hr ?_; (case hd => rfl); (case hg => rfl); (case hr => first | (go_simp; done) | (go_simp; rfl)); intro gb323 hg w4 hbox hb; have BK323 := Aside0.mk (hbox); have GE323 := ge1_ hg GE322; replace HB := nc_ GE322 hb; have NB322_323 := Aside0.mk ((by rw [hg]; exact Nat.ne_of_lt (blk_lt (g := gb322) (o := .cells #[.int .i64 0, .string (⟨#[]⟩ : ByteArray), .slice none 0 0] 65 (0, 0)) (kb_ BK322.out)) : gb322 ≠ gb323)); have NB323_322 := Aside0.mk ((by rw [hg]; exact Nat.ne_of_gt (blk_lt (g := gb322) (o := .cells #[.int .i64 0, .string (⟨#[]⟩ : ByteArray), .slice none 0 0] 65 (0, 0)) (kb_ BK322.out)) : gb323 ≠ gb322)); replace BK322 := Aside0.mk (blk_below (g := gb322) (o := .cells #[.int .i64 0, .string (⟨#[]⟩ : ByteArray), .slice none 0 0] 65 (0, 0)) (kb_ BK322.out) hb); clear hb hbox hg; have hnb5 := NB323_322.out; have hnc5 := NB322_323.out; obtain ⟨hcz6_0, hcz6_1, hcz6_2, hfz6_0, hfz6_1, hfz6_2⟩ := cf3_ BK323.out))
 go_loopg [6, 14] k (fun kq v6 v14 w' => ∃ (x6_1 : Int) (x14_1 : Int) (x324000_1 : Int) (x324001_1 : ByteArray) (x324002_1 : List (S89)) (u324002 : Value), v6 = .int .i64 x6_1 ∧ v14 = .int .i64 x14_1 ∧ Aside0 (impl_segmentOf.l0 kq x6_1 l0 (l0.length : Int) x14_1 x324000_1 x324001_1 x324002_1 = some (r1, r2, r3)) ∧ Aside0 (kq ≤ k) ∧ Aside0 (Kd.R k89 89 w' w.heap.size (fun _ => True) u324002 x324002_1) ∧ Aside0 (w'.heap[gb322]? = some (.cells #[.int .i64 0, .string (⟨#[]⟩ : ByteArray), (.slice none 0 0)] 65 (0, 0))) ∧ Aside0 (w'.heap[gb323]? = some (.cells #[.int .i64 x324000_1, .string x324001_1, u324002] 65 (0, 0))) ∧ Aside0 (Below w.heap.size w w'))
 case atStart => exact ⟨(0), (0), (a1), ((⟨#[]⟩ : ByteArray)), (([] : List (S89))), (.slice none 0 0), sr_, sr_, H', ⟨Nat.le_refl _⟩, ⟨ni_⟩, ⟨uf_ BK322 NB322_323.out⟩, ⟨up_ BK323⟩, ⟨hs2_ GE322.out GE323.out⟩⟩
 case round =>
  clear H'
  try clear hcz6_0
  try clear hcz6_1
  try clear hcz6_2
  try clear hfz6_0
  try clear hfz6_1
  try clear hfz6_2
  obtain ⟨x6_1, x14_1, x324000_1, x324001_1, x324002_1, u324002, rfl, rfl, HA, HK1, HO_324002, BK322, BK323, HB⟩ := hrel
  cases gk with
  | zero => exact absurd HA.out (by simp [impl_segmentOf.l0])
  | succ k1 =>
   have H := HA.out
   clear HA
   simp only [impl_segmentOf.l0] at H
   replace H := ite_ H
   obtain ⟨c7, H⟩ | ⟨c7, H⟩ := H
   rotate_left
   ·have c7b0 := decide_eq_false c7
    clear c7
    simp only [Option.some.injEq, Prod.mk.injEq] at H
    obtain ⟨rfl, rfl, rfl⟩ := H
    have hnb56 := NB323_322.out
    have hnc56 := NB322_323.out
    obtain ⟨hcz57_0, hcz57_1, hcz57_2, hfz57_0, hfz57_1, hfz57_2⟩ := cf3_ BK323.out
    obtain ⟨hcz58_0, hcz58_1, hcz58_2, hfz58_0, hfz58_1, hfz58_2⟩ := cf3_ BK322.out
    obtain ⟨Ao59, co59, eo59⟩ := Kd.R_slice HO_324002.out
    subst eo59
    go_wp2
    refine bodyPost_ret (results_cell_row rfl _ _ gb322 65 #[.int .i64 x324000_1, .string x324001_1, .slice Ao59 x324002_1.length co59] (0, 0) _ rfl (up_ BK322) Try.underlying65 rfl (by kernel_rfl)) rfl ?_
    exact ⟨_, er_, Kd.R_mono (rF_ (Kd.R_types HO_324002.out BK322.out (by decide))) (fun _ hk => trivial), hs2_ GE322.out GE323.out⟩
   have c7b0 := decide_eq_true c7
   clear c7
   replace H := ifs_ H
   obtain ⟨c8, H⟩ := H
   have c8b0 := decide_eq_true c8
   clear c8
   replace H := ifs_ H
   obtain ⟨c9, H⟩ := H
   have c9b0 := decide_eq_true c9
   clear c9
   replace H := ite_ H
   obtain ⟨c10, H⟩ | ⟨c10, H⟩ := H
   ·have c10b0 : (x14_1 == 0) = true := beq_iff_eq.mpr c10
    have c10b1 : (x14_1 != 0) = false := bne_eq_false_iff_eq.mpr c10
    clear c10
    replace H := ifs_ H
    obtain ⟨c11, H⟩ := H
    have LMc11 := Aside0.mk c11
    clear c11
    obtain ⟨y326, hy326⟩ : ∃ y_ : List (S89), y_ = (x324002_1 ++ [(⟨(rd_T43 l0 x14_1).f0, (x324001_1.size : Int)⟩ : S89)]) := ⟨_, rfl⟩
    replace H : ((impl_batchBytes.f k1 ((rd_T43 l0 x14_1).f0) ((rd_T43 l0 x14_1).f1) ((rd_T43 l0 x14_1).f2) ((rd_T43 l0 x14_1).f3) ((rd_T43 l0 x14_1).f4)).bind fun t329 => (if x324001_1.size + t329.size ≤ 9223372036854775807 then (impl_segmentOf.l0 k1 (x324001_1.size : Int) l0 (l0.length : Int) (wrap64 (x14_1 + 1)) ((rd_T43 l0 x14_1).f0) (x324001_1 ++ t329) y326) else (none))) = some (r1, r2, r3) := by first | (rw [hy326]; with_reducible exact H) | (have H2_ := (Option.bind_some _ _).symm.trans H; rw [hy326]; with_reducible exact H2_) | (have H2_ := (Option.bind_some _ _).symm.trans H; with_reducible exact H2_) | with_reducible exact H | (rw [hy326]; exact H) | exact H
    have Ny326 := Aside0.mk hy326
    clear hy326
    replace H := bnd_ H
    obtain ⟨t329, A12, H⟩ := H
    replace H := ifs_ H
    obtain ⟨c13, H⟩ := H
    have c13b0 := eq_true c13
    have c13b1 := decide_eq_true c13
    try have c13b2 : (9223372036854775807 < x324001_1.size + t329.size) = False := eq_false (Nat.not_lt.2 c13)
    try have c13w := cw_ c13
    (try rw [c13w] at c7b0)
    (try rw [c13w] at c8b0)
    (try rw [c13w] at c9b0)
    (try rw [c13w] at c10b0)
    have H' := Aside0.mk H
    clear H
    have p324 : 0 ≤ (x14_1 : Int) := oa_
    have q324 : x14_1 < (l0.length : Int) := oa_
    obtain ⟨ad324, A324_4, c324_4, e324, hx324_0, hx324_1, hx324_2, hx324_3, hx324_4, hl324_4, hi324_4⟩ := at_T43 HR0.out x14_1 p324 q324
    cases e324
    replace hx324_0 := pc_ HB.out hx324_0
    replace hx324_1 := pc_ HB.out hx324_1
    replace hx324_2 := pc_ HB.out hx324_2
    replace hx324_3 := pc_ HB.out hx324_3
    replace hx324_4 := pc_ HB.out hx324_4
    have HR324_4 := Aside0.mk hi324_4
    have HC324_4 := Aside0.mk hl324_4
    clear hi324_4 hl324_4
    replace p324 := eq_true p324
    replace q324 := eq_true q324
    try go_wp2_with (first | ((with_reducible refine gate_dst (N := 8) rfl ?_); refine bq_ (N := 8) #[.int .i64 0, .int .i64 0, .int .i64 0, .int .i64 0, .slice none 0 0] 43 ?_; intro gb325 hg w14 BK325 hb; replace HO_324002 := rB_ HO_324002 hb; have GE325 := ge2_ hg GE322 GE323; replace HB := nc2_ GE322 GE323 hb; have NB322_325 := Aside0.mk ((by rw [hg]; exact Nat.ne_of_lt (blk_lt (g := gb322) (o := .cells #[.int .i64 0, .string (⟨#[]⟩ : ByteArray), .slice none 0 0] 65 (0, 0)) (kb_ BK322.out)) : gb322 ≠ gb325)); have NB325_322 := Aside0.mk ((by rw [hg]; exact Nat.ne_of_gt (blk_lt (g := gb322) (o := .cells #[.int .i64 0, .string (⟨#[]⟩ : ByteArray), .slice none 0 0] 65 (0, 0)) (kb_ BK322.out)) : gb325 ≠ gb322)); replace BK322 := Aside0.mk (blk_below (g := gb322) (o := .cells #[.int .i64 0, .string (⟨#[]⟩ : ByteArray), .slice none 0 0] 65 (0, 0)) (kb_ BK322.out) hb); have NB323_325 := nl_ BK323 hg; have NB325_323 := ng_ BK323 hg; replace BK323 := bK_ BK323 hb; clear hb hg; have hnb15 := NB325_322.out; have hnc15 := NB322_325.out; have hnb16 := NB325_323.out; have hnc16 := NB323_325.out; obtain ⟨hcz17_0, hcz17_1, hcz17_2, hcz17_3, hcz17_4, hfz17_0, hfz17_1, hfz17_2, hfz17_3, hfz17_4⟩ := cf5_ BK325.out; have hnb18 := NB323_322.out; have hnc18 := NB322_323.out; obtain ⟨hcz19_0, hcz19_1, hcz19_2, hfz19_0, hfz19_1, hfz19_2⟩ := cf3_ BK323.out) | ((with_reducible refine gate_builtin (b := .append) (xs := #[.tmp 36, .tmp 41]) rfl ?_); at_builtin; refine Kd.R_append k89 (w0 := w) w.heap.size rfl (.tmp 36) (.tmp 41) 63 89 (.agg #[(.int .i64 0), (.int .i64 0)]) 16 rfl Try.underlying63 info89 rfl (by decide) (by omega) u324002 x324002_1 (⟨(rd_T43 l0 x14_1).f0, (x324001_1.size : Int)⟩ : S89) [.int .i64 ((rd_T43 l0 x14_1).f0), .int .i64 (x324001_1.size : Int)] (fun _ => True) (fun _ => False) rfl (by first | (go_simp; done) | (go_simp; rfl)) ?aP (fun _ hk => hk.elim) ?aF ?aO ?aB ?aS ?aL ?_; (case aP => exact k89_mkM _ _ _ (⟨(rd_T43 l0 x14_1).f0, (x324001_1.size : Int)⟩ : S89)); (case aB => exact (hs3_ GE322.out GE323.out GE325.out)); (case aF => exact (fun _ _ => trivial)); (case aO => exact (rF_ (Kd.R_mono (Kd.R_far (p := ⟨gb323, 0, none⟩) (Kd.R_far (p := ⟨gb325, 4, none⟩) (Kd.R_far (p := ⟨gb325, 3, none⟩) (Kd.R_far (p := ⟨gb325, 2, none⟩) (Kd.R_far (p := ⟨gb325, 1, none⟩) (Kd.R_far (p := ⟨gb325, 0, none⟩) (Kd.R_types (Kd.R_types HO_324002.out BK325.out (by decide)) BK323.out (by decide)) (fun _ hk => hk.1.2) (.int .i64 ((rd_T43 l0 x14_1).f0))) (fun _ hk => hk.1.2) (.int .i64 ((rd_T43 l0 x14_1).f1))) (fun _ hk => hk.1.2) (.int .i64 ((rd_T43 l0 x14_1).f2))) (fun _ hk => hk.1.2) (.int .i64 ((rd_T43 l0 x14_1).f3))) (fun _ hk => hk.1.2) (.slice A324_4 ((rd_T43 l0 x14_1).f4).length c324_4)) (fun _ hk => hk.2) (.int .i64 ((rd_T43 l0 x14_1).f0))) (fun _ hk => trivial)))); (case aS => exact (below_size (hs3_ GE322.out GE323.out GE325.out))); (case aL => have := LMc11.out; omega); intro v327 w20 ho hb hg hat; rw [← Ny326.out] at ho; replace BK322 := Aside0.mk (blk_grown (g := gb322) (o := .cells #[.int .i64 0, .string (⟨#[]⟩ : ByteArray), .slice none 0 0] 65 (0, 0)) (ug_ BK322 NB322_323.out NB322_325.out) hg (Kd.R_ne HO_324002.out BK322.out (by decide))); replace BK323 := Aside0.mk (blk_grown (g := gb323) (o := .cells #[.int .i64 ((rd_T43 l0 x14_1).f0), .string x324001_1, u324002] 65 (0, 0)) (by (with_reducible repeat (first | refine blk_drewN ?_ _ | refine blk_drew ?_ | refine blk_alloc ?_ _)); refine blk_put (cs := #[.int .i64 x324000_1, .string x324001_1, u324002]) ?_ 0 _ rfl; (with_reducible repeat (first | refine blk_drewN ?_ _ | refine blk_drew ?_ | refine blk_alloc ?_ _)); refine blk_far ?_ NB323_325.out _; (with_reducible repeat (first | refine blk_drewN ?_ _ | refine blk_drew ?_ | refine blk_alloc ?_ _)); refine blk_far ?_ NB323_325.out _; (with_reducible repeat (first | refine blk_drewN ?_ _ | refine blk_drew ?_ | refine blk_alloc ?_ _)); refine blk_far ?_ NB323_325.out _; (with_reducible repeat (first | refine blk_drewN ?_ _ | refine blk_drew ?_ | refine blk_alloc ?_ _)); refine blk_far ?_ NB323_325.out _; (with_reducible repeat (first | refine blk_drewN ?_ _ | refine blk_drew ?_ | refine blk_alloc ?_ _)); refine blk_far ?_ NB323_325.out _; (with_reducible repeat (first | refine blk_drewN ?_ _ | refine blk_drew ?_ | refine blk_alloc ?_ _)); exact BK323.out) hg (Kd.R_ne HO_324002.out BK323.out (by decide))); replace BK325 := Aside0.mk (blk_grown (g := gb325) (o := .cells #[.int .i64 ((rd_T43 l0 x14_1).f0), .int .i64 ((rd_T43 l0 x14_1).f1), .int .i64 ((rd_T43 l0 x14_1).f2), .int .i64 ((rd_T43 l0 x14_1).f3), .slice A324_4 ((rd_T43 l0 x14_1).f4).length c324_4] 43 (0, 0)) (by (with_reducible repeat (first | refine blk_drewN ?_ _ | refine blk_drew ?_ | refine blk_alloc ?_ _)); refine blk_far ?_ NB325_323.out _; (with_reducible repeat (first | refine blk_drewN ?_ _ | refine blk_drew ?_ | refine blk_alloc ?_ _)); refine blk_put (cs := #[.int .i64 ((rd_T43 l0 x14_1).f0), .int .i64 ((rd_T43 l0 x14_1).f1), .int .i64 ((rd_T43 l0 x14_1).f2), .int .i64 ((rd_T43 l0 x14_1).f3), .slice none 0 0]) ?_ 4 _ rfl; (with_reducible repeat (first | refine blk_drewN ?_ _ | refine blk_drew ?_ | refine blk_alloc ?_ _)); refine blk_put (cs := #[.int .i64 ((rd_T43 l0 x14_1).f0), .int .i64 ((rd_T43 l0 x14_1).f1), .int .i64 ((rd_T43 l0 x14_1).f2), .int .i64 0, .slice none 0 0]) ?_ 3 _ rfl; (with_reducible repeat (first | refine blk_drewN ?_ _ | refine blk_drew ?_ | refine blk_alloc ?_ _)); refine blk_put (cs := #[.int .i64 ((rd_T43 l0 x14_1).f0), .int .i64 ((rd_T43 l0 x14_1).f1), .int .i64 0, .int .i64 0, .slice none 0 0]) ?_ 2 _ rfl; (with_reducible repeat (first | refine blk_drewN ?_ _ | refine blk_drew ?_ | refine blk_alloc ?_ _)); refine blk_put (cs := #[.int .i64 ((rd_T43 l0 x14_1).f0), .int .i64 0, .int .i64 0, .int .i64 0, .slice none 0 0]) ?_ 1 _ rfl; (with_reducible repeat (first | refine blk_drewN ?_ _ | refine blk_drew ?_ | refine blk_alloc ?_ _)); refine blk_put (cs := #[.int .i64 0, .int .i64 0, .int .i64 0, .int .i64 0, .slice none 0 0]) ?_ 0 _ rfl; (with_reducible repeat (first | refine blk_drewN ?_ _ | refine blk_drew ?_ | refine blk_alloc ?_ _)); exact BK325.out) hg (Kd.R_ne HO_324002.out BK325.out (by decide))); replace HB := Aside0.mk (hb); have HO328 := Aside0.mk (ho); clear HO_324002; clear ho hb hg hat; obtain ⟨Ao21, co21, eo21⟩ := Kd.R_slice HO328.out; subst eo21; obtain ⟨hcz22_0, hcz22_1, hcz22_2, hfz22_0, hfz22_1, hfz22_2⟩ := cf3_ BK323.out))
    have n0_ : Aside0 (Kd.R k89 89 (w20.setCell ⟨gb323, 2, none⟩ (.slice Ao21 y326.length co21)) w.heap.size (fun _ => True) (.slice Ao21 y326.length co21) y326) := ⟨rF_ (Kd.R_mono (Kd.R_far (p := ⟨gb323, 2, none⟩) (Kd.R_types HO328.out BK323.out (by decide)) (fun _ hk => hk.2) (.slice Ao21 y326.length co21)) (fun _ hk => trivial))⟩
    have n1_ : Aside0 ((w20.setCell ⟨gb323, 2, none⟩ (.slice Ao21 y326.length co21)).heap[gb322]? = some (.cells #[.int .i64 0, .string (⟨#[]⟩ : ByteArray), .slice none 0 0] 65 (0, 0))) := ⟨uf_ BK322 NB322_323.out⟩
    have n2_ : Aside0 ((w20.setCell ⟨gb323, 2, none⟩ (.slice Ao21 y326.length co21)).heap[gb323]? = some (.cells #[.int .i64 ((rd_T43 l0 x14_1).f0), .string x324001_1, .slice Ao21 y326.length co21] 65 (0, 0))) := ⟨up_ BK323⟩
    have n3_ : Aside0 ((w20.setCell ⟨gb323, 2, none⟩ (.slice Ao21 y326.length co21)).heap[gb325]? = some (.cells #[.int .i64 ((rd_T43 l0 x14_1).f0), .int .i64 ((rd_T43 l0 x14_1).f1), .int .i64 ((rd_T43 l0 x14_1).f2), .int .i64 ((rd_T43 l0 x14_1).f3), .slice A324_4 ((rd_T43 l0 x14_1).f4).length c324_4] 43 (0, 0))) := ⟨uf_ BK325 NB325_323.out⟩
    have n4_ : Aside0 (Below w.heap.size w (w20.setCell ⟨gb323, 2, none⟩ (.slice Ao21 y326.length co21))) := ⟨hs3_ GE322.out GE323.out GE325.out⟩
    (try clear HO328)
    (try clear BK322)
    (try clear BK323)
    (try clear BK325)
    (try clear HB)
    generalize (w20.setCell ⟨gb323, 2, none⟩ (.slice Ao21 y326.length co21)) = w23 at n0_ n1_ n2_ n3_ n4_ ⊢
    have HO328 := n0_
    have BK322 := n1_
    have BK323 := n2_
    have BK325 := n3_
    have HB := n4_
    clear n0_ n1_ n2_ n3_ n4_
    replace HO328 := qR_ HO328
    replace BK322 := qK_ BK322
    replace BK323 := qK_ BK323
    replace BK325 := qK_ BK325
    replace HB := qH_ HB
    refine start_ (n := 7) (S := fun w' => w'.cell? ⟨gb323, 0, none⟩ = some (.int .i64 ((rd_T43 l0 x14_1).f0)) ∧ w'.cell? ⟨gb323, 1, none⟩ = some (.string x324001_1) ∧ w'.cell? ⟨gb323, 2, none⟩ = some (.slice Ao21 y326.length co21) ∧ w'.cell? ⟨gb325, 0, none⟩ = some (.int .i64 ((rd_T43 l0 x14_1).f0)) ∧ w'.cell? ⟨gb325, 1, none⟩ = some (.int .i64 ((rd_T43 l0 x14_1).f1)) ∧ w'.cell? ⟨gb325, 2, none⟩ = some (.int .i64 ((rd_T43 l0 x14_1).f2)) ∧ w'.cell? ⟨gb325, 3, none⟩ = some (.int .i64 ((rd_T43 l0 x14_1).f3)) ∧ w'.cell? ⟨gb325, 4, none⟩ = some (.slice A324_4 ((rd_T43 l0 x14_1).f4).length c324_4)) (ds := [6]) #[false, false, false, false, false, false, false] (by kernel_rfl) rfl rfl ⟨bt_ BK323 0, bt_ BK323 1, bt_ BK323 2, bt_ BK325 0, bt_ BK325 1, bt_ BK325 2, bt_ BK325 3, bt_ BK325 4⟩ (fun hHeld => ?_)
    generalize w23.drew = w24 at HO328 BK322 BK323 BK325 HB hHeld ⊢
    refine pure_ (i := 0) (N := some 45) (v := ?_) (a' := ?_) #[true, false, false, false, false, false, false] rfl rfl (by kernel_rfl) (fun _ _ _ h => h) (Or.inl ⟨by rfl, ?_⟩) ?_ ?_
    rotate_left
    ·intro w'
     go_simp
     with_reducible rfl
    rotate_left
    ·simp only [Act.put, List.setIfInBounds_toArray, List.set_cons_zero, List.set_cons_succ, i64_w, i32_w]
     rfl
    refine take_ (i := 1) (N := some 46) (v := ?_) (a' := ?_) #[true, true, false, false, false, false, false] rfl rfl (by kernel_rfl) (fun _ _ _ h => h) (Or.inl ⟨by rfl, ?_⟩) hHeld ?_ ?_
    rotate_left
    ·rintro w' ⟨s0, s1, s2, s3, s4, s5, s6, s7⟩
     go_simp
     with_reducible rfl
    rotate_left
    ·simp only [Act.put, List.setIfInBounds_toArray, List.set_cons_zero, List.set_cons_succ, i64_w, i32_w]
     rfl
    refine take_ (i := 2) (N := some 47) (v := ?_) (a' := ?_) #[true, true, true, false, false, false, false] rfl rfl (by kernel_rfl) (fun _ _ _ h => h) (Or.inl ⟨by rfl, ?_⟩) hHeld ?_ ?_
    rotate_left
    ·rintro w' ⟨s0, s1, s2, s3, s4, s5, s6, s7⟩
     go_simp
     with_reducible rfl
    rotate_left
    ·simp only [Act.put, List.setIfInBounds_toArray, List.set_cons_zero, List.set_cons_succ, i64_w, i32_w]
     rfl
    refine one_ (i := 3) (N := some 48) #[true, true, true, true, false, false, false] rfl rfl (by kernel_rfl) (by decide) (fun K hK => ?_)
    refine gs_ Try.func84 #[.agg #[.int .i64 ((rd_T43 l0 x14_1).f0), .int .i64 ((rd_T43 l0 x14_1).f1), .int .i64 ((rd_T43 l0 x14_1).f2), .int .i64 ((rd_T43 l0 x14_1).f3), .slice A324_4 ((rd_T43 l0 x14_1).f4).length c324_4]] rfl ma_ ?_
    with_reducible refine (impl_batchBytes.calls k1 ((rd_T43 l0 x14_1).f0) ((rd_T43 l0 x14_1).f1) ((rd_T43 l0 x14_1).f2) ((rd_T43 l0 x14_1).f3) _ _ ((rd_T43 l0 x14_1).f4) t329 _ ?side1 ?side2 A12.out).mono ?_
    (case side1 => exact cs_ ((Kd.C_below HR324_4.out HB.out)))
    (case side2 => exact HC324_4.out)
    rintro e w25 ⟨rfl, hb⟩
    refine ⟨_, rfl, ?_⟩
    replace HO328 := rB_ HO328 hb
    replace BK322 := Aside0.mk (blk_below (g := gb322) (o := .cells #[.int .i64 0, .string (⟨#[]⟩ : ByteArray), .slice none 0 0] 65 (0, 0)) (kb_ BK322.out) hb)
    replace BK323 := bK_ BK323 hb
    replace BK325 := bK_ BK325 hb
    replace HB := nc3_ GE322 GE323 GE325 hb
    (try clear hb)
    (try clear hb2)
    (try clear hk)
    (try clear hi)
    refine hK.out _ _ ⟨bt_ BK323 0, bt_ BK323 1, bt_ BK323 2, bt_ BK325 0, bt_ BK325 1, bt_ BK325 2, bt_ BK325 3, bt_ BK325 4⟩ (fun hHeld => ?_)
    clear hK K
    refine no_ ?_
    refine pure_ (i := 4) (N := some 49) (v := ?_) (a' := ?_) #[true, true, true, true, true, false, false] rfl rfl (by kernel_rfl) (fun _ _ _ h => h) (Or.inl ⟨by rfl, ?_⟩) ?_ ?_
    rotate_left
    ·intro w'
     go_simp
     with_reducible rfl
    rotate_left
    ·simp only [Act.put, List.setIfInBounds_toArray, List.set_cons_zero, List.set_cons_succ, i64_w, i32_w]
     rfl
    refine pure_ (i := 5) (N := some 50) (v := ?_) (a' := ?_) #[true, true, true, true, true, true, false] rfl rfl (by kernel_rfl) (fun _ _ _ h => h) (Or.inl ⟨by rfl, ?_⟩) ?_ ?_
    rotate_left
    ·intro w'
     go_simp
     with_reducible rfl
    rotate_left
    ·simp only [Act.put, List.setIfInBounds_toArray, List.set_cons_zero, List.set_cons_succ, i64_w, i32_w]
     rfl
    refine last_ (i := 6) (N := none) #[true, true, true, true, true, true, true] rfl rfl (by kernel_rfl) (by decide) (fun K hK => ?_)
    have hs26 : w25.cell? ⟨gb323, 1, none⟩ = some (.string x324001_1) := bt_ BK323 1
    have hfs26 := blk_frozen BK323.out 1
    have hns26_0 := NB322_323.out
    have hns26_2 := NB325_323.out
    have hms26_0 := NB323_322.out
    have hms26_2 := NB323_325.out
    refine skip_ (w1 := ?_) (by rfl) rfl ?_ ?_
    rotate_left
    ·go_simp
     rfl
    refine hK.out _ _ ?_
    clear hK K
    refine done_ (by kernel_rfl) ?_
    try go_wp2
    go_roundg k1
    case measure => have := HK1.out; omega
    case rel => exact ⟨((x324001_1.size : Int)), (wrap64 (x14_1 + 1)), ((rd_T43 l0 x14_1).f0), (x324001_1 ++ t329), (y326), (.slice Ao21 y326.length co21), sr_, sr_, H', ⟨by have := HK1.out; omega⟩, ⟨rF_ (Kd.R_mono (Kd.R_far (p := ⟨gb323, 1, none⟩) (Kd.R_types HO328.out BK323.out (by decide)) (fun _ hk => hk.2) (.string (x324001_1 ++ t329))) (fun _ hk => trivial))⟩, ⟨uf_ BK322 NB322_323.out⟩, ⟨up_ BK323⟩, ⟨hs3_ GE322.out GE323.out GE325.out⟩⟩
   have c10b0 : (x14_1 == 0) = false := beq_eq_false_iff_ne.mpr c10
   have c10b1 : (x14_1 != 0) = true := bne_iff_ne.mpr c10
   replace H := ite_ H
   obtain ⟨c27, H⟩ | ⟨c27, H⟩ := H
   rotate_left
   ·have c27b0 := dne_ c27
    clear c27
    replace H := bnd_ H
    obtain ⟨t334, A44, H⟩ := H
    replace H := ifs_ H
    obtain ⟨c45, H⟩ := H
    have c45b0 := eq_true c45
    have c45b1 := decide_eq_true c45
    try have c45b2 : (9223372036854775807 < x324001_1.size + t334.size) = False := eq_false (Nat.not_lt.2 c45)
    try have c45w := cw_ c45
    (try rw [c45w] at c7b0)
    (try rw [c45w] at c8b0)
    (try rw [c45w] at c9b0)
    (try rw [c45w] at c10b0)
    (try rw [c45w] at c13b0)
    (try rw [c45w] at c27b0)
    (try rw [c45w] at c30b0)
    have H' := Aside0.mk H
    clear H
    have p324 : 0 ≤ (x14_1 : Int) := oa_
    have q324 : x14_1 < (l0.length : Int) := oa_
    obtain ⟨ad324, A324_4, c324_4, e324, hx324_0, hx324_1, hx324_2, hx324_3, hx324_4, hl324_4, hi324_4⟩ := at_T43 HR0.out x14_1 p324 q324
    cases e324
    replace hx324_0 := pc_ HB.out hx324_0
    replace hx324_1 := pc_ HB.out hx324_1
    replace hx324_2 := pc_ HB.out hx324_2
    replace hx324_3 := pc_ HB.out hx324_3
    replace hx324_4 := pc_ HB.out hx324_4
    have HR324_4 := Aside0.mk hi324_4
    have HC324_4 := Aside0.mk hl324_4
    clear hi324_4 hl324_4
    replace p324 := eq_true p324
    replace q324 := eq_true q324
    try go_wp2_with (first | ((with_reducible refine gate_dst (N := 8) rfl ?_); refine bq_ (N := 8) #[.int .i64 0, .int .i64 0, .int .i64 0, .int .i64 0, .slice none 0 0] 43 ?_; intro gb325 hg w46 BK325 hb; replace HO_324002 := rB_ HO_324002 hb; have GE325 := ge2_ hg GE322 GE323; replace HB := nc2_ GE322 GE323 hb; have NB322_325 := Aside0.mk ((by rw [hg]; exact Nat.ne_of_lt (blk_lt (g := gb322) (o := .cells #[.int .i64 0, .string (⟨#[]⟩ : ByteArray), .slice none 0 0] 65 (0, 0)) (kb_ BK322.out)) : gb322 ≠ gb325)); have NB325_322 := Aside0.mk ((by rw [hg]; exact Nat.ne_of_gt (blk_lt (g := gb322) (o := .cells #[.int .i64 0, .string (⟨#[]⟩ : ByteArray), .slice none 0 0] 65 (0, 0)) (kb_ BK322.out)) : gb325 ≠ gb322)); replace BK322 := Aside0.mk (blk_below (g := gb322) (o := .cells #[.int .i64 0, .string (⟨#[]⟩ : ByteArray), .slice none 0 0] 65 (0, 0)) (kb_ BK322.out) hb); have NB323_325 := nl_ BK323 hg; have NB325_323 := ng_ BK323 hg; replace BK323 := bK_ BK323 hb; clear hb hg; have hnb47 := NB325_322.out; have hnc47 := NB322_325.out; have hnb48 := NB325_323.out; have hnc48 := NB323_325.out; obtain ⟨hcz49_0, hcz49_1, hcz49_2, hcz49_3, hcz49_4, hfz49_0, hfz49_1, hfz49_2, hfz49_3, hfz49_4⟩ := cf5_ BK325.out; have hnb50 := NB323_322.out; have hnc50 := NB322_323.out; obtain ⟨hcz51_0, hcz51_1, hcz51_2, hfz51_0, hfz51_1, hfz51_2⟩ := cf3_ BK323.out))
    have n0_ : Aside0 (Kd.R k89 89 (((((w46.setCell ⟨gb325, 0, none⟩ (.int .i64 ((rd_T43 l0 x14_1).f0))).setCell ⟨gb325, 1, none⟩ (.int .i64 ((rd_T43 l0 x14_1).f1))).setCell ⟨gb325, 2, none⟩ (.int .i64 ((rd_T43 l0 x14_1).f2))).setCell ⟨gb325, 3, none⟩ (.int .i64 ((rd_T43 l0 x14_1).f3))).setCell ⟨gb325, 4, none⟩ (.slice A324_4 ((rd_T43 l0 x14_1).f4).length c324_4)) w.heap.size (fun _ => True) u324002 x324002_1) := ⟨Kd.R_mono (rF_ (Kd.R_types HO_324002.out BK325.out (by decide))) (fun _ hk => trivial)⟩
    have n1_ : Aside0 ((((((w46.setCell ⟨gb325, 0, none⟩ (.int .i64 ((rd_T43 l0 x14_1).f0))).setCell ⟨gb325, 1, none⟩ (.int .i64 ((rd_T43 l0 x14_1).f1))).setCell ⟨gb325, 2, none⟩ (.int .i64 ((rd_T43 l0 x14_1).f2))).setCell ⟨gb325, 3, none⟩ (.int .i64 ((rd_T43 l0 x14_1).f3))).setCell ⟨gb325, 4, none⟩ (.slice A324_4 ((rd_T43 l0 x14_1).f4).length c324_4)).heap[gb322]? = some (.cells #[.int .i64 0, .string (⟨#[]⟩ : ByteArray), .slice none 0 0] 65 (0, 0))) := ⟨uf_ BK322 NB322_325.out⟩
    have n2_ : Aside0 ((((((w46.setCell ⟨gb325, 0, none⟩ (.int .i64 ((rd_T43 l0 x14_1).f0))).setCell ⟨gb325, 1, none⟩ (.int .i64 ((rd_T43 l0 x14_1).f1))).setCell ⟨gb325, 2, none⟩ (.int .i64 ((rd_T43 l0 x14_1).f2))).setCell ⟨gb325, 3, none⟩ (.int .i64 ((rd_T43 l0 x14_1).f3))).setCell ⟨gb325, 4, none⟩ (.slice A324_4 ((rd_T43 l0 x14_1).f4).length c324_4)).heap[gb323]? = some (.cells #[.int .i64 x324000_1, .string x324001_1, u324002] 65 (0, 0))) := ⟨uf_ BK323 NB323_325.out⟩
    have n3_ : Aside0 ((((((w46.setCell ⟨gb325, 0, none⟩ (.int .i64 ((rd_T43 l0 x14_1).f0))).setCell ⟨gb325, 1, none⟩ (.int .i64 ((rd_T43 l0 x14_1).f1))).setCell ⟨gb325, 2, none⟩ (.int .i64 ((rd_T43 l0 x14_1).f2))).setCell ⟨gb325, 3, none⟩ (.int .i64 ((rd_T43 l0 x14_1).f3))).setCell ⟨gb325, 4, none⟩ (.slice A324_4 ((rd_T43 l0 x14_1).f4).length c324_4)).heap[gb325]? = some (.cells #[.int .i64 ((rd_T43 l0 x14_1).f0), .int .i64 ((rd_T43 l0 x14_1).f1), .int .i64 ((rd_T43 l0 x14_1).f2), .int .i64 ((rd_T43 l0 x14_1).f3), .slice A324_4 ((rd_T43 l0 x14_1).f4).length c324_4] 43 (0, 0))) := ⟨up_ BK325⟩
    have n4_ : Aside0 (Below w.heap.size w (((((w46.setCell ⟨gb325, 0, none⟩ (.int .i64 ((rd_T43 l0 x14_1).f0))).setCell ⟨gb325, 1, none⟩ (.int .i64 ((rd_T43 l0 x14_1).f1))).setCell ⟨gb325, 2, none⟩ (.int .i64 ((rd_T43 l0 x14_1).f2))).setCell ⟨gb325, 3, none⟩ (.int .i64 ((rd_T43 l0 x14_1).f3))).setCell ⟨gb325, 4, none⟩ (.slice A324_4 ((rd_T43 l0 x14_1).f4).length c324_4))) := ⟨hs3_ GE322.out GE323.out GE325.out⟩
    (try clear HO_324002)
    (try clear BK322)
    (try clear BK323)
    (try clear BK325)
    (try clear HB)
    generalize (((((w46.setCell ⟨gb325, 0, none⟩ (.int .i64 ((rd_T43 l0 x14_1).f0))).setCell ⟨gb325, 1, none⟩ (.int .i64 ((rd_T43 l0 x14_1).f1))).setCell ⟨gb325, 2, none⟩ (.int .i64 ((rd_T43 l0 x14_1).f2))).setCell ⟨gb325, 3, none⟩ (.int .i64 ((rd_T43 l0 x14_1).f3))).setCell ⟨gb325, 4, none⟩ (.slice A324_4 ((rd_T43 l0 x14_1).f4).length c324_4)) = w52 at n0_ n1_ n2_ n3_ n4_ ⊢
    have HO_324002 := n0_
    have BK322 := n1_
    have BK323 := n2_
    have BK325 := n3_
    have HB := n4_
    clear n0_ n1_ n2_ n3_ n4_
    replace HO_324002 := qR_ HO_324002
    replace BK322 := qK_ BK322
    replace BK323 := qK_ BK323
    replace BK325 := qK_ BK325
    replace HB := qH_ HB
    refine start_ (n := 7) (S := fun w' => w'.cell? ⟨gb323, 0, none⟩ = some (.int .i64 x324000_1) ∧ w'.cell? ⟨gb323, 1, none⟩ = some (.string x324001_1) ∧ w'.cell? ⟨gb323, 2, none⟩ = some (u324002) ∧ w'.cell? ⟨gb325, 0, none⟩ = some (.int .i64 ((rd_T43 l0 x14_1).f0)) ∧ w'.cell? ⟨gb325, 1, none⟩ = some (.int .i64 ((rd_T43 l0 x14_1).f1)) ∧ w'.cell? ⟨gb325, 2, none⟩ = some (.int .i64 ((rd_T43 l0 x14_1).f2)) ∧ w'.cell? ⟨gb325, 3, none⟩ = some (.int .i64 ((rd_T43 l0 x14_1).f3)) ∧ w'.cell? ⟨gb325, 4, none⟩ = some (.slice A324_4 ((rd_T43 l0 x14_1).f4).length c324_4)) (ds := [6]) #[false, false, false, false, false, false, false] (by kernel_rfl) rfl rfl ⟨bt_ BK323 0, bt_ BK323 1, bt_ BK323 2, bt_ BK325 0, bt_ BK325 1, bt_ BK325 2, bt_ BK325 3, bt_ BK325 4⟩ (fun hHeld => ?_)
    generalize w52.drew = w53 at HO_324002 BK322 BK323 BK325 HB hHeld ⊢
    refine pure_ (i := 0) (N := some 45) (v := ?_) (a' := ?_) #[true, false, false, false, false, false, false] rfl rfl (by kernel_rfl) (fun _ _ _ h => h) (Or.inl ⟨by rfl, ?_⟩) ?_ ?_
    rotate_left
    ·intro w'
     go_simp
     with_reducible rfl
    rotate_left
    ·simp only [Act.put, List.setIfInBounds_toArray, List.set_cons_zero, List.set_cons_succ, i64_w, i32_w]
     rfl
    refine take_ (i := 1) (N := some 46) (v := ?_) (a' := ?_) #[true, true, false, false, false, false, false] rfl rfl (by kernel_rfl) (fun _ _ _ h => h) (Or.inl ⟨by rfl, ?_⟩) hHeld ?_ ?_
    rotate_left
    ·rintro w' ⟨s0, s1, s2, s3, s4, s5, s6, s7⟩
     go_simp
     with_reducible rfl
    rotate_left
    ·simp only [Act.put, List.setIfInBounds_toArray, List.set_cons_zero, List.set_cons_succ, i64_w, i32_w]
     rfl
    refine take_ (i := 2) (N := some 47) (v := ?_) (a' := ?_) #[true, true, true, false, false, false, false] rfl rfl (by kernel_rfl) (fun _ _ _ h => h) (Or.inl ⟨by rfl, ?_⟩) hHeld ?_ ?_
    rotate_left
    ·rintro w' ⟨s0, s1, s2, s3, s4, s5, s6, s7⟩
     go_simp
     with_reducible rfl
    rotate_left
    ·simp only [Act.put, List.setIfInBounds_toArray, List.set_cons_zero, List.set_cons_succ, i64_w, i32_w]
     rfl
    refine one_ (i := 3) (N := some 48) #[true, true, true, true, false, false, false] rfl rfl (by kernel_rfl) (by decide) (fun K hK => ?_)
    refine gs_ Try.func84 #[.agg #[.int .i64 ((rd_T43 l0 x14_1).f0), .int .i64 ((rd_T43 l0 x14_1).f1), .int .i64 ((rd_T43 l0 x14_1).f2), .int .i64 ((rd_T43 l0 x14_1).f3), .slice A324_4 ((rd_T43 l0 x14_1).f4).length c324_4]] rfl ma_ ?_
    with_reducible refine (impl_batchBytes.calls k1 ((rd_T43 l0 x14_1).f0) ((rd_T43 l0 x14_1).f1) ((rd_T43 l0 x14_1).f2) ((rd_T43 l0 x14_1).f3) _ _ ((rd_T43 l0 x14_1).f4) t334 _ ?side1 ?side2 A44.out).mono ?_
    (case side1 => exact cs_ ((Kd.C_below HR324_4.out HB.out)))
    (case side2 => exact HC324_4.out)
    rintro e w54 ⟨rfl, hb⟩
    refine ⟨_, rfl, ?_⟩
    replace HO_324002 := rB_ HO_324002 hb
    replace BK322 := Aside0.mk (blk_below (g := gb322) (o := .cells #[.int .i64 0, .string (⟨#[]⟩ : ByteArray), .slice none 0 0] 65 (0, 0)) (kb_ BK322.out) hb)
    replace BK323 := bK_ BK323 hb
    replace BK325 := bK_ BK325 hb
    replace HB := nc3_ GE322 GE323 GE325 hb
    (try clear hb)
    (try clear hb2)
    (try clear hk)
    (try clear hi)
    refine hK.out _ _ ⟨bt_ BK323 0, bt_ BK323 1, bt_ BK323 2, bt_ BK325 0, bt_ BK325 1, bt_ BK325 2, bt_ BK325 3, bt_ BK325 4⟩ (fun hHeld => ?_)
    clear hK K
    refine no_ ?_
    refine pure_ (i := 4) (N := some 49) (v := ?_) (a' := ?_) #[true, true, true, true, true, false, false] rfl rfl (by kernel_rfl) (fun _ _ _ h => h) (Or.inl ⟨by rfl, ?_⟩) ?_ ?_
    rotate_left
    ·intro w'
     go_simp
     with_reducible rfl
    rotate_left
    ·simp only [Act.put, List.setIfInBounds_toArray, List.set_cons_zero, List.set_cons_succ, i64_w, i32_w]
     rfl
    refine pure_ (i := 5) (N := some 50) (v := ?_) (a' := ?_) #[true, true, true, true, true, true, false] rfl rfl (by kernel_rfl) (fun _ _ _ h => h) (Or.inl ⟨by rfl, ?_⟩) ?_ ?_
    rotate_left
    ·intro w'
     go_simp
     with_reducible rfl
    rotate_left
    ·simp only [Act.put, List.setIfInBounds_toArray, List.set_cons_zero, List.set_cons_succ, i64_w, i32_w]
     rfl
    refine last_ (i := 6) (N := none) #[true, true, true, true, true, true, true] rfl rfl (by kernel_rfl) (by decide) (fun K hK => ?_)
    have hs55 : w54.cell? ⟨gb323, 1, none⟩ = some (.string x324001_1) := bt_ BK323 1
    have hfs55 := blk_frozen BK323.out 1
    have hns55_0 := NB322_323.out
    have hns55_2 := NB325_323.out
    have hms55_0 := NB323_322.out
    have hms55_2 := NB323_325.out
    refine skip_ (w1 := ?_) (by rfl) rfl ?_ ?_
    rotate_left
    ·go_simp
     rfl
    refine hK.out _ _ ?_
    clear hK K
    refine done_ (by kernel_rfl) ?_
    try go_wp2
    go_roundg k1
    case measure => have := HK1.out; omega
    case rel => exact ⟨(x6_1), (wrap64 (x14_1 + 1)), (x324000_1), (x324001_1 ++ t334), (x324002_1), (u324002), sr_, sr_, H', ⟨by have := HK1.out; omega⟩, ⟨rF_ (Kd.R_mono (Kd.R_far (p := ⟨gb323, 1, none⟩) (Kd.R_types HO_324002.out BK323.out (by decide)) (fun _ hk => hk.2) (.string (x324001_1 ++ t334))) (fun _ hk => trivial))⟩, ⟨uf_ BK322 NB322_323.out⟩, ⟨up_ BK323⟩, ⟨hs3_ GE322.out GE323.out GE325.out⟩⟩
   have c27b0 := dge_ c27
   clear c27
   replace H := ifs_ H
   obtain ⟨c28, H⟩ := H
   have LMc28 := Aside0.mk c28
   clear c28
   obtain ⟨y330, hy330⟩ : ∃ y_ : List (S89), y_ = (x324002_1 ++ [(⟨(rd_T43 l0 x14_1).f0, (x324001_1.size : Int)⟩ : S89)]) := ⟨_, rfl⟩
   replace H : ((impl_batchBytes.f k1 ((rd_T43 l0 x14_1).f0) ((rd_T43 l0 x14_1).f1) ((rd_T43 l0 x14_1).f2) ((rd_T43 l0 x14_1).f3) ((rd_T43 l0 x14_1).f4)).bind fun t333 => (if x324001_1.size + t333.size ≤ 9223372036854775807 then (impl_segmentOf.l0 k1 (x324001_1.size : Int) l0 (l0.length : Int) (wrap64 (x14_1 + 1)) x324000_1 (x324001_1 ++ t333) y330) else (none))) = some (r1, r2, r3) := by first | (rw [hy330]; with_reducible exact H) | (have H2_ := (Option.bind_some _ _).symm.trans H; rw [hy330]; with_reducible exact H2_) | (have H2_ := (Option.bind_some _ _).symm.trans H; with_reducible exact H2_) | with_reducible exact H | (rw [hy330]; exact H) | exact H
   have Ny330 := Aside0.mk hy330
   clear hy330
   replace H := bnd_ H
   obtain ⟨t333, A29, H⟩ := H
   replace H := ifs_ H
   obtain ⟨c30, H⟩ := H
   have c30b0 := eq_true c30
   have c30b1 := decide_eq_true c30
   try have c30b2 : (9223372036854775807 < x324001_1.size + t333.size) = False := eq_false (Nat.not_lt.2 c30)
   try have c30w := cw_ c30
   (try rw [c30w] at c7b0)
   (try rw [c30w] at c8b0)
   (try rw [c30w] at c9b0)
   (try rw [c30w] at c10b0)
   (try rw [c30w] at c13b0)
   (try rw [c30w] at c27b0)
   have H' := Aside0.mk H
   clear H
   have p324 : 0 ≤ (x14_1 : Int) := oa_
   have q324 : x14_1 < (l0.length : Int) := oa_
   obtain ⟨ad324, A324_4, c324_4, e324, hx324_0, hx324_1, hx324_2, hx324_3, hx324_4, hl324_4, hi324_4⟩ := at_T43 HR0.out x14_1 p324 q324
   cases e324
   replace hx324_0 := pc_ HB.out hx324_0
   replace hx324_1 := pc_ HB.out hx324_1
   replace hx324_2 := pc_ HB.out hx324_2
   replace hx324_3 := pc_ HB.out hx324_3
   replace hx324_4 := pc_ HB.out hx324_4
   have HR324_4 := Aside0.mk hi324_4
   have HC324_4 := Aside0.mk hl324_4
   clear hi324_4 hl324_4
   replace p324 := eq_true p324
   replace q324 := eq_true q324
   try go_wp2_with (first | ((with_reducible refine gate_dst (N := 8) rfl ?_); refine bq_ (N := 8) #[.int .i64 0, .int .i64 0, .int .i64 0, .int .i64 0, .slice none 0 0] 43 ?_; intro gb325 hg w31 BK325 hb; replace HO_324002 := rB_ HO_324002 hb; have GE325 := ge2_ hg GE322 GE323; replace HB := nc2_ GE322 GE323 hb; have NB322_325 := Aside0.mk ((by rw [hg]; exact Nat.ne_of_lt (blk_lt (g := gb322) (o := .cells #[.int .i64 0, .string (⟨#[]⟩ : ByteArray), .slice none 0 0] 65 (0, 0)) (kb_ BK322.out)) : gb322 ≠ gb325)); have NB325_322 := Aside0.mk ((by rw [hg]; exact Nat.ne_of_gt (blk_lt (g := gb322) (o := .cells #[.int .i64 0, .string (⟨#[]⟩ : ByteArray), .slice none 0 0] 65 (0, 0)) (kb_ BK322.out)) : gb325 ≠ gb322)); replace BK322 := Aside0.mk (blk_below (g := gb322) (o := .cells #[.int .i64 0, .string (⟨#[]⟩ : ByteArray), .slice none 0 0] 65 (0, 0)) (kb_ BK322.out) hb); have NB323_325 := nl_ BK323 hg; have NB325_323 := ng_ BK323 hg; replace BK323 := bK_ BK323 hb; clear hb hg; have hnb32 := NB325_322.out; have hnc32 := NB322_325.out; have hnb33 := NB325_323.out; have hnc33 := NB323_325.out; obtain ⟨hcz34_0, hcz34_1, hcz34_2, hcz34_3, hcz34_4, hfz34_0, hfz34_1, hfz34_2, hfz34_3, hfz34_4⟩ := cf5_ BK325.out; have hnb35 := NB323_322.out; have hnc35 := NB322_323.out; obtain ⟨hcz36_0, hcz36_1, hcz36_2, hfz36_0, hfz36_1, hfz36_2⟩ := cf3_ BK323.out) | ((with_reducible refine gate_builtin (b := .append) (xs := #[.tmp 36, .tmp 41]) rfl ?_); at_builtin; refine Kd.R_append k89 (w0 := w) w.heap.size rfl (.tmp 36) (.tmp 41) 63 89 (.agg #[(.int .i64 0), (.int .i64 0)]) 16 rfl Try.underlying63 info89 rfl (by decide) (by omega) u324002 x324002_1 (⟨(rd_T43 l0 x14_1).f0, (x324001_1.size : Int)⟩ : S89) [.int .i64 ((rd_T43 l0 x14_1).f0), .int .i64 (x324001_1.size : Int)] (fun _ => True) (fun _ => False) rfl (by first | (go_simp; done) | (go_simp; rfl)) ?aP (fun _ hk => hk.elim) ?aF ?aO ?aB ?aS ?aL ?_; (case aP => exact k89_mkM _ _ _ (⟨(rd_T43 l0 x14_1).f0, (x324001_1.size : Int)⟩ : S89)); (case aB => exact (hs3_ GE322.out GE323.out GE325.out)); (case aF => exact (fun _ _ => trivial)); (case aO => exact (Kd.R_mono (rF_ (Kd.R_types HO_324002.out BK325.out (by decide))) (fun _ hk => trivial))); (case aS => exact (below_size (hs3_ GE322.out GE323.out GE325.out))); (case aL => have := LMc28.out; omega); intro v331 w37 ho hb hg hat; rw [← Ny330.out] at ho; replace BK322 := Aside0.mk (blk_grown (g := gb322) (o := .cells #[.int .i64 0, .string (⟨#[]⟩ : ByteArray), .slice none 0 0] 65 (0, 0)) (uf_ BK322 NB322_325.out) hg (Kd.R_ne HO_324002.out BK322.out (by decide))); replace BK323 := Aside0.mk (blk_grown (g := gb323) (o := .cells #[.int .i64 x324000_1, .string x324001_1, u324002] 65 (0, 0)) (uf_ BK323 NB323_325.out) hg (Kd.R_ne HO_324002.out BK323.out (by decide))); replace BK325 := Aside0.mk (blk_grown (g := gb325) (o := .cells #[.int .i64 ((rd_T43 l0 x14_1).f0), .int .i64 ((rd_T43 l0 x14_1).f1), .int .i64 ((rd_T43 l0 x14_1).f2), .int .i64 ((rd_T43 l0 x14_1).f3), .slice A324_4 ((rd_T43 l0 x14_1).f4).length c324_4] 43 (0, 0)) (up_ BK325) hg (Kd.R_ne HO_324002.out BK325.out (by decide))); replace HB := Aside0.mk (hb); have HO332 := Aside0.mk (ho); clear HO_324002; clear ho hb hg hat; obtain ⟨Ao38, co38, eo38⟩ := Kd.R_slice HO332.out; subst eo38; obtain ⟨hcz39_0, hcz39_1, hcz39_2, hfz39_0, hfz39_1, hfz39_2⟩ := cf3_ BK323.out))
   have n0_ : Aside0 (Kd.R k89 89 (w37.setCell ⟨gb323, 2, none⟩ (.slice Ao38 y330.length co38)) w.heap.size (fun _ => True) (.slice Ao38 y330.length co38) y330) := ⟨rF_ (Kd.R_mono (Kd.R_far (p := ⟨gb323, 2, none⟩) (Kd.R_types HO332.out BK323.out (by decide)) (fun _ hk => hk.2) (.slice Ao38 y330.length co38)) (fun _ hk => trivial))⟩
   have n1_ : Aside0 ((w37.setCell ⟨gb323, 2, none⟩ (.slice Ao38 y330.length co38)).heap[gb322]? = some (.cells #[.int .i64 0, .string (⟨#[]⟩ : ByteArray), .slice none 0 0] 65 (0, 0))) := ⟨uf_ BK322 NB322_323.out⟩
   have n2_ : Aside0 ((w37.setCell ⟨gb323, 2, none⟩ (.slice Ao38 y330.length co38)).heap[gb323]? = some (.cells #[.int .i64 x324000_1, .string x324001_1, .slice Ao38 y330.length co38] 65 (0, 0))) := ⟨up_ BK323⟩
   have n3_ : Aside0 ((w37.setCell ⟨gb323, 2, none⟩ (.slice Ao38 y330.length co38)).heap[gb325]? = some (.cells #[.int .i64 ((rd_T43 l0 x14_1).f0), .int .i64 ((rd_T43 l0 x14_1).f1), .int .i64 ((rd_T43 l0 x14_1).f2), .int .i64 ((rd_T43 l0 x14_1).f3), .slice A324_4 ((rd_T43 l0 x14_1).f4).length c324_4] 43 (0, 0))) := ⟨uf_ BK325 NB325_323.out⟩
   have n4_ : Aside0 (Below w.heap.size w (w37.setCell ⟨gb323, 2, none⟩ (.slice Ao38 y330.length co38))) := ⟨hs3_ GE322.out GE323.out GE325.out⟩
   (try clear HO332)
   (try clear BK322)
   (try clear BK323)
   (try clear BK325)
   (try clear HB)
   generalize (w37.setCell ⟨gb323, 2, none⟩ (.slice Ao38 y330.length co38)) = w40 at n0_ n1_ n2_ n3_ n4_ ⊢
   have HO332 := n0_
   have BK322 := n1_
   have BK323 := n2_
   have BK325 := n3_
   have HB := n4_
   clear n0_ n1_ n2_ n3_ n4_
   replace HO332 := qR_ HO332
   replace BK322 := qK_ BK322
   replace BK323 := qK_ BK323
   replace BK325 := qK_ BK325
   replace HB := qH_ HB
   refine start_ (n := 7) (S := fun w' => w'.cell? ⟨gb323, 0, none⟩ = some (.int .i64 x324000_1) ∧ w'.cell? ⟨gb323, 1, none⟩ = some (.string x324001_1) ∧ w'.cell? ⟨gb323, 2, none⟩ = some (.slice Ao38 y330.length co38) ∧ w'.cell? ⟨gb325, 0, none⟩ = some (.int .i64 ((rd_T43 l0 x14_1).f0)) ∧ w'.cell? ⟨gb325, 1, none⟩ = some (.int .i64 ((rd_T43 l0 x14_1).f1)) ∧ w'.cell? ⟨gb325, 2, none⟩ = some (.int .i64 ((rd_T43 l0 x14_1).f2)) ∧ w'.cell? ⟨gb325, 3, none⟩ = some (.int .i64 ((rd_T43 l0 x14_1).f3)) ∧ w'.cell? ⟨gb325, 4, none⟩ = some (.slice A324_4 ((rd_T43 l0 x14_1).f4).length c324_4)) (ds := [6]) #[false, false, false, false, false, false, false] (by kernel_rfl) rfl rfl ⟨bt_ BK323 0, bt_ BK323 1, bt_ BK323 2, bt_ BK325 0, bt_ BK325 1, bt_ BK325 2, bt_ BK325 3, bt_ BK325 4⟩ (fun hHeld => ?_)
   generalize w40.drew = w41 at HO332 BK322 BK323 BK325 HB hHeld ⊢
   refine pure_ (i := 0) (N := some 45) (v := ?_) (a' := ?_) #[true, false, false, false, false, false, false] rfl rfl (by kernel_rfl) (fun _ _ _ h => h) (Or.inl ⟨by rfl, ?_⟩) ?_ ?_
   rotate_left
   ·intro w'
    go_simp
    with_reducible rfl
   rotate_left
   ·simp only [Act.put, List.setIfInBounds_toArray, List.set_cons_zero, List.set_cons_succ, i64_w, i32_w]
    rfl
   refine take_ (i := 1) (N := some 46) (v := ?_) (a' := ?_) #[true, true, false, false, false, false, false] rfl rfl (by kernel_rfl) (fun _ _ _ h => h) (Or.inl ⟨by rfl, ?_⟩) hHeld ?_ ?_
   rotate_left
   ·rintro w' ⟨s0, s1, s2, s3, s4, s5, s6, s7⟩
    go_simp
    with_reducible rfl
   rotate_left
   ·simp only [Act.put, List.setIfInBounds_toArray, List.set_cons_zero, List.set_cons_succ, i64_w, i32_w]
    rfl
   refine take_ (i := 2) (N := some 47) (v := ?_) (a' := ?_) #[true, true, true, false, false, false, false] rfl rfl (by kernel_rfl) (fun _ _ _ h => h) (Or.inl ⟨by rfl, ?_⟩) hHeld ?_ ?_
   rotate_left
   ·rintro w' ⟨s0, s1, s2, s3, s4, s5, s6, s7⟩
    go_simp
    with_reducible rfl
   rotate_left
   ·simp only [Act.put, List.setIfInBounds_toArray, List.set_cons_zero, List.set_cons_succ, i64_w, i32_w]
    rfl
   refine one_ (i := 3) (N := some 48) #[true, true, true, true, false, false, false] rfl rfl (by kernel_rfl) (by decide) (fun K hK => ?_)
   refine gs_ Try.func84 #[.agg #[.int .i64 ((rd_T43 l0 x14_1).f0), .int .i64 ((rd_T43 l0 x14_1).f1), .int .i64 ((rd_T43 l0 x14_1).f2), .int .i64 ((rd_T43 l0 x14_1).f3), .slice A324_4 ((rd_T43 l0 x14_1).f4).length c324_4]] rfl ma_ ?_
   with_reducible refine (impl_batchBytes.calls k1 ((rd_T43 l0 x14_1).f0) ((rd_T43 l0 x14_1).f1) ((rd_T43 l0 x14_1).f2) ((rd_T43 l0 x14_1).f3) _ _ ((rd_T43 l0 x14_1).f4) t333 _ ?side1 ?side2 A29.out).mono ?_
   (case side1 => exact cs_ ((Kd.C_below HR324_4.out HB.out)))
   (case side2 => exact HC324_4.out)
   rintro e w42 ⟨rfl, hb⟩
   refine ⟨_, rfl, ?_⟩
   replace HO332 := rB_ HO332 hb
   replace BK322 := Aside0.mk (blk_below (g := gb322) (o := .cells #[.int .i64 0, .string (⟨#[]⟩ : ByteArray), .slice none 0 0] 65 (0, 0)) (kb_ BK322.out) hb)
   replace BK323 := bK_ BK323 hb
   replace BK325 := bK_ BK325 hb
   replace HB := nc3_ GE322 GE323 GE325 hb
   (try clear hb)
   (try clear hb2)
   (try clear hk)
   (try clear hi)
   refine hK.out _ _ ⟨bt_ BK323 0, bt_ BK323 1, bt_ BK323 2, bt_ BK325 0, bt_ BK325 1, bt_ BK325 2, bt_ BK325 3, bt_ BK325 4⟩ (fun hHeld => ?_)
   clear hK K
   refine no_ ?_
   refine pure_ (i := 4) (N := some 49) (v := ?_) (a' := ?_) #[true, true, true, true, true, false, false] rfl rfl (by kernel_rfl) (fun _ _ _ h => h) (Or.inl ⟨by rfl, ?_⟩) ?_ ?_
   rotate_left
   ·intro w'
    go_simp
    with_reducible rfl
   rotate_left
   ·simp only [Act.put, List.setIfInBounds_toArray, List.set_cons_zero, List.set_cons_succ, i64_w, i32_w]
    rfl
   refine pure_ (i := 5) (N := some 50) (v := ?_) (a' := ?_) #[true, true, true, true, true, true, false] rfl rfl (by kernel_rfl) (fun _ _ _ h => h) (Or.inl ⟨by rfl, ?_⟩) ?_ ?_
   rotate_left
   ·intro w'
    go_simp
    with_reducible rfl
   rotate_left
   ·simp only [Act.put, List.setIfInBounds_toArray, List.set_cons_zero, List.set_cons_succ, i64_w, i32_w]
    rfl
   refine last_ (i := 6) (N := none) #[true, true, true, true, true, true, true] rfl rfl (by kernel_rfl) (by decide) (fun K hK => ?_)
   have hs43 : w42.cell? ⟨gb323, 1, none⟩ = some (.string x324001_1) := bt_ BK323 1
   have hfs43 := blk_frozen BK323.out 1
   have hns43_0 := NB322_323.out
   have hns43_2 := NB325_323.out
   have hms43_0 := NB323_322.out
   have hms43_2 := NB323_325.out
   refine skip_ (w1 := ?_) (by rfl) rfl ?_ ?_
   rotate_left
   ·go_simp
    rfl
   refine hK.out _ _ ?_
   clear hK K
   refine done_ (by kernel_rfl) ?_
   try go_wp2
   go_roundg k1
   case measure => have := HK1.out; omega
   case rel => exact ⟨((x324001_1.size : Int)), (wrap64 (x14_1 + 1)), (x324000_1), (x324001_1 ++ t333), (y330), (.slice Ao38 y330.length co38), sr_, sr_, H', ⟨by have := HK1.out; omega⟩, ⟨rF_ (Kd.R_mono (Kd.R_far (p := ⟨gb323, 1, none⟩) (Kd.R_types HO332.out BK323.out (by decide)) (fun _ hk => hk.2) (.string (x324001_1 ++ t333))) (fun _ hk => trivial))⟩, ⟨uf_ BK322 NB322_323.out⟩, ⟨up_ BK323⟩, ⟨hs3_ GE322.out GE323.out GE325.out⟩⟩
end Go.Proofs.Ytffpeklekkpbjaa.QFnExactTruncateTo
