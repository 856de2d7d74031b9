/- Functions that one statement reaches: of each a plain function, and the proof that calls come to it. Conditions: those that each contract names. Written by a program of this repository. -/
import Derived.Test.YtffpeklekkpbjaaVFindBatcha
import Derived.Test.YtffpeklekkpbjaaQFnExactFindBatchx0
import Derived.Test.YtffpeklekkpbjaaQFnExactFindBatchx14
namespace Go.Proofs.Ytffpeklekkpbjaa.QFnExactFindBatch
open Go.RowKit Go.Proofs.YtffpeklekkpbjaaW.PrintWords Go.Proofs.YtffpeklekkpbjaaW.PrintLast Go.Proofs.YtffpeklekkpbjaaW.PrintMore
attribute [local go_sem] max2_int min2_int max_two min_two max_three min_three max_four min_four Go.Proofs.YtffpeklekkpbjaaW.PrintMore2.isSome_setCell   -- for this text's walks alone
set_option linter.unusedVariables false
set_option linter.unusedSimpArgs false

/-! ### impl_segmentOf: function 104 -/
def impl_segmentOf.l0 : Nat → Int → List (S43) → Int → Int → Int → ByteArray → List (S89) → Option (Int × ByteArray × (List (S89)))
 | 0, _, _, _, _, _, _, _ => none
 | k + 1, x6, x12, x13, x14, x304000, x304001, x304002 => if x14 < x13 then (if 0 ≤ x14 then (if x14 < (x12.length : Int) then (if x14 = 0 then (if x304002.length < 8796093022208 then ((impl_batchBytes.f k ((rd_T43 x12 x14).f0) ((rd_T43 x12 x14).f1) ((rd_T43 x12 x14).f2) ((rd_T43 x12 x14).f3) ((rd_T43 x12 x14).f4)).bind fun t309 => (if x304001.size + t309.size ≤ 9223372036854775807 then (impl_segmentOf.l0 k (x304001.size : Int) x12 x13 (wrap64 (x14 + 1)) ((rd_T43 x12 x14).f0) (x304001 ++ t309) (x304002 ++ [(⟨(rd_T43 x12 x14).f0, (x304001.size : Int)⟩ : S89)])) else (none))) else (none)) else (if (wrap64 ((x304001.size : Int) - x6)) ≥ 40 then (if x304002.length < 8796093022208 then ((impl_batchBytes.f k ((rd_T43 x12 x14).f0) ((rd_T43 x12 x14).f1) ((rd_T43 x12 x14).f2) ((rd_T43 x12 x14).f3) ((rd_T43 x12 x14).f4)).bind fun t313 => (if x304001.size + t313.size ≤ 9223372036854775807 then (impl_segmentOf.l0 k (x304001.size : Int) x12 x13 (wrap64 (x14 + 1)) x304000 (x304001 ++ t313) (x304002 ++ [(⟨(rd_T43 x12 x14).f0, (x304001.size : Int)⟩ : S89)])) else (none))) else (none)) else ((impl_batchBytes.f k ((rd_T43 x12 x14).f0) ((rd_T43 x12 x14).f1) ((rd_T43 x12 x14).f2) ((rd_T43 x12 x14).f3) ((rd_T43 x12 x14).f4)).bind fun t314 => (if x304001.size + t314.size ≤ 9223372036854775807 then (impl_segmentOf.l0 k x6 x12 x13 (wrap64 (x14 + 1)) x304000 (x304001 ++ t314) x304002) else (none))))) else (none)) else (none)) else (some (x304000, x304001, x304002))
def impl_segmentOf.f (k : Nat) (l0 : List (S43)) (a1 : Int) : Option (Int × ByteArray × (List (S89))) := impl_segmentOf.l0 k 0 l0 (l0.length : Int) 0 a1 (⟨#[]⟩ : ByteArray) ([] : List (S89))
theorem impl_segmentOf.mono_l : ∀ k, (∀ y0 y1 y2 y3 y4 y5 y6, LeO (impl_segmentOf.l0 k y0 y1 y2 y3 y4 y5 y6) (impl_segmentOf.l0 (k + 1) y0 y1 y2 y3 y4 y5 y6))
 | 0 => fun _ _ _ _ _ _ _ r h => by simp [impl_segmentOf.l0] at h
 | k + 1 => by
  have ih0 := impl_segmentOf.mono_l k
  ·intro y0 y1 y2 y3 y4 y5 y6
   unfold impl_segmentOf.l0
   repeat' first
   | (with_reducible first | apply ih0 | apply impl_batchBytes.mono | exact LeO.refl _ | exact LeO.none _ | refine LeO.ite ?_ ?_ | refine LeO.bind ?_ (fun _ => ?_))
theorem impl_segmentOf.mono : ∀ a0 a1 k, LeO (impl_segmentOf.f k a0 a1) (impl_segmentOf.f (k + 1) a0 a1) := by
 intro a0 a1 k
 have ih0 := impl_segmentOf.mono_l k
 unfold impl_segmentOf.f
 repeat' first
   | (with_reducible first | apply ih0 | apply impl_batchBytes.mono | exact LeO.refl _ | exact LeO.none _ | refine LeO.ite ?_ ?_ | refine LeO.bind ?_ (fun _ => ?_))
set_option maxHeartbeats 8000000 in
set_option maxRecDepth 100000 in
theorem impl_segmentOf.calls (k : Nat) (A0 : Option Addr) (c0 : Nat) (l0 : List (S43)) (a1 : Int) (r1 : Int) (r2 : ByteArray) (r3 : List (S89)) (w : World) (hr0 : Kd.C k43 w A0 l0.length l0) (hc0 : l0.length ≤ c0) (h : impl_segmentOf.f k l0 a1 = some (r1, r2, r3)) :
  Calls Try.prog 104 #[.slice A0 l0.length c0, .int .i64 a1] w fun e w' => ∃ v2_ : Value, e = .returned (.agg #[.int .i64 r1, .string r2, v2_]) ∧ Kd.R k89 89 w' w.heap.size (fun _ => True) v2_ r3 ∧ Below w.heap.size w w' := by
 have hu65 := Try.underlying65
 have hu43 := Try.underlying43
 have hu89 := Try.underlying89
 have HR0 := Aside0.mk hr0
 have HC0 := Aside0.mk hc0
 clear hr0 hc0
 have HB := Aside0.mk (Below.refl w.heap.size w)
 have H : (impl_segmentOf.l0 k 0 l0 (l0.length : Int) 0 a1 (⟨#[]⟩ : ByteArray) ([] : List (S89))) = some (r1, r2, r3) := h
 clear h
 have H' := Aside0.mk H
 clear H
 go_enter Try.func104, Try.ntmps104
 go_wp2_with (first | ((with_reducible refine gate_dst (N := 4) rfl ?_); refine box_event ?hg (N := 4) ?hd (cs := #[.int .i64 0, .string (⟨#[]⟩ : ByteArray), .slice none 0 0]) (t := 65) ?hr ?_; (case hd => rfl); (case hg => rfl); (case hr => first | (go_simp; done) | (go_simp; rfl)); intro gb302 hg w3 hbox hb; have BK302 := Aside0.mk (hbox); have GE302 := ge_ hg; replace HB := nb_ hb; clear hb hbox hg) | ((with_reducible refine gate_dst (N := 5) rfl ?_); refine box_event ?hg (N := 5) ?hd (cs := #[.int .i64 0, .string (⟨#[]⟩ : ByteArray), .slice none 0 0]) (t := 65) ?hr ?_; (case hd => rfl); (case hg => rfl); (case hr => first | (go_simp; done) | (go_simp; rfl)); intro gb303 hg w4 hbox hb; have BK303 := Aside0.mk (hbox); have GE303 := ge1_ hg GE302; replace HB := nc_ GE302 hb; have NB302_303 := Aside0.mk ((by rw [hg]; exact Nat.ne_of_lt (blk_lt (g := gb302) (o := .cells #[.int .i64 0, .string (⟨#[]⟩ : ByteArray), .slice none 0 0] 65 (0, 0)) (kb_ BK302.out)) : gb302 ≠ gb303)); have NB303_302 := Aside0.mk ((by rw [hg]; exact Nat.ne_of_gt (blk_lt (g := gb302) (o := .cells #[.int .i64 0, .string (⟨#[]⟩ : ByteArray), .slice none 0 0] 65 (0, 0)) (kb_ BK302.out)) : gb303 ≠ gb302)); replace BK302 := Aside0.mk (blk_below (g := gb302) (o := .cells #[.int .i64 0, .string (⟨#[]⟩ : ByteArray), .slice none 0 0] 65 (0, 0)) (kb_ BK302.out) hb); clear hb hbox hg; have hnb5 := NB303_302.out; have hnc5 := NB302_303.out; obtain ⟨hcz6_0, hcz6_1, hcz6_2, hfz6_0, hfz6_1, hfz6_2⟩ := cf3_ BK303.out))
 go_loopg [6, 14] k (fun kq v6 v14 w' => ∃ (x6_1 : Int) (x14_1 : Int) (x304000_1 : Int) (x304001_1 : ByteArray) (x304002_1 : List (S89)) (u304002 : Value), v6 = .int .i64 x6_1 ∧ v14 = .int .i64 x14_1 ∧ Aside0 (impl_segmentOf.l0 kq x6_1 l0 (l0.length : Int) x14_1 x304000_1 x304001_1 x304002_1 = some (r1, r2, r3)) ∧ Aside0 (kq ≤ k) ∧ Aside0 (Kd.R k89 89 w' w.heap.size (fun _ => True) u304002 x304002_1) ∧ Aside0 (w'.heap[gb302]? = some (.cells #[.int .i64 0, .string (⟨#[]⟩ : ByteArray), (.slice none 0 0)] 65 (0, 0))) ∧ Aside0 (w'.heap[gb303]? = some (.cells #[.int .i64 x304000_1, .string x304001_1, u304002] 65 (0, 0))) ∧ Aside0 (Below w.heap.size w w'))
 case atStart => exact ⟨(0), (0), (a1), ((⟨#[]⟩ : ByteArray)), (([] : List (S89))), (.slice none 0 0), sr_, sr_, H', ⟨Nat.le_refl _⟩, ⟨ni_⟩, ⟨uf_ BK302 NB302_303.out⟩, ⟨up_ BK303⟩, ⟨hs2_ GE302.out GE303.out⟩⟩
 case round =>
  clear H'
  try clear hcz6_0
  try clear hcz6_1
  try clear hcz6_2
  try clear hfz6_0
  try clear hfz6_1
  try clear hfz6_2
  obtain ⟨x6_1, x14_1, x304000_1, x304001_1, x304002_1, u304002, rfl, rfl, HA, HK1, HO_304002, BK302, BK303, HB⟩ := hrel
  cases gk with
  | zero => exact absurd HA.out (by simp [impl_segmentOf.l0])
  | succ k1 =>
   have H := HA.out
   clear HA
   simp only [impl_segmentOf.l0] at H
   replace H := ite_ H
   obtain ⟨c7, H⟩ | ⟨c7, H⟩ := H
   rotate_left
   ·have c7b0 := decide_eq_false c7
    clear c7
    simp only [Option.some.injEq, Prod.mk.injEq] at H
    obtain ⟨rfl, rfl, rfl⟩ := H
    have hnb56 := NB303_302.out
    have hnc56 := NB302_303.out
    obtain ⟨hcz57_0, hcz57_1, hcz57_2, hfz57_0, hfz57_1, hfz57_2⟩ := cf3_ BK303.out
    obtain ⟨hcz58_0, hcz58_1, hcz58_2, hfz58_0, hfz58_1, hfz58_2⟩ := cf3_ BK302.out
    obtain ⟨Ao59, co59, eo59⟩ := Kd.R_slice HO_304002.out
    subst eo59
    go_wp2
    refine bodyPost_ret (results_cell_row rfl _ _ gb302 65 #[.int .i64 x304000_1, .string x304001_1, .slice Ao59 x304002_1.length co59] (0, 0) _ rfl (up_ BK302) Try.underlying65 rfl (by kernel_rfl)) rfl ?_
    exact ⟨_, er_, Kd.R_mono (rF_ (Kd.R_types HO_304002.out BK302.out (by decide))) (fun _ hk => trivial), hs2_ GE302.out GE303.out⟩
   have c7b0 := decide_eq_true c7
   clear c7
   replace H := ifs_ H
   obtain ⟨c8, H⟩ := H
   have c8b0 := decide_eq_true c8
   clear c8
   replace H := ifs_ H
   obtain ⟨c9, H⟩ := H
   have c9b0 := decide_eq_true c9
   clear c9
   replace H := ite_ H
   obtain ⟨c10, H⟩ | ⟨c10, H⟩ := H
   ·have c10b0 : (x14_1 == 0) = true := beq_iff_eq.mpr c10
    have c10b1 : (x14_1 != 0) = false := bne_eq_false_iff_eq.mpr c10
    clear c10
    replace H := ifs_ H
    obtain ⟨c11, H⟩ := H
    have LMc11 := Aside0.mk c11
    clear c11
    obtain ⟨y306, hy306⟩ : ∃ y_ : List (S89), y_ = (x304002_1 ++ [(⟨(rd_T43 l0 x14_1).f0, (x304001_1.size : Int)⟩ : S89)]) := ⟨_, rfl⟩
    replace H : ((impl_batchBytes.f k1 ((rd_T43 l0 x14_1).f0) ((rd_T43 l0 x14_1).f1) ((rd_T43 l0 x14_1).f2) ((rd_T43 l0 x14_1).f3) ((rd_T43 l0 x14_1).f4)).bind fun t309 => (if x304001_1.size + t309.size ≤ 9223372036854775807 then (impl_segmentOf.l0 k1 (x304001_1.size : Int) l0 (l0.length : Int) (wrap64 (x14_1 + 1)) ((rd_T43 l0 x14_1).f0) (x304001_1 ++ t309) y306) else (none))) = some (r1, r2, r3) := by first | (rw [hy306]; with_reducible exact H) | (have H2_ := (Option.bind_some _ _).symm.trans H; rw [hy306]; with_reducible exact H2_) | (have H2_ := (Option.bind_some _ _).symm.trans H; with_reducible exact H2_) | with_reducible exact H | (rw [hy306]; exact H) | exact H
    have Ny306 := Aside0.mk hy306
    clear hy306
    replace H := bnd_ H
    obtain ⟨t309, A12, H⟩ := H
    replace H := ifs_ H
    obtain ⟨c13, H⟩ := H
    have c13b0 := eq_true c13
    have c13b1 := decide_eq_true c13
    try have c13b2 : (9223372036854775807 < x304001_1.size + t309.size) = False := eq_false (Nat.not_lt.2 c13)
    try have c13w := cw_ c13
    (try rw [c13w] at c7b0)
    (try rw [c13w] at c8b0)
    (try rw [c13w] at c9b0)
    (try rw [c13w] at c10b0)
    have H' := Aside0.mk H
    clear H
    have p304 : 0 ≤ (x14_1 : Int) := oa_
    have q304 : x14_1 < (l0.length : Int) := oa_
    obtain ⟨ad304, A304_4, c304_4, e304, hx304_0, hx304_1, hx304_2, hx304_3, hx304_4, hl304_4, hi304_4⟩ := at_T43 HR0.out x14_1 p304 q304
    cases e304
    replace hx304_0 := pc_ HB.out hx304_0
    replace hx304_1 := pc_ HB.out hx304_1
    replace hx304_2 := pc_ HB.out hx304_2
    replace hx304_3 := pc_ HB.out hx304_3
    replace hx304_4 := pc_ HB.out hx304_4
    have HR304_4 := Aside0.mk hi304_4
    have HC304_4 := Aside0.mk hl304_4
    clear hi304_4 hl304_4
    replace p304 := eq_true p304
    replace q304 := eq_true q304
    try go_wp2_with (first | ((with_reducible refine gate_dst (N := 8) rfl ?_); refine bq_ (N := 8) #[.int .i64 0, .int .i64 0, .int .i64 0, .int .i64 0, .slice none 0 0] 43 ?_; intro gb305 hg w14 BK305 hb; replace HO_304002 := rB_ HO_304002 hb; have GE305 := ge2_ hg GE302 GE303; replace HB := nc2_ GE302 GE303 hb; have NB302_305 := Aside0.mk ((by rw [hg]; exact Nat.ne_of_lt (blk_lt (g := gb302) (o := .cells #[.int .i64 0, .string (⟨#[]⟩ : ByteArray), .slice none 0 0] 65 (0, 0)) (kb_ BK302.out)) : gb302 ≠ gb305)); have NB305_302 := Aside0.mk ((by rw [hg]; exact Nat.ne_of_gt (blk_lt (g := gb302) (o := .cells #[.int .i64 0, .string (⟨#[]⟩ : ByteArray), .slice none 0 0] 65 (0, 0)) (kb_ BK302.out)) : gb305 ≠ gb302)); replace BK302 := Aside0.mk (blk_below (g := gb302) (o := .cells #[.int .i64 0, .string (⟨#[]⟩ : ByteArray), .slice none 0 0] 65 (0, 0)) (kb_ BK302.out) hb); have NB303_305 := nl_ BK303 hg; have NB305_303 := ng_ BK303 hg; replace BK303 := bK_ BK303 hb; clear hb hg; have hnb15 := NB305_302.out; have hnc15 := NB302_305.out; have hnb16 := NB305_303.out; have hnc16 := NB303_305.out; obtain ⟨hcz17_0, hcz17_1, hcz17_2, hcz17_3, hcz17_4, hfz17_0, hfz17_1, hfz17_2, hfz17_3, hfz17_4⟩ := cf5_ BK305.out; have hnb18 := NB303_302.out; have hnc18 := NB302_303.out; obtain ⟨hcz19_0, hcz19_1, hcz19_2, hfz19_0, hfz19_1, hfz19_2⟩ := cf3_ BK303.out) | ((with_reducible refine gate_builtin (b := .append) (xs := #[.tmp 36, .tmp 41]) rfl ?_); at_builtin; refine Kd.R_append k89 (w0 := w) w.heap.size rfl (.tmp 36) (.tmp 41) 63 89 (.agg #[(.int .i64 0), (.int .i64 0)]) 16 rfl Try.underlying63 info89 rfl (by decide) (by omega) u304002 x304002_1 (⟨(rd_T43 l0 x14_1).f0, (x304001_1.size : Int)⟩ : S89) [.int .i64 ((rd_T43 l0 x14_1).f0), .int .i64 (x304001_1.size : Int)] (fun _ => True) (fun _ => False) rfl (by first | (go_simp; done) | (go_simp; rfl)) ?aP (fun _ hk => hk.elim) ?aF ?aO ?aB ?aS ?aL ?_; (case aP => exact k89_mkM _ _ _ (⟨(rd_T43 l0 x14_1).f0, (x304001_1.size : Int)⟩ : S89)); (case aB => exact (hs3_ GE302.out GE303.out GE305.out)); (case aF => exact (fun _ _ => trivial)); (case aO => exact (rF_ (Kd.R_mono (Kd.R_far (p := ⟨gb303, 0, none⟩) (Kd.R_far (p := ⟨gb305, 4, none⟩) (Kd.R_far (p := ⟨gb305, 3, none⟩) (Kd.R_far (p := ⟨gb305, 2, none⟩) (Kd.R_far (p := ⟨gb305, 1, none⟩) (Kd.R_far (p := ⟨gb305, 0, none⟩) (Kd.R_types (Kd.R_types HO_304002.out BK305.out (by decide)) BK303.out (by decide)) (fun _ hk => hk.1.2) (.int .i64 ((rd_T43 l0 x14_1).f0))) (fun _ hk => hk.1.2) (.int .i64 ((rd_T43 l0 x14_1).f1))) (fun _ hk => hk.1.2) (.int .i64 ((rd_T43 l0 x14_1).f2))) (fun _ hk => hk.1.2) (.int .i64 ((rd_T43 l0 x14_1).f3))) (fun _ hk => hk.1.2) (.slice A304_4 ((rd_T43 l0 x14_1).f4).length c304_4)) (fun _ hk => hk.2) (.int .i64 ((rd_T43 l0 x14_1).f0))) (fun _ hk => trivial)))); (case aS => exact (below_size (hs3_ GE302.out GE303.out GE305.out))); (case aL => have := LMc11.out; omega); intro v307 w20 ho hb hg hat; rw [← Ny306.out] at ho; replace BK302 := Aside0.mk (blk_grown (g := gb302) (o := .cells #[.int .i64 0, .string (⟨#[]⟩ : ByteArray), .slice none 0 0] 65 (0, 0)) (ug_ BK302 NB302_303.out NB302_305.out) hg (Kd.R_ne HO_304002.out BK302.out (by decide))); replace BK303 := Aside0.mk (blk_grown (g := gb303) (o := .cells #[.int .i64 ((rd_T43 l0 x14_1).f0), .string x304001_1, u304002] 65 (0, 0)) (by (with_reducible repeat (first | refine blk_drewN ?_ _ | refine blk_drew ?_ | refine blk_alloc ?_ _)); refine blk_put (cs := #[.int .i64 x304000_1, .string x304001_1, u304002]) ?_ 0 _ rfl; (with_reducible repeat (first | refine blk_drewN ?_ _ | refine blk_drew ?_ | refine blk_alloc ?_ _)); refine blk_far ?_ NB303_305.out _; (with_reducible repeat (first | refine blk_drewN ?_ _ | refine blk_drew ?_ | refine blk_alloc ?_ _)); refine blk_far ?_ NB303_305.out _; (with_reducible repeat (first | refine blk_drewN ?_ _ | refine blk_drew ?_ | refine blk_alloc ?_ _)); refine blk_far ?_ NB303_305.out _; (with_reducible repeat (first | refine blk_drewN ?_ _ | refine blk_drew ?_ | refine blk_alloc ?_ _)); refine blk_far ?_ NB303_305.out _; (with_reducible repeat (first | refine blk_drewN ?_ _ | refine blk_drew ?_ | refine blk_alloc ?_ _)); refine blk_far ?_ NB303_305.out _; (with_reducible repeat (first | refine blk_drewN ?_ _ | refine blk_drew ?_ | refine blk_alloc ?_ _)); exact BK303.out) hg (Kd.R_ne HO_304002.out BK303.out (by decide))); replace BK305 := Aside0.mk (blk_grown (g := gb305) (o := .cells #[.int .i64 ((rd_T43 l0 x14_1).f0), .int .i64 ((rd_T43 l0 x14_1).f1), .int .i64 ((rd_T43 l0 x14_1).f2), .int .i64 ((rd_T43 l0 x14_1).f3), .slice A304_4 ((rd_T43 l0 x14_1).f4).length c304_4] 43 (0, 0)) (by (with_reducible repeat (first | refine blk_drewN ?_ _ | refine blk_drew ?_ | refine blk_alloc ?_ _)); refine blk_far ?_ NB305_303.out _; (with_reducible repeat (first | refine blk_drewN ?_ _ | refine blk_drew ?_ | refine blk_alloc ?_ _)); refine blk_put (cs := #[.int .i64 ((rd_T43 l0 x14_1).f0), .int .i64 ((rd_T43 l0 x14_1).f1), .int .i64 ((rd_T43 l0 x14_1).f2), .int .i64 ((rd_T43 l0 x14_1).f3), .slice none 0 0]) ?_ 4 _ rfl; (with_reducible repeat (first | refine blk_drewN ?_ _ | refine blk_drew ?_ | refine blk_alloc ?_ _)); refine blk_put (cs := #[.int .i64 ((rd_T43 l0 x14_1).f0), .int .i64 ((rd_T43 l0 x14_1).f1), .int .i64 ((rd_T43 l0 x14_1).f2), .int .i64 0, .slice none 0 0]) ?_ 3 _ rfl; (with_reducible repeat (first | refine blk_drewN ?_ _ | refine blk_drew ?_ | refine blk_alloc ?_ _)); refine blk_put (cs := #[.int .i64 ((rd_T43 l0 x14_1).f0), .int .i64 ((rd_T43 l0 x14_1).f1), .int .i64 0, .int .i64 0, .slice none 0 0]) ?_ 2 _ rfl; (with_reducible repeat (first | refine blk_drewN ?_ _ | refine blk_drew ?_ | refine blk_alloc ?_ _)); refine blk_put (cs := #[.int .i64 ((rd_T43 l0 x14_1).f0), .int .i64 0, .int .i64 0, .int .i64 0, .slice none 0 0]) ?_ 1 _ rfl; (with_reducible repeat (first | refine blk_drewN ?_ _ | refine blk_drew ?_ | refine blk_alloc ?_ _)); refine blk_put (cs := #[.int .i64 0, .int .i64 0, .int .i64 0, .int .i64 0, .slice none 0 0]) ?_ 0 _ rfl; (with_reducible repeat (first | refine blk_drewN ?_ _ | refine blk_drew ?_ | refine blk_alloc ?_ _)); exact BK305.out) hg (Kd.R_ne HO_304002.out BK305.out (by decide))); replace HB := Aside0.mk (hb); have HO308 := Aside0.mk (ho); clear HO_304002; clear ho hb hg hat; obtain ⟨Ao21, co21, eo21⟩ := Kd.R_slice HO308.out; subst eo21; obtain ⟨hcz22_0, hcz22_1, hcz22_2, hfz22_0, hfz22_1, hfz22_2⟩ := cf3_ BK303.out))
    have n0_ : Aside0 (Kd.R k89 89 (w20.setCell ⟨gb303, 2, none⟩ (.slice Ao21 y306.length co21)) w.heap.size (fun _ => True) (.slice Ao21 y306.length co21) y306) := ⟨rF_ (Kd.R_mono (Kd.R_far (p := ⟨gb303, 2, none⟩) (Kd.R_types HO308.out BK303.out (by decide)) (fun _ hk => hk.2) (.slice Ao21 y306.length co21)) (fun _ hk => trivial))⟩
    have n1_ : Aside0 ((w20.setCell ⟨gb303, 2, none⟩ (.slice Ao21 y306.length co21)).heap[gb302]? = some (.cells #[.int .i64 0, .string (⟨#[]⟩ : ByteArray), .slice none 0 0] 65 (0, 0))) := ⟨uf_ BK302 NB302_303.out⟩
    have n2_ : Aside0 ((w20.setCell ⟨gb303, 2, none⟩ (.slice Ao21 y306.length co21)).heap[gb303]? = some (.cells #[.int .i64 ((rd_T43 l0 x14_1).f0), .string x304001_1, .slice Ao21 y306.length co21] 65 (0, 0))) := ⟨up_ BK303⟩
    have n3_ : Aside0 ((w20.setCell ⟨gb303, 2, none⟩ (.slice Ao21 y306.length co21)).heap[gb305]? = some (.cells #[.int .i64 ((rd_T43 l0 x14_1).f0), .int .i64 ((rd_T43 l0 x14_1).f1), .int .i64 ((rd_T43 l0 x14_1).f2), .int .i64 ((rd_T43 l0 x14_1).f3), .slice A304_4 ((rd_T43 l0 x14_1).f4).length c304_4] 43 (0, 0))) := ⟨uf_ BK305 NB305_303.out⟩
    have n4_ : Aside0 (Below w.heap.size w (w20.setCell ⟨gb303, 2, none⟩ (.slice Ao21 y306.length co21))) := ⟨hs3_ GE302.out GE303.out GE305.out⟩
    (try clear HO308)
    (try clear BK302)
    (try clear BK303)
    (try clear BK305)
    (try clear HB)
    generalize (w20.setCell ⟨gb303, 2, none⟩ (.slice Ao21 y306.length co21)) = w23 at n0_ n1_ n2_ n3_ n4_ ⊢
    have HO308 := n0_
    have BK302 := n1_
    have BK303 := n2_
    have BK305 := n3_
    have HB := n4_
    clear n0_ n1_ n2_ n3_ n4_
    replace HO308 := qR_ HO308
    replace BK302 := qK_ BK302
    replace BK303 := qK_ BK303
    replace BK305 := qK_ BK305
    replace HB := qH_ HB
    refine start_ (n := 7) (S := fun w' => w'.cell? ⟨gb303, 0, none⟩ = some (.int .i64 ((rd_T43 l0 x14_1).f0)) ∧ w'.cell? ⟨gb303, 1, none⟩ = some (.string x304001_1) ∧ w'.cell? ⟨gb303, 2, none⟩ = some (.slice Ao21 y306.length co21) ∧ w'.cell? ⟨gb305, 0, none⟩ = some (.int .i64 ((rd_T43 l0 x14_1).f0)) ∧ w'.cell? ⟨gb305, 1, none⟩ = some (.int .i64 ((rd_T43 l0 x14_1).f1)) ∧ w'.cell? ⟨gb305, 2, none⟩ = some (.int .i64 ((rd_T43 l0 x14_1).f2)) ∧ w'.cell? ⟨gb305, 3, none⟩ = some (.int .i64 ((rd_T43 l0 x14_1).f3)) ∧ w'.cell? ⟨gb305, 4, none⟩ = some (.slice A304_4 ((rd_T43 l0 x14_1).f4).length c304_4)) (ds := [6]) #[false, false, false, false, false, false, false] (by kernel_rfl) rfl rfl ⟨bt_ BK303 0, bt_ BK303 1, bt_ BK303 2, bt_ BK305 0, bt_ BK305 1, bt_ BK305 2, bt_ BK305 3, bt_ BK305 4⟩ (fun hHeld => ?_)
    generalize w23.drew = w24 at HO308 BK302 BK303 BK305 HB hHeld ⊢
    refine pure_ (i := 0) (N := some 45) (v := ?_) (a' := ?_) #[true, false, false, false, false, false, false] rfl rfl (by kernel_rfl) (fun _ _ _ h => h) (Or.inl ⟨by rfl, ?_⟩) ?_ ?_
    rotate_left
    ·intro w'
     go_simp
     with_reducible rfl
    rotate_left
    ·simp only [Act.put, List.setIfInBounds_toArray, List.set_cons_zero, List.set_cons_succ, i64_w, i32_w]
     rfl
    refine take_ (i := 1) (N := some 46) (v := ?_) (a' := ?_) #[true, true, false, false, false, false, false] rfl rfl (by kernel_rfl) (fun _ _ _ h => h) (Or.inl ⟨by rfl, ?_⟩) hHeld ?_ ?_
    rotate_left
    ·rintro w' ⟨s0, s1, s2, s3, s4, s5, s6, s7⟩
     go_simp
     with_reducible rfl
    rotate_left
    ·simp only [Act.put, List.setIfInBounds_toArray, List.set_cons_zero, List.set_cons_succ, i64_w, i32_w]
     rfl
    refine take_ (i := 2) (N := some 47) (v := ?_) (a' := ?_) #[true, true, true, false, false, false, false] rfl rfl (by kernel_rfl) (fun _ _ _ h => h) (Or.inl ⟨by rfl, ?_⟩) hHeld ?_ ?_
    rotate_left
    ·rintro w' ⟨s0, s1, s2, s3, s4, s5, s6, s7⟩
     go_simp
     with_reducible rfl
    rotate_left
    ·simp only [Act.put, List.setIfInBounds_toArray, List.set_cons_zero, List.set_cons_succ, i64_w, i32_w]
     rfl
    refine one_ (i := 3) (N := some 48) #[true, true, true, true, false, false, false] rfl rfl (by kernel_rfl) (by decide) (fun K hK => ?_)
    refine gs_ Try.func84 #[.agg #[.int .i64 ((rd_T43 l0 x14_1).f0), .int .i64 ((rd_T43 l0 x14_1).f1), .int .i64 ((rd_T43 l0 x14_1).f2), .int .i64 ((rd_T43 l0 x14_1).f3), .slice A304_4 ((rd_T43 l0 x14_1).f4).length c304_4]] rfl ma_ ?_
    with_reducible refine (impl_batchBytes.calls k1 ((rd_T43 l0 x14_1).f0) ((rd_T43 l0 x14_1).f1) ((rd_T43 l0 x14_1).f2) ((rd_T43 l0 x14_1).f3) _ _ ((rd_T43 l0 x14_1).f4) t309 _ ?side1 ?side2 A12.out).mono ?_
    (case side1 => exact cs_ ((Kd.C_below HR304_4.out HB.out)))
    (case side2 => exact HC304_4.out)
    rintro e w25 ⟨rfl, hb⟩
    refine ⟨_, rfl, ?_⟩
    replace HO308 := rB_ HO308 hb
    replace BK302 := Aside0.mk (blk_below (g := gb302) (o := .cells #[.int .i64 0, .string (⟨#[]⟩ : ByteArray), .slice none 0 0] 65 (0, 0)) (kb_ BK302.out) hb)
    replace BK303 := bK_ BK303 hb
    replace BK305 := bK_ BK305 hb
    replace HB := nc3_ GE302 GE303 GE305 hb
    (try clear hb)
    (try clear hb2)
    (try clear hk)
    (try clear hi)
    refine hK.out _ _ ⟨bt_ BK303 0, bt_ BK303 1, bt_ BK303 2, bt_ BK305 0, bt_ BK305 1, bt_ BK305 2, bt_ BK305 3, bt_ BK305 4⟩ (fun hHeld => ?_)
    clear hK K
    refine no_ ?_
    refine pure_ (i := 4) (N := some 49) (v := ?_) (a' := ?_) #[true, true, true, true, true, false, false] rfl rfl (by kernel_rfl) (fun _ _ _ h => h) (Or.inl ⟨by rfl, ?_⟩) ?_ ?_
    rotate_left
    ·intro w'
     go_simp
     with_reducible rfl
    rotate_left
    ·simp only [Act.put, List.setIfInBounds_toArray, List.set_cons_zero, List.set_cons_succ, i64_w, i32_w]
     rfl
    refine pure_ (i := 5) (N := some 50) (v := ?_) (a' := ?_) #[true, true, true, true, true, true, false] rfl rfl (by kernel_rfl) (fun _ _ _ h => h) (Or.inl ⟨by rfl, ?_⟩) ?_ ?_
    rotate_left
    ·intro w'
     go_simp
     with_reducible rfl
    rotate_left
    ·simp only [Act.put, List.setIfInBounds_toArray, List.set_cons_zero, List.set_cons_succ, i64_w, i32_w]
     rfl
    refine last_ (i := 6) (N := none) #[true, true, true, true, true, true, true] rfl rfl (by kernel_rfl) (by decide) (fun K hK => ?_)
    have hs26 : w25.cell? ⟨gb303, 1, none⟩ = some (.string x304001_1) := bt_ BK303 1
    have hfs26 := blk_frozen BK303.out 1
    have hns26_0 := NB302_303.out
    have hns26_2 := NB305_303.out
    have hms26_0 := NB303_302.out
    have hms26_2 := NB303_305.out
    refine skip_ (w1 := ?_) (by rfl) rfl ?_ ?_
    rotate_left
    ·go_simp
     rfl
    refine hK.out _ _ ?_
    clear hK K
    refine done_ (by kernel_rfl) ?_
    try go_wp2
    go_roundg k1
    case measure => have := HK1.out; omega
    case rel => exact ⟨((x304001_1.size : Int)), (wrap64 (x14_1 + 1)), ((rd_T43 l0 x14_1).f0), (x304001_1 ++ t309), (y306), (.slice Ao21 y306.length co21), sr_, sr_, H', ⟨by have := HK1.out; omega⟩, ⟨rF_ (Kd.R_mono (Kd.R_far (p := ⟨gb303, 1, none⟩) (Kd.R_types HO308.out BK303.out (by decide)) (fun _ hk => hk.2) (.string (x304001_1 ++ t309))) (fun _ hk => trivial))⟩, ⟨uf_ BK302 NB302_303.out⟩, ⟨up_ BK303⟩, ⟨hs3_ GE302.out GE303.out GE305.out⟩⟩
   have c10b0 : (x14_1 == 0) = false := beq_eq_false_iff_ne.mpr c10
   have c10b1 : (x14_1 != 0) = true := bne_iff_ne.mpr c10
   replace H := ite_ H
   obtain ⟨c27, H⟩ | ⟨c27, H⟩ := H
   rotate_left
   ·have c27b0 := dne_ c27
    clear c27
    replace H := bnd_ H
    obtain ⟨t314, A44, H⟩ := H
    replace H := ifs_ H
    obtain ⟨c45, H⟩ := H
    have c45b0 := eq_true c45
    have c45b1 := decide_eq_true c45
    try have c45b2 : (9223372036854775807 < x304001_1.size + t314.size) = False := eq_false (Nat.not_lt.2 c45)
    try have c45w := cw_ c45
    (try rw [c45w] at c7b0)
    (try rw [c45w] at c8b0)
    (try rw [c45w] at c9b0)
    (try rw [c45w] at c10b0)
    (try rw [c45w] at c13b0)
    (try rw [c45w] at c27b0)
    (try rw [c45w] at c30b0)
    have H' := Aside0.mk H
    clear H
    have p304 : 0 ≤ (x14_1 : Int) := oa_
    have q304 : x14_1 < (l0.length : Int) := oa_
    obtain ⟨ad304, A304_4, c304_4, e304, hx304_0, hx304_1, hx304_2, hx304_3, hx304_4, hl304_4, hi304_4⟩ := at_T43 HR0.out x14_1 p304 q304
    cases e304
    replace hx304_0 := pc_ HB.out hx304_0
    replace hx304_1 := pc_ HB.out hx304_1
    replace hx304_2 := pc_ HB.out hx304_2
    replace hx304_3 := pc_ HB.out hx304_3
    replace hx304_4 := pc_ HB.out hx304_4
    have HR304_4 := Aside0.mk hi304_4
    have HC304_4 := Aside0.mk hl304_4
    clear hi304_4 hl304_4
    replace p304 := eq_true p304
    replace q304 := eq_true q304
    try go_wp2_with (first | ((with_reducible refine gate_dst (N := 8) rfl ?_); refine bq_ (N := 8) #[.int .i64 0, .int .i64 0, .int .i64 0, .int .i64 0, .slice none 0 0] 43 ?_; intro gb305 hg w46 BK305 hb; replace HO_304002 := rB_ HO_304002 hb; have GE305 := ge2_ hg GE302 GE303; replace HB := nc2_ GE302 GE303 hb; have NB302_305 := Aside0.mk ((by rw [hg]; exact Nat.ne_of_lt (blk_lt (g := gb302) (o := .cells #[.int .i64 0, .string (⟨#[]⟩ : ByteArray), .slice none 0 0] 65 (0, 0)) (kb_ BK302.out)) : gb302 ≠ gb305)); have NB305_302 := Aside0.mk ((by rw [hg]; exact Nat.ne_of_gt (blk_lt (g := gb302) (o := .cells #[.int .i64 0, .string (⟨#[]⟩ : ByteArray), .slice none 0 0] 65 (0, 0)) (kb_ BK302.out)) : gb305 ≠ gb302)); replace BK302 := Aside0.mk (blk_below (g := gb302) (o := .cells #[.int .i64 0, .string (⟨#[]⟩ : ByteArray), .slice none 0 0] 65 (0, 0)) (kb_ BK302.out) hb); have NB303_305 := nl_ BK303 hg; have NB305_303 := ng_ BK303 hg; replace BK303 := bK_ BK303 hb; clear hb hg; have hnb47 := NB305_302.out; have hnc47 := NB302_305.out; have hnb48 := NB305_303.out; have hnc48 := NB303_305.out; obtain ⟨hcz49_0, hcz49_1, hcz49_2, hcz49_3, hcz49_4, hfz49_0, hfz49_1, hfz49_2, hfz49_3, hfz49_4⟩ := cf5_ BK305.out; have hnb50 := NB303_302.out; have hnc50 := NB302_303.out; obtain ⟨hcz51_0, hcz51_1, hcz51_2, hfz51_0, hfz51_1, hfz51_2⟩ := cf3_ BK303.out))
    have n0_ : Aside0 (Kd.R k89 89 (((((w46.setCell ⟨gb305, 0, none⟩ (.int .i64 ((rd_T43 l0 x14_1).f0))).setCell ⟨gb305, 1, none⟩ (.int .i64 ((rd_T43 l0 x14_1).f1))).setCell ⟨gb305, 2, none⟩ (.int .i64 ((rd_T43 l0 x14_1).f2))).setCell ⟨gb305, 3, none⟩ (.int .i64 ((rd_T43 l0 x14_1).f3))).setCell ⟨gb305, 4, none⟩ (.slice A304_4 ((rd_T43 l0 x14_1).f4).length c304_4)) w.heap.size (fun _ => True) u304002 x304002_1) := ⟨Kd.R_mono (rF_ (Kd.R_types HO_304002.out BK305.out (by decide))) (fun _ hk => trivial)⟩
    have n1_ : Aside0 ((((((w46.setCell ⟨gb305, 0, none⟩ (.int .i64 ((rd_T43 l0 x14_1).f0))).setCell ⟨gb305, 1, none⟩ (.int .i64 ((rd_T43 l0 x14_1).f1))).setCell ⟨gb305, 2, none⟩ (.int .i64 ((rd_T43 l0 x14_1).f2))).setCell ⟨gb305, 3, none⟩ (.int .i64 ((rd_T43 l0 x14_1).f3))).setCell ⟨gb305, 4, none⟩ (.slice A304_4 ((rd_T43 l0 x14_1).f4).length c304_4)).heap[gb302]? = some (.cells #[.int .i64 0, .string (⟨#[]⟩ : ByteArray), .slice none 0 0] 65 (0, 0))) := ⟨uf_ BK302 NB302_305.out⟩
    have n2_ : Aside0 ((((((w46.setCell ⟨gb305, 0, none⟩ (.int .i64 ((rd_T43 l0 x14_1).f0))).setCell ⟨gb305, 1, none⟩ (.int .i64 ((rd_T43 l0 x14_1).f1))).setCell ⟨gb305, 2, none⟩ (.int .i64 ((rd_T43 l0 x14_1).f2))).setCell ⟨gb305, 3, none⟩ (.int .i64 ((rd_T43 l0 x14_1).f3))).setCell ⟨gb305, 4, none⟩ (.slice A304_4 ((rd_T43 l0 x14_1).f4).length c304_4)).heap[gb303]? = some (.cells #[.int .i64 x304000_1, .string x304001_1, u304002] 65 (0, 0))) := ⟨uf_ BK303 NB303_305.out⟩
    have n3_ : Aside0 ((((((w46.setCell ⟨gb305, 0, none⟩ (.int .i64 ((rd_T43 l0 x14_1).f0))).setCell ⟨gb305, 1, none⟩ (.int .i64 ((rd_T43 l0 x14_1).f1))).setCell ⟨gb305, 2, none⟩ (.int .i64 ((rd_T43 l0 x14_1).f2))).setCell ⟨gb305, 3, none⟩ (.int .i64 ((rd_T43 l0 x14_1).f3))).setCell ⟨gb305, 4, none⟩ (.slice A304_4 ((rd_T43 l0 x14_1).f4).length c304_4)).heap[gb305]? = some (.cells #[.int .i64 ((rd_T43 l0 x14_1).f0), .int .i64 ((rd_T43 l0 x14_1).f1), .int .i64 ((rd_T43 l0 x14_1).f2), .int .i64 ((rd_T43 l0 x14_1).f3), .slice A304_4 ((rd_T43 l0 x14_1).f4).length c304_4] 43 (0, 0))) := ⟨up_ BK305⟩
    have n4_ : Aside0 (Below w.heap.size w (((((w46.setCell ⟨gb305, 0, none⟩ (.int .i64 ((rd_T43 l0 x14_1).f0))).setCell ⟨gb305, 1, none⟩ (.int .i64 ((rd_T43 l0 x14_1).f1))).setCell ⟨gb305, 2, none⟩ (.int .i64 ((rd_T43 l0 x14_1).f2))).setCell ⟨gb305, 3, none⟩ (.int .i64 ((rd_T43 l0 x14_1).f3))).setCell ⟨gb305, 4, none⟩ (.slice A304_4 ((rd_T43 l0 x14_1).f4).length c304_4))) := ⟨hs3_ GE302.out GE303.out GE305.out⟩
    (try clear HO_304002)
    (try clear BK302)
    (try clear BK303)
    (try clear BK305)
    (try clear HB)
    generalize (((((w46.setCell ⟨gb305, 0, none⟩ (.int .i64 ((rd_T43 l0 x14_1).f0))).setCell ⟨gb305, 1, none⟩ (.int .i64 ((rd_T43 l0 x14_1).f1))).setCell ⟨gb305, 2, none⟩ (.int .i64 ((rd_T43 l0 x14_1).f2))).setCell ⟨gb305, 3, none⟩ (.int .i64 ((rd_T43 l0 x14_1).f3))).setCell ⟨gb305, 4, none⟩ (.slice A304_4 ((rd_T43 l0 x14_1).f4).length c304_4)) = w52 at n0_ n1_ n2_ n3_ n4_ ⊢
    have HO_304002 := n0_
    have BK302 := n1_
    have BK303 := n2_
    have BK305 := n3_
    have HB := n4_
    clear n0_ n1_ n2_ n3_ n4_
    replace HO_304002 := qR_ HO_304002
    replace BK302 := qK_ BK302
    replace BK303 := qK_ BK303
    replace BK305 := qK_ BK305
    replace HB := qH_ HB
    refine start_ (n := 7) (S := fun w' => w'.cell? ⟨gb303, 0, none⟩ = some (.int .i64 x304000_1) ∧ w'.cell? ⟨gb303, 1, none⟩ = some (.string x304001_1) ∧ w'.cell? ⟨gb303, 2, none⟩ = some (u304002) ∧ w'.cell? ⟨gb305, 0, none⟩ = some (.int .i64 ((rd_T43 l0 x14_1).f0)) ∧ w'.cell? ⟨gb305, 1, none⟩ = some (.int .i64 ((rd_T43 l0 x14_1).f1)) ∧ w'.cell? ⟨gb305, 2, none⟩ = some (.int .i64 ((rd_T43 l0 x14_1).f2)) ∧ w'.cell? ⟨gb305, 3, none⟩ = some (.int .i64 ((rd_T43 l0 x14_1).f3)) ∧ w'.cell? ⟨gb305, 4, none⟩ = some (.slice A304_4 ((rd_T43 l0 x14_1).f4).length c304_4)) (ds := [6]) #[false, false, false, false, false, false, false] (by kernel_rfl) rfl rfl ⟨bt_ BK303 0, bt_ BK303 1, bt_ BK303 2, bt_ BK305 0, bt_ BK305 1, bt_ BK305 2, bt_ BK305 3, bt_ BK305 4⟩ (fun hHeld => ?_)
    generalize w52.drew = w53 at HO_304002 BK302 BK303 BK305 HB hHeld ⊢
    refine pure_ (i := 0) (N := some 45) (v := ?_) (a' := ?_) #[true, false, false, false, false, false, false] rfl rfl (by kernel_rfl) (fun _ _ _ h => h) (Or.inl ⟨by rfl, ?_⟩) ?_ ?_
    rotate_left
    ·intro w'
     go_simp
     with_reducible rfl
    rotate_left
    ·simp only [Act.put, List.setIfInBounds_toArray, List.set_cons_zero, List.set_cons_succ, i64_w, i32_w]
     rfl
    refine take_ (i := 1) (N := some 46) (v := ?_) (a' := ?_) #[true, true, false, false, false, false, false] rfl rfl (by kernel_rfl) (fun _ _ _ h => h) (Or.inl ⟨by rfl, ?_⟩) hHeld ?_ ?_
    rotate_left
    ·rintro w' ⟨s0, s1, s2, s3, s4, s5, s6, s7⟩
     go_simp
     with_reducible rfl
    rotate_left
    ·simp only [Act.put, List.setIfInBounds_toArray, List.set_cons_zero, List.set_cons_succ, i64_w, i32_w]
     rfl
    refine take_ (i := 2) (N := some 47) (v := ?_) (a' := ?_) #[true, true, true, false, false, false, false] rfl rfl (by kernel_rfl) (fun _ _ _ h => h) (Or.inl ⟨by rfl, ?_⟩) hHeld ?_ ?_
    rotate_left
    ·rintro w' ⟨s0, s1, s2, s3, s4, s5, s6, s7⟩
     go_simp
     with_reducible rfl
    rotate_left
    ·simp only [Act.put, List.setIfInBounds_toArray, List.set_cons_zero, List.set_cons_succ, i64_w, i32_w]
     rfl
    refine one_ (i := 3) (N := some 48) #[true, true, true, true, false, false, false] rfl rfl (by kernel_rfl) (by decide) (fun K hK => ?_)
    refine gs_ Try.func84 #[.agg #[.int .i64 ((rd_T43 l0 x14_1).f0), .int .i64 ((rd_T43 l0 x14_1).f1), .int .i64 ((rd_T43 l0 x14_1).f2), .int .i64 ((rd_T43 l0 x14_1).f3), .slice A304_4 ((rd_T43 l0 x14_1).f4).length c304_4]] rfl ma_ ?_
    with_reducible refine (impl_batchBytes.calls k1 ((rd_T43 l0 x14_1).f0) ((rd_T43 l0 x14_1).f1) ((rd_T43 l0 x14_1).f2) ((rd_T43 l0 x14_1).f3) _ _ ((rd_T43 l0 x14_1).f4) t314 _ ?side1 ?side2 A44.out).mono ?_
    (case side1 => exact cs_ ((Kd.C_below HR304_4.out HB.out)))
    (case side2 => exact HC304_4.out)
    rintro e w54 ⟨rfl, hb⟩
    refine ⟨_, rfl, ?_⟩
    replace HO_304002 := rB_ HO_304002 hb
    replace BK302 := Aside0.mk (blk_below (g := gb302) (o := .cells #[.int .i64 0, .string (⟨#[]⟩ : ByteArray), .slice none 0 0] 65 (0, 0)) (kb_ BK302.out) hb)
    replace BK303 := bK_ BK303 hb
    replace BK305 := bK_ BK305 hb
    replace HB := nc3_ GE302 GE303 GE305 hb
    (try clear hb)
    (try clear hb2)
    (try clear hk)
    (try clear hi)
    refine hK.out _ _ ⟨bt_ BK303 0, bt_ BK303 1, bt_ BK303 2, bt_ BK305 0, bt_ BK305 1, bt_ BK305 2, bt_ BK305 3, bt_ BK305 4⟩ (fun hHeld => ?_)
    clear hK K
    refine no_ ?_
    refine pure_ (i := 4) (N := some 49) (v := ?_) (a' := ?_) #[true, true, true, true, true, false, false] rfl rfl (by kernel_rfl) (fun _ _ _ h => h) (Or.inl ⟨by rfl, ?_⟩) ?_ ?_
    rotate_left
    ·intro w'
     go_simp
     with_reducible rfl
    rotate_left
    ·simp only [Act.put, List.setIfInBounds_toArray, List.set_cons_zero, List.set_cons_succ, i64_w, i32_w]
     rfl
    refine pure_ (i := 5) (N := some 50) (v := ?_) (a' := ?_) #[true, true, true, true, true, true, false] rfl rfl (by kernel_rfl) (fun _ _ _ h => h) (Or.inl ⟨by rfl, ?_⟩) ?_ ?_
    rotate_left
    ·intro w'
     go_simp
     with_reducible rfl
    rotate_left
    ·simp only [Act.put, List.setIfInBounds_toArray, List.set_cons_zero, List.set_cons_succ, i64_w, i32_w]
     rfl
    refine last_ (i := 6) (N := none) #[true, true, true, true, true, true, true] rfl rfl (by kernel_rfl) (by decide) (fun K hK => ?_)
    have hs55 : w54.cell? ⟨gb303, 1, none⟩ = some (.string x304001_1) := bt_ BK303 1
    have hfs55 := blk_frozen BK303.out 1
    have hns55_0 := NB302_303.out
    have hns55_2 := NB305_303.out
    have hms55_0 := NB303_302.out
    have hms55_2 := NB303_305.out
    refine skip_ (w1 := ?_) (by rfl) rfl ?_ ?_
    rotate_left
    ·go_simp
     rfl
    refine hK.out _ _ ?_
    clear hK K
    refine done_ (by kernel_rfl) ?_
    try go_wp2
    go_roundg k1
    case measure => have := HK1.out; omega
    case rel => exact ⟨(x6_1), (wrap64 (x14_1 + 1)), (x304000_1), (x304001_1 ++ t314), (x304002_1), (u304002), sr_, sr_, H', ⟨by have := HK1.out; omega⟩, ⟨rF_ (Kd.R_mono (Kd.R_far (p := ⟨gb303, 1, none⟩) (Kd.R_types HO_304002.out BK303.out (by decide)) (fun _ hk => hk.2) (.string (x304001_1 ++ t314))) (fun _ hk => trivial))⟩, ⟨uf_ BK302 NB302_303.out⟩, ⟨up_ BK303⟩, ⟨hs3_ GE302.out GE303.out GE305.out⟩⟩
   have c27b0 := dge_ c27
   clear c27
   replace H := ifs_ H
   obtain ⟨c28, H⟩ := H
   have LMc28 := Aside0.mk c28
   clear c28
   obtain ⟨y310, hy310⟩ : ∃ y_ : List (S89), y_ = (x304002_1 ++ [(⟨(rd_T43 l0 x14_1).f0, (x304001_1.size : Int)⟩ : S89)]) := ⟨_, rfl⟩
   replace H : ((impl_batchBytes.f k1 ((rd_T43 l0 x14_1).f0) ((rd_T43 l0 x14_1).f1) ((rd_T43 l0 x14_1).f2) ((rd_T43 l0 x14_1).f3) ((rd_T43 l0 x14_1).f4)).bind fun t313 => (if x304001_1.size + t313.size ≤ 9223372036854775807 then (impl_segmentOf.l0 k1 (x304001_1.size : Int) l0 (l0.length : Int) (wrap64 (x14_1 + 1)) x304000_1 (x304001_1 ++ t313) y310) else (none))) = some (r1, r2, r3) := by first | (rw [hy310]; with_reducible exact H) | (have H2_ := (Option.bind_some _ _).symm.trans H; rw [hy310]; with_reducible exact H2_) | (have H2_ := (Option.bind_some _ _).symm.trans H; with_reducible exact H2_) | with_reducible exact H | (rw [hy310]; exact H) | exact H
   have Ny310 := Aside0.mk hy310
   clear hy310
   replace H := bnd_ H
   obtain ⟨t313, A29, H⟩ := H
   replace H := ifs_ H
   obtain ⟨c30, H⟩ := H
   have c30b0 := eq_true c30
   have c30b1 := decide_eq_true c30
   try have c30b2 : (9223372036854775807 < x304001_1.size + t313.size) = False := eq_false (Nat.not_lt.2 c30)
   try have c30w := cw_ c30
   (try rw [c30w] at c7b0)
   (try rw [c30w] at c8b0)
   (try rw [c30w] at c9b0)
   (try rw [c30w] at c10b0)
   (try rw [c30w] at c13b0)
   (try rw [c30w] at c27b0)
   have H' := Aside0.mk H
   clear H
   have p304 : 0 ≤ (x14_1 : Int) := oa_
   have q304 : x14_1 < (l0.length : Int) := oa_
   obtain ⟨ad304, A304_4, c304_4, e304, hx304_0, hx304_1, hx304_2, hx304_3, hx304_4, hl304_4, hi304_4⟩ := at_T43 HR0.out x14_1 p304 q304
   cases e304
   replace hx304_0 := pc_ HB.out hx304_0
   replace hx304_1 := pc_ HB.out hx304_1
   replace hx304_2 := pc_ HB.out hx304_2
   replace hx304_3 := pc_ HB.out hx304_3
   replace hx304_4 := pc_ HB.out hx304_4
   have HR304_4 := Aside0.mk hi304_4
   have HC304_4 := Aside0.mk hl304_4
   clear hi304_4 hl304_4
   replace p304 := eq_true p304
   replace q304 := eq_true q304
   try go_wp2_with (first | ((with_reducible refine gate_dst (N := 8) rfl ?_); refine bq_ (N := 8) #[.int .i64 0, .int .i64 0, .int .i64 0, .int .i64 0, .slice none 0 0] 43 ?_; intro gb305 hg w31 BK305 hb; replace HO_304002 := rB_ HO_304002 hb; have GE305 := ge2_ hg GE302 GE303; replace HB := nc2_ GE302 GE303 hb; have NB302_305 := Aside0.mk ((by rw [hg]; exact Nat.ne_of_lt (blk_lt (g := gb302) (o := .cells #[.int .i64 0, .string (⟨#[]⟩ : ByteArray), .slice none 0 0] 65 (0, 0)) (kb_ BK302.out)) : gb302 ≠ gb305)); have NB305_302 := Aside0.mk ((by rw [hg]; exact Nat.ne_of_gt (blk_lt (g := gb302) (o := .cells #[.int .i64 0, .string (⟨#[]⟩ : ByteArray), .slice none 0 0] 65 (0, 0)) (kb_ BK302.out)) : gb305 ≠ gb302)); replace BK302 := Aside0.mk (blk_below (g := gb302) (o := .cells #[.int .i64 0, .string (⟨#[]⟩ : ByteArray), .slice none 0 0] 65 (0, 0)) (kb_ BK302.out) hb); have NB303_305 := nl_ BK303 hg; have NB305_303 := ng_ BK303 hg; replace BK303 := bK_ BK303 hb; clear hb hg; have hnb32 := NB305_302.out; have hnc32 := NB302_305.out; have hnb33 := NB305_303.out; have hnc33 := NB303_305.out; obtain ⟨hcz34_0, hcz34_1, hcz34_2, hcz34_3, hcz34_4, hfz34_0, hfz34_1, hfz34_2, hfz34_3, hfz34_4⟩ := cf5_ BK305.out; have hnb35 := NB303_302.out; have hnc35 := NB302_303.out; obtain ⟨hcz36_0, hcz36_1, hcz36_2, hfz36_0, hfz36_1, hfz36_2⟩ := cf3_ BK303.out) | ((with_reducible refine gate_builtin (b := .append) (xs := #[.tmp 36, .tmp 41]) rfl ?_); at_builtin; refine Kd.R_append k89 (w0 := w) w.heap.size rfl (.tmp 36) (.tmp 41) 63 89 (.agg #[(.int .i64 0), (.int .i64 0)]) 16 rfl Try.underlying63 info89 rfl (by decide) (by omega) u304002 x304002_1 (⟨(rd_T43 l0 x14_1).f0, (x304001_1.size : Int)⟩ : S89) [.int .i64 ((rd_T43 l0 x14_1).f0), .int .i64 (x304001_1.size : Int)] (fun _ => True) (fun _ => False) rfl (by first | (go_simp; done) | (go_simp; rfl)) ?aP (fun _ hk => hk.elim) ?aF ?aO ?aB ?aS ?aL ?_; (case aP => exact k89_mkM _ _ _ (⟨(rd_T43 l0 x14_1).f0, (x304001_1.size : Int)⟩ : S89)); (case aB => exact (hs3_ GE302.out GE303.out GE305.out)); (case aF => exact (fun _ _ => trivial)); (case aO => exact (Kd.R_mono (rF_ (Kd.R_types HO_304002.out BK305.out (by decide))) (fun _ hk => trivial))); (case aS => exact (below_size (hs3_ GE302.out GE303.out GE305.out))); (case aL => have := LMc28.out; omega); intro v311 w37 ho hb hg hat; rw [← Ny310.out] at ho; replace BK302 := Aside0.mk (blk_grown (g := gb302) (o := .cells #[.int .i64 0, .string (⟨#[]⟩ : ByteArray), .slice none 0 0] 65 (0, 0)) (uf_ BK302 NB302_305.out) hg (Kd.R_ne HO_304002.out BK302.out (by decide))); replace BK303 := Aside0.mk (blk_grown (g := gb303) (o := .cells #[.int .i64 x304000_1, .string x304001_1, u304002] 65 (0, 0)) (uf_ BK303 NB303_305.out) hg (Kd.R_ne HO_304002.out BK303.out (by decide))); replace BK305 := Aside0.mk (blk_grown (g := gb305) (o := .cells #[.int .i64 ((rd_T43 l0 x14_1).f0), .int .i64 ((rd_T43 l0 x14_1).f1), .int .i64 ((rd_T43 l0 x14_1).f2), .int .i64 ((rd_T43 l0 x14_1).f3), .slice A304_4 ((rd_T43 l0 x14_1).f4).length c304_4] 43 (0, 0)) (up_ BK305) hg (Kd.R_ne HO_304002.out BK305.out (by decide))); replace HB := Aside0.mk (hb); have HO312 := Aside0.mk (ho); clear HO_304002; clear ho hb hg hat; obtain ⟨Ao38, co38, eo38⟩ := Kd.R_slice HO312.out; subst eo38; obtain ⟨hcz39_0, hcz39_1, hcz39_2, hfz39_0, hfz39_1, hfz39_2⟩ := cf3_ BK303.out))
   have n0_ : Aside0 (Kd.R k89 89 (w37.setCell ⟨gb303, 2, none⟩ (.slice Ao38 y310.length co38)) w.heap.size (fun _ => True) (.slice Ao38 y310.length co38) y310) := ⟨rF_ (Kd.R_mono (Kd.R_far (p := ⟨gb303, 2, none⟩) (Kd.R_types HO312.out BK303.out (by decide)) (fun _ hk => hk.2) (.slice Ao38 y310.length co38)) (fun _ hk => trivial))⟩
   have n1_ : Aside0 ((w37.setCell ⟨gb303, 2, none⟩ (.slice Ao38 y310.length co38)).heap[gb302]? = some (.cells #[.int .i64 0, .string (⟨#[]⟩ : ByteArray), .slice none 0 0] 65 (0, 0))) := ⟨uf_ BK302 NB302_303.out⟩
   have n2_ : Aside0 ((w37.setCell ⟨gb303, 2, none⟩ (.slice Ao38 y310.length co38)).heap[gb303]? = some (.cells #[.int .i64 x304000_1, .string x304001_1, .slice Ao38 y310.length co38] 65 (0, 0))) := ⟨up_ BK303⟩
   have n3_ : Aside0 ((w37.setCell ⟨gb303, 2, none⟩ (.slice Ao38 y310.length co38)).heap[gb305]? = some (.cells #[.int .i64 ((rd_T43 l0 x14_1).f0), .int .i64 ((rd_T43 l0 x14_1).f1), .int .i64 ((rd_T43 l0 x14_1).f2), .int .i64 ((rd_T43 l0 x14_1).f3), .slice A304_4 ((rd_T43 l0 x14_1).f4).length c304_4] 43 (0, 0))) := ⟨uf_ BK305 NB305_303.out⟩
   have n4_ : Aside0 (Below w.heap.size w (w37.setCell ⟨gb303, 2, none⟩ (.slice Ao38 y310.length co38))) := ⟨hs3_ GE302.out GE303.out GE305.out⟩
   (try clear HO312)
   (try clear BK302)
   (try clear BK303)
   (try clear BK305)
   (try clear HB)
   generalize (w37.setCell ⟨gb303, 2, none⟩ (.slice Ao38 y310.length co38)) = w40 at n0_ n1_ n2_ n3_ n4_ ⊢
   have HO312 := n0_
   have BK302 := n1_
   have BK303 := n2_
   have BK305 := n3_
   have HB := n4_
   clear n0_ n1_ n2_ n3_ n4_
   replace HO312 := qR_ HO312
   replace BK302 := qK_ BK302
   replace BK303 := qK_ BK303
   replace BK305 := qK_ BK305
   replace HB := qH_ HB
   refine start_ (n := 7) (S := fun w' => w'.cell? ⟨gb303, 0, none⟩ = some (.int .i64 x304000_1) ∧ w'.cell? ⟨gb303, 1, none⟩ = some (.string x304001_1) ∧ w'.cell? ⟨gb303, 2, none⟩ = some (.slice Ao38 y310.length co38) ∧ w'.cell? ⟨gb305, 0, none⟩ = some (.int .i64 ((rd_T43 l0 x14_1).f0)) ∧ w'.cell? ⟨gb305, 1, none⟩ = some (.int .i64 ((rd_T43 l0 x14_1).f1)) ∧ w'.cell? ⟨gb305, 2, none⟩ = some (.int .i64 ((rd_T43 l0 x14_1).f2)) ∧ w'.cell? ⟨gb305, 3, none⟩ = some (.int .i64 ((rd_T43 l0 x14_1).f3)) ∧ w'.cell? ⟨gb305, 4, none⟩ = some (.slice A304_4 ((rd_T43 l0 x14_1).f4).length c304_4)) (ds := [6]) #[false, false, false, false, false, false, false] (by kernel_rfl) rfl rfl ⟨bt_ BK303 0, bt_ BK303 1, bt_ BK303 2, bt_ BK305 0, bt_ BK305 1, bt_ BK305 2, bt_ BK305 3, bt_ BK305 4⟩ (fun hHeld => ?_)
   generalize w40.drew = w41 at HO312 BK302 BK303 BK305 HB hHeld ⊢
   refine pure_ (i := 0) (N := some 45) (v := ?_) (a' := ?_) #[true, false, false, false, false, false, false] rfl rfl (by kernel_rfl) (fun _ _ _ h => h) (Or.inl ⟨by rfl, ?_⟩) ?_ ?_
   rotate_left
   ·intro w'
    go_simp
    with_reducible rfl
   rotate_left
   ·simp only [Act.put, List.setIfInBounds_toArray, List.set_cons_zero, List.set_cons_succ, i64_w, i32_w]
    rfl
   refine take_ (i := 1) (N := some 46) (v := ?_) (a' := ?_) #[true, true, false, false, false, false, false] rfl rfl (by kernel_rfl) (fun _ _ _ h => h) (Or.inl ⟨by rfl, ?_⟩) hHeld ?_ ?_
   rotate_left
   ·rintro w' ⟨s0, s1, s2, s3, s4, s5, s6, s7⟩
    go_simp
    with_reducible rfl
   rotate_left
   ·simp only [Act.put, List.setIfInBounds_toArray, List.set_cons_zero, List.set_cons_succ, i64_w, i32_w]
    rfl
   refine take_ (i := 2) (N := some 47) (v := ?_) (a' := ?_) #[true, true, true, false, false, false, false] rfl rfl (by kernel_rfl) (fun _ _ _ h => h) (Or.inl ⟨by rfl, ?_⟩) hHeld ?_ ?_
   rotate_left
   ·rintro w' ⟨s0, s1, s2, s3, s4, s5, s6, s7⟩
    go_simp
    with_reducible rfl
   rotate_left
   ·simp only [Act.put, List.setIfInBounds_toArray, List.set_cons_zero, List.set_cons_succ, i64_w, i32_w]
    rfl
   refine one_ (i := 3) (N := some 48) #[true, true, true, true, false, false, false] rfl rfl (by kernel_rfl) (by decide) (fun K hK => ?_)
   refine gs_ Try.func84 #[.agg #[.int .i64 ((rd_T43 l0 x14_1).f0), .int .i64 ((rd_T43 l0 x14_1).f1), .int .i64 ((rd_T43 l0 x14_1).f2), .int .i64 ((rd_T43 l0 x14_1).f3), .slice A304_4 ((rd_T43 l0 x14_1).f4).length c304_4]] rfl ma_ ?_
   with_reducible refine (impl_batchBytes.calls k1 ((rd_T43 l0 x14_1).f0) ((rd_T43 l0 x14_1).f1) ((rd_T43 l0 x14_1).f2) ((rd_T43 l0 x14_1).f3) _ _ ((rd_T43 l0 x14_1).f4) t313 _ ?side1 ?side2 A29.out).mono ?_
   (case side1 => exact cs_ ((Kd.C_below HR304_4.out HB.out)))
   (case side2 => exact HC304_4.out)
   rintro e w42 ⟨rfl, hb⟩
   refine ⟨_, rfl, ?_⟩
   replace HO312 := rB_ HO312 hb
   replace BK302 := Aside0.mk (blk_below (g := gb302) (o := .cells #[.int .i64 0, .string (⟨#[]⟩ : ByteArray), .slice none 0 0] 65 (0, 0)) (kb_ BK302.out) hb)
   replace BK303 := bK_ BK303 hb
   replace BK305 := bK_ BK305 hb
   replace HB := nc3_ GE302 GE303 GE305 hb
   (try clear hb)
   (try clear hb2)
   (try clear hk)
   (try clear hi)
   refine hK.out _ _ ⟨bt_ BK303 0, bt_ BK303 1, bt_ BK303 2, bt_ BK305 0, bt_ BK305 1, bt_ BK305 2, bt_ BK305 3, bt_ BK305 4⟩ (fun hHeld => ?_)
   clear hK K
   refine no_ ?_
   refine pure_ (i := 4) (N := some 49) (v := ?_) (a' := ?_) #[true, true, true, true, true, false, false] rfl rfl (by kernel_rfl) (fun _ _ _ h => h) (Or.inl ⟨by rfl, ?_⟩) ?_ ?_
   rotate_left
   ·intro w'
    go_simp
    with_reducible rfl
   rotate_left
   ·simp only [Act.put, List.setIfInBounds_toArray, List.set_cons_zero, List.set_cons_succ, i64_w, i32_w]
    rfl
   refine pure_ (i := 5) (N := some 50) (v := ?_) (a' := ?_) #[true, true, true, true, true, true, false] rfl rfl (by kernel_rfl) (fun _ _ _ h => h) (Or.inl ⟨by rfl, ?_⟩) ?_ ?_
   rotate_left
   ·intro w'
    go_simp
    with_reducible rfl
   rotate_left
   ·simp only [Act.put, List.setIfInBounds_toArray, List.set_cons_zero, List.set_cons_succ, i64_w, i32_w]
    rfl
   refine last_ (i := 6) (N := none) #[true, true, true, true, true, true, true] rfl rfl (by kernel_rfl) (by decide) (fun K hK => ?_)
   have hs43 : w42.cell? ⟨gb303, 1, none⟩ = some (.string x304001_1) := bt_ BK303 1
   have hfs43 := blk_frozen BK303.out 1
   have hns43_0 := NB302_303.out
   have hns43_2 := NB305_303.out
   have hms43_0 := NB303_302.out
   have hms43_2 := NB303_305.out
   refine skip_ (w1 := ?_) (by rfl) rfl ?_ ?_
   rotate_left
   ·go_simp
    rfl
   refine hK.out _ _ ?_
   clear hK K
   refine done_ (by kernel_rfl) ?_
   try go_wp2
   go_roundg k1
   case measure => have := HK1.out; omega
   case rel => exact ⟨((x304001_1.size : Int)), (wrap64 (x14_1 + 1)), (x304000_1), (x304001_1 ++ t313), (y310), (.slice Ao38 y310.length co38), sr_, sr_, H', ⟨by have := HK1.out; omega⟩, ⟨rF_ (Kd.R_mono (Kd.R_far (p := ⟨gb303, 1, none⟩) (Kd.R_types HO312.out BK303.out (by decide)) (fun _ hk => hk.2) (.string (x304001_1 ++ t313))) (fun _ hk => trivial))⟩, ⟨uf_ BK302 NB302_303.out⟩, ⟨up_ BK303⟩, ⟨hs3_ GE302.out GE303.out GE305.out⟩⟩

end Go.Proofs.Ytffpeklekkpbjaa.QFnExactFindBatch
