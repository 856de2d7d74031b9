/- For each Go function that one statement reaches: a plain function with the same answers, and the proof that the call comes to them. Conditions: those that each contract names. Written by a program of this repository. -/
import Derived.Test.YtffpeklekkpbjaaVAllBatchesa
import Derived.Test.YtffpeklekkpbjaaQFnExactAllBatchesx0
import Derived.Test.YtffpeklekkpbjaaQFnExactAllBatchesx13
namespace Go.Proofs.Ytffpeklekkpbjaa.QFnExactAllBatches
open Go.RowKit Go.Proofs.YtffpeklekkpbjaaW.PrintWords Go.Proofs.YtffpeklekkpbjaaW.PrintLast Go.Proofs.YtffpeklekkpbjaaW.PrintMore
attribute [local go_sem] max2_int min2_int max_two min_two max_three min_three max_four min_four Go.Proofs.YtffpeklekkpbjaaW.PrintMore2.isSome_setCell   -- for this text's walks alone
set_option linter.unusedVariables false
set_option linter.unusedSimpArgs false

/-! ### impl_segmentOf: function 104 -/
def impl_segmentOf.l0 : Nat → Int → List (S43) → Int → Int → Int → ByteArray → List (S89) → Option (Int × ByteArray × (List (S89)))
 | 0, _, _, _, _, _, _, _ => none
 | k + 1, x6, x12, x13, x14, x289000, x289001, x289002 => if x14 < x13 then (if 0 ≤ x14 then (if x14 < (x12.length : Int) then (if x14 = 0 then (if x289002.length < 8796093022208 then ((impl_batchBytes.f k ((rd_T43 x12 x14).f0) ((rd_T43 x12 x14).f1) ((rd_T43 x12 x14).f2) ((rd_T43 x12 x14).f3) ((rd_T43 x12 x14).f4)).bind fun t294 => (if x289001.size + t294.size ≤ 9223372036854775807 then (impl_segmentOf.l0 k (x289001.size : Int) x12 x13 (wrap64 (x14 + 1)) ((rd_T43 x12 x14).f0) (x289001 ++ t294) (x289002 ++ [(⟨(rd_T43 x12 x14).f0, (x289001.size : Int)⟩ : S89)])) else (none))) else (none)) else (if (wrap64 ((x289001.size : Int) - x6)) ≥ 40 then (if x289002.length < 8796093022208 then ((impl_batchBytes.f k ((rd_T43 x12 x14).f0) ((rd_T43 x12 x14).f1) ((rd_T43 x12 x14).f2) ((rd_T43 x12 x14).f3) ((rd_T43 x12 x14).f4)).bind fun t298 => (if x289001.size + t298.size ≤ 9223372036854775807 then (impl_segmentOf.l0 k (x289001.size : Int) x12 x13 (wrap64 (x14 + 1)) x289000 (x289001 ++ t298) (x289002 ++ [(⟨(rd_T43 x12 x14).f0, (x289001.size : Int)⟩ : S89)])) else (none))) else (none)) else ((impl_batchBytes.f k ((rd_T43 x12 x14).f0) ((rd_T43 x12 x14).f1) ((rd_T43 x12 x14).f2) ((rd_T43 x12 x14).f3) ((rd_T43 x12 x14).f4)).bind fun t299 => (if x289001.size + t299.size ≤ 9223372036854775807 then (impl_segmentOf.l0 k x6 x12 x13 (wrap64 (x14 + 1)) x289000 (x289001 ++ t299) x289002) else (none))))) else (none)) else (none)) else (some (x289000, x289001, x289002))
def impl_segmentOf.f (k : Nat) (l0 : List (S43)) (a1 : Int) : Option (Int × ByteArray × (List (S89))) := impl_segmentOf.l0 k 0 l0 (l0.length : Int) 0 a1 (⟨#[]⟩ : ByteArray) ([] : List (S89))
theorem impl_segmentOf.mono_l : ∀ k, (∀ y0 y1 y2 y3 y4 y5 y6, LeO (impl_segmentOf.l0 k y0 y1 y2 y3 y4 y5 y6) (impl_segmentOf.l0 (k + 1) y0 y1 y2 y3 y4 y5 y6))
 | 0 => fun _ _ _ _ _ _ _ r h => by simp [impl_segmentOf.l0] at h
 | k + 1 => by
  have ih0 := impl_segmentOf.mono_l k
  ·intro y0 y1 y2 y3 y4 y5 y6
   unfold impl_segmentOf.l0
   repeat' first
   | (with_reducible first | exact ih0 _ _ _ _ _ _ _ | exact impl_batchBytes.mono _ _ _ _ _ _ | exact LeO.refl _ | exact LeO.none _ | refine LeO.ite ?_ ?_ | refine LeO.bind ?_ (fun _ => ?_)) | exact ih0 _ _ _ _ _ _ _ | exact impl_batchBytes.mono _ _ _ _ _ _ | exact LeO.none _ | refine LeO.ite ?_ ?_ | refine LeO.bind ?_ (fun _ => ?_)
theorem impl_segmentOf.mono : ∀ a0 a1 k, LeO (impl_segmentOf.f k a0 a1) (impl_segmentOf.f (k + 1) a0 a1) := by
 intro a0 a1 k
 have ih0 := impl_segmentOf.mono_l k
 unfold impl_segmentOf.f
 repeat' first
   | (with_reducible first | exact ih0 _ _ _ _ _ _ _ | exact impl_batchBytes.mono _ _ _ _ _ _ | exact LeO.refl _ | exact LeO.none _ | refine LeO.ite ?_ ?_ | refine LeO.bind ?_ (fun _ => ?_)) | exact ih0 _ _ _ _ _ _ _ | exact impl_batchBytes.mono _ _ _ _ _ _ | exact LeO.none _ | refine LeO.ite ?_ ?_ | refine LeO.bind ?_ (fun _ => ?_)
set_option maxHeartbeats 8000000 in
set_option maxRecDepth 100000 in
theorem impl_segmentOf.calls (k : Nat) (A0 : Option Addr) (c0 : Nat) (l0 : List (S43)) (a1 : Int) (r1 : Int) (r2 : ByteArray) (r3 : List (S89)) (w : World) (hr0 : Kd.C k43 w A0 l0.length l0) (hc0 : l0.length ≤ c0) (h : impl_segmentOf.f k l0 a1 = some (r1, r2, r3)) :
  Calls Try.prog 104 #[.slice A0 l0.length c0, .int .i64 a1] w fun e w' => ∃ v2_ : Value, e = .returned (.agg #[.int .i64 r1, .string r2, v2_]) ∧ Kd.R k89 89 w' w.heap.size (fun _ => True) v2_ r3 ∧ Below w.heap.size w w' := by
 have hu65 := Try.underlying65
 have hu43 := Try.underlying43
 have hu89 := Try.underlying89
 have HR0 := Aside0.mk hr0
 have HC0 := Aside0.mk hc0
 clear hr0 hc0
 have HB := Aside0.mk (Below.refl w.heap.size w)
 have H : (impl_segmentOf.l0 k 0 l0 (l0.length : Int) 0 a1 (⟨#[]⟩ : ByteArray) ([] : List (S89))) = some (r1, r2, r3) := h
 clear h
 have H' := Aside0.mk H
 clear H
 go_enter Try.func104, Try.ntmps104
 go_wp2_with (first | ((with_reducible refine gate_dst (N := 4) rfl ?_); refine box_event ?hg (N := 4) ?hd (cs := #[.int .i64 0, .string (⟨#[]⟩ : ByteArray), .slice none 0 0]) (t := 65) ?hr ?_; (case hd => rfl); (case hg => rfl); (case hr => first | (go_simp; done) | (go_simp; rfl)); intro gb287 hg w3 hbox hb; have BK287 := Aside0.mk (hbox); have GW287 := ge_ hg; have GE287 := ge_ hg; replace HB := nb_ hb; clear hb hbox hg) | ((with_reducible refine gate_dst (N := 5) rfl ?_); refine box_event ?hg (N := 5) ?hd (cs := #[.int .i64 0, .string (⟨#[]⟩ : ByteArray), .slice none 0 0]) (t := 65) ?hr ?_; (case hd => rfl); (case hg => rfl); (case hr => first | (go_simp; done) | (go_simp; rfl)); intro gb288 hg w4 hbox hb; have BK288 := Aside0.mk (hbox); have GW288 := ge1_ hg GE287; have GE288 := ge1_ hg GE287; replace HB := nc_ GE287 hb; have NB287_288 := Aside0.mk ((by rw [hg]; exact Nat.ne_of_lt (blk_lt (g := gb287) (o := .cells #[.int .i64 0, .string (⟨#[]⟩ : ByteArray), .slice none 0 0] 65 (0, 0)) (kb_ BK287.out)) : gb287 ≠ gb288)); have NB288_287 := Aside0.mk ((by rw [hg]; exact Nat.ne_of_gt (blk_lt (g := gb287) (o := .cells #[.int .i64 0, .string (⟨#[]⟩ : ByteArray), .slice none 0 0] 65 (0, 0)) (kb_ BK287.out)) : gb288 ≠ gb287)); replace BK287 := Aside0.mk (blk_below (g := gb287) (o := .cells #[.int .i64 0, .string (⟨#[]⟩ : ByteArray), .slice none 0 0] 65 (0, 0)) (kb_ BK287.out) hb); clear hb hbox hg; have hnb5 := NB288_287.out; have hnc5 := NB287_288.out; obtain ⟨hcz6_0, hcz6_1, hcz6_2, hfz6_0, hfz6_1, hfz6_2⟩ := cf3_ BK288.out))
 go_loopg [6, 14] k (fun kq v6 v14 w' => ∃ (x6_1 : Int) (x14_1 : Int) (x289000_1 : Int) (x289001_1 : ByteArray) (x289002_1 : List (S89)) (u289002 : Value), v6 = .int .i64 x6_1 ∧ v14 = .int .i64 x14_1 ∧ Aside0 (impl_segmentOf.l0 kq x6_1 l0 (l0.length : Int) x14_1 x289000_1 x289001_1 x289002_1 = some (r1, r2, r3)) ∧ Aside0 (kq ≤ k) ∧ Aside0 (Kd.R k89 89 w' w.heap.size (fun _ => True) u289002 x289002_1) ∧ Aside0 (w'.heap[gb287]? = some (.cells #[.int .i64 0, .string (⟨#[]⟩ : ByteArray), (.slice none 0 0)] 65 (0, 0))) ∧ Aside0 (w'.heap[gb288]? = some (.cells #[.int .i64 x289000_1, .string x289001_1, u289002] 65 (0, 0))) ∧ Aside0 (Below w.heap.size w w'))
 case atStart => exact ⟨(0), (0), (a1), ((⟨#[]⟩ : ByteArray)), (([] : List (S89))), (.slice none 0 0), sr_, sr_, H', ⟨Nat.le_refl _⟩, ⟨ni_⟩, ⟨uf_ BK287 NB287_288.out⟩, ⟨up_ BK288⟩, ⟨hs2_ GE287.out GE288.out⟩⟩
 case round =>
  clear H'
  try clear c1
  try clear p2
  try clear c5
  try clear hcz6_0
  try clear hcz6_1
  try clear hcz6_2
  try clear hfz6_0
  try clear hfz6_1
  try clear hfz6_2
  obtain ⟨x6_1, x14_1, x289000_1, x289001_1, x289002_1, u289002, rfl, rfl, HA, HK1, HO_289002, BK287, BK288, HB⟩ := hrel
  cases gk with
  | zero => exact absurd HA.out (by simp [impl_segmentOf.l0])
  | succ k1 =>
   have H := HA.out
   clear HA
   simp only [impl_segmentOf.l0] at H
   replace H := ite_ H
   obtain ⟨c7, H⟩ | ⟨c7, H⟩ := H
   rotate_left
   ·have c7b0 := decide_eq_false c7
    clear c7
    simp only [Option.some.injEq, Prod.mk.injEq] at H
    obtain ⟨rfl, rfl, rfl⟩ := H
    have hnb56 := NB288_287.out
    have hnc56 := NB287_288.out
    obtain ⟨hcz57_0, hcz57_1, hcz57_2, hfz57_0, hfz57_1, hfz57_2⟩ := cf3_ BK288.out
    obtain ⟨hcz58_0, hcz58_1, hcz58_2, hfz58_0, hfz58_1, hfz58_2⟩ := cf3_ BK287.out
    obtain ⟨Ao59, co59, eo59⟩ := Kd.R_slice HO_289002.out
    subst eo59
    go_wp2
    refine bodyPost_ret (results_cell_row rfl _ _ gb287 65 #[.int .i64 x289000_1, .string x289001_1, .slice Ao59 x289002_1.length co59] (0, 0) _ rfl (up_ BK287) Try.underlying65 rfl (by kernel_rfl)) rfl ?_
    exact ⟨_, er_, by (with_reducible repeat (first | apply Kd.R_alloc | apply Kd.R_drewN | apply Kd.R_drew)); exact Kd.R_mono (Kd.R_far (p := ⟨gb287, 2, none⟩) (Kd.R_far (p := ⟨gb287, 1, none⟩) (Kd.R_far (p := ⟨gb287, 0, none⟩) (Kd.R_types HO_289002.out BK287.out (by decide)) (fun _ hk => hk.2) (.int .i64 x289000_1)) (fun _ hk => hk.2) (.string x289001_1)) (fun _ hk => hk.2) (.slice Ao59 x289002_1.length co59)) (fun _ hk => trivial), hs2_ GE287.out GE288.out⟩
   have c7b0 := decide_eq_true c7
   clear c7
   replace H := ifs_ H
   obtain ⟨c8, H⟩ := H
   have c8b0 := decide_eq_true c8
   clear c8
   replace H := ifs_ H
   obtain ⟨c9, H⟩ := H
   have c9b0 := decide_eq_true c9
   clear c9
   replace H := ite_ H
   obtain ⟨c10, H⟩ | ⟨c10, H⟩ := H
   ·have c10b0 : (x14_1 == 0) = true := beq_iff_eq.mpr c10
    have c10b1 : (x14_1 != 0) = false := bne_eq_false_iff_eq.mpr c10
    clear c10
    replace H := ifs_ H
    obtain ⟨c11, H⟩ := H
    have LMc11 := Aside0.mk c11
    clear c11
    obtain ⟨y291, hy291⟩ : ∃ y_ : List (S89), y_ = (x289002_1 ++ [(⟨(rd_T43 l0 x14_1).f0, (x289001_1.size : Int)⟩ : S89)]) := ⟨_, rfl⟩
    replace H : ((impl_batchBytes.f k1 ((rd_T43 l0 x14_1).f0) ((rd_T43 l0 x14_1).f1) ((rd_T43 l0 x14_1).f2) ((rd_T43 l0 x14_1).f3) ((rd_T43 l0 x14_1).f4)).bind fun t294 => (if x289001_1.size + t294.size ≤ 9223372036854775807 then (impl_segmentOf.l0 k1 (x289001_1.size : Int) l0 (l0.length : Int) (wrap64 (x14_1 + 1)) ((rd_T43 l0 x14_1).f0) (x289001_1 ++ t294) y291) else (none))) = some (r1, r2, r3) := by first | (rw [hy291]; with_reducible exact H) | (have H2_ := (Option.bind_some _ _).symm.trans H; rw [hy291]; with_reducible exact H2_) | (have H2_ := (Option.bind_some _ _).symm.trans H; with_reducible exact H2_) | with_reducible exact H | (rw [hy291]; exact H) | exact H
    have Ny291 := Aside0.mk hy291
    clear hy291
    replace H := bnd_ H
    obtain ⟨t294, A12, H⟩ := H
    replace H := ifs_ H
    obtain ⟨c13, H⟩ := H
    have c13b0 := eq_true c13
    have c13b1 := decide_eq_true c13
    try have c13b2 : (9223372036854775807 < x289001_1.size + t294.size) = False := eq_false (Nat.not_lt.2 c13)
    try have c13w := cw_ c13
    (try rw [c13w] at c7b0)
    (try rw [c13w] at c8b0)
    (try rw [c13w] at c9b0)
    (try rw [c13w] at c10b0)
    have H' := Aside0.mk H
    clear H
    have p289 : 0 ≤ (x14_1 : Int) := oa_
    have q289 : x14_1 < (l0.length : Int) := oa_
    obtain ⟨ad289, A289_4, c289_4, e289, hx289_0, hx289_1, hx289_2, hx289_3, hx289_4, hl289_4, hi289_4⟩ := at_T43 HR0.out x14_1 p289 q289
    cases e289
    replace hx289_0 := pc_ HB.out hx289_0
    replace hx289_1 := pc_ HB.out hx289_1
    replace hx289_2 := pc_ HB.out hx289_2
    replace hx289_3 := pc_ HB.out hx289_3
    replace hx289_4 := pc_ HB.out hx289_4
    have HR289_4 := Aside0.mk hi289_4
    have HC289_4 := Aside0.mk hl289_4
    clear hi289_4 hl289_4
    replace p289 := eq_true p289
    replace q289 := eq_true q289
    try go_wp2_with (first | ((with_reducible refine gate_dst (N := 8) rfl ?_); refine be_ (N := 8) #[.int .i64 0, .int .i64 0, .int .i64 0, .int .i64 0, .slice none 0 0] 43 ?_; intro gb290 hg w14 hbox hb; replace HO_289002 := rB_ HO_289002 hb; have BK290 := Aside0.mk (hbox); have GW290 := ge2_ hg GE287 GE288; have GE290 := ge2_ hg GE287 GE288; replace HB := nc2_ GE287 GE288 hb; have NB287_290 := Aside0.mk ((by rw [hg]; exact Nat.ne_of_lt (blk_lt (g := gb287) (o := .cells #[.int .i64 0, .string (⟨#[]⟩ : ByteArray), .slice none 0 0] 65 (0, 0)) (kb_ BK287.out)) : gb287 ≠ gb290)); have NB290_287 := Aside0.mk ((by rw [hg]; exact Nat.ne_of_gt (blk_lt (g := gb287) (o := .cells #[.int .i64 0, .string (⟨#[]⟩ : ByteArray), .slice none 0 0] 65 (0, 0)) (kb_ BK287.out)) : gb290 ≠ gb287)); replace BK287 := Aside0.mk (blk_below (g := gb287) (o := .cells #[.int .i64 0, .string (⟨#[]⟩ : ByteArray), .slice none 0 0] 65 (0, 0)) (kb_ BK287.out) hb); have NB288_290 := nl_ BK288 hg; have NB290_288 := ng_ BK288 hg; replace BK288 := bK_ BK288 hb; clear hb hbox hg; have hnb15 := NB290_287.out; have hnc15 := NB287_290.out; have hnb16 := NB290_288.out; have hnc16 := NB288_290.out; obtain ⟨hcz17_0, hcz17_1, hcz17_2, hcz17_3, hcz17_4, hfz17_0, hfz17_1, hfz17_2, hfz17_3, hfz17_4⟩ := cf5_ BK290.out; have hnb18 := NB288_287.out; have hnc18 := NB287_288.out; obtain ⟨hcz19_0, hcz19_1, hcz19_2, hfz19_0, hfz19_1, hfz19_2⟩ := cf3_ BK288.out) | ((with_reducible refine gate_builtin (b := .append) (xs := #[.tmp 36, .tmp 41]) rfl ?_); at_builtin; refine Kd.R_append k89 (w0 := w) w.heap.size rfl (.tmp 36) (.tmp 41) 63 89 (.agg #[(.int .i64 0), (.int .i64 0)]) 16 rfl Try.underlying63 info89 rfl (by decide) (by omega) u289002 x289002_1 (⟨(rd_T43 l0 x14_1).f0, (x289001_1.size : Int)⟩ : S89) [.int .i64 ((rd_T43 l0 x14_1).f0), .int .i64 (x289001_1.size : Int)] (fun _ => True) (fun _ => False) rfl (by first | (go_simp; done) | (go_simp; rfl)) ?aP (fun _ hk => hk.elim) ?aF ?aO ?aB ?aS ?aL ?_; (case aP => exact k89_mkM _ _ _ (⟨(rd_T43 l0 x14_1).f0, (x289001_1.size : Int)⟩ : S89)); (case aB => exact (hs3_ GE287.out GE288.out GE290.out)); (case aF => exact (fun _ _ => trivial)); (case aO => exact (by (with_reducible repeat (first | apply Kd.R_alloc | apply Kd.R_drewN | apply Kd.R_drew)); exact Kd.R_mono (Kd.R_far (p := ⟨gb288, 0, none⟩) (Kd.R_far (p := ⟨gb290, 4, none⟩) (Kd.R_far (p := ⟨gb290, 3, none⟩) (Kd.R_far (p := ⟨gb290, 2, none⟩) (Kd.R_far (p := ⟨gb290, 1, none⟩) (Kd.R_far (p := ⟨gb290, 0, none⟩) (Kd.R_types (Kd.R_types HO_289002.out BK290.out (by decide)) BK288.out (by decide)) (fun _ hk => hk.1.2) (.int .i64 ((rd_T43 l0 x14_1).f0))) (fun _ hk => hk.1.2) (.int .i64 ((rd_T43 l0 x14_1).f1))) (fun _ hk => hk.1.2) (.int .i64 ((rd_T43 l0 x14_1).f2))) (fun _ hk => hk.1.2) (.int .i64 ((rd_T43 l0 x14_1).f3))) (fun _ hk => hk.1.2) (.slice A289_4 ((rd_T43 l0 x14_1).f4).length c289_4)) (fun _ hk => hk.2) (.int .i64 ((rd_T43 l0 x14_1).f0))) (fun _ hk => trivial))); (case aS => exact (below_size (hs3_ GE287.out GE288.out GE290.out))); (case aL => have := LMc11.out; omega); intro v292 w20 ho hb hg hat; rw [← Ny291.out] at ho; replace BK287 := Aside0.mk (blk_grown (g := gb287) (o := .cells #[.int .i64 0, .string (⟨#[]⟩ : ByteArray), .slice none 0 0] 65 (0, 0)) (ug_ BK287 NB287_288.out NB287_290.out) hg (Kd.R_ne HO_289002.out BK287.out (by decide))); replace BK288 := Aside0.mk (blk_grown (g := gb288) (o := .cells #[.int .i64 ((rd_T43 l0 x14_1).f0), .string x289001_1, u289002] 65 (0, 0)) (by (with_reducible repeat (first | refine blk_drewN ?_ _ | refine blk_drew ?_ | refine blk_alloc ?_ _)); refine blk_put (cs := #[.int .i64 x289000_1, .string x289001_1, u289002]) ?_ 0 _ rfl; (with_reducible repeat (first | refine blk_drewN ?_ _ | refine blk_drew ?_ | refine blk_alloc ?_ _)); refine blk_far ?_ NB288_290.out _; (with_reducible repeat (first | refine blk_drewN ?_ _ | refine blk_drew ?_ | refine blk_alloc ?_ _)); refine blk_far ?_ NB288_290.out _; (with_reducible repeat (first | refine blk_drewN ?_ _ | refine blk_drew ?_ | refine blk_alloc ?_ _)); refine blk_far ?_ NB288_290.out _; (with_reducible repeat (first | refine blk_drewN ?_ _ | refine blk_drew ?_ | refine blk_alloc ?_ _)); refine blk_far ?_ NB288_290.out _; (with_reducible repeat (first | refine blk_drewN ?_ _ | refine blk_drew ?_ | refine blk_alloc ?_ _)); refine blk_far ?_ NB288_290.out _; (with_reducible repeat (first | refine blk_drewN ?_ _ | refine blk_drew ?_ | refine blk_alloc ?_ _)); exact BK288.out) hg (Kd.R_ne HO_289002.out BK288.out (by decide))); replace BK290 := Aside0.mk (blk_grown (g := gb290) (o := .cells #[.int .i64 ((rd_T43 l0 x14_1).f0), .int .i64 ((rd_T43 l0 x14_1).f1), .int .i64 ((rd_T43 l0 x14_1).f2), .int .i64 ((rd_T43 l0 x14_1).f3), .slice A289_4 ((rd_T43 l0 x14_1).f4).length c289_4] 43 (0, 0)) (by (with_reducible repeat (first | refine blk_drewN ?_ _ | refine blk_drew ?_ | refine blk_alloc ?_ _)); refine blk_far ?_ NB290_288.out _; (with_reducible repeat (first | refine blk_drewN ?_ _ | refine blk_drew ?_ | refine blk_alloc ?_ _)); refine blk_put (cs := #[.int .i64 ((rd_T43 l0 x14_1).f0), .int .i64 ((rd_T43 l0 x14_1).f1), .int .i64 ((rd_T43 l0 x14_1).f2), .int .i64 ((rd_T43 l0 x14_1).f3), .slice none 0 0]) ?_ 4 _ rfl; (with_reducible repeat (first | refine blk_drewN ?_ _ | refine blk_drew ?_ | refine blk_alloc ?_ _)); refine blk_put (cs := #[.int .i64 ((rd_T43 l0 x14_1).f0), .int .i64 ((rd_T43 l0 x14_1).f1), .int .i64 ((rd_T43 l0 x14_1).f2), .int .i64 0, .slice none 0 0]) ?_ 3 _ rfl; (with_reducible repeat (first | refine blk_drewN ?_ _ | refine blk_drew ?_ | refine blk_alloc ?_ _)); refine blk_put (cs := #[.int .i64 ((rd_T43 l0 x14_1).f0), .int .i64 ((rd_T43 l0 x14_1).f1), .int .i64 0, .int .i64 0, .slice none 0 0]) ?_ 2 _ rfl; (with_reducible repeat (first | refine blk_drewN ?_ _ | refine blk_drew ?_ | refine blk_alloc ?_ _)); refine blk_put (cs := #[.int .i64 ((rd_T43 l0 x14_1).f0), .int .i64 0, .int .i64 0, .int .i64 0, .slice none 0 0]) ?_ 1 _ rfl; (with_reducible repeat (first | refine blk_drewN ?_ _ | refine blk_drew ?_ | refine blk_alloc ?_ _)); refine blk_put (cs := #[.int .i64 0, .int .i64 0, .int .i64 0, .int .i64 0, .slice none 0 0]) ?_ 0 _ rfl; (with_reducible repeat (first | refine blk_drewN ?_ _ | refine blk_drew ?_ | refine blk_alloc ?_ _)); exact BK290.out) hg (Kd.R_ne HO_289002.out BK290.out (by decide))); replace HB := Aside0.mk (hb); have HO293 := Aside0.mk (ho); clear HO_289002; clear ho hb hg hat; obtain ⟨Ao21, co21, eo21⟩ := Kd.R_slice HO293.out; subst eo21; obtain ⟨hcz22_0, hcz22_1, hcz22_2, hfz22_0, hfz22_1, hfz22_2⟩ := cf3_ BK288.out))
    have n0_ : Aside0 (Kd.R k89 89 (w20.setCell ⟨gb288, 2, none⟩ (.slice Ao21 y291.length co21)) w.heap.size (fun _ => True) (.slice Ao21 y291.length co21) y291) := ⟨by (with_reducible repeat (first | apply Kd.R_alloc | apply Kd.R_drewN | apply Kd.R_drew)); exact Kd.R_mono (Kd.R_far (p := ⟨gb288, 2, none⟩) (Kd.R_types HO293.out BK288.out (by decide)) (fun _ hk => hk.2) (.slice Ao21 y291.length co21)) (fun _ hk => trivial)⟩
    have n1_ : Aside0 ((w20.setCell ⟨gb288, 2, none⟩ (.slice Ao21 y291.length co21)).heap[gb287]? = some (.cells #[.int .i64 0, .string (⟨#[]⟩ : ByteArray), .slice none 0 0] 65 (0, 0))) := ⟨uf_ BK287 NB287_288.out⟩
    have n2_ : Aside0 ((w20.setCell ⟨gb288, 2, none⟩ (.slice Ao21 y291.length co21)).heap[gb288]? = some (.cells #[.int .i64 ((rd_T43 l0 x14_1).f0), .string x289001_1, .slice Ao21 y291.length co21] 65 (0, 0))) := ⟨up_ BK288⟩
    have n3_ : Aside0 ((w20.setCell ⟨gb288, 2, none⟩ (.slice Ao21 y291.length co21)).heap[gb290]? = some (.cells #[.int .i64 ((rd_T43 l0 x14_1).f0), .int .i64 ((rd_T43 l0 x14_1).f1), .int .i64 ((rd_T43 l0 x14_1).f2), .int .i64 ((rd_T43 l0 x14_1).f3), .slice A289_4 ((rd_T43 l0 x14_1).f4).length c289_4] 43 (0, 0))) := ⟨uf_ BK290 NB290_288.out⟩
    have n4_ : Aside0 (Below w.heap.size w (w20.setCell ⟨gb288, 2, none⟩ (.slice Ao21 y291.length co21))) := ⟨hs3_ GE287.out GE288.out GE290.out⟩
    (try clear HO293)
    (try clear BK287)
    (try clear BK288)
    (try clear BK290)
    (try clear HB)
    generalize (w20.setCell ⟨gb288, 2, none⟩ (.slice Ao21 y291.length co21)) = w23 at n0_ n1_ n2_ n3_ n4_ ⊢
    have HO293 := n0_
    have BK287 := n1_
    have BK288 := n2_
    have BK290 := n3_
    have HB := n4_
    clear n0_ n1_ n2_ n3_ n4_
    replace HO293 := qR_ HO293
    replace BK287 := qK_ BK287
    replace BK288 := qK_ BK288
    replace BK290 := qK_ BK290
    replace HB := qH_ HB
    refine start_ (n := 7) (S := fun w' => w'.cell? ⟨gb288, 0, none⟩ = some (.int .i64 ((rd_T43 l0 x14_1).f0)) ∧ w'.cell? ⟨gb288, 1, none⟩ = some (.string x289001_1) ∧ w'.cell? ⟨gb288, 2, none⟩ = some (.slice Ao21 y291.length co21) ∧ w'.cell? ⟨gb290, 0, none⟩ = some (.int .i64 ((rd_T43 l0 x14_1).f0)) ∧ w'.cell? ⟨gb290, 1, none⟩ = some (.int .i64 ((rd_T43 l0 x14_1).f1)) ∧ w'.cell? ⟨gb290, 2, none⟩ = some (.int .i64 ((rd_T43 l0 x14_1).f2)) ∧ w'.cell? ⟨gb290, 3, none⟩ = some (.int .i64 ((rd_T43 l0 x14_1).f3)) ∧ w'.cell? ⟨gb290, 4, none⟩ = some (.slice A289_4 ((rd_T43 l0 x14_1).f4).length c289_4)) (ds := [6]) #[false, false, false, false, false, false, false] (by kernel_rfl) rfl rfl ⟨bt_ BK288 0, bt_ BK288 1, bt_ BK288 2, bt_ BK290 0, bt_ BK290 1, bt_ BK290 2, bt_ BK290 3, bt_ BK290 4⟩ (fun hHeld => ?_)
    generalize w23.drew = w24 at HO293 BK287 BK288 BK290 HB hHeld ⊢
    refine pure_ (i := 0) (N := some 45) (v := ?_) (a' := ?_) #[true, false, false, false, false, false, false] rfl rfl (by kernel_rfl) (fun _ _ _ h => h) (Or.inl ⟨by rfl, ?_⟩) ?_ ?_
    rotate_left
    ·intro w'
     go_simp
     with_reducible rfl
    rotate_left
    ·simp only [Act.put, List.setIfInBounds_toArray, List.set_cons_zero, List.set_cons_succ, i64_w, i32_w]
     rfl
    refine take_ (i := 1) (N := some 46) (v := ?_) (a' := ?_) #[true, true, false, false, false, false, false] rfl rfl (by kernel_rfl) (fun _ _ _ h => h) (Or.inl ⟨by rfl, ?_⟩) hHeld ?_ ?_
    rotate_left
    ·rintro w' ⟨s0, s1, s2, s3, s4, s5, s6, s7⟩
     go_simp
     with_reducible rfl
    rotate_left
    ·simp only [Act.put, List.setIfInBounds_toArray, List.set_cons_zero, List.set_cons_succ, i64_w, i32_w]
     rfl
    refine take_ (i := 2) (N := some 47) (v := ?_) (a' := ?_) #[true, true, true, false, false, false, false] rfl rfl (by kernel_rfl) (fun _ _ _ h => h) (Or.inl ⟨by rfl, ?_⟩) hHeld ?_ ?_
    rotate_left
    ·rintro w' ⟨s0, s1, s2, s3, s4, s5, s6, s7⟩
     go_simp
     with_reducible rfl
    rotate_left
    ·simp only [Act.put, List.setIfInBounds_toArray, List.set_cons_zero, List.set_cons_succ, i64_w, i32_w]
     rfl
    refine one_ (i := 3) (N := some 48) #[true, true, true, true, false, false, false] rfl rfl (by kernel_rfl) (by decide) (fun K hK => ?_)
    refine gs_ Try.func84 #[.agg #[.int .i64 ((rd_T43 l0 x14_1).f0), .int .i64 ((rd_T43 l0 x14_1).f1), .int .i64 ((rd_T43 l0 x14_1).f2), .int .i64 ((rd_T43 l0 x14_1).f3), .slice A289_4 ((rd_T43 l0 x14_1).f4).length c289_4]] rfl ma_ ?_
    with_reducible refine (impl_batchBytes.calls k1 ((rd_T43 l0 x14_1).f0) ((rd_T43 l0 x14_1).f1) ((rd_T43 l0 x14_1).f2) ((rd_T43 l0 x14_1).f3) _ _ ((rd_T43 l0 x14_1).f4) t294 _ ?side1 ?side2 A12.out).mono ?_
    (case side1 => exact cs_ ((Kd.C_below HR289_4.out HB.out)))
    (case side2 => exact HC289_4.out)
    rintro e w25 ⟨rfl, hb⟩
    refine ⟨_, rfl, ?_⟩
    replace HO293 := rB_ HO293 hb
    replace BK287 := Aside0.mk (blk_below (g := gb287) (o := .cells #[.int .i64 0, .string (⟨#[]⟩ : ByteArray), .slice none 0 0] 65 (0, 0)) (kb_ BK287.out) hb)
    replace BK288 := bK_ BK288 hb
    replace BK290 := bK_ BK290 hb
    replace HB := nc3_ GE287 GE288 GE290 hb
    (try clear hb)
    (try clear hb2)
    (try clear hk)
    (try clear hi)
    refine hK.out _ _ ⟨bt_ BK288 0, bt_ BK288 1, bt_ BK288 2, bt_ BK290 0, bt_ BK290 1, bt_ BK290 2, bt_ BK290 3, bt_ BK290 4⟩ (fun hHeld => ?_)
    clear hK K
    refine no_ ?_
    refine pure_ (i := 4) (N := some 49) (v := ?_) (a' := ?_) #[true, true, true, true, true, false, false] rfl rfl (by kernel_rfl) (fun _ _ _ h => h) (Or.inl ⟨by rfl, ?_⟩) ?_ ?_
    rotate_left
    ·intro w'
     go_simp
     with_reducible rfl
    rotate_left
    ·simp only [Act.put, List.setIfInBounds_toArray, List.set_cons_zero, List.set_cons_succ, i64_w, i32_w]
     rfl
    refine pure_ (i := 5) (N := some 50) (v := ?_) (a' := ?_) #[true, true, true, true, true, true, false] rfl rfl (by kernel_rfl) (fun _ _ _ h => h) (Or.inl ⟨by rfl, ?_⟩) ?_ ?_
    rotate_left
    ·intro w'
     go_simp
     with_reducible rfl
    rotate_left
    ·simp only [Act.put, List.setIfInBounds_toArray, List.set_cons_zero, List.set_cons_succ, i64_w, i32_w]
     rfl
    refine last_ (i := 6) (N := none) #[true, true, true, true, true, true, true] rfl rfl (by kernel_rfl) (by decide) (fun K hK => ?_)
    have hs26 : w25.cell? ⟨gb288, 1, none⟩ = some (.string x289001_1) := bt_ BK288 1
    have hfs26 := blk_frozen BK288.out 1
    have hns26_0 := NB287_288.out
    have hns26_2 := NB290_288.out
    have hms26_0 := NB288_287.out
    have hms26_2 := NB288_290.out
    refine skip_ (w1 := ?_) (by rfl) rfl ?_ ?_
    rotate_left
    ·go_simp
     rfl
    refine hK.out _ _ ?_
    clear hK K
    refine done_ (by kernel_rfl) ?_
    try go_wp2
    go_roundg k1
    case measure => have := HK1.out; omega
    case rel => exact ⟨((x289001_1.size : Int)), (wrap64 (x14_1 + 1)), ((rd_T43 l0 x14_1).f0), (x289001_1 ++ t294), (y291), (.slice Ao21 y291.length co21), sr_, sr_, H', ⟨by have := HK1.out; omega⟩, ⟨by (with_reducible repeat (first | apply Kd.R_alloc | apply Kd.R_drewN | apply Kd.R_drew)); exact Kd.R_mono (Kd.R_far (p := ⟨gb288, 1, none⟩) (Kd.R_types HO293.out BK288.out (by decide)) (fun _ hk => hk.2) (.string (x289001_1 ++ t294))) (fun _ hk => trivial)⟩, ⟨uf_ BK287 NB287_288.out⟩, ⟨up_ BK288⟩, ⟨hs3_ GE287.out GE288.out GE290.out⟩⟩
   have c10b0 : (x14_1 == 0) = false := beq_eq_false_iff_ne.mpr c10
   have c10b1 : (x14_1 != 0) = true := bne_iff_ne.mpr c10
   replace H := ite_ H
   obtain ⟨c27, H⟩ | ⟨c27, H⟩ := H
   rotate_left
   ·have c27b0 := dne_ c27
    clear c27
    replace H := bnd_ H
    obtain ⟨t299, A44, H⟩ := H
    replace H := ifs_ H
    obtain ⟨c45, H⟩ := H
    have c45b0 := eq_true c45
    have c45b1 := decide_eq_true c45
    try have c45b2 : (9223372036854775807 < x289001_1.size + t299.size) = False := eq_false (Nat.not_lt.2 c45)
    try have c45w := cw_ c45
    (try rw [c45w] at c7b0)
    (try rw [c45w] at c8b0)
    (try rw [c45w] at c9b0)
    (try rw [c45w] at c10b0)
    (try rw [c45w] at c13b0)
    (try rw [c45w] at c27b0)
    (try rw [c45w] at c30b0)
    have H' := Aside0.mk H
    clear H
    have p289 : 0 ≤ (x14_1 : Int) := oa_
    have q289 : x14_1 < (l0.length : Int) := oa_
    obtain ⟨ad289, A289_4, c289_4, e289, hx289_0, hx289_1, hx289_2, hx289_3, hx289_4, hl289_4, hi289_4⟩ := at_T43 HR0.out x14_1 p289 q289
    cases e289
    replace hx289_0 := pc_ HB.out hx289_0
    replace hx289_1 := pc_ HB.out hx289_1
    replace hx289_2 := pc_ HB.out hx289_2
    replace hx289_3 := pc_ HB.out hx289_3
    replace hx289_4 := pc_ HB.out hx289_4
    have HR289_4 := Aside0.mk hi289_4
    have HC289_4 := Aside0.mk hl289_4
    clear hi289_4 hl289_4
    replace p289 := eq_true p289
    replace q289 := eq_true q289
    try go_wp2_with (first | ((with_reducible refine gate_dst (N := 8) rfl ?_); refine be_ (N := 8) #[.int .i64 0, .int .i64 0, .int .i64 0, .int .i64 0, .slice none 0 0] 43 ?_; intro gb290 hg w46 hbox hb; replace HO_289002 := rB_ HO_289002 hb; have BK290 := Aside0.mk (hbox); have GW290 := ge2_ hg GE287 GE288; have GE290 := ge2_ hg GE287 GE288; replace HB := nc2_ GE287 GE288 hb; have NB287_290 := Aside0.mk ((by rw [hg]; exact Nat.ne_of_lt (blk_lt (g := gb287) (o := .cells #[.int .i64 0, .string (⟨#[]⟩ : ByteArray), .slice none 0 0] 65 (0, 0)) (kb_ BK287.out)) : gb287 ≠ gb290)); have NB290_287 := Aside0.mk ((by rw [hg]; exact Nat.ne_of_gt (blk_lt (g := gb287) (o := .cells #[.int .i64 0, .string (⟨#[]⟩ : ByteArray), .slice none 0 0] 65 (0, 0)) (kb_ BK287.out)) : gb290 ≠ gb287)); replace BK287 := Aside0.mk (blk_below (g := gb287) (o := .cells #[.int .i64 0, .string (⟨#[]⟩ : ByteArray), .slice none 0 0] 65 (0, 0)) (kb_ BK287.out) hb); have NB288_290 := nl_ BK288 hg; have NB290_288 := ng_ BK288 hg; replace BK288 := bK_ BK288 hb; clear hb hbox hg; have hnb47 := NB290_287.out; have hnc47 := NB287_290.out; have hnb48 := NB290_288.out; have hnc48 := NB288_290.out; obtain ⟨hcz49_0, hcz49_1, hcz49_2, hcz49_3, hcz49_4, hfz49_0, hfz49_1, hfz49_2, hfz49_3, hfz49_4⟩ := cf5_ BK290.out; have hnb50 := NB288_287.out; have hnc50 := NB287_288.out; obtain ⟨hcz51_0, hcz51_1, hcz51_2, hfz51_0, hfz51_1, hfz51_2⟩ := cf3_ BK288.out))
    have n0_ : Aside0 (Kd.R k89 89 (((((w46.setCell ⟨gb290, 0, none⟩ (.int .i64 ((rd_T43 l0 x14_1).f0))).setCell ⟨gb290, 1, none⟩ (.int .i64 ((rd_T43 l0 x14_1).f1))).setCell ⟨gb290, 2, none⟩ (.int .i64 ((rd_T43 l0 x14_1).f2))).setCell ⟨gb290, 3, none⟩ (.int .i64 ((rd_T43 l0 x14_1).f3))).setCell ⟨gb290, 4, none⟩ (.slice A289_4 ((rd_T43 l0 x14_1).f4).length c289_4)) w.heap.size (fun _ => True) u289002 x289002_1) := ⟨by (with_reducible repeat (first | apply Kd.R_alloc | apply Kd.R_drewN | apply Kd.R_drew)); exact Kd.R_mono (Kd.R_far (p := ⟨gb290, 4, none⟩) (Kd.R_far (p := ⟨gb290, 3, none⟩) (Kd.R_far (p := ⟨gb290, 2, none⟩) (Kd.R_far (p := ⟨gb290, 1, none⟩) (Kd.R_far (p := ⟨gb290, 0, none⟩) (Kd.R_types HO_289002.out BK290.out (by decide)) (fun _ hk => hk.2) (.int .i64 ((rd_T43 l0 x14_1).f0))) (fun _ hk => hk.2) (.int .i64 ((rd_T43 l0 x14_1).f1))) (fun _ hk => hk.2) (.int .i64 ((rd_T43 l0 x14_1).f2))) (fun _ hk => hk.2) (.int .i64 ((rd_T43 l0 x14_1).f3))) (fun _ hk => hk.2) (.slice A289_4 ((rd_T43 l0 x14_1).f4).length c289_4)) (fun _ hk => trivial)⟩
    have n1_ : Aside0 ((((((w46.setCell ⟨gb290, 0, none⟩ (.int .i64 ((rd_T43 l0 x14_1).f0))).setCell ⟨gb290, 1, none⟩ (.int .i64 ((rd_T43 l0 x14_1).f1))).setCell ⟨gb290, 2, none⟩ (.int .i64 ((rd_T43 l0 x14_1).f2))).setCell ⟨gb290, 3, none⟩ (.int .i64 ((rd_T43 l0 x14_1).f3))).setCell ⟨gb290, 4, none⟩ (.slice A289_4 ((rd_T43 l0 x14_1).f4).length c289_4)).heap[gb287]? = some (.cells #[.int .i64 0, .string (⟨#[]⟩ : ByteArray), .slice none 0 0] 65 (0, 0))) := ⟨uf_ BK287 NB287_290.out⟩
    have n2_ : Aside0 ((((((w46.setCell ⟨gb290, 0, none⟩ (.int .i64 ((rd_T43 l0 x14_1).f0))).setCell ⟨gb290, 1, none⟩ (.int .i64 ((rd_T43 l0 x14_1).f1))).setCell ⟨gb290, 2, none⟩ (.int .i64 ((rd_T43 l0 x14_1).f2))).setCell ⟨gb290, 3, none⟩ (.int .i64 ((rd_T43 l0 x14_1).f3))).setCell ⟨gb290, 4, none⟩ (.slice A289_4 ((rd_T43 l0 x14_1).f4).length c289_4)).heap[gb288]? = some (.cells #[.int .i64 x289000_1, .string x289001_1, u289002] 65 (0, 0))) := ⟨uf_ BK288 NB288_290.out⟩
    have n3_ : Aside0 ((((((w46.setCell ⟨gb290, 0, none⟩ (.int .i64 ((rd_T43 l0 x14_1).f0))).setCell ⟨gb290, 1, none⟩ (.int .i64 ((rd_T43 l0 x14_1).f1))).setCell ⟨gb290, 2, none⟩ (.int .i64 ((rd_T43 l0 x14_1).f2))).setCell ⟨gb290, 3, none⟩ (.int .i64 ((rd_T43 l0 x14_1).f3))).setCell ⟨gb290, 4, none⟩ (.slice A289_4 ((rd_T43 l0 x14_1).f4).length c289_4)).heap[gb290]? = some (.cells #[.int .i64 ((rd_T43 l0 x14_1).f0), .int .i64 ((rd_T43 l0 x14_1).f1), .int .i64 ((rd_T43 l0 x14_1).f2), .int .i64 ((rd_T43 l0 x14_1).f3), .slice A289_4 ((rd_T43 l0 x14_1).f4).length c289_4] 43 (0, 0))) := ⟨up_ BK290⟩
    have n4_ : Aside0 (Below w.heap.size w (((((w46.setCell ⟨gb290, 0, none⟩ (.int .i64 ((rd_T43 l0 x14_1).f0))).setCell ⟨gb290, 1, none⟩ (.int .i64 ((rd_T43 l0 x14_1).f1))).setCell ⟨gb290, 2, none⟩ (.int .i64 ((rd_T43 l0 x14_1).f2))).setCell ⟨gb290, 3, none⟩ (.int .i64 ((rd_T43 l0 x14_1).f3))).setCell ⟨gb290, 4, none⟩ (.slice A289_4 ((rd_T43 l0 x14_1).f4).length c289_4))) := ⟨hs3_ GE287.out GE288.out GE290.out⟩
    (try clear HO_289002)
    (try clear BK287)
    (try clear BK288)
    (try clear BK290)
    (try clear HB)
    generalize (((((w46.setCell ⟨gb290, 0, none⟩ (.int .i64 ((rd_T43 l0 x14_1).f0))).setCell ⟨gb290, 1, none⟩ (.int .i64 ((rd_T43 l0 x14_1).f1))).setCell ⟨gb290, 2, none⟩ (.int .i64 ((rd_T43 l0 x14_1).f2))).setCell ⟨gb290, 3, none⟩ (.int .i64 ((rd_T43 l0 x14_1).f3))).setCell ⟨gb290, 4, none⟩ (.slice A289_4 ((rd_T43 l0 x14_1).f4).length c289_4)) = w52 at n0_ n1_ n2_ n3_ n4_ ⊢
    have HO_289002 := n0_
    have BK287 := n1_
    have BK288 := n2_
    have BK290 := n3_
    have HB := n4_
    clear n0_ n1_ n2_ n3_ n4_
    replace HO_289002 := qR_ HO_289002
    replace BK287 := qK_ BK287
    replace BK288 := qK_ BK288
    replace BK290 := qK_ BK290
    replace HB := qH_ HB
    refine start_ (n := 7) (S := fun w' => w'.cell? ⟨gb288, 0, none⟩ = some (.int .i64 x289000_1) ∧ w'.cell? ⟨gb288, 1, none⟩ = some (.string x289001_1) ∧ w'.cell? ⟨gb288, 2, none⟩ = some (u289002) ∧ w'.cell? ⟨gb290, 0, none⟩ = some (.int .i64 ((rd_T43 l0 x14_1).f0)) ∧ w'.cell? ⟨gb290, 1, none⟩ = some (.int .i64 ((rd_T43 l0 x14_1).f1)) ∧ w'.cell? ⟨gb290, 2, none⟩ = some (.int .i64 ((rd_T43 l0 x14_1).f2)) ∧ w'.cell? ⟨gb290, 3, none⟩ = some (.int .i64 ((rd_T43 l0 x14_1).f3)) ∧ w'.cell? ⟨gb290, 4, none⟩ = some (.slice A289_4 ((rd_T43 l0 x14_1).f4).length c289_4)) (ds := [6]) #[false, false, false, false, false, false, false] (by kernel_rfl) rfl rfl ⟨bt_ BK288 0, bt_ BK288 1, bt_ BK288 2, bt_ BK290 0, bt_ BK290 1, bt_ BK290 2, bt_ BK290 3, bt_ BK290 4⟩ (fun hHeld => ?_)
    generalize w52.drew = w53 at HO_289002 BK287 BK288 BK290 HB hHeld ⊢
    refine pure_ (i := 0) (N := some 45) (v := ?_) (a' := ?_) #[true, false, false, false, false, false, false] rfl rfl (by kernel_rfl) (fun _ _ _ h => h) (Or.inl ⟨by rfl, ?_⟩) ?_ ?_
    rotate_left
    ·intro w'
     go_simp
     with_reducible rfl
    rotate_left
    ·simp only [Act.put, List.setIfInBounds_toArray, List.set_cons_zero, List.set_cons_succ, i64_w, i32_w]
     rfl
    refine take_ (i := 1) (N := some 46) (v := ?_) (a' := ?_) #[true, true, false, false, false, false, false] rfl rfl (by kernel_rfl) (fun _ _ _ h => h) (Or.inl ⟨by rfl, ?_⟩) hHeld ?_ ?_
    rotate_left
    ·rintro w' ⟨s0, s1, s2, s3, s4, s5, s6, s7⟩
     go_simp
     with_reducible rfl
    rotate_left
    ·simp only [Act.put, List.setIfInBounds_toArray, List.set_cons_zero, List.set_cons_succ, i64_w, i32_w]
     rfl
    refine take_ (i := 2) (N := some 47) (v := ?_) (a' := ?_) #[true, true, true, false, false, false, false] rfl rfl (by kernel_rfl) (fun _ _ _ h => h) (Or.inl ⟨by rfl, ?_⟩) hHeld ?_ ?_
    rotate_left
    ·rintro w' ⟨s0, s1, s2, s3, s4, s5, s6, s7⟩
     go_simp
     with_reducible rfl
    rotate_left
    ·simp only [Act.put, List.setIfInBounds_toArray, List.set_cons_zero, List.set_cons_succ, i64_w, i32_w]
     rfl
    refine one_ (i := 3) (N := some 48) #[true, true, true, true, false, false, false] rfl rfl (by kernel_rfl) (by decide) (fun K hK => ?_)
    refine gs_ Try.func84 #[.agg #[.int .i64 ((rd_T43 l0 x14_1).f0), .int .i64 ((rd_T43 l0 x14_1).f1), .int .i64 ((rd_T43 l0 x14_1).f2), .int .i64 ((rd_T43 l0 x14_1).f3), .slice A289_4 ((rd_T43 l0 x14_1).f4).length c289_4]] rfl ma_ ?_
    with_reducible refine (impl_batchBytes.calls k1 ((rd_T43 l0 x14_1).f0) ((rd_T43 l0 x14_1).f1) ((rd_T43 l0 x14_1).f2) ((rd_T43 l0 x14_1).f3) _ _ ((rd_T43 l0 x14_1).f4) t299 _ ?side1 ?side2 A44.out).mono ?_
    (case side1 => exact cs_ ((Kd.C_below HR289_4.out HB.out)))
    (case side2 => exact HC289_4.out)
    rintro e w54 ⟨rfl, hb⟩
    refine ⟨_, rfl, ?_⟩
    replace HO_289002 := rB_ HO_289002 hb
    replace BK287 := Aside0.mk (blk_below (g := gb287) (o := .cells #[.int .i64 0, .string (⟨#[]⟩ : ByteArray), .slice none 0 0] 65 (0, 0)) (kb_ BK287.out) hb)
    replace BK288 := bK_ BK288 hb
    replace BK290 := bK_ BK290 hb
    replace HB := nc3_ GE287 GE288 GE290 hb
    (try clear hb)
    (try clear hb2)
    (try clear hk)
    (try clear hi)
    refine hK.out _ _ ⟨bt_ BK288 0, bt_ BK288 1, bt_ BK288 2, bt_ BK290 0, bt_ BK290 1, bt_ BK290 2, bt_ BK290 3, bt_ BK290 4⟩ (fun hHeld => ?_)
    clear hK K
    refine no_ ?_
    refine pure_ (i := 4) (N := some 49) (v := ?_) (a' := ?_) #[true, true, true, true, true, false, false] rfl rfl (by kernel_rfl) (fun _ _ _ h => h) (Or.inl ⟨by rfl, ?_⟩) ?_ ?_
    rotate_left
    ·intro w'
     go_simp
     with_reducible rfl
    rotate_left
    ·simp only [Act.put, List.setIfInBounds_toArray, List.set_cons_zero, List.set_cons_succ, i64_w, i32_w]
     rfl
    refine pure_ (i := 5) (N := some 50) (v := ?_) (a' := ?_) #[true, true, true, true, true, true, false] rfl rfl (by kernel_rfl) (fun _ _ _ h => h) (Or.inl ⟨by rfl, ?_⟩) ?_ ?_
    rotate_left
    ·intro w'
     go_simp
     with_reducible rfl
    rotate_left
    ·simp only [Act.put, List.setIfInBounds_toArray, List.set_cons_zero, List.set_cons_succ, i64_w, i32_w]
     rfl
    refine last_ (i := 6) (N := none) #[true, true, true, true, true, true, true] rfl rfl (by kernel_rfl) (by decide) (fun K hK => ?_)
    have hs55 : w54.cell? ⟨gb288, 1, none⟩ = some (.string x289001_1) := bt_ BK288 1
    have hfs55 := blk_frozen BK288.out 1
    have hns55_0 := NB287_288.out
    have hns55_2 := NB290_288.out
    have hms55_0 := NB288_287.out
    have hms55_2 := NB288_290.out
    refine skip_ (w1 := ?_) (by rfl) rfl ?_ ?_
    rotate_left
    ·go_simp
     rfl
    refine hK.out _ _ ?_
    clear hK K
    refine done_ (by kernel_rfl) ?_
    try go_wp2
    go_roundg k1
    case measure => have := HK1.out; omega
    case rel => exact ⟨(x6_1), (wrap64 (x14_1 + 1)), (x289000_1), (x289001_1 ++ t299), (x289002_1), (u289002), sr_, sr_, H', ⟨by have := HK1.out; omega⟩, ⟨by (with_reducible repeat (first | apply Kd.R_alloc | apply Kd.R_drewN | apply Kd.R_drew)); exact Kd.R_mono (Kd.R_far (p := ⟨gb288, 1, none⟩) (Kd.R_types HO_289002.out BK288.out (by decide)) (fun _ hk => hk.2) (.string (x289001_1 ++ t299))) (fun _ hk => trivial)⟩, ⟨uf_ BK287 NB287_288.out⟩, ⟨up_ BK288⟩, ⟨hs3_ GE287.out GE288.out GE290.out⟩⟩
   have c27b0 := dge_ c27
   clear c27
   replace H := ifs_ H
   obtain ⟨c28, H⟩ := H
   have LMc28 := Aside0.mk c28
   clear c28
   obtain ⟨y295, hy295⟩ : ∃ y_ : List (S89), y_ = (x289002_1 ++ [(⟨(rd_T43 l0 x14_1).f0, (x289001_1.size : Int)⟩ : S89)]) := ⟨_, rfl⟩
   replace H : ((impl_batchBytes.f k1 ((rd_T43 l0 x14_1).f0) ((rd_T43 l0 x14_1).f1) ((rd_T43 l0 x14_1).f2) ((rd_T43 l0 x14_1).f3) ((rd_T43 l0 x14_1).f4)).bind fun t298 => (if x289001_1.size + t298.size ≤ 9223372036854775807 then (impl_segmentOf.l0 k1 (x289001_1.size : Int) l0 (l0.length : Int) (wrap64 (x14_1 + 1)) x289000_1 (x289001_1 ++ t298) y295) else (none))) = some (r1, r2, r3) := by first | (rw [hy295]; with_reducible exact H) | (have H2_ := (Option.bind_some _ _).symm.trans H; rw [hy295]; with_reducible exact H2_) | (have H2_ := (Option.bind_some _ _).symm.trans H; with_reducible exact H2_) | with_reducible exact H | (rw [hy295]; exact H) | exact H
   have Ny295 := Aside0.mk hy295
   clear hy295
   replace H := bnd_ H
   obtain ⟨t298, A29, H⟩ := H
   replace H := ifs_ H
   obtain ⟨c30, H⟩ := H
   have c30b0 := eq_true c30
   have c30b1 := decide_eq_true c30
   try have c30b2 : (9223372036854775807 < x289001_1.size + t298.size) = False := eq_false (Nat.not_lt.2 c30)
   try have c30w := cw_ c30
   (try rw [c30w] at c7b0)
   (try rw [c30w] at c8b0)
   (try rw [c30w] at c9b0)
   (try rw [c30w] at c10b0)
   (try rw [c30w] at c13b0)
   (try rw [c30w] at c27b0)
   have H' := Aside0.mk H
   clear H
   have p289 : 0 ≤ (x14_1 : Int) := oa_
   have q289 : x14_1 < (l0.length : Int) := oa_
   obtain ⟨ad289, A289_4, c289_4, e289, hx289_0, hx289_1, hx289_2, hx289_3, hx289_4, hl289_4, hi289_4⟩ := at_T43 HR0.out x14_1 p289 q289
   cases e289
   replace hx289_0 := pc_ HB.out hx289_0
   replace hx289_1 := pc_ HB.out hx289_1
   replace hx289_2 := pc_ HB.out hx289_2
   replace hx289_3 := pc_ HB.out hx289_3
   replace hx289_4 := pc_ HB.out hx289_4
   have HR289_4 := Aside0.mk hi289_4
   have HC289_4 := Aside0.mk hl289_4
   clear hi289_4 hl289_4
   replace p289 := eq_true p289
   replace q289 := eq_true q289
   try go_wp2_with (first | ((with_reducible refine gate_dst (N := 8) rfl ?_); refine be_ (N := 8) #[.int .i64 0, .int .i64 0, .int .i64 0, .int .i64 0, .slice none 0 0] 43 ?_; intro gb290 hg w31 hbox hb; replace HO_289002 := rB_ HO_289002 hb; have BK290 := Aside0.mk (hbox); have GW290 := ge2_ hg GE287 GE288; have GE290 := ge2_ hg GE287 GE288; replace HB := nc2_ GE287 GE288 hb; have NB287_290 := Aside0.mk ((by rw [hg]; exact Nat.ne_of_lt (blk_lt (g := gb287) (o := .cells #[.int .i64 0, .string (⟨#[]⟩ : ByteArray), .slice none 0 0] 65 (0, 0)) (kb_ BK287.out)) : gb287 ≠ gb290)); have NB290_287 := Aside0.mk ((by rw [hg]; exact Nat.ne_of_gt (blk_lt (g := gb287) (o := .cells #[.int .i64 0, .string (⟨#[]⟩ : ByteArray), .slice none 0 0] 65 (0, 0)) (kb_ BK287.out)) : gb290 ≠ gb287)); replace BK287 := Aside0.mk (blk_below (g := gb287) (o := .cells #[.int .i64 0, .string (⟨#[]⟩ : ByteArray), .slice none 0 0] 65 (0, 0)) (kb_ BK287.out) hb); have NB288_290 := nl_ BK288 hg; have NB290_288 := ng_ BK288 hg; replace BK288 := bK_ BK288 hb; clear hb hbox hg; have hnb32 := NB290_287.out; have hnc32 := NB287_290.out; have hnb33 := NB290_288.out; have hnc33 := NB288_290.out; obtain ⟨hcz34_0, hcz34_1, hcz34_2, hcz34_3, hcz34_4, hfz34_0, hfz34_1, hfz34_2, hfz34_3, hfz34_4⟩ := cf5_ BK290.out; have hnb35 := NB288_287.out; have hnc35 := NB287_288.out; obtain ⟨hcz36_0, hcz36_1, hcz36_2, hfz36_0, hfz36_1, hfz36_2⟩ := cf3_ BK288.out) | ((with_reducible refine gate_builtin (b := .append) (xs := #[.tmp 36, .tmp 41]) rfl ?_); at_builtin; refine Kd.R_append k89 (w0 := w) w.heap.size rfl (.tmp 36) (.tmp 41) 63 89 (.agg #[(.int .i64 0), (.int .i64 0)]) 16 rfl Try.underlying63 info89 rfl (by decide) (by omega) u289002 x289002_1 (⟨(rd_T43 l0 x14_1).f0, (x289001_1.size : Int)⟩ : S89) [.int .i64 ((rd_T43 l0 x14_1).f0), .int .i64 (x289001_1.size : Int)] (fun _ => True) (fun _ => False) rfl (by first | (go_simp; done) | (go_simp; rfl)) ?aP (fun _ hk => hk.elim) ?aF ?aO ?aB ?aS ?aL ?_; (case aP => exact k89_mkM _ _ _ (⟨(rd_T43 l0 x14_1).f0, (x289001_1.size : Int)⟩ : S89)); (case aB => exact (hs3_ GE287.out GE288.out GE290.out)); (case aF => exact (fun _ _ => trivial)); (case aO => exact (by (with_reducible repeat (first | apply Kd.R_alloc | apply Kd.R_drewN | apply Kd.R_drew)); exact Kd.R_mono (Kd.R_far (p := ⟨gb290, 4, none⟩) (Kd.R_far (p := ⟨gb290, 3, none⟩) (Kd.R_far (p := ⟨gb290, 2, none⟩) (Kd.R_far (p := ⟨gb290, 1, none⟩) (Kd.R_far (p := ⟨gb290, 0, none⟩) (Kd.R_types HO_289002.out BK290.out (by decide)) (fun _ hk => hk.2) (.int .i64 ((rd_T43 l0 x14_1).f0))) (fun _ hk => hk.2) (.int .i64 ((rd_T43 l0 x14_1).f1))) (fun _ hk => hk.2) (.int .i64 ((rd_T43 l0 x14_1).f2))) (fun _ hk => hk.2) (.int .i64 ((rd_T43 l0 x14_1).f3))) (fun _ hk => hk.2) (.slice A289_4 ((rd_T43 l0 x14_1).f4).length c289_4)) (fun _ hk => trivial))); (case aS => exact (below_size (hs3_ GE287.out GE288.out GE290.out))); (case aL => have := LMc28.out; omega); intro v296 w37 ho hb hg hat; rw [← Ny295.out] at ho; replace BK287 := Aside0.mk (blk_grown (g := gb287) (o := .cells #[.int .i64 0, .string (⟨#[]⟩ : ByteArray), .slice none 0 0] 65 (0, 0)) (uf_ BK287 NB287_290.out) hg (Kd.R_ne HO_289002.out BK287.out (by decide))); replace BK288 := Aside0.mk (blk_grown (g := gb288) (o := .cells #[.int .i64 x289000_1, .string x289001_1, u289002] 65 (0, 0)) (uf_ BK288 NB288_290.out) hg (Kd.R_ne HO_289002.out BK288.out (by decide))); replace BK290 := Aside0.mk (blk_grown (g := gb290) (o := .cells #[.int .i64 ((rd_T43 l0 x14_1).f0), .int .i64 ((rd_T43 l0 x14_1).f1), .int .i64 ((rd_T43 l0 x14_1).f2), .int .i64 ((rd_T43 l0 x14_1).f3), .slice A289_4 ((rd_T43 l0 x14_1).f4).length c289_4] 43 (0, 0)) (up_ BK290) hg (Kd.R_ne HO_289002.out BK290.out (by decide))); replace HB := Aside0.mk (hb); have HO297 := Aside0.mk (ho); clear HO_289002; clear ho hb hg hat; obtain ⟨Ao38, co38, eo38⟩ := Kd.R_slice HO297.out; subst eo38; obtain ⟨hcz39_0, hcz39_1, hcz39_2, hfz39_0, hfz39_1, hfz39_2⟩ := cf3_ BK288.out))
   have n0_ : Aside0 (Kd.R k89 89 (w37.setCell ⟨gb288, 2, none⟩ (.slice Ao38 y295.length co38)) w.heap.size (fun _ => True) (.slice Ao38 y295.length co38) y295) := ⟨by (with_reducible repeat (first | apply Kd.R_alloc | apply Kd.R_drewN | apply Kd.R_drew)); exact Kd.R_mono (Kd.R_far (p := ⟨gb288, 2, none⟩) (Kd.R_types HO297.out BK288.out (by decide)) (fun _ hk => hk.2) (.slice Ao38 y295.length co38)) (fun _ hk => trivial)⟩
   have n1_ : Aside0 ((w37.setCell ⟨gb288, 2, none⟩ (.slice Ao38 y295.length co38)).heap[gb287]? = some (.cells #[.int .i64 0, .string (⟨#[]⟩ : ByteArray), .slice none 0 0] 65 (0, 0))) := ⟨uf_ BK287 NB287_288.out⟩
   have n2_ : Aside0 ((w37.setCell ⟨gb288, 2, none⟩ (.slice Ao38 y295.length co38)).heap[gb288]? = some (.cells #[.int .i64 x289000_1, .string x289001_1, .slice Ao38 y295.length co38] 65 (0, 0))) := ⟨up_ BK288⟩
   have n3_ : Aside0 ((w37.setCell ⟨gb288, 2, none⟩ (.slice Ao38 y295.length co38)).heap[gb290]? = some (.cells #[.int .i64 ((rd_T43 l0 x14_1).f0), .int .i64 ((rd_T43 l0 x14_1).f1), .int .i64 ((rd_T43 l0 x14_1).f2), .int .i64 ((rd_T43 l0 x14_1).f3), .slice A289_4 ((rd_T43 l0 x14_1).f4).length c289_4] 43 (0, 0))) := ⟨uf_ BK290 NB290_288.out⟩
   have n4_ : Aside0 (Below w.heap.size w (w37.setCell ⟨gb288, 2, none⟩ (.slice Ao38 y295.length co38))) := ⟨hs3_ GE287.out GE288.out GE290.out⟩
   (try clear HO297)
   (try clear BK287)
   (try clear BK288)
   (try clear BK290)
   (try clear HB)
   generalize (w37.setCell ⟨gb288, 2, none⟩ (.slice Ao38 y295.length co38)) = w40 at n0_ n1_ n2_ n3_ n4_ ⊢
   have HO297 := n0_
   have BK287 := n1_
   have BK288 := n2_
   have BK290 := n3_
   have HB := n4_
   clear n0_ n1_ n2_ n3_ n4_
   replace HO297 := qR_ HO297
   replace BK287 := qK_ BK287
   replace BK288 := qK_ BK288
   replace BK290 := qK_ BK290
   replace HB := qH_ HB
   refine start_ (n := 7) (S := fun w' => w'.cell? ⟨gb288, 0, none⟩ = some (.int .i64 x289000_1) ∧ w'.cell? ⟨gb288, 1, none⟩ = some (.string x289001_1) ∧ w'.cell? ⟨gb288, 2, none⟩ = some (.slice Ao38 y295.length co38) ∧ w'.cell? ⟨gb290, 0, none⟩ = some (.int .i64 ((rd_T43 l0 x14_1).f0)) ∧ w'.cell? ⟨gb290, 1, none⟩ = some (.int .i64 ((rd_T43 l0 x14_1).f1)) ∧ w'.cell? ⟨gb290, 2, none⟩ = some (.int .i64 ((rd_T43 l0 x14_1).f2)) ∧ w'.cell? ⟨gb290, 3, none⟩ = some (.int .i64 ((rd_T43 l0 x14_1).f3)) ∧ w'.cell? ⟨gb290, 4, none⟩ = some (.slice A289_4 ((rd_T43 l0 x14_1).f4).length c289_4)) (ds := [6]) #[false, false, false, false, false, false, false] (by kernel_rfl) rfl rfl ⟨bt_ BK288 0, bt_ BK288 1, bt_ BK288 2, bt_ BK290 0, bt_ BK290 1, bt_ BK290 2, bt_ BK290 3, bt_ BK290 4⟩ (fun hHeld => ?_)
   generalize w40.drew = w41 at HO297 BK287 BK288 BK290 HB hHeld ⊢
   refine pure_ (i := 0) (N := some 45) (v := ?_) (a' := ?_) #[true, false, false, false, false, false, false] rfl rfl (by kernel_rfl) (fun _ _ _ h => h) (Or.inl ⟨by rfl, ?_⟩) ?_ ?_
   rotate_left
   ·intro w'
    go_simp
    with_reducible rfl
   rotate_left
   ·simp only [Act.put, List.setIfInBounds_toArray, List.set_cons_zero, List.set_cons_succ, i64_w, i32_w]
    rfl
   refine take_ (i := 1) (N := some 46) (v := ?_) (a' := ?_) #[true, true, false, false, false, false, false] rfl rfl (by kernel_rfl) (fun _ _ _ h => h) (Or.inl ⟨by rfl, ?_⟩) hHeld ?_ ?_
   rotate_left
   ·rintro w' ⟨s0, s1, s2, s3, s4, s5, s6, s7⟩
    go_simp
    with_reducible rfl
   rotate_left
   ·simp only [Act.put, List.setIfInBounds_toArray, List.set_cons_zero, List.set_cons_succ, i64_w, i32_w]
    rfl
   refine take_ (i := 2) (N := some 47) (v := ?_) (a' := ?_) #[true, true, true, false, false, false, false] rfl rfl (by kernel_rfl) (fun _ _ _ h => h) (Or.inl ⟨by rfl, ?_⟩) hHeld ?_ ?_
   rotate_left
   ·rintro w' ⟨s0, s1, s2, s3, s4, s5, s6, s7⟩
    go_simp
    with_reducible rfl
   rotate_left
   ·simp only [Act.put, List.setIfInBounds_toArray, List.set_cons_zero, List.set_cons_succ, i64_w, i32_w]
    rfl
   refine one_ (i := 3) (N := some 48) #[true, true, true, true, false, false, false] rfl rfl (by kernel_rfl) (by decide) (fun K hK => ?_)
   refine gs_ Try.func84 #[.agg #[.int .i64 ((rd_T43 l0 x14_1).f0), .int .i64 ((rd_T43 l0 x14_1).f1), .int .i64 ((rd_T43 l0 x14_1).f2), .int .i64 ((rd_T43 l0 x14_1).f3), .slice A289_4 ((rd_T43 l0 x14_1).f4).length c289_4]] rfl ma_ ?_
   with_reducible refine (impl_batchBytes.calls k1 ((rd_T43 l0 x14_1).f0) ((rd_T43 l0 x14_1).f1) ((rd_T43 l0 x14_1).f2) ((rd_T43 l0 x14_1).f3) _ _ ((rd_T43 l0 x14_1).f4) t298 _ ?side1 ?side2 A29.out).mono ?_
   (case side1 => exact cs_ ((Kd.C_below HR289_4.out HB.out)))
   (case side2 => exact HC289_4.out)
   rintro e w42 ⟨rfl, hb⟩
   refine ⟨_, rfl, ?_⟩
   replace HO297 := rB_ HO297 hb
   replace BK287 := Aside0.mk (blk_below (g := gb287) (o := .cells #[.int .i64 0, .string (⟨#[]⟩ : ByteArray), .slice none 0 0] 65 (0, 0)) (kb_ BK287.out) hb)
   replace BK288 := bK_ BK288 hb
   replace BK290 := bK_ BK290 hb
   replace HB := nc3_ GE287 GE288 GE290 hb
   (try clear hb)
   (try clear hb2)
   (try clear hk)
   (try clear hi)
   refine hK.out _ _ ⟨bt_ BK288 0, bt_ BK288 1, bt_ BK288 2, bt_ BK290 0, bt_ BK290 1, bt_ BK290 2, bt_ BK290 3, bt_ BK290 4⟩ (fun hHeld => ?_)
   clear hK K
   refine no_ ?_
   refine pure_ (i := 4) (N := some 49) (v := ?_) (a' := ?_) #[true, true, true, true, true, false, false] rfl rfl (by kernel_rfl) (fun _ _ _ h => h) (Or.inl ⟨by rfl, ?_⟩) ?_ ?_
   rotate_left
   ·intro w'
    go_simp
    with_reducible rfl
   rotate_left
   ·simp only [Act.put, List.setIfInBounds_toArray, List.set_cons_zero, List.set_cons_succ, i64_w, i32_w]
    rfl
   refine pure_ (i := 5) (N := some 50) (v := ?_) (a' := ?_) #[true, true, true, true, true, true, false] rfl rfl (by kernel_rfl) (fun _ _ _ h => h) (Or.inl ⟨by rfl, ?_⟩) ?_ ?_
   rotate_left
   ·intro w'
    go_simp
    with_reducible rfl
   rotate_left
   ·simp only [Act.put, List.setIfInBounds_toArray, List.set_cons_zero, List.set_cons_succ, i64_w, i32_w]
    rfl
   refine last_ (i := 6) (N := none) #[true, true, true, true, true, true, true] rfl rfl (by kernel_rfl) (by decide) (fun K hK => ?_)
   have hs43 : w42.cell? ⟨gb288, 1, none⟩ = some (.string x289001_1) := bt_ BK288 1
   have hfs43 := blk_frozen BK288.out 1
   have hns43_0 := NB287_288.out
   have hns43_2 := NB290_288.out
   have hms43_0 := NB288_287.out
   have hms43_2 := NB288_290.out
   refine skip_ (w1 := ?_) (by rfl) rfl ?_ ?_
   rotate_left
   ·go_simp
    rfl
   refine hK.out _ _ ?_
   clear hK K
   refine done_ (by kernel_rfl) ?_
   try go_wp2
   go_roundg k1
   case measure => have := HK1.out; omega
   case rel => exact ⟨((x289001_1.size : Int)), (wrap64 (x14_1 + 1)), (x289000_1), (x289001_1 ++ t298), (y295), (.slice Ao38 y295.length co38), sr_, sr_, H', ⟨by have := HK1.out; omega⟩, ⟨by (with_reducible repeat (first | apply Kd.R_alloc | apply Kd.R_drewN | apply Kd.R_drew)); exact Kd.R_mono (Kd.R_far (p := ⟨gb288, 1, none⟩) (Kd.R_types HO297.out BK288.out (by decide)) (fun _ hk => hk.2) (.string (x289001_1 ++ t298))) (fun _ hk => trivial)⟩, ⟨uf_ BK287 NB287_288.out⟩, ⟨up_ BK288⟩, ⟨hs3_ GE287.out GE288.out GE290.out⟩⟩

end Go.Proofs.Ytffpeklekkpbjaa.QFnExactAllBatches
