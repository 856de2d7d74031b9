/- For each Go function that one statement reaches: a plain function with the same answers, and the proof that the call comes to them. Conditions: those that each contract names. Written by a program of this repository. -/
import Derived.Test.YtffpeklekkpbjaaVDropBeforea
import Derived.Test.YtffpeklekkpbjaaQFnExactDropBeforex0
import Derived.Test.YtffpeklekkpbjaaQFnExactDropBeforex12
namespace Go.Proofs.Ytffpeklekkpbjaa.QFnExactDropBefore
open Go.RowKit Go.Proofs.YtffpeklekkpbjaaW.PrintWords Go.Proofs.YtffpeklekkpbjaaW.PrintLast Go.Proofs.YtffpeklekkpbjaaW.PrintMore
attribute [local go_sem] max2_int min2_int max_two min_two max_three min_three max_four min_four Go.Proofs.YtffpeklekkpbjaaW.PrintMore2.isSome_setCell   -- for this text's walks alone
set_option linter.unusedVariables false
set_option linter.unusedSimpArgs false

/-! ### spec_l2Own: function 71 -/
def spec_l2Own.l0 : Nat → List (S65) → Int → Int → List (S65) → Int → Option ((List (S65)) × Int)
 | 0, _, _, _, _, _ => none
 | k + 1, x10, x11, x12, x268000, x268001 => if x12 < x11 then (if 0 ≤ x12 then (if x12 < (x10.length : Int) then ((some (([] : List (S89)) : List (S89))).bind fun y270 => (if y270.length + ((rd_T65 x10 x12).f2).length < 8796093022208 then (if x268000.length < 2932031007402 then (spec_l2Own.l0 k x10 x11 (wrap64 (x12 + 1)) (x268000 ++ [(⟨(rd_T65 x10 x12).f0, (rd_T65 x10 x12).f1, (y270 ++ ((rd_T65 x10 x12).f2))⟩ : S65)]) x268001) else (none)) else (none))) else (none)) else (none)) else (some (x268000, x268001))
def spec_l2Own.f (k : Nat) (l0_0 : List (S65)) (a0_1 : Int) : Option ((List (S65)) × Int) := spec_l2Own.l0 k l0_0 (l0_0.length : Int) 0 ([] : List (S65)) a0_1
theorem spec_l2Own.mono_l : ∀ k, (∀ y0 y1 y2 y3 y4, LeO (spec_l2Own.l0 k y0 y1 y2 y3 y4) (spec_l2Own.l0 (k + 1) y0 y1 y2 y3 y4))
 | 0 => fun _ _ _ _ _ r h => by simp [spec_l2Own.l0] at h
 | k + 1 => by
  have ih0 := spec_l2Own.mono_l k
  ·intro y0 y1 y2 y3 y4
   unfold spec_l2Own.l0
   repeat' first
   | (with_reducible first | exact ih0 _ _ _ _ _ | exact LeO.refl _ | exact LeO.none _ | refine LeO.ite ?_ ?_ | refine LeO.bind ?_ (fun _ => ?_)) | exact ih0 _ _ _ _ _ | exact LeO.none _ | refine LeO.ite ?_ ?_ | refine LeO.bind ?_ (fun _ => ?_)
theorem spec_l2Own.mono : ∀ a0 a1 k, LeO (spec_l2Own.f k a0 a1) (spec_l2Own.f (k + 1) a0 a1) := by
 intro a0 a1 k
 have ih0 := spec_l2Own.mono_l k
 unfold spec_l2Own.f
 repeat' first
   | (with_reducible first | exact ih0 _ _ _ _ _ | exact LeO.refl _ | exact LeO.none _ | refine LeO.ite ?_ ?_ | refine LeO.bind ?_ (fun _ => ?_)) | exact ih0 _ _ _ _ _ | exact LeO.none _ | refine LeO.ite ?_ ?_ | refine LeO.bind ?_ (fun _ => ?_)
set_option maxHeartbeats 8000000 in
set_option maxRecDepth 100000 in
theorem spec_l2Own.calls (k : Nat) (A0_0 : Option Addr) (c0_0 : Nat) (l0_0 : List (S65)) (a0_1 : Int) (r1 : List (S65)) (r2 : Int) (w : World) (hr0_0 : Kd.C k65 w A0_0 l0_0.length l0_0) (hc0_0 : l0_0.length ≤ c0_0) (h : spec_l2Own.f k l0_0 a0_1 = some (r1, r2)) :
  Calls Try.prog 71 #[.agg #[.slice A0_0 l0_0.length c0_0, .int .i64 a0_1]] w fun e w' => ∃ v0_ : Value, e = .returned (.agg #[v0_, .int .i64 r2]) ∧ Kd.S k65 65 w' w.heap.size (fun _ => True) v0_ r1 ∧ Below w.heap.size w w' := by
 have hu24 := Try.underlying24
 have hu65 := Try.underlying65
 have HR0_0 := Aside0.mk hr0_0
 have HC0_0 := Aside0.mk hc0_0
 clear hr0_0 hc0_0
 have HB := Aside0.mk (Below.refl w.heap.size w)
 have H : (spec_l2Own.l0 k l0_0 (l0_0.length : Int) 0 ([] : List (S65)) a0_1) = some (r1, r2) := h
 clear h
 have H' := Aside0.mk H
 clear H
 go_enter Try.func71, Try.ntmps71
 go_wp2_with (first | ((with_reducible refine gate_dst (N := 1) rfl ?_); refine be_ (N := 1) #[.slice A0_0 l0_0.length c0_0, .int .i64 a0_1] 24 ?_; intro gb265 hg w2 hbox hb; have BK265 := Aside0.mk (hbox); have GW265 := ge_ hg; have GE265 := ge_ hg; replace HB := nb_ hb; clear hb hbox hg) | ((with_reducible refine gate_dst (N := 2) rfl ?_); refine be_ (N := 2) #[.slice none 0 0, .int .i64 0] 24 ?_; intro gb266 hg w3 hbox hb; have BK266 := Aside0.mk (hbox); have GW266 := ge1_ hg GE265; have GE266 := ge1_ hg GE265; replace HB := nc_ GE265 hb; have NB265_266 := nl_ BK265 hg; have NB266_265 := ng_ BK265 hg; replace BK265 := bK_ BK265 hb; clear hb hbox hg; have hnb4 := NB265_266.out; have hnc4 := NB266_265.out; obtain ⟨hcz5_0, hcz5_1, hfz5_0, hfz5_1⟩ := cf2_ BK265.out) | ((with_reducible refine gate_dst (N := 3) rfl ?_); refine be_ (N := 3) #[.slice none 0 0, .int .i64 0] 24 ?_; intro gb267 hg w6 hbox hb; have BK267 := Aside0.mk (hbox); have GW267 := ge2_ hg GE265 GE266; have GE267 := ge2_ hg GE265 GE266; replace HB := nc2_ GE265 GE266 hb; have NB265_267 := nl_ BK265 hg; have NB267_265 := ng_ BK265 hg; replace BK265 := bK_ BK265 hb; have NB266_267 := nl_ BK266 hg; have NB267_266 := ng_ BK266 hg; replace BK266 := bK_ BK266 hb; clear hb hbox hg; have hnb7 := NB267_265.out; have hnc7 := NB265_267.out; have hnb8 := NB267_266.out; have hnc8 := NB266_267.out; obtain ⟨hcz9_0, hcz9_1, hfz9_0, hfz9_1⟩ := cf2_ BK267.out; obtain ⟨hcz10_0, hcz10_1, hfz10_0, hfz10_1⟩ := cf2_ BK265.out))
 go_loopg [12] k (fun kq v12 w' => ∃ (x12_1 : Int) (x268000_1 : List (S65)) (u268000 : Value), v12 = .int .i64 x12_1 ∧ Aside0 (spec_l2Own.l0 kq l0_0 (l0_0.length : Int) x12_1 x268000_1 a0_1 = some (r1, r2)) ∧ Aside0 (kq ≤ k) ∧ Aside0 (Kd.S k65 65 w' w.heap.size (fun _ => True) u268000 x268000_1) ∧ Aside0 (w'.heap[gb265]? = some (.cells #[(.slice A0_0 l0_0.length c0_0), .int .i64 a0_1] 24 (0, 0))) ∧ Aside0 (w'.heap[gb266]? = some (.cells #[(.slice none 0 0), .int .i64 0] 24 (0, 0))) ∧ Aside0 (w'.heap[gb267]? = some (.cells #[u268000, .int .i64 a0_1] 24 (0, 0))) ∧ Aside0 (Below w.heap.size w w'))
 case atStart => exact ⟨(0), (([] : List (S65))), (.slice none 0 0), sr_, H', ⟨Nat.le_refl _⟩, ⟨by first | exact Kd.S_nil _ _ _ _ _ | exact Kd.N_nil _ _ _ _ _ | exact Kd.V_nil _ _ _ _ _ | exact Kd.Q_nil _ _ _ _ _ | exact Kd.R_nil _ _ _ _ _⟩, ⟨uf_ BK265 NB265_267.out⟩, ⟨uf_ BK266 NB266_267.out⟩, ⟨up_ BK267⟩, ⟨hs3_ GE265.out GE266.out GE267.out⟩⟩
 case round =>
  clear H'
  try clear p2
  try clear c4
  try clear c7
  try clear c8
  try clear hcz10_0
  try clear hcz10_1
  try clear hcz5_0
  try clear hcz5_1
  try clear hcz9_0
  try clear hcz9_1
  try clear hfz10_0
  try clear hfz10_1
  try clear hfz5_0
  try clear hfz5_1
  try clear hfz9_0
  try clear hfz9_1
  obtain ⟨x12_1, x268000_1, u268000, rfl, HA, HK1, HO_268000, BK265, BK266, BK267, HB⟩ := hrel
  cases gk with
  | zero => exact absurd HA.out (by simp [spec_l2Own.l0])
  | succ k1 =>
   have H := HA.out
   clear HA
   simp only [spec_l2Own.l0] at H
   replace H := ite_ H
   obtain ⟨c11, H⟩ | ⟨c11, H⟩ := H
   rotate_left
   ·have c11b0 := decide_eq_false c11
    clear c11
    simp only [Option.some.injEq, Prod.mk.injEq] at H
    obtain ⟨rfl, rfl⟩ := H
    have hnb35 := NB267_265.out
    have hnc35 := NB265_267.out
    have hnb36 := NB267_266.out
    have hnc36 := NB266_267.out
    obtain ⟨hcz37_0, hcz37_1, hfz37_0, hfz37_1⟩ := cf2_ BK267.out
    obtain ⟨Ao38, co38, eo38⟩ := Kd.S_slice HO_268000.out
    subst eo38
    have hnb39 := NB266_265.out
    have hnc39 := NB265_266.out
    obtain ⟨hcz40_0, hcz40_1, hfz40_0, hfz40_1⟩ := cf2_ BK266.out
    go_wp2
    refine bodyPost_ret (results_cell_row rfl _ _ gb266 24 #[.slice Ao38 x268000_1.length co38, .int .i64 a0_1] (0, 0) _ rfl (up_ BK266) Try.underlying24 rfl (by kernel_rfl)) rfl ?_
    exact ⟨_, er_, by (with_reducible repeat (first | apply Kd.S_alloc | apply Kd.S_drewN | apply Kd.S_drew)); exact Kd.S_mono (Kd.S_far (p := ⟨gb266, 1, none⟩) (Kd.S_far (p := ⟨gb266, 0, none⟩) (Kd.S_types HO_268000.out BK266.out (by decide)) (fun _ hk => hk.2) (.slice Ao38 x268000_1.length co38)) (fun _ hk => hk.2) (.int .i64 a0_1)) (fun _ hk => trivial), hs3_ GE265.out GE266.out GE267.out⟩
   have c11b0 := decide_eq_true c11
   clear c11
   replace H := ifs_ H
   obtain ⟨c12, H⟩ := H
   have c12b0 := decide_eq_true c12
   clear c12
   replace H := ifs_ H
   obtain ⟨c13, H⟩ := H
   have c13b0 := decide_eq_true c13
   clear c13
   obtain ⟨y270, hy270⟩ : ∃ y_ : List (S89), y_ = (([] : List (S89))) := ⟨_, rfl⟩
   replace H : (if y270.length + ((rd_T65 l0_0 x12_1).f2).length < 8796093022208 then (if x268000_1.length < 2932031007402 then (spec_l2Own.l0 k1 l0_0 (l0_0.length : Int) (wrap64 (x12_1 + 1)) (x268000_1 ++ [(⟨(rd_T65 l0_0 x12_1).f0, (rd_T65 l0_0 x12_1).f1, (y270 ++ ((rd_T65 l0_0 x12_1).f2))⟩ : S65)]) a0_1) else (none)) else (none)) = some (r1, r2) := by first | (rw [hy270]; with_reducible exact H) | (have H2_ := (Option.bind_some _ _).symm.trans H; rw [hy270]; with_reducible exact H2_) | (have H2_ := (Option.bind_some _ _).symm.trans H; with_reducible exact H2_) | with_reducible exact H | (rw [hy270]; exact H) | exact H
   have Ny270 := Aside0.mk hy270
   clear hy270
   replace H := ifs_ H
   obtain ⟨c14, H⟩ := H
   have LMc14 := Aside0.mk c14
   clear c14
   obtain ⟨y273, hy273⟩ : ∃ y_ : List (S89), y_ = (y270 ++ ((rd_T65 l0_0 x12_1).f2)) := ⟨_, rfl⟩
   replace H : (if x268000_1.length < 2932031007402 then (spec_l2Own.l0 k1 l0_0 (l0_0.length : Int) (wrap64 (x12_1 + 1)) (x268000_1 ++ [(⟨(rd_T65 l0_0 x12_1).f0, (rd_T65 l0_0 x12_1).f1, y273⟩ : S65)]) a0_1) else (none)) = some (r1, r2) := by first | (rw [hy273]; with_reducible exact H) | (have H2_ := (Option.bind_some _ _).symm.trans H; rw [hy273]; with_reducible exact H2_) | (have H2_ := (Option.bind_some _ _).symm.trans H; with_reducible exact H2_) | with_reducible exact H | (rw [hy273]; exact H) | exact H
   have Ny273 := Aside0.mk hy273
   clear hy273
   replace H := ifs_ H
   obtain ⟨c15, H⟩ := H
   have LMc15 := Aside0.mk c15
   clear c15
   obtain ⟨y276, hy276⟩ : ∃ y_ : List (S65), y_ = (x268000_1 ++ [(⟨(rd_T65 l0_0 x12_1).f0, (rd_T65 l0_0 x12_1).f1, y273⟩ : S65)]) := ⟨_, rfl⟩
   replace H : (spec_l2Own.l0 k1 l0_0 (l0_0.length : Int) (wrap64 (x12_1 + 1)) y276 a0_1) = some (r1, r2) := by first | (rw [hy276]; with_reducible exact H) | (have H2_ := (Option.bind_some _ _).symm.trans H; rw [hy276]; with_reducible exact H2_) | (have H2_ := (Option.bind_some _ _).symm.trans H; with_reducible exact H2_) | with_reducible exact H | (rw [hy276]; exact H) | exact H
   have Ny276 := Aside0.mk hy276
   clear hy276
   have H' := Aside0.mk H
   clear H
   have p268 : 0 ≤ (x12_1 : Int) := oa_
   have q268 : x12_1 < (l0_0.length : Int) := oa_
   obtain ⟨ad268, A268_2, c268_2, e268, hx268_0, hx268_1, hx268_2, hl268_2, hi268_2⟩ := at_T65 HR0_0.out x12_1 p268 q268
   cases e268
   replace hx268_0 := pc_ HB.out hx268_0
   replace hx268_1 := pc_ HB.out hx268_1
   replace hx268_2 := pc_ HB.out hx268_2
   have HR268_2 := Aside0.mk hi268_2
   have HC268_2 := Aside0.mk hl268_2
   clear hi268_2 hl268_2
   replace p268 := eq_true p268
   replace q268 := eq_true q268
   go_wp2_with (first | ((with_reducible refine gate_dst (N := 5) rfl ?_); refine box_event ?hg (N := 5) ?hd (cs := #[.int .i64 0, .string (⟨#[]⟩ : ByteArray), .slice none 0 0]) (t := 65) ?hr ?_; (case hd => rfl); (case hg => rfl); (case hr => first | (go_simp; done) | (go_simp; rfl)); intro gb269 hg w16 hbox hb; replace HO_268000 := Aside0.mk (Kd.S_below (Kd.S_elderB (ks_ HO_268000.out) gb269 (Nat.le_of_eq hg.symm)) hb); have BK269 := Aside0.mk (hbox); have GW269 := ge3_ hg GE265 GE266 GE267; have GE269 := ge3_ hg GE265 GE266 GE267; replace HB := nc3_ GE265 GE266 GE267 hb; have NB265_269 := nl_ BK265 hg; have NB269_265 := ng_ BK265 hg; replace BK265 := bK_ BK265 hb; have NB266_269 := nl_ BK266 hg; have NB269_266 := ng_ BK266 hg; replace BK266 := bK_ BK266 hb; have NB267_269 := nl_ BK267 hg; have NB269_267 := ng_ BK267 hg; replace BK267 := bK_ BK267 hb; clear hb hbox hg; have hnb17 := NB269_265.out; have hnc17 := NB265_269.out; have hnb18 := NB269_266.out; have hnc18 := NB266_269.out; have hnb19 := NB269_267.out; have hnc19 := NB267_269.out; obtain ⟨hcz20_0, hcz20_1, hcz20_2, hfz20_0, hfz20_1, hfz20_2⟩ := cf3_ BK269.out) | ((with_reducible refine gate_dst (N := 16) rfl ?_); refine Kd.R_lit k89 _ 89 ?hg (N := 16) ?hd (xs := ([] : List (S89))) (inner := []) (ok := fun _ => True) (okp := fun _ => True) ?hr ?hp (fun _ hk => hk) trivial (Below.refl _ _) (Nat.le_refl _) (by simp) ?_; (case hd => rfl); (case hg => rfl); (case hr => first | (go_simp; done) | (go_simp; rfl)); (case hp => exact (Reps.none _ _)); intro v271 w21 ho22 hb hg_ hnew_; clear hg_ hnew_; (first | rw [← Ny270.out] at ho22 | (simp only [Int.reduceToNat] at ho22; rw [← Ny270.out] at ho22)); replace HO_268000 := Aside0.mk (Kd.S_elder' (by (with_reducible repeat (first | apply Kd.S_alloc | apply Kd.S_drewN | apply Kd.S_drew)); exact (Kd.S_mono (Kd.S_far (p := ⟨gb269, 2, none⟩) (Kd.S_far (p := ⟨gb269, 1, none⟩) (Kd.S_far (p := ⟨gb269, 0, none⟩) (Kd.S_mono HO_268000.out (fun k_ hk => (⟨hk, hk.2⟩ : _ ∧ k_ ≠ gb269))) (fun _ hk => hk.2) (.int .i64 ((rd_T65 l0_0 x12_1).f0))) (fun _ hk => hk.2) (.string ((rd_T65 l0_0 x12_1).f1))) (fun _ hk => hk.2) (.slice A268_2 ((rd_T65 l0_0 x12_1).f2).length c268_2)) (fun _ h_ => h_.1))) (Kd.R_base ho22) hb); have HO272 := Aside0.mk (Kd.R_lower ho22 (below_size (hs4_ GE265.out GE266.out GE267.out GE269.out))); replace BK265 := Aside0.mk (blk_below (g := gb265) (o := .cells #[.slice (some ad268) l0_0.length c0_0, .int .i64 a0_1] 24 (0, 0)) (uf_ BK265 NB265_269.out) hb); replace BK266 := Aside0.mk (blk_below (g := gb266) (o := .cells #[.slice none 0 0, .int .i64 0] 24 (0, 0)) (uf_ BK266 NB266_269.out) hb); replace BK267 := Aside0.mk (blk_below (g := gb267) (o := .cells #[u268000, .int .i64 a0_1] 24 (0, 0)) (uf_ BK267 NB267_269.out) hb); replace BK269 := Aside0.mk (blk_below (g := gb269) (o := .cells #[.int .i64 ((rd_T65 l0_0 x12_1).f0), .string ((rd_T65 l0_0 x12_1).f1), .slice A268_2 ((rd_T65 l0_0 x12_1).f2).length c268_2] 65 (0, 0)) (up_ BK269) hb); replace HB := nc4_ GE265 GE266 GE267 GE269 hb; clear hb ho22; obtain ⟨hcz23_0, hcz23_1, hcz23_2, hfz23_0, hfz23_1, hfz23_2⟩ := cf3_ BK269.out) | ((with_reducible refine gate_builtin (b := .append) (xs := #[.tmp 16, .tmp 18]) rfl ?_); at_builtin; refine Kd.R_append_rows k89 (w0 := w) w.heap.size rfl (.tmp 16) (.tmp 18) 63 89 (.agg #[(.int .i64 0), (.int .i64 0)]) 16 rfl Try.underlying63 info89 rfl (by decide) (by omega) v271 y270 ((rd_T65 l0_0 x12_1).f2) _ _ _ (fun _ => True) (fun _ => False) rfl rfl ?aO ?aR (fun _ _ h => h) (fun _ h => h.elim) ?aF ?aB ?aS ?aL ?_; (case aR => exact cs_ ((Kd.C_below HR268_2.out HB.out))); (case aB => exact (hs4_ GE265.out GE266.out GE267.out GE269.out)); (case aF => exact (fun _ _ => trivial)); (case aO => exact (kr_ HO272.out)); (case aS => exact (below_size (hs4_ GE265.out GE266.out GE267.out GE269.out))); (case aL => have := LMc14.out; omega); intro v274 w24 ho hb hg hat; rw [← Ny273.out] at ho; replace HO_268000 := Aside0.mk (Kd.S_after (ok := (fun k_ => k_ ≠ gb269)) (by (with_reducible repeat (first | apply Kd.S_alloc | apply Kd.S_drewN | apply Kd.S_drew)); exact Kd.S_mono HO_268000.out (fun _ hk => ⟨hk.1.2, hk.2⟩)) hg hat); replace BK265 := Aside0.mk (blk_grown (g := gb265) (o := .cells #[.slice (some ad268) l0_0.length c0_0, .int .i64 a0_1] 24 (0, 0)) (kb_ BK265.out) hg (Kd.R_ne HO272.out BK265.out (by decide))); replace BK266 := Aside0.mk (blk_grown (g := gb266) (o := .cells #[.slice none 0 0, .int .i64 0] 24 (0, 0)) (kb_ BK266.out) hg (Kd.R_ne HO272.out BK266.out (by decide))); replace BK267 := Aside0.mk (blk_grown (g := gb267) (o := .cells #[u268000, .int .i64 a0_1] 24 (0, 0)) (kb_ BK267.out) hg (Kd.R_ne HO272.out BK267.out (by decide))); replace BK269 := Aside0.mk (blk_grown (g := gb269) (o := .cells #[.int .i64 ((rd_T65 l0_0 x12_1).f0), .string ((rd_T65 l0_0 x12_1).f1), .slice A268_2 ((rd_T65 l0_0 x12_1).f2).length c268_2] 65 (0, 0)) (kb_ BK269.out) hg (Kd.R_ne HO272.out BK269.out (by decide))); replace HB := Aside0.mk (hb); have HO275 := Aside0.mk (ho); clear HO272; clear ho hb hg hat; obtain ⟨Ao25, co25, eo25⟩ := Kd.R_slice HO275.out; subst eo25; obtain ⟨hcz26_0, hcz26_1, hcz26_2, hfz26_0, hfz26_1, hfz26_2⟩ := cf3_ BK269.out) | ((with_reducible refine gate_store (t := 63) (p := 20) rfl ?_); refine store_event (t := 63) (p := 20) (v := ?vo_w27) (w1 := (w24.setCell ⟨gb269, 2, none⟩ (.slice Ao25 y273.length co25))) ?hg ?ho ?hn ?hr ?_; (case ho => rfl); (case hg => rfl); (case hn => rfl); (case hr => first | (go_simp; done) | (go_simp; rfl)); intro w27 hw; have n0_ : Aside0 (Kd.S k65 65 w27 w.heap.size (fun k_ => some k_ ≠ (.slice Ao25 y273.length co25 : Value).ownBlock ∧ k_ ≠ gb269) u268000 x268000_1) := ⟨(by rw [hw]; exact (by (with_reducible repeat (first | apply Kd.S_alloc | apply Kd.S_drewN | apply Kd.S_drew)); exact Kd.S_mono (Kd.S_far (p := ⟨gb269, 2, none⟩) (Kd.S_mono HO_268000.out (fun k_ hk => (⟨hk, hk.1⟩ : _ ∧ k_ ≠ gb269))) (fun _ hk => hk.2) (.slice Ao25 y273.length co25)) (fun _ hk => ⟨hk.1.2, hk.1.1⟩)))⟩; have n1_ : Aside0 (Kd.R k89 89 w27 w.heap.size (fun _ => True) (.slice Ao25 y273.length co25) y273) := ⟨(by rw [hw]; exact (by (with_reducible repeat (first | apply Kd.R_alloc | apply Kd.R_drewN | apply Kd.R_drew)); exact Kd.R_mono (Kd.R_far (p := ⟨gb269, 2, none⟩) (Kd.R_types HO275.out BK269.out (by decide)) (fun _ hk => hk.2) (.slice Ao25 y273.length co25)) (fun _ hk => trivial)))⟩; have n2_ : Aside0 (w27.heap[gb265]? = some (.cells #[.slice (some ad268) l0_0.length c0_0, .int .i64 a0_1] 24 (0, 0))) := ⟨(by rw [hw]; exact (uf_ BK265 NB265_269.out))⟩; have n3_ : Aside0 (w27.heap[gb266]? = some (.cells #[.slice none 0 0, .int .i64 0] 24 (0, 0))) := ⟨(by rw [hw]; exact (uf_ BK266 NB266_269.out))⟩; have n4_ : Aside0 (w27.heap[gb267]? = some (.cells #[u268000, .int .i64 a0_1] 24 (0, 0))) := ⟨(by rw [hw]; exact (uf_ BK267 NB267_269.out))⟩; have n5_ : Aside0 (w27.heap[gb269]? = some (.cells #[.int .i64 ((rd_T65 l0_0 x12_1).f0), .string ((rd_T65 l0_0 x12_1).f1), .slice Ao25 y273.length co25] 65 (0, 0))) := ⟨(by rw [hw]; exact (up_ BK269))⟩; have n6_ : Aside0 (Below w.heap.size w w27) := ⟨(by rw [hw]; exact (hs4_ GE265.out GE266.out GE267.out GE269.out))⟩; clear hw; clear HO_268000; clear HO275; clear BK265; clear BK266; clear BK267; clear BK269; clear HB; have HO_268000 := n0_; have HO275 := n1_; have BK265 := n2_; have BK266 := n3_; have BK267 := n4_; have BK269 := n5_; have HB := n6_; clear n0_ n1_ n2_ n3_ n4_ n5_ n6_; have hnb28 := NB267_265.out; have hnc28 := NB265_267.out; have hnb29 := NB267_266.out; have hnc29 := NB266_267.out; obtain ⟨hcz30_0, hcz30_1, hfz30_0, hfz30_1⟩ := cf2_ BK267.out; obtain ⟨hcz31_0, hcz31_1, hcz31_2, hfz31_0, hfz31_1, hfz31_2⟩ := cf3_ BK269.out) | ((with_reducible refine gate_builtin (b := .append) (xs := #[.tmp 22, .tmp 24]) rfl ?_); at_builtin; refine Kd.S_append k65 (w0 := w) w.heap.size rfl (.tmp 22) (.tmp 24) 22 65 (.agg #[(.int .i64 0), (.string ⟨#[]⟩), (.slice none 0 0)]) 48 rfl Try.underlying22 info65 rfl (by decide) (by omega) u268000 x268000_1 (⟨(rd_T65 l0_0 x12_1).f0, (rd_T65 l0_0 x12_1).f1, y273⟩ : S65) [.int .i64 ((rd_T65 l0_0 x12_1).f0), .string ((rd_T65 l0_0 x12_1).f1), .slice Ao25 y273.length co25] (fun k_ => k_ ≠ gb269) (fun k_ => some k_ = (.slice Ao25 y273.length co25 : Value).ownBlock) rfl rfl ?aP (fun k_ hk_ => ((Kd.R_mono (ok' := fun k_ => ((fun k_ => k_ ≠ gb269)) k_ ∧ some k_ ≠ (u268000 : Value).ownBlock) (Kd.R_types (Kd.R_apart' (HO275.out) (Kd.S_typed HO_268000.out) (by decide)) BK269.out (by decide)) (fun k_ hk => ⟨hk.2, hk.1.2⟩))).1 k_ hk_.symm) ?aF ?aO ?aB ?aS ?aL ?_; (case aP => exact k65_mkM _ _ _ (⟨(rd_T65 l0_0 x12_1).f0, (rd_T65 l0_0 x12_1).f1, y273⟩ : S65) (Kd.R_mono (Kd.R_tight rfl (Kd.R_mono (ok' := fun k_ => ((fun k_ => k_ ≠ gb269)) k_ ∧ some k_ ≠ (u268000 : Value).ownBlock) (Kd.R_types (Kd.R_apart' (HO275.out) (Kd.S_typed HO_268000.out) (by decide)) BK269.out (by decide)) (fun k_ hk => ⟨hk.2, hk.1.2⟩))) (fun _ h_ => h_))); (case aB => exact (hs4_ GE265.out GE266.out GE267.out GE269.out)); (case aF => exact (fun k_ hk => Kd.freshB (g := gb269) (o := .cells #[.int .i64 ((rd_T65 l0_0 x12_1).f0), .string ((rd_T65 l0_0 x12_1).f1), .slice Ao25 y273.length co25] 65 (0, 0)) (kb_ BK269.out) k_ hk)); (case aO => exact (by (with_reducible repeat (first | apply Kd.S_alloc | apply Kd.S_drewN | apply Kd.S_drew)); exact Kd.S_mono HO_268000.out (fun k_ hk => ⟨hk.2, fun e_ => hk.1 e_⟩))); (case aS => exact (below_size (hs4_ GE265.out GE266.out GE267.out GE269.out))); (case aL => have := LMc15.out; omega); intro v277 w32 ho hb hg hat; rw [← Ny276.out] at ho; replace BK265 := Aside0.mk (blk_grown (g := gb265) (o := .cells #[.slice (some ad268) l0_0.length c0_0, .int .i64 a0_1] 24 (0, 0)) (kb_ BK265.out) hg (Kd.S_ne HO_268000.out BK265.out (by decide))); replace BK266 := Aside0.mk (blk_grown (g := gb266) (o := .cells #[.slice none 0 0, .int .i64 0] 24 (0, 0)) (kb_ BK266.out) hg (Kd.S_ne HO_268000.out BK266.out (by decide))); replace BK267 := Aside0.mk (blk_grown (g := gb267) (o := .cells #[u268000, .int .i64 a0_1] 24 (0, 0)) (kb_ BK267.out) hg (Kd.S_ne HO_268000.out BK267.out (by decide))); replace BK269 := Aside0.mk (blk_grown (g := gb269) (o := .cells #[.int .i64 ((rd_T65 l0_0 x12_1).f0), .string ((rd_T65 l0_0 x12_1).f1), .slice Ao25 y273.length co25] 65 (0, 0)) (kb_ BK269.out) hg (Kd.S_away HO_268000.out (fun _ hk => hk.2))); replace HB := Aside0.mk (hb); have HO278 := Aside0.mk (ho); clear HO_268000 HO275; clear ho hb hg hat; obtain ⟨Ao33, co33, eo33⟩ := Kd.S_slice HO278.out; subst eo33; obtain ⟨hcz34_0, hcz34_1, hfz34_0, hfz34_1⟩ := cf2_ BK267.out))
   go_roundg k1
   case measure => have := HK1.out; omega
   case rel => exact ⟨(wrap64 (x12_1 + 1)), (y276), (.slice Ao33 y276.length co33), sr_, H', ⟨by have := HK1.out; omega⟩, ⟨by (with_reducible repeat (first | apply Kd.S_alloc | apply Kd.S_drewN | apply Kd.S_drew)); exact Kd.S_mono (Kd.S_far (p := ⟨gb267, 0, none⟩) (Kd.S_types HO278.out BK267.out (by decide)) (fun _ hk => hk.2) (.slice Ao33 y276.length co33)) (fun _ hk => trivial)⟩, ⟨uf_ BK265 NB265_267.out⟩, ⟨uf_ BK266 NB266_267.out⟩, ⟨up_ BK267⟩, ⟨hs4_ GE265.out GE266.out GE267.out GE269.out⟩⟩

/-! ### spec_DropBefore: function 25 -/
def spec_DropBefore.l0 : Nat → Int → List (S65) → Int → Option ((List (S65)) × Int × Bool)
 | 0, _, _, _ => none
 | k + 1, x1, x287000, x287001 => if (x287000.length : Int) > 1 then (if 1 < (x287000.length : Int) then (if ((rd_T65 x287000 1).f0) ≤ x1 then (if 1 ≤ (x287000.length : Int) then (spec_DropBefore.l0 k x1 (x287000.drop (1 : Int).toNat) x287001) else (none)) else ((spec_l2Own.f k x287000 x287001).bind fun bt291 => (some (bt291.1, bt291.2, true)))) else (none)) else ((spec_l2Own.f k x287000 x287001).bind fun bt295 => (some (bt295.1, bt295.2, true)))
def spec_DropBefore.f (k : Nat) (l0_0 : List (S65)) (a0_1 : Int) (a1 : Int) : Option ((List (S65)) × Int × Bool) := (spec_GoodStore.f k l0_0 a0_1).bind fun t281 => (if t281 = true then ((spec_l2Own.f k l0_0 a0_1).bind fun bt282 => (spec_DropBefore.l0 k a1 bt282.1 bt282.2)) else (some (([] : List (S65)), 0, false)))
theorem spec_DropBefore.mono_l : ∀ k, (∀ y0 y1 y2, LeO (spec_DropBefore.l0 k y0 y1 y2) (spec_DropBefore.l0 (k + 1) y0 y1 y2))
 | 0 => fun _ _ _ r h => by simp [spec_DropBefore.l0] at h
 | k + 1 => by
  have ih0 := spec_DropBefore.mono_l k
  ·intro y0 y1 y2
   unfold spec_DropBefore.l0
   repeat' first
   | (with_reducible first | exact ih0 _ _ _ | exact spec_GoodStore.mono _ _ _ | exact spec_l2Own.mono _ _ _ | exact LeO.refl _ | exact LeO.none _ | refine LeO.ite ?_ ?_ | refine LeO.bind ?_ (fun _ => ?_)) | exact ih0 _ _ _ | exact spec_GoodStore.mono _ _ _ | exact spec_l2Own.mono _ _ _ | exact LeO.none _ | refine LeO.ite ?_ ?_ | refine LeO.bind ?_ (fun _ => ?_)
theorem spec_DropBefore.mono : ∀ a0 a1 a2 k, LeO (spec_DropBefore.f k a0 a1 a2) (spec_DropBefore.f (k + 1) a0 a1 a2) := by
 intro a0 a1 a2 k
 have ih0 := spec_DropBefore.mono_l k
 unfold spec_DropBefore.f
 repeat' first
   | (with_reducible first | exact ih0 _ _ _ | exact spec_GoodStore.mono _ _ _ | exact spec_l2Own.mono _ _ _ | exact LeO.refl _ | exact LeO.none _ | refine LeO.ite ?_ ?_ | refine LeO.bind ?_ (fun _ => ?_)) | exact ih0 _ _ _ | exact spec_GoodStore.mono _ _ _ | exact spec_l2Own.mono _ _ _ | exact LeO.none _ | refine LeO.ite ?_ ?_ | refine LeO.bind ?_ (fun _ => ?_)
set_option maxHeartbeats 8000000 in
set_option maxRecDepth 100000 in
theorem spec_DropBefore.calls (k : Nat) (A0_0 : Option Addr) (c0_0 : Nat) (l0_0 : List (S65)) (a0_1 : Int) (a1 : Int) (r1 : List (S65)) (r2 : Int) (r3 : Bool) (w : World) (hr0_0 : Kd.C k65 w A0_0 l0_0.length l0_0) (hc0_0 : l0_0.length ≤ c0_0) (h : spec_DropBefore.f k l0_0 a0_1 a1 = some (r1, r2, r3)) :
  Calls Try.prog 25 #[.agg #[.slice A0_0 l0_0.length c0_0, .int .i64 a0_1], .int .i64 a1] w fun e w' => ∃ v0_ : Value, e = .returned (.tuple #[.agg #[v0_, .int .i64 r2], .bool r3]) ∧ Kd.S k65 65 w' w.heap.size (fun _ => True) v0_ r1 ∧ Below w.heap.size w w' := by
 have hu24 := Try.underlying24
 have HR0_0 := Aside0.mk hr0_0
 have HC0_0 := Aside0.mk hc0_0
 clear hr0_0 hc0_0
 have HB := Aside0.mk (Below.refl w.heap.size w)
 have H : ((spec_GoodStore.f k l0_0 a0_1).bind fun t281 => (if t281 = true then ((spec_l2Own.f k l0_0 a0_1).bind fun bt282 => (spec_DropBefore.l0 k a1 bt282.1 bt282.2)) else (some (([] : List (S65)), 0, false)))) = some (r1, r2, r3) := h
 clear h
 replace H := bnd_ H
 obtain ⟨t281, A3, H⟩ := H
 replace H := ifb_ H
 obtain ⟨rfl, H⟩ | ⟨rfl, H⟩ := H
 rotate_left
 ·simp only [Option.some.injEq, Prod.mk.injEq] at H
  obtain ⟨rfl, rfl, rfl⟩ := H
  go_enter Try.func25, Try.ntmps25
  go_wp2_with (first | ((with_reducible refine gate_dst (N := 2) rfl ?_); refine be_ (N := 2) #[.slice A0_0 l0_0.length c0_0, .int .i64 a0_1] 24 ?_; intro gb279 hg w45 hbox hb; have BK279 := Aside0.mk (hbox); have GW279 := ge_ hg; have GE279 := ge_ hg; replace HB := nb_ hb; clear hb hbox hg) | ((with_reducible refine gate_dst (N := 4) rfl ?_); refine be_ (N := 4) #[.slice none 0 0, .int .i64 0] 24 ?_; intro gb280 hg w46 hbox hb; have BK280 := Aside0.mk (hbox); have GW280 := ge1_ hg GE279; have GE280 := ge1_ hg GE279; replace HB := nc_ GE279 hb; have NB279_280 := nl_ BK279 hg; have NB280_279 := ng_ BK279 hg; replace BK279 := bK_ BK279 hb; clear hb hbox hg; have hnb47 := NB279_280.out; have hnc47 := NB280_279.out; obtain ⟨hcz48_0, hcz48_1, hfz48_0, hfz48_1⟩ := cf2_ BK279.out) | ((with_reducible refine gate_callee (f := 20) rfl ?_); refine gl_ 8 Try.func20 #[.agg #[.slice A0_0 l0_0.length c0_0, .int .i64 a0_1]] rfl ma_ ?_; (with_reducible refine (spec_GoodStore.calls k _ _ l0_0 a0_1 false _ ?side1 ?side2 A3.out).mono ?_); (case side1 => exact cs_ ((Kd.C_below HR0_0.out HB.out))); (case side2 => exact HC0_0.out); rintro e w49 ⟨rfl, hb⟩; refine ⟨_, rfl, ?_⟩; replace BK279 := bK_ BK279 hb; replace BK280 := bK_ BK280 hb; replace HB := nc2_ GE279 GE280 hb; (try clear hb); (try clear hb2); (try clear hk); (try clear hi); obtain ⟨hcz50_0, hcz50_1, hfz50_0, hfz50_1⟩ := cf2_ BK280.out))
  refine bodyPost_ret (results_ct rfl _ _ gb280 24 #[.slice none 0 0, .int .i64 0] (0, 0) _ rfl (up_ BK280) Try.underlying24 rfl (by kernel_rfl)) rfl ?_
  exact ⟨_, er_, by first | exact Kd.S_nil _ _ _ _ _ | exact Kd.N_nil _ _ _ _ _ | exact Kd.V_nil _ _ _ _ _ | exact Kd.Q_nil _ _ _ _ _ | exact Kd.R_nil _ _ _ _ _, hs2_ GE279.out GE280.out⟩
 replace H := bnd_ H
 obtain ⟨⟨t282, t285⟩, A5, H⟩ := H
 replace H := red_ H
 have H' := Aside0.mk H
 clear H
 go_enter Try.func25, Try.ntmps25
 go_wp2_with (first | ((with_reducible refine gate_dst (N := 2) rfl ?_); refine be_ (N := 2) #[.slice A0_0 l0_0.length c0_0, .int .i64 a0_1] 24 ?_; intro gb279 hg w6 hbox hb; have BK279 := Aside0.mk (hbox); have GW279 := ge_ hg; have GE279 := ge_ hg; replace HB := nb_ hb; clear hb hbox hg) | ((with_reducible refine gate_dst (N := 4) rfl ?_); refine be_ (N := 4) #[.slice none 0 0, .int .i64 0] 24 ?_; intro gb280 hg w7 hbox hb; have BK280 := Aside0.mk (hbox); have GW280 := ge1_ hg GE279; have GE280 := ge1_ hg GE279; replace HB := nc_ GE279 hb; have NB279_280 := nl_ BK279 hg; have NB280_279 := ng_ BK279 hg; replace BK279 := bK_ BK279 hb; clear hb hbox hg; have hnb8 := NB279_280.out; have hnc8 := NB280_279.out; obtain ⟨hcz9_0, hcz9_1, hfz9_0, hfz9_1⟩ := cf2_ BK279.out) | ((with_reducible refine gate_callee (f := 20) rfl ?_); refine gl_ 8 Try.func20 #[.agg #[.slice A0_0 l0_0.length c0_0, .int .i64 a0_1]] rfl ma_ ?_; (with_reducible refine (spec_GoodStore.calls k _ _ l0_0 a0_1 true _ ?side1 ?side2 A3.out).mono ?_); (case side1 => exact cs_ ((Kd.C_below HR0_0.out HB.out))); (case side2 => exact HC0_0.out); rintro e w10 ⟨rfl, hb⟩; refine ⟨_, rfl, ?_⟩; replace BK279 := bK_ BK279 hb; replace BK280 := bK_ BK280 hb; replace HB := nc2_ GE279 GE280 hb; (try clear hb); (try clear hb2); (try clear hk); (try clear hi); obtain ⟨hcz11_0, hcz11_1, hfz11_0, hfz11_1⟩ := cf2_ BK279.out) | ((with_reducible refine gate_callee (f := 71) rfl ?_); refine gl_ 12 Try.func71 #[.agg #[.slice A0_0 l0_0.length c0_0, .int .i64 a0_1]] rfl ma_ ?_; (with_reducible refine (spec_l2Own.calls k _ _ l0_0 a0_1 t282 t285 _ ?side1 ?side2 A5.out).mono ?_); (case side1 => exact cs_ ((Kd.C_below HR0_0.out HB.out))); (case side2 => exact HC0_0.out); rintro e w12 ⟨v283, rfl, ho0, hb⟩; refine ⟨_, rfl, ?_⟩; have HO284 := Aside0.mk (Kd.S_lower ho0 (below_size (hs2_ GE279.out GE280.out))); replace BK279 := bK_ BK279 hb; replace BK280 := bK_ BK280 hb; replace HB := nc2_ GE279 GE280 hb; (try clear hb); (try clear hb2); (try clear hk); (try clear hi); (try clear ho0)) | ((with_reducible refine gate_dst (N := 6) rfl ?_); refine be_ (N := 6) #[.slice none 0 0, .int .i64 0] 24 ?_; intro gb286 hg w13 hbox hb; replace HO284 := sB_ HO284 hb; have BK286 := Aside0.mk (hbox); have GW286 := ge2_ hg GE279 GE280; have GE286 := ge2_ hg GE279 GE280; replace HB := nc2_ GE279 GE280 hb; have NB279_286 := nl_ BK279 hg; have NB286_279 := ng_ BK279 hg; replace BK279 := bK_ BK279 hb; have NB280_286 := nl_ BK280 hg; have NB286_280 := ng_ BK280 hg; replace BK280 := bK_ BK280 hb; clear hb hbox hg; obtain ⟨Ao14, co14, eo14⟩ := Kd.S_slice HO284.out; subst eo14; have hnb15 := NB286_279.out; have hnc15 := NB279_286.out; have hnb16 := NB286_280.out; have hnc16 := NB280_286.out; obtain ⟨hcz17_0, hcz17_1, hfz17_0, hfz17_1⟩ := cf2_ BK286.out))
 go_loopg [] k (fun kq w' => ∃ (x287000_1 : List (S65)) (u287000 : Value), Aside0 (spec_DropBefore.l0 kq a1 x287000_1 t285 = some (r1, r2, r3)) ∧ Aside0 (kq ≤ k) ∧ Aside0 (Kd.Q k65 65 w' w.heap.size (fun _ => True) u287000 x287000_1) ∧ Aside0 (w'.heap[gb279]? = some (.cells #[(.slice A0_0 l0_0.length c0_0), .int .i64 a0_1] 24 (0, 0))) ∧ Aside0 (w'.heap[gb280]? = some (.cells #[(.slice none 0 0), .int .i64 0] 24 (0, 0))) ∧ Aside0 (w'.heap[gb286]? = some (.cells #[u287000, .int .i64 t285] 24 (0, 0))) ∧ Aside0 (Below w.heap.size w w'))
 case atStart => exact ⟨(t282), (.slice Ao14 t282.length co14), H', ⟨Nat.le_refl _⟩, ⟨Kd.Q_of_R ((Kd.S_R (by (with_reducible repeat (first | apply Kd.S_alloc | apply Kd.S_drewN | apply Kd.S_drew)); exact Kd.S_mono (Kd.S_far (p := ⟨gb286, 1, none⟩) (Kd.S_far (p := ⟨gb286, 0, none⟩) (Kd.S_types HO284.out BK286.out (by decide)) (fun _ hk => hk.2) (.slice Ao14 t282.length co14)) (fun _ hk => hk.2) (.int .i64 t285)) (fun _ hk => trivial))))⟩, ⟨uf_ BK279 NB279_286.out⟩, ⟨uf_ BK280 NB280_286.out⟩, ⟨up_ BK286⟩, ⟨hs3_ GE279.out GE280.out GE286.out⟩⟩
 case round =>
  clear H'
  try clear c1
  try clear c2
  try clear p2
  try clear c4
  try clear c7
  try clear c8
  try clear c15
  try clear c16
  try clear hcz11_0
  try clear hcz11_1
  try clear hcz17_0
  try clear hcz17_1
  try clear hcz9_0
  try clear hcz9_1
  try clear hfz11_0
  try clear hfz11_1
  try clear hfz17_0
  try clear hfz17_1
  try clear hfz9_0
  try clear hfz9_1
  obtain ⟨x287000_1, u287000, HA, HK1, HO_287000, BK279, BK280, BK286, HB⟩ := hrel
  cases gk with
  | zero => exact absurd HA.out (by simp [spec_DropBefore.l0])
  | succ k1 =>
   have H := HA.out
   clear HA
   simp only [spec_DropBefore.l0] at H
   replace H := ite_ H
   obtain ⟨c18, H⟩ | ⟨c18, H⟩ := H
   rotate_left
   ·have c18b0 := dgf_ c18
    have c18b1 : decide (1 < x287000_1.length) = false := decide_eq_false (by omega)
    clear c18
    replace H := bnd_ H
    obtain ⟨⟨t295, t298⟩, A36, H⟩ := H
    replace H := red_ H
    simp only [Option.some.injEq, Prod.mk.injEq] at H
    obtain ⟨rfl, rfl, rfl⟩ := H
    have hnb37 := NB286_279.out
    have hnc37 := NB279_286.out
    have hnb38 := NB286_280.out
    have hnc38 := NB280_286.out
    obtain ⟨hcz39_0, hcz39_1, hfz39_0, hfz39_1⟩ := cf2_ BK286.out
    obtain ⟨Ao40, co40, eo40, _⟩ := Kd.Q_slice HO_287000.out
    subst eo40
    go_wp2_with (first | ((with_reducible refine gate_callee (f := 71) rfl ?_); refine gl_ 31 Try.func71 #[.agg #[.slice Ao40 x287000_1.length co40, .int .i64 t285]] rfl ma_ ?_; (with_reducible refine (spec_l2Own.calls k1 _ _ x287000_1 t285 t295 t298 _ ?side1 ?side2 A36.out).mono ?_); (case side1 => exact cs_ ((Kd.Q_reads' HO_287000.out).2.2)); (case side2 => exact (Kd.Q_reads' HO_287000.out).2.1); rintro e w41 ⟨v296, rfl, ho0, hb⟩; refine ⟨_, rfl, ?_⟩; have HO297 := Aside0.mk (Kd.S_lower (Kd.S_new' ho0 (Kd.Q_lt (by (with_reducible repeat (first | apply Kd.Q_alloc | apply Kd.Q_drewN | apply Kd.Q_drew)); exact HO_287000.out))) (below_size (hs3_ GE279.out GE280.out GE286.out))); replace HO_287000 := Aside0.mk (Kd.Q_elder' (by (with_reducible repeat (first | apply Kd.Q_alloc | apply Kd.Q_drewN | apply Kd.Q_drew)); exact HO_287000.out) (Kd.S_base ho0) hb); replace BK279 := bK_ BK279 hb; replace BK280 := bK_ BK280 hb; replace BK286 := bK_ BK286 hb; replace HB := nc3_ GE279 GE280 GE286 hb; (try clear hb); (try clear hb2); (try clear hk); (try clear hi); (try clear ho0); obtain ⟨Ao42, co42, eo42⟩ := Kd.S_slice HO297.out; subst eo42; have hnb43 := NB280_279.out; have hnc43 := NB279_280.out; obtain ⟨hcz44_0, hcz44_1, hfz44_0, hfz44_1⟩ := cf2_ BK280.out))
    refine bodyPost_ret (results_ct rfl _ _ gb280 24 #[.slice Ao42 t295.length co42, .int .i64 t298] (0, 0) _ rfl (up_ BK280) Try.underlying24 rfl (by kernel_rfl)) rfl ?_
    exact ⟨_, er_, by (with_reducible repeat (first | apply Kd.S_alloc | apply Kd.S_drewN | apply Kd.S_drew)); exact Kd.S_mono (Kd.S_far (p := ⟨gb280, 1, none⟩) (Kd.S_far (p := ⟨gb280, 0, none⟩) (Kd.S_types HO297.out BK280.out (by decide)) (fun _ hk => hk.2) (.slice Ao42 t295.length co42)) (fun _ hk => hk.2) (.int .i64 t298)) (fun _ hk => trivial), hs3_ GE279.out GE280.out GE286.out⟩
   have c18b0 := dgt_ c18
   have c18b1 : decide (1 < x287000_1.length) = true := decide_eq_true (by omega)
   clear c18
   replace H := ifs_ H
   obtain ⟨c19, H⟩ := H
   have c19b0 := decide_eq_true c19
   have c19b1 : decide (1 < x287000_1.length) = true := decide_eq_true (by omega)
   clear c19
   replace H := ite_ H
   obtain ⟨c20, H⟩ | ⟨c20, H⟩ := H
   ·have c20b0 := decide_eq_true c20
    clear c20
    replace H := ifs_ H
    obtain ⟨c21, H⟩ := H
    have c21b0 := eq_true c21
    have c21b1 := decide_eq_true c21
    clear c21
    obtain ⟨y288, hy288⟩ : ∃ y_ : List (S65), y_ = (x287000_1.drop (1 : Int).toNat) := ⟨_, rfl⟩
    replace H : (spec_DropBefore.l0 k1 a1 y288 t285) = some (r1, r2, r3) := by first | (rw [hy288]; with_reducible exact H) | (have H2_ := (Option.bind_some _ _).symm.trans H; rw [hy288]; with_reducible exact H2_) | (have H2_ := (Option.bind_some _ _).symm.trans H; with_reducible exact H2_) | with_reducible exact H | (rw [hy288]; exact H) | exact H
    have Ny288 := Aside0.mk hy288
    clear hy288
    have H' := Aside0.mk H
    clear H
    have hnb22 := NB286_279.out
    have hnc22 := NB279_286.out
    have hnb23 := NB286_280.out
    have hnc23 := NB280_286.out
    obtain ⟨hcz24_0, hcz24_1, hfz24_0, hfz24_1⟩ := cf2_ BK286.out
    obtain ⟨Ao25, co25, eo25, _⟩ := Kd.Q_slice HO_287000.out
    subst eo25
    have p287 : 0 ≤ (1 : Int) := (by omega)
    have q287 : 1 < (x287000_1.length : Int) := oa_
    obtain ⟨ad287, A287_2, c287_2, e287, hx287_0, hx287_1, hx287_2, hl287_2, hi287_2⟩ := at_T65 (Kd.Q_reads' HO_287000.out).2.2 1 p287 q287
    cases e287
    (try simp only [show (1 : Int).toNat = 1 from rfl, Nat.reduceMul, Nat.reduceEqDiff, Go.Addr.add, ↓reduceIte] at hx287_0)
    (try simp only [show (1 : Int).toNat = 1 from rfl, Nat.reduceMul, Nat.reduceEqDiff, Go.Addr.add, ↓reduceIte] at hx287_1)
    (try simp only [show (1 : Int).toNat = 1 from rfl, Nat.reduceMul, Nat.reduceEqDiff, Go.Addr.add, ↓reduceIte] at hx287_2)
    have qi287 : (1 < x287000_1.length) = True := eq_true (by omega)
    (try rw [show ((1 : Int)).toNat = 1 from rfl] at hx287_0)
    (try rw [show 1 * 3 = 3 from rfl] at hx287_0)
    (try rw [show ((1 : Int)).toNat = 1 from rfl] at hx287_1)
    (try rw [show 1 * 3 = 3 from rfl] at hx287_1)
    (try rw [show ((1 : Int)).toNat = 1 from rfl] at hx287_2)
    (try rw [show 1 * 3 = 3 from rfl] at hx287_2)
    have HR287_2 := Aside0.mk hi287_2
    have HC287_2 := Aside0.mk hl287_2
    clear hi287_2 hl287_2
    replace p287 := eq_true p287
    replace q287 := eq_true q287
    have q26 : (1 : Int) ≤ ((x287000_1.length : Int) : Int) := oa_
    obtain ⟨i026, hi026, _, hsz26, _⟩ := info_parts info65
    have hcut26 := cut_from (P := Try.prog) 22 65 .i64 Try.underlying22 hi026 3 hsz26 (some ad287) x287000_1.length co25 1 (by omega) q26
    have hr26 := Kd.Q_drop (k := (1 : Int).toNat) HO_287000.out (by omega)
    obtain ⟨A26, hA26⟩ : ∃ A1, A1 = (if co25 = (1 : Int).toNat then (some ad287) else ((some ad287) : Option Addr).map (·.add ((1 : Int).toNat * 3))) := ⟨_, rfl⟩
    obtain ⟨c26, hc26⟩ : ∃ c1, c1 = co25 - (1 : Int).toNat := ⟨_, rfl⟩
    have hy26 : y288.length = x287000_1.length - (1 : Int).toNat := (by rw [Ny288.out, List.length_drop])
    rw [← Ny288.out] at hr26
    rw [← hy26, ← hA26, ← hc26] at hcut26
    replace hr26 : Kd.Q k65 65 wr w.heap.size (fun _ => True) (.slice A26 y288.length c26) y288 := (by rw [hA26, hc26, hy26]; exact hr26)
    have HE26 : Aside0 ((Value.slice A26 y288.length c26).ownBlock = (.slice (some ad287) x287000_1.length co25 : Value).ownBlock) := ⟨by rw [hA26]; split <;> (cases ((some ad287) : Option Addr) <;> rfl)⟩
    clear hy26 hi026 hsz26 HO_287000 hA26 hc26
    have HO290 := Aside0.mk hr26
    clear hr26
    replace q26 := eq_true q26
    go_wp2
    go_roundg k1
    case measure => have := HK1.out; omega
    case rel => exact ⟨(y288), (.slice A26 y288.length c26), H', ⟨by have := HK1.out; omega⟩, ⟨by (with_reducible repeat (first | apply Kd.Q_alloc | apply Kd.Q_drewN | apply Kd.Q_drew)); exact Kd.Q_mono (Kd.Q_far (p := ⟨gb286, 0, none⟩) (Kd.Q_types HO290.out BK286.out (by decide)) (fun _ hk => hk.2) (.slice A26 y288.length c26)) (fun _ hk => trivial)⟩, ⟨uf_ BK279 NB279_286.out⟩, ⟨uf_ BK280 NB280_286.out⟩, ⟨up_ BK286⟩, ⟨hs3_ GE279.out GE280.out GE286.out⟩⟩
   have c20b0 := decide_eq_false c20
   clear c20
   replace H := bnd_ H
   obtain ⟨⟨t291, t294⟩, A27, H⟩ := H
   replace H := red_ H
   simp only [Option.some.injEq, Prod.mk.injEq] at H
   obtain ⟨rfl, rfl, rfl⟩ := H
   have hnb28 := NB286_279.out
   have hnc28 := NB279_286.out
   have hnb29 := NB286_280.out
   have hnc29 := NB280_286.out
   obtain ⟨hcz30_0, hcz30_1, hfz30_0, hfz30_1⟩ := cf2_ BK286.out
   obtain ⟨Ao31, co31, eo31, _⟩ := Kd.Q_slice HO_287000.out
   subst eo31
   have p287 : 0 ≤ (1 : Int) := (by omega)
   have q287 : 1 < (x287000_1.length : Int) := oa_
   obtain ⟨ad287, A287_2, c287_2, e287, hx287_0, hx287_1, hx287_2, hl287_2, hi287_2⟩ := at_T65 (Kd.Q_reads' HO_287000.out).2.2 1 p287 q287
   cases e287
   (try simp only [show (1 : Int).toNat = 1 from rfl, Nat.reduceMul, Nat.reduceEqDiff, Go.Addr.add, ↓reduceIte] at hx287_0)
   (try simp only [show (1 : Int).toNat = 1 from rfl, Nat.reduceMul, Nat.reduceEqDiff, Go.Addr.add, ↓reduceIte] at hx287_1)
   (try simp only [show (1 : Int).toNat = 1 from rfl, Nat.reduceMul, Nat.reduceEqDiff, Go.Addr.add, ↓reduceIte] at hx287_2)
   have qi287 : (1 < x287000_1.length) = True := eq_true (by omega)
   (try rw [show ((1 : Int)).toNat = 1 from rfl] at hx287_0)
   (try rw [show 1 * 3 = 3 from rfl] at hx287_0)
   (try rw [show ((1 : Int)).toNat = 1 from rfl] at hx287_1)
   (try rw [show 1 * 3 = 3 from rfl] at hx287_1)
   (try rw [show ((1 : Int)).toNat = 1 from rfl] at hx287_2)
   (try rw [show 1 * 3 = 3 from rfl] at hx287_2)
   have HR287_2 := Aside0.mk hi287_2
   have HC287_2 := Aside0.mk hl287_2
   clear hi287_2 hl287_2
   replace p287 := eq_true p287
   replace q287 := eq_true q287
   go_wp2_with (first | ((with_reducible refine gate_callee (f := 71) rfl ?_); refine gl_ 31 Try.func71 #[.agg #[.slice (some ad287) x287000_1.length co31, .int .i64 t285]] rfl ma_ ?_; (with_reducible refine (spec_l2Own.calls k1 _ _ x287000_1 t285 t291 t294 _ ?side1 ?side2 A27.out).mono ?_); (case side1 => exact cs_ ((Kd.Q_reads' HO_287000.out).2.2)); (case side2 => exact (Kd.Q_reads' HO_287000.out).2.1); rintro e w32 ⟨v292, rfl, ho0, hb⟩; refine ⟨_, rfl, ?_⟩; have HO293 := Aside0.mk (Kd.S_lower (Kd.S_new' ho0 (Kd.Q_lt (by (with_reducible repeat (first | apply Kd.Q_alloc | apply Kd.Q_drewN | apply Kd.Q_drew)); exact HO_287000.out))) (below_size (hs3_ GE279.out GE280.out GE286.out))); replace HO_287000 := Aside0.mk (Kd.Q_elder' (by (with_reducible repeat (first | apply Kd.Q_alloc | apply Kd.Q_drewN | apply Kd.Q_drew)); exact HO_287000.out) (Kd.S_base ho0) hb); replace BK279 := bK_ BK279 hb; replace BK280 := bK_ BK280 hb; replace BK286 := bK_ BK286 hb; replace HR287_2 := Aside0.mk (Kd.C_below (by repeat (first | (with_reducible exact HR287_2.out) | (with_reducible refine Kd.C_alloc ?_ _) | (with_reducible refine Kd.C_drewN ?_ _) | (with_reducible refine Kd.C_drew ?_) | exact HR287_2.out)) hb); replace HB := nc3_ GE279 GE280 GE286 hb; (try clear hb); (try clear hb2); (try clear hk); (try clear hi); (try clear ho0); obtain ⟨Ao33, co33, eo33⟩ := Kd.S_slice HO293.out; subst eo33; have hnb34 := NB280_279.out; have hnc34 := NB279_280.out; obtain ⟨hcz35_0, hcz35_1, hfz35_0, hfz35_1⟩ := cf2_ BK280.out))
   refine bodyPost_ret (results_ct rfl _ _ gb280 24 #[.slice Ao33 t291.length co33, .int .i64 t294] (0, 0) _ rfl (up_ BK280) Try.underlying24 rfl (by kernel_rfl)) rfl ?_
   exact ⟨_, er_, by (with_reducible repeat (first | apply Kd.S_alloc | apply Kd.S_drewN | apply Kd.S_drew)); exact Kd.S_mono (Kd.S_far (p := ⟨gb280, 1, none⟩) (Kd.S_far (p := ⟨gb280, 0, none⟩) (Kd.S_types HO293.out BK280.out (by decide)) (fun _ hk => hk.2) (.slice Ao33 t291.length co33)) (fun _ hk => hk.2) (.int .i64 t294)) (fun _ hk => trivial), hs3_ GE279.out GE280.out GE286.out⟩

/-! ### impl_in: function 58 -/
def impl_in.f (a0 : Int) (a1 : Int) (a2 : Int) : Option (Bool) := if a0 ≥ a1 then (some (decide (a0 ≤ a2))) else (some false)
set_option maxHeartbeats 8000000 in
set_option maxRecDepth 100000 in
theorem impl_in.calls (a0 : Int) (a1 : Int) (a2 : Int) (r : Bool) (w : World) (h : impl_in.f a0 a1 a2 = some r) :
  Calls Try.prog 58 #[.int .i64 a0, .int .i64 a1, .int .i64 a2] w fun e w' => e = .returned (.bool r) ∧ Drawn0 w w' := by
 have H : (if a0 ≥ a1 then (some (decide (a0 ≤ a2))) else (some false)) = some r := h
 clear h
 replace H := ite_ H
 obtain ⟨c4, H⟩ | ⟨c4, H⟩ := H
 rotate_left
 ·have c4b0 := dne_ c4
  clear c4
  obtain rfl := Option.some.inj H
  go_enter Try.func58, Try.ntmps58
  go_wp2
  go_ret
  exact ⟨by first | rfl | (simp; done) | (simp [*]; done), dr_⟩
 have c4b0 := dge_ c4
 clear c4
 obtain rfl := Option.some.inj H
 go_enter Try.func58, Try.ntmps58
 go_wp2
 go_ret
 exact ⟨by first | rfl | (simp; done) | (simp [*]; done), dr_⟩

/-! ### impl_Batch_end: function 77 -/
def impl_Batch_end.f (a0_0 : Int) (a0_1 : Int) (a0_2 : Int) (a0_3 : Int) (l0_4 : List ByteArray) : Option (Int) := some (wrap64 (a0_0 + (l0_4.length : Int)))
set_option maxHeartbeats 8000000 in
set_option maxRecDepth 100000 in
theorem impl_Batch_end.calls (a0_0 : Int) (a0_1 : Int) (a0_2 : Int) (a0_3 : Int) (A0_4 : Option Addr) (c0_4 : Nat) (l0_4 : List ByteArray) (r : Int) (w : World) (hr0_4 : Kd.C Kd.string w A0_4 l0_4.length l0_4) (hc0_4 : l0_4.length ≤ c0_4) (h : impl_Batch_end.f a0_0 a0_1 a0_2 a0_3 l0_4 = some r) :
  Calls Try.prog 77 #[.agg #[.int .i64 a0_0, .int .i64 a0_1, .int .i64 a0_2, .int .i64 a0_3, .slice A0_4 l0_4.length c0_4]] w fun e w' => e = .returned (.int .i64 r) ∧ Below w.heap.size w w' := by
 have hu43 := Try.underlying43
 have HR0_4 := Aside0.mk hr0_4
 have HC0_4 := Aside0.mk hc0_4
 clear hr0_4 hc0_4
 have HB := Aside0.mk (Below.refl w.heap.size w)
 have H : (some (wrap64 (a0_0 + (l0_4.length : Int)))) = some r := h
 clear h
 obtain rfl := Option.some.inj H
 go_enter Try.func77, Try.ntmps77
 go_wp2_with (first | ((with_reducible refine gate_dst (N := 1) rfl ?_); refine be_ (N := 1) #[.int .i64 a0_0, .int .i64 a0_1, .int .i64 a0_2, .int .i64 a0_3, .slice A0_4 l0_4.length c0_4] 43 ?_; intro gb299 hg w2 hbox hb; have BK299 := Aside0.mk (hbox); have GW299 := ge_ hg; have GE299 := ge_ hg; replace HB := nb_ hb; clear hb hbox hg; obtain ⟨hcz3_0, hcz3_1, hcz3_2, hcz3_3, hcz3_4, hfz3_0, hfz3_1, hfz3_2, hfz3_3, hfz3_4⟩ := cf5_ BK299.out))
 go_ret
 exact ⟨er_, hs_ GE299.out⟩

/-! ### impl_put: function 111 -/
def impl_put.l0 : Nat → Int → List Int → Int → Option (ByteArray)
 | 0, _, _, _ => none
 | k + 1, x0, x5, x6 => if x6 ≥ 0 then (if 0 ≤ x6 then (if x6 < (x5.length : Int) then (impl_put.l0 k (x0 / 256) (x5.set (x6 : Int).toNat ((x0) % 256)) (wrap64 (x6 - 1))) else (none)) else (none)) else (some (strOfNums x5))
def impl_put.f (k : Nat) (a0 : Int) (a1 : Int) : Option (ByteArray) := if 0 ≤ a1 then (if (a1 : Int).toNat ≤ 281474976710656 then (impl_put.l0 k a0 (List.replicate (a1 : Int).toNat 0) (wrap64 (a1 - 1))) else (none)) else (none)
theorem impl_put.mono_l : ∀ k, (∀ y0 y1 y2, LeO (impl_put.l0 k y0 y1 y2) (impl_put.l0 (k + 1) y0 y1 y2))
 | 0 => fun _ _ _ r h => by simp [impl_put.l0] at h
 | k + 1 => by
  have ih0 := impl_put.mono_l k
  ·intro y0 y1 y2
   unfold impl_put.l0
   repeat' first
   | (with_reducible first | exact ih0 _ _ _ | exact LeO.refl _ | exact LeO.none _ | refine LeO.ite ?_ ?_ | refine LeO.bind ?_ (fun _ => ?_)) | exact ih0 _ _ _ | exact LeO.none _ | refine LeO.ite ?_ ?_ | refine LeO.bind ?_ (fun _ => ?_)
theorem impl_put.mono : ∀ a0 a1 k, LeO (impl_put.f k a0 a1) (impl_put.f (k + 1) a0 a1) := by
 intro a0 a1 k
 have ih0 := impl_put.mono_l k
 unfold impl_put.f
 repeat' first
   | (with_reducible first | exact ih0 _ _ _ | exact LeO.refl _ | exact LeO.none _ | refine LeO.ite ?_ ?_ | refine LeO.bind ?_ (fun _ => ?_)) | exact ih0 _ _ _ | exact LeO.none _ | refine LeO.ite ?_ ?_ | refine LeO.bind ?_ (fun _ => ?_)
set_option maxHeartbeats 8000000 in
set_option maxRecDepth 100000 in
theorem impl_put.calls (k : Nat) (a0 : Int) (a1 : Int) (r : ByteArray) (w : World) (h : impl_put.f k a0 a1 = some r) :
  Calls Try.prog 111 #[.int .i64 a0, .int .i64 a1] w fun e w' => e = .returned (.string r) ∧ Below w.heap.size w w' := by
 have HB := Aside0.mk (Below.refl w.heap.size w)
 have H : (if 0 ≤ a1 then (if (a1 : Int).toNat ≤ 281474976710656 then (impl_put.l0 k a0 (List.replicate (a1 : Int).toNat 0) (wrap64 (a1 - 1))) else (none)) else (none)) = some r := h
 clear h
 replace H := ifs_ H
 obtain ⟨c3, H⟩ := H
 have c3b0 := eq_true c3
 have c3b1 := decide_eq_true c3
 clear c3
 replace H := ifs_ H
 obtain ⟨c4, H⟩ := H
 have c4b0 := eq_true c4
 have c4b1 := decide_eq_true c4
 clear c4
 obtain ⟨y300, hy300⟩ : ∃ y_ : List Int, y_ = (List.replicate (a1 : Int).toNat 0) := ⟨_, rfl⟩
 replace H : (impl_put.l0 k a0 y300 (wrap64 (a1 - 1))) = some r := by first | (rw [hy300]; with_reducible exact H) | (have H2_ := (Option.bind_some _ _).symm.trans H; rw [hy300]; with_reducible exact H2_) | (have H2_ := (Option.bind_some _ _).symm.trans H; with_reducible exact H2_) | with_reducible exact H | (rw [hy300]; exact H) | exact H
 have Ny300 := Aside0.mk hy300
 clear hy300
 have H' := Aside0.mk H
 clear H
 go_enter Try.func111, Try.ntmps111
 go_wp2_with (first | ((with_reducible refine gate_dst (N := 8) rfl ?_); refine Kd.R_make (Kd.int .u8) _ 5 rfl (N := 8) rfl 60 _ _ rfl a1 rfl rfl Try.underlying60 (.int .u8 0) 1 info5 rfl (by decide) (by omega) 0 (ok := fun _ => True) (okp := fun _ => True) rfl (fun _ hk => hk) trivial (oa_) (Nat.le_trans (Nat.mul_le_mul_right _ (oa_ : a1.toNat ≤ 281474976710656)) (by omega)) (Below.refl _ _) (Nat.le_refl _) ?_; intro v301 w5 ho6 hb hg_ hnew_; clear hg_ hnew_; (first | rw [← Ny300.out] at ho6 | (simp only [Int.reduceToNat] at ho6; rw [← Ny300.out] at ho6)); have HO302 := Aside0.mk (Kd.R_lower ho6 (below_size (hb_))); replace HB := nb_ hb; clear hb ho6))
 go_loopg [0, 6] k (fun kq v0 v6 w' => ∃ (x0_1 : Int) (x5_1 : List Int) (x6_1 : Int), v0 = .int .i64 x0_1 ∧ v6 = .int .i64 x6_1 ∧ Aside0 (impl_put.l0 kq x0_1 x5_1 x6_1 = some r) ∧ Aside0 (kq ≤ k) ∧ Aside0 (Kd.R (Kd.int .u8) 5 w' w.heap.size (fun _ => True) v301 x5_1) ∧ Aside0 (Below w.heap.size w w'))
 case atStart => exact ⟨(a0), (y300), (wrap64 (a1 - 1)), sr_, sr_, H', ⟨Nat.le_refl _⟩, ⟨kr_ HO302.out⟩, ⟨hb_⟩⟩
 case round =>
  clear H'
  try clear c1
  try clear p2
  try clear c3
  try clear c3b0
  try clear c3b1
  try clear c4
  try clear c4b0
  try clear c4b1
  try clear p6
  obtain ⟨x0_1, x5_1, x6_1, rfl, rfl, HA, HK1, HO_5, HB⟩ := hrel
  cases gk with
  | zero => exact absurd HA.out (by simp [impl_put.l0])
  | succ k1 =>
   have H := HA.out
   clear HA
   simp only [impl_put.l0] at H
   replace H := ite_ H
   obtain ⟨c7, H⟩ | ⟨c7, H⟩ := H
   rotate_left
   ·have c7b0 := dne_ c7
    clear c7
    obtain rfl := Option.some.inj H
    have hcv13 := own_string (P := Try.prog) Try.underlying60 Try.underlying5 Try.underlying9 (Kd.own_of_R HO_5.out)
    go_wp2
    go_ret
    exact ⟨er_, hb_⟩
   have c7b0 := dge_ c7
   clear c7
   replace H := ifs_ H
   obtain ⟨c8, H⟩ := H
   have c8b0 := decide_eq_true c8
   clear c8
   replace H := ifs_ H
   obtain ⟨c9, H⟩ := H
   have c9b0 := decide_eq_true c9
   clear c9
   obtain ⟨y303, hy303⟩ : ∃ y_ : List Int, y_ = (x5_1.set (x6_1 : Int).toNat ((x0_1) % 256)) := ⟨_, rfl⟩
   replace H : (impl_put.l0 k1 (x0_1 / 256) y303 (wrap64 (x6_1 - 1))) = some r := by first | (rw [hy303]; with_reducible exact H) | (have H2_ := (Option.bind_some _ _).symm.trans H; rw [hy303]; with_reducible exact H2_) | (have H2_ := (Option.bind_some _ _).symm.trans H; with_reducible exact H2_) | with_reducible exact H | (rw [hy303]; exact H) | exact H
   have Ny303 := Aside0.mk hy303
   clear hy303
   have H' := Aside0.mk H
   clear H
   have p10 : 0 ≤ (x6_1 : Int) := oa_
   have q10 : (x6_1 : Int) < ((x5_1.length : Int) : Int) := oa_
   obtain ⟨go10, co10, eo10, gb10, gl10, cl10, HG10⟩ := Kd.R_form HO_5.out (by omega)
   (first | cases eo10 | (injection eo10 with ea_ en_ ec_; (first | subst ea_ | (injection ea_ with ea_; subst ea_)); subst ec_; clear en_))
   have GB10 := Aside0.mk gb10
   have GG10 := Aside0.mk HG10
   clear gb10 gl10 HG10
   obtain ⟨hx10_0, hf10_0⟩ := Kd.R_celln 0 HO_5.out (x6_1 : Int) p10 q10
   replace p10 := eq_true p10
   replace q10 := eq_true q10
   have HP11 := Kd.R_putg HO_5.out (x6_1 : Int) ((x0_1) % 256)
   go_wp2_with (first | ((with_reducible refine gate_store (t := 5) (p := 19) rfl ?_); refine store_event (t := 5) (p := 19) (v := ?vo_w12) (w1 := (wr.setCell ⟨go10, (x6_1 : Int).toNat, none⟩ (.int .u8 ((x0_1) % 256)))) ?hg ?ho ?hn ?hr ?_; (case ho => rfl); (case hg => rfl); (case hn => rfl); (case hr => first | (go_simp; done) | (go_simp; rfl)); intro w12 hw; have hg : wr.grownBy w12 (some go10) := (by rw [hw]; exact HP11.2); have hp_ : Kd.R (Kd.int .u8) 5 w12 w.heap.size (fun _ => True) (.slice (some ⟨go10, 0, none⟩) x5_1.length co10) y303 := (by rw [hw, Ny303.out]; exact HP11.1); clear HP11; replace HO_5 := Aside0.mk (hp_); replace HB := Aside0.mk ((by rw [hw]; exact below_set (HB.out) GB10.out : Below w.heap.size w w12)); clear hg hw hp_))
   go_roundg k1
   case measure => have := HK1.out; omega
   case rel => exact ⟨(x0_1 / 256), (y303), (wrap64 (x6_1 - 1)), sr_, sr_, H', ⟨by have := HK1.out; omega⟩, ⟨kr_ HO_5.out⟩, ⟨hb_⟩⟩

/-! ### impl_sumOf: function 112 -/
mutual
def impl_sumOf.l0 : Nat → ByteArray → Int → Int → Int → Option (Int)
 | 0, _, _, _, _ => none
 | k + 1, x0, x3, x7, x8 => if x8 < x7 then (if 0 ≤ x8 then (if x8 < (x0.size : Int) then (impl_sumOf.l1 k x0 (Go.bits .xor .i64 x3 (wrap64 ((wrap64 (bt x0 x8)) * 256))) x7 x8 0) else (none)) else (none)) else (some x3)
def impl_sumOf.l1 : Nat → ByteArray → Int → Int → Int → Int → Option (Int)
 | 0, _, _, _, _, _ => none
 | k + 1, x0, x3, x7, x8, x18 => if x18 < 8 then (if (Go.bits .and .i64 x3 32768) = 0 then (impl_sumOf.l1 k x0 (Go.bits .and .i64 (wrap64 (x3 * 2)) 65535) x7 x8 (wrap64 (x18 + 1))) else (impl_sumOf.l1 k x0 (Go.bits .xor .i64 (Go.bits .and .i64 (wrap64 (x3 * 2)) 65535) 4129) x7 x8 (wrap64 (x18 + 1)))) else (impl_sumOf.l0 k x0 x3 x7 (wrap64 (x8 + 1)))
end
def impl_sumOf.f (k : Nat) (a0 : ByteArray) : Option (Int) := impl_sumOf.l0 k a0 65535 (a0.size : Int) 0
theorem impl_sumOf.mono_l : ∀ k, (∀ y0 y1 y2 y3, LeO (impl_sumOf.l0 k y0 y1 y2 y3) (impl_sumOf.l0 (k + 1) y0 y1 y2 y3)) ∧ (∀ y0 y1 y2 y3 y4, LeO (impl_sumOf.l1 k y0 y1 y2 y3 y4) (impl_sumOf.l1 (k + 1) y0 y1 y2 y3 y4))
 | 0 => ⟨fun _ _ _ _ r h => by simp [impl_sumOf.l0] at h, fun _ _ _ _ _ r h => by simp [impl_sumOf.l1] at h⟩
 | k + 1 => by
  obtain ⟨ih0, ih1⟩ := impl_sumOf.mono_l k
  refine ⟨?_, ?_⟩
  all_goals intros; first | unfold impl_sumOf.l0 | unfold impl_sumOf.l1
  all_goals repeat' first | (with_reducible first | exact ih0 _ _ _ _ | exact ih1 _ _ _ _ _ | exact LeO.refl _ | exact LeO.none _ | refine LeO.ite ?_ ?_ | refine LeO.bind ?_ (fun _ => ?_)) | exact ih0 _ _ _ _ | exact ih1 _ _ _ _ _ | exact LeO.none _ | refine LeO.ite ?_ ?_ | refine LeO.bind ?_ (fun _ => ?_)
theorem impl_sumOf.mono : ∀ a0 k, LeO (impl_sumOf.f k a0) (impl_sumOf.f (k + 1) a0) := by
 intro a0 k
 obtain ⟨ih0, ih1⟩ := impl_sumOf.mono_l k
 unfold impl_sumOf.f
 repeat' first
   | (with_reducible first | exact ih0 _ _ _ _ | exact ih1 _ _ _ _ _ | exact LeO.refl _ | exact LeO.none _ | refine LeO.ite ?_ ?_ | refine LeO.bind ?_ (fun _ => ?_)) | exact ih0 _ _ _ _ | exact ih1 _ _ _ _ _ | exact LeO.none _ | refine LeO.ite ?_ ?_ | refine LeO.bind ?_ (fun _ => ?_)
set_option maxHeartbeats 8000000 in
set_option maxRecDepth 100000 in
theorem impl_sumOf.calls (k : Nat) (a0 : ByteArray) (r : Int) (w : World) (h : impl_sumOf.f k a0 = some r) :
  Calls Try.prog 112 #[.string a0] w fun e w' => e = .returned (.int .i64 r) ∧ Drawn0 w w' := by
 have H : (impl_sumOf.l0 k a0 65535 (a0.size : Int) 0) = some r := h
 clear h
 have H' := Aside0.mk H
 clear H
 go_enter Try.func112, Try.ntmps112
 go_wp2
 go_loopg [3, 8] k (fun kq v3 v8 w' => ∃ (x3_1 : Int) (x8_1 : Int), v3 = .int .i64 x3_1 ∧ v8 = .int .i64 x8_1 ∧ Aside0 (impl_sumOf.l0 kq a0 x3_1 (a0.size : Int) x8_1 = some r) ∧ Aside0 (kq ≤ k) ∧ Drawn0 w w')
 case atStart => exact ⟨(65535), (0), sr_, sr_, H', ⟨Nat.le_refl _⟩, dr_⟩
 case round =>
  clear H'
  try clear c1
  obtain ⟨x3_1, x8_1, rfl, rfl, HA, HK1, ⟨m1, rfl⟩⟩ := hrel
  cases gk with
  | zero => exact absurd HA.out (by simp [impl_sumOf.l0])
  | succ k1 =>
   have H := HA.out
   clear HA
   simp only [impl_sumOf.l0] at H
   replace H := ite_ H
   obtain ⟨c2, H⟩ | ⟨c2, H⟩ := H
   rotate_left
   ·have c2b0 := decide_eq_false c2
    clear c2
    obtain rfl := Option.some.inj H
    go_wp2
    go_ret
    exact ⟨by first | rfl | (simp; done) | (simp [*]; done), dr_⟩
   have c2b0 := decide_eq_true c2
   clear c2
   replace H := ifs_ H
   obtain ⟨c3, H⟩ := H
   have c3b0 := decide_eq_true c3
   clear c3
   replace H := ifs_ H
   obtain ⟨c4, H⟩ := H
   have c4b0 := decide_eq_true c4
   clear c4
   have H' := Aside0.mk H
   clear H
   have p5 : 0 ≤ (x8_1 : Int) := oa_
   have q5 : x8_1 < (a0.size : Int) := oa_
   have hx5 := bt_at a0 x8_1
   replace p5 := eq_true p5
   replace q5 := eq_true q5
   go_wp2
   go_loopg [3, 18] k1 (fun kq v3 v18 w' => ∃ (x3_2 : Int) (x18_2 : Int), v3 = .int .i64 x3_2 ∧ v18 = .int .i64 x18_2 ∧ Aside0 (impl_sumOf.l1 kq a0 x3_2 (a0.size : Int) x8_1 x18_2 = some r) ∧ Aside0 (kq ≤ k1) ∧ Drawn0 w w')
   case atStart => exact ⟨(Go.bits .xor .i64 x3_1 (wrap64 ((wrap64 (bt a0 x8_1)) * 256))), (0), sr_, sr_, H', ⟨Nat.le_refl _⟩, dr_⟩
   case round =>
    clear H'
    try clear c1
    try clear c2
    try clear c2b0
    try clear p2
    try clear c3
    try clear c3b0
    try clear c4
    try clear c4b0
    try clear p5
    try clear q5
    try clear hx5
    try clear p5
    try clear q5
    obtain ⟨x3_2, x18_2, rfl, rfl, HA, HK2, ⟨m2, rfl⟩⟩ := hrel
    cases gk with
    | zero => exact absurd HA.out (by simp [impl_sumOf.l1])
    | succ k2 =>
     have H := HA.out
     clear HA
     simp only [impl_sumOf.l1] at H
     replace H := ite_ H
     obtain ⟨c6, H⟩ | ⟨c6, H⟩ := H
     rotate_left
     ·have c6b0 := decide_eq_false c6
      clear c6
      have H' := Aside0.mk H
      clear H
      go_wp2
      go_roundg k2
      case measure => have := HK1.out; have := HK2.out; omega
      case rel => exact ⟨(x3_2), (wrap64 (x8_1 + 1)), sr_, sr_, H', ⟨by have := HK1.out; have := HK2.out; omega⟩, dr_⟩
     have c6b0 := decide_eq_true c6
     clear c6
     replace H := ite_ H
     obtain ⟨c7, H⟩ | ⟨c7, H⟩ := H
     ·have c7b0 : ((Go.bits .and .i64 x3_2 32768) == 0) = true := beq_iff_eq.mpr c7
      have c7b1 : ((Go.bits .and .i64 x3_2 32768) != 0) = false := bne_eq_false_iff_eq.mpr c7
      clear c7
      have H' := Aside0.mk H
      clear H
      go_wp2
      go_roundg k2
      case measure => have := HK1.out; have := HK2.out; omega
      case rel => exact ⟨(Go.bits .and .i64 (wrap64 (x3_2 * 2)) 65535), (wrap64 (x18_2 + 1)), sr_, sr_, H', ⟨by have := HK1.out; have := HK2.out; omega⟩, dr_⟩
     have c7b0 : ((Go.bits .and .i64 x3_2 32768) == 0) = false := beq_eq_false_iff_ne.mpr c7
     have c7b1 : ((Go.bits .and .i64 x3_2 32768) != 0) = true := bne_iff_ne.mpr c7
     have H' := Aside0.mk H
     clear H
     go_wp2
     go_roundg k2
     case measure => have := HK1.out; have := HK2.out; omega
     case rel => exact ⟨(Go.bits .xor .i64 (Go.bits .and .i64 (wrap64 (x3_2 * 2)) 65535) 4129), (wrap64 (x18_2 + 1)), sr_, sr_, H', ⟨by have := HK1.out; have := HK2.out; omega⟩, dr_⟩

end Go.Proofs.Ytffpeklekkpbjaa.QFnExactDropBefore
