/- Functions that one statement reaches: of each a plain function, and the proof that calls come to it. Conditions: those that each contract names. Written by a program of this repository. -/
import Derived.Test.YtojdaolclcmalaaVPlayAsksa
import Derived.Test.YtojdaolclcmalaaQFnExactPlayAsksx2
import Derived.Test.YtojdaolclcmalaaQFnExactPlayAsksx6
import Derived.Test.YtojdaolclcmalaaQFnExactPlayAsksx9
namespace Go.Proofs.Ytojdaolclcmalaa.QFnExactPlayAsks
open Go.RowKit Go.Proofs.YtojdaolclcmalaaW.PrintWords Go.Proofs.YtojdaolclcmalaaW.PrintLast Go.Proofs.YtojdaolclcmalaaW.PrintMore
attribute [local go_sem] max2_int min2_int max_two min_two max_three min_three max_four min_four Go.Proofs.YtojdaolclcmalaaW.PrintMore2.isSome_setCell   -- for this text's walks alone
set_option linter.unusedVariables false
set_option linter.unusedSimpArgs false

/-! ### spec_l5Own: function 58 -/
mutual
def spec_l5Own.l0 : Nat → List (S81) → Int → Int → List (S81) → List (S78) → Int → List (S81) → Int → Option ((List (S81)) × (List (S78)) × Int)
 | 0, _, _, _, _, _, _, _, _ => none
 | k + 1, x12, x13, x14, x204000, x204001, x204002, x206000, x206002 => if x14 < x13 then (if 0 ≤ x14 then (if x14 < (x12.length : Int) then ((some (([] : List (S112)) : List (S112))).bind fun y208 => (if y208.length + ((rd_T81 x12 x14).f3).length < 5864062014805 then (if x206000.length < 2932031007402 then (spec_l5Own.l0 k x12 x13 (wrap64 (x14 + 1)) x204000 x204001 x204002 (x206000 ++ [(⟨(rd_T81 x12 x14).f0, (rd_T81 x12 x14).f1, (rd_T81 x12 x14).f2, (y208 ++ ((rd_T81 x12 x14).f3))⟩ : S81)]) x206002) else (none)) else (none))) else (none)) else (none)) else (spec_l5Own.l1 k x204001 (x204001.length : Int) 0 x206000 ([] : List (S78)) x206002)
def spec_l5Own.l1 : Nat → List (S78) → Int → Int → List (S81) → List (S78) → Int → Option ((List (S81)) × (List (S78)) × Int)
 | 0, _, _, _, _, _, _ => none
 | k + 1, x31, x32, x33, x206000, x206001, x206002 => if x33 < x32 then (if 0 ≤ x33 then (if x33 < (x31.length : Int) then ((some (([] : List ByteArray) : List ByteArray)).bind fun y219 => (if y219.length + ((rd_T78 x31 x33).f4).length < 8796093022208 then (if x206001.length < 2513169434916 then (spec_l5Own.l1 k x31 x32 (wrap64 (x33 + 1)) x206000 (x206001 ++ [(⟨(rd_T78 x31 x33).f0, (rd_T78 x31 x33).f1, (rd_T78 x31 x33).f2, (rd_T78 x31 x33).f3, (y219 ++ ((rd_T78 x31 x33).f4))⟩ : S78)]) x206002) else (none)) else (none))) else (none)) else (none)) else (some (x206000, x206001, x206002))
end
def spec_l5Own.f (k : Nat) (l0_0 : List (S81)) (l0_1 : List (S78)) (a0_2 : Int) : Option ((List (S81)) × (List (S78)) × Int) := spec_l5Own.l0 k l0_0 (l0_0.length : Int) 0 l0_0 l0_1 a0_2 ([] : List (S81)) a0_2
theorem spec_l5Own.mono_l : ∀ k, (∀ y0 y1 y2 y3 y4 y5 y6 y7, LeO (spec_l5Own.l0 k y0 y1 y2 y3 y4 y5 y6 y7) (spec_l5Own.l0 (k + 1) y0 y1 y2 y3 y4 y5 y6 y7)) ∧ (∀ y0 y1 y2 y3 y4 y5, LeO (spec_l5Own.l1 k y0 y1 y2 y3 y4 y5) (spec_l5Own.l1 (k + 1) y0 y1 y2 y3 y4 y5))
 | 0 => ⟨fun _ _ _ _ _ _ _ _ r h => by simp [spec_l5Own.l0] at h, fun _ _ _ _ _ _ r h => by simp [spec_l5Own.l1] at h⟩
 | k + 1 => by
  obtain ⟨ih0, ih1⟩ := spec_l5Own.mono_l k
  refine ⟨?_, ?_⟩
  all_goals intros; first | unfold spec_l5Own.l0 | unfold spec_l5Own.l1
  all_goals repeat' first | (with_reducible first | apply ih0 | apply ih1 | exact LeO.refl _ | exact LeO.none _ | refine LeO.ite ?_ ?_ | refine LeO.bind ?_ (fun _ => ?_))
theorem spec_l5Own.mono : ∀ a0 a1 a2 k, LeO (spec_l5Own.f k a0 a1 a2) (spec_l5Own.f (k + 1) a0 a1 a2) := by
 intro a0 a1 a2 k
 obtain ⟨ih0, ih1⟩ := spec_l5Own.mono_l k
 unfold spec_l5Own.f
 repeat' first
   | (with_reducible first | apply ih0 | apply ih1 | exact LeO.refl _ | exact LeO.none _ | refine LeO.ite ?_ ?_ | refine LeO.bind ?_ (fun _ => ?_))
set_option maxHeartbeats 8000000 in
set_option maxRecDepth 100000 in
theorem spec_l5Own.calls (k : Nat) (A0_0 : Option Addr) (c0_0 : Nat) (l0_0 : List (S81)) (A0_1 : Option Addr) (c0_1 : Nat) (l0_1 : List (S78)) (a0_2 : Int) (r1 : List (S81)) (r2 : List (S78)) (r3 : Int) (w : World) (hr0_0 : Kd.C k81 w A0_0 l0_0.length l0_0) (hc0_0 : l0_0.length ≤ c0_0) (hr0_1 : Kd.C k78 w A0_1 l0_1.length l0_1) (hc0_1 : l0_1.length ≤ c0_1) (h : spec_l5Own.f k l0_0 l0_1 a0_2 = some (r1, r2, r3)) :
  Calls Try.prog 58 #[.agg #[.slice A0_0 l0_0.length c0_0, .slice A0_1 l0_1.length c0_1, .int .i64 a0_2]] w fun e w' => ∃ v0_ v1_ : Value, e = .returned (.agg #[v0_, v1_, .int .i64 r3]) ∧ Kd.S k81 81 w' w.heap.size (fun _ => True) v0_ r1 ∧ Kd.S k78 78 w' w.heap.size (fun _ => True) v1_ r2 ∧ Below w.heap.size w w' := by
 have hu33 := Try.underlying33
 have hu81 := Try.underlying81
 have hu78 := Try.underlying78
 have HR0_0 := am_ hr0_0
 have HC0_0 := am_ hc0_0
 clear hr0_0 hc0_0
 have HR0_1 := am_ hr0_1
 have HC0_1 := am_ hc0_1
 clear hr0_1 hc0_1
 have HB := am_ (Below.refl w.heap.size w)
 have H : (spec_l5Own.l0 k l0_0 (l0_0.length : Int) 0 l0_0 l0_1 a0_2 ([] : List (S81)) a0_2) = some (r1, r2, r3) := h
 clear h
 have H' := am_ H
 clear H
 go_enter Try.func58, Try.ntmps58
 go_wp2_with (first | ((with_reducible refine gate_dst (N := 1) rfl ?_); refine bq_ (N := 1) #[.slice A0_0 l0_0.length c0_0, .slice A0_1 l0_1.length c0_1, .int .i64 a0_2] 33 ?_; intro gb203 hg w2 BK203 hb; have GE203 := ge_ hg; replace HB := nb_ hb; clear hb hg) | ((with_reducible refine gate_dst (N := 2) rfl ?_); refine bq_ (N := 2) #[.slice none 0 0, .slice none 0 0, .int .i64 0] 33 ?_; intro gb204 hg w3 BK204 hb; have GE204 := ge1_ hg GE203; replace HB := nc_ GE203 hb; have NB203_204 := nl_ BK203 hg; have NB204_203 := ng_ BK203 hg; replace BK203 := bK_ BK203 hb; clear hb hg; have hnb4 := NB203_204.out; have hnc4 := NB204_203.out; obtain ⟨hcz5_0, hcz5_1, hcz5_2, hfz5_0, hfz5_1, hfz5_2⟩ := cf3_ BK203.out) | ((with_reducible refine gate_dst (N := 3) rfl ?_); refine bq_ (N := 3) #[.slice none 0 0, .slice none 0 0, .int .i64 0] 33 ?_; intro gb205 hg w6 BK205 hb; have GE205 := ge2_ hg GE203 GE204; replace HB := nc2_ GE203 GE204 hb; have NB203_205 := nl_ BK203 hg; have NB205_203 := ng_ BK203 hg; replace BK203 := bK_ BK203 hb; have NB204_205 := nl_ BK204 hg; have NB205_204 := ng_ BK204 hg; replace BK204 := bK_ BK204 hb; clear hb hg; have hnb7 := NB205_203.out; have hnc7 := NB203_205.out; have hnb8 := NB205_204.out; have hnc8 := NB204_205.out; obtain ⟨hcz9_0, hcz9_1, hcz9_2, hfz9_0, hfz9_1, hfz9_2⟩ := cf3_ BK205.out; obtain ⟨hcz10_0, hcz10_1, hcz10_2, hfz10_0, hfz10_1, hfz10_2⟩ := cf3_ BK203.out))
 go_loopg [14] k (fun kq v14 w' => ∃ (x14_1 : Int) (x206000_1 : List (S81)) (u206000 : Value), v14 = .int .i64 x14_1 ∧ Aside0 (spec_l5Own.l0 kq l0_0 (l0_0.length : Int) x14_1 l0_0 l0_1 a0_2 x206000_1 a0_2 = some (r1, r2, r3)) ∧ Aside0 (kq ≤ k) ∧ Aside0 (Kd.S k81 81 w' w.heap.size (fun _ => True) u206000 x206000_1) ∧ Aside0 (w'.heap[gb203]? = some (.cells #[(.slice A0_0 l0_0.length c0_0), (.slice A0_1 l0_1.length c0_1), .int .i64 a0_2] 33 (0, 0))) ∧ Aside0 (w'.heap[gb204]? = some (.cells #[(.slice none 0 0), (.slice none 0 0), .int .i64 0] 33 (0, 0))) ∧ Aside0 (w'.heap[gb205]? = some (.cells #[u206000, (.slice none 0 0), .int .i64 a0_2] 33 (0, 0))) ∧ Aside0 (Below w.heap.size w w'))
 case atStart => exact ⟨(0), (([] : List (S81))), (.slice none 0 0), sr_, H', ⟨Nat.le_refl _⟩, ⟨by first | exact Kd.S_nil _ _ _ _ _ | exact Kd.N_nil _ _ _ _ _ | exact Kd.V_nil _ _ _ _ _ | exact Kd.Q_nil _ _ _ _ _ | exact Kd.R_nil _ _ _ _ _⟩, ⟨uf_ BK203 NB203_205.out⟩, ⟨uf_ BK204 NB204_205.out⟩, ⟨up_ BK205⟩, ⟨hs3_ GE203.out GE204.out GE205.out⟩⟩
 case round =>
  clear H'
  try clear hcz10_0
  try clear hcz10_1
  try clear hcz10_2
  try clear hcz5_0
  try clear hcz5_1
  try clear hcz5_2
  try clear hcz9_0
  try clear hcz9_1
  try clear hcz9_2
  try clear hfz10_0
  try clear hfz10_1
  try clear hfz10_2
  try clear hfz5_0
  try clear hfz5_1
  try clear hfz5_2
  try clear hfz9_0
  try clear hfz9_1
  try clear hfz9_2
  obtain ⟨x14_1, x206000_1, u206000, rfl, HA, HK1, HO_206000, BK203, BK204, BK205, HB⟩ := hrel
  cases gk with
  | zero => exact absurd HA.out (by simp [spec_l5Own.l0])
  | succ k1 =>
   have H := HA.out
   clear HA
   simp only [spec_l5Own.l0] at H
   replace H := ite_ H
   obtain ⟨c11, H⟩ | ⟨c11, H⟩ := H
   ·have c11b0 := decide_eq_true c11
    clear c11
    replace H := ifs_ H
    obtain ⟨c12, H⟩ := H
    have c12b0 := decide_eq_true c12
    clear c12
    replace H := ifs_ H
    obtain ⟨c13, H⟩ := H
    have c13b0 := decide_eq_true c13
    clear c13
    obtain ⟨y208, hy208⟩ : ∃ y_ : List (S112), y_ = (([] : List (S112))) := ⟨_, rfl⟩
    replace H : (if y208.length + ((rd_T81 l0_0 x14_1).f3).length < 5864062014805 then (if x206000_1.length < 2932031007402 then (spec_l5Own.l0 k1 l0_0 (l0_0.length : Int) (wrap64 (x14_1 + 1)) l0_0 l0_1 a0_2 (x206000_1 ++ [(⟨(rd_T81 l0_0 x14_1).f0, (rd_T81 l0_0 x14_1).f1, (rd_T81 l0_0 x14_1).f2, (y208 ++ ((rd_T81 l0_0 x14_1).f3))⟩ : S81)]) a0_2) else (none)) else (none)) = some (r1, r2, r3) := by first | (rw [hy208]; with_reducible exact H) | (have H2_ := (Option.bind_some _ _).symm.trans H; rw [hy208]; with_reducible exact H2_) | (have H2_ := (Option.bind_some _ _).symm.trans H; with_reducible exact H2_) | with_reducible exact H | (rw [hy208]; exact H) | exact H
    have Ny208 := am_ hy208
    clear hy208
    replace H := ifs_ H
    obtain ⟨c14, H⟩ := H
    have LMc14 := am_ c14
    clear c14
    obtain ⟨y211, hy211⟩ : ∃ y_ : List (S112), y_ = (y208 ++ ((rd_T81 l0_0 x14_1).f3)) := ⟨_, rfl⟩
    replace H : (if x206000_1.length < 2932031007402 then (spec_l5Own.l0 k1 l0_0 (l0_0.length : Int) (wrap64 (x14_1 + 1)) l0_0 l0_1 a0_2 (x206000_1 ++ [(⟨(rd_T81 l0_0 x14_1).f0, (rd_T81 l0_0 x14_1).f1, (rd_T81 l0_0 x14_1).f2, y211⟩ : S81)]) a0_2) else (none)) = some (r1, r2, r3) := by first | (rw [hy211]; with_reducible exact H) | (have H2_ := (Option.bind_some _ _).symm.trans H; rw [hy211]; with_reducible exact H2_) | (have H2_ := (Option.bind_some _ _).symm.trans H; with_reducible exact H2_) | with_reducible exact H | (rw [hy211]; exact H) | exact H
    have Ny211 := am_ hy211
    clear hy211
    replace H := ifs_ H
    obtain ⟨c15, H⟩ := H
    have LMc15 := am_ c15
    clear c15
    obtain ⟨y214, hy214⟩ : ∃ y_ : List (S81), y_ = (x206000_1 ++ [(⟨(rd_T81 l0_0 x14_1).f0, (rd_T81 l0_0 x14_1).f1, (rd_T81 l0_0 x14_1).f2, y211⟩ : S81)]) := ⟨_, rfl⟩
    replace H : (spec_l5Own.l0 k1 l0_0 (l0_0.length : Int) (wrap64 (x14_1 + 1)) l0_0 l0_1 a0_2 y214 a0_2) = some (r1, r2, r3) := by first | (rw [hy214]; with_reducible exact H) | (have H2_ := (Option.bind_some _ _).symm.trans H; rw [hy214]; with_reducible exact H2_) | (have H2_ := (Option.bind_some _ _).symm.trans H; with_reducible exact H2_) | with_reducible exact H | (rw [hy214]; exact H) | exact H
    have Ny214 := am_ hy214
    clear hy214
    have H' := am_ H
    clear H
    have p206 : 0 ≤ (x14_1 : Int) := oa_
    have q206 : x14_1 < (l0_0.length : Int) := oa_
    obtain ⟨ad206, A206_3, c206_3, e206, hx206_0, hx206_1, hx206_2, hx206_3, hl206_3, hi206_3⟩ := at_T81 HR0_0.out x14_1 p206 q206
    cases e206
    replace hx206_0 := pc_ HB.out hx206_0
    replace hx206_1 := pc_ HB.out hx206_1
    replace hx206_2 := pc_ HB.out hx206_2
    replace hx206_3 := pc_ HB.out hx206_3
    have HR206_3 := am_ hi206_3
    have HC206_3 := am_ hl206_3
    clear hi206_3 hl206_3
    replace p206 := eq_true p206
    replace q206 := eq_true q206
    go_wp2_with (first | ((with_reducible refine gate_dst (N := 5) rfl ?_); refine bq_ (N := 5) #[.int .i64 0, .int .i64 0, .int .i64 0, .slice none 0 0] 81 ?_; intro gb207 hg w16 BK207 hb; replace HO_206000 := am_ (Kd.S_below (Kd.S_elderB (ks_ HO_206000.out) gb207 (Nat.le_of_eq hg.symm)) hb); have GE207 := ge3_ hg GE203 GE204 GE205; replace HB := nc3_ GE203 GE204 GE205 hb; have NB203_207 := nl_ BK203 hg; have NB207_203 := ng_ BK203 hg; replace BK203 := bK_ BK203 hb; have NB204_207 := nl_ BK204 hg; have NB207_204 := ng_ BK204 hg; replace BK204 := bK_ BK204 hb; have NB205_207 := nl_ BK205 hg; have NB207_205 := ng_ BK205 hg; replace BK205 := bK_ BK205 hb; clear hb hg; have hnb17 := NB207_203.out; have hnc17 := NB203_207.out; have hnb18 := NB207_204.out; have hnc18 := NB204_207.out; have hnb19 := NB207_205.out; have hnc19 := NB205_207.out; obtain ⟨hcz20_0, hcz20_1, hcz20_2, hcz20_3, hfz20_0, hfz20_1, hfz20_2, hfz20_3⟩ := cf4_ BK207.out) | ((with_reducible refine gate_dst (N := 18) rfl ?_); refine Kd.R_lit k112 _ 112 ?hg (N := 18) ?hd (xs := ([] : List (S112))) (inner := []) (ok := fun _ => True) (okp := fun _ => True) ?hr ?hp (fun _ hk => hk) trivial (Below.refl _ _) (Nat.le_refl _) (by simp) ?_; (case hd => rfl); (case hg => rfl); (case hr => first | (go_simp; done) | (go_simp; rfl)); (case hp => exact (Reps.none _ _)); intro v209 w21 ho22 hb hg_ hnew_; clear hg_ hnew_; (first | rw [← Ny208.out] at ho22 | (simp only [Int.reduceToNat] at ho22; rw [← Ny208.out] at ho22)); replace HO_206000 := am_ (Kd.S_elder' ((Kd.S_mono (sF_ (Kd.S_mono HO_206000.out (fun k_ hk => (⟨hk, hk.2⟩ : _ ∧ k_ ≠ gb207)))) (fun _ h_ => h_.1))) (Kd.R_base ho22) hb); have HO210 := am_ (Kd.R_lower ho22 (below_size (hs4_ GE203.out GE204.out GE205.out GE207.out))); replace BK203 := am_ (blk_below (g := gb203) (o := .cells #[.slice (some ad206) l0_0.length c0_0, .slice A0_1 l0_1.length c0_1, .int .i64 a0_2] 33 (0, 0)) (uf_ BK203 NB203_207.out) hb); replace BK204 := am_ (blk_below (g := gb204) (o := .cells #[.slice none 0 0, .slice none 0 0, .int .i64 0] 33 (0, 0)) (uf_ BK204 NB204_207.out) hb); replace BK205 := am_ (blk_below (g := gb205) (o := .cells #[u206000, .slice none 0 0, .int .i64 a0_2] 33 (0, 0)) (uf_ BK205 NB205_207.out) hb); replace BK207 := am_ (blk_below (g := gb207) (o := .cells #[.int .i64 ((rd_T81 l0_0 x14_1).f0), .int .i64 ((rd_T81 l0_0 x14_1).f1), .int .i64 ((rd_T81 l0_0 x14_1).f2), .slice A206_3 ((rd_T81 l0_0 x14_1).f3).length c206_3] 81 (0, 0)) (up_ BK207) hb); replace HB := nc4_ GE203 GE204 GE205 GE207 hb; clear hb ho22; obtain ⟨hcz23_0, hcz23_1, hcz23_2, hcz23_3, hfz23_0, hfz23_1, hfz23_2, hfz23_3⟩ := cf4_ BK207.out) | ((with_reducible refine gate_builtin (b := .append) (xs := #[.tmp 18, .tmp 20]) rfl ?_); at_builtin; refine Kd.R_append_rows k112 (w0 := w) w.heap.size rfl (.tmp 18) (.tmp 20) 79 112 (.agg #[(.int .i64 0), (.int .i64 0), (.int .i64 0)]) 24 rfl Try.underlying79 info112 rfl (by decide) (by omega) v209 y208 ((rd_T81 l0_0 x14_1).f3) _ _ _ (fun _ => True) (fun _ => False) rfl rfl ?aO ?aR (fun _ _ h => h) (fun _ h => h.elim) ?aF ?aB ?aS ?aL ?_; (case aR => exact cs_ ((Kd.C_below HR206_3.out HB.out))); (case aB => exact (hs4_ GE203.out GE204.out GE205.out GE207.out)); (case aF => exact (fun _ _ => trivial)); (case aO => exact (kr_ HO210.out)); (case aS => exact (below_size (hs4_ GE203.out GE204.out GE205.out GE207.out))); (case aL => have := LMc14.out; omega); intro v212 w24 ho hb hg hat; rw [← Ny211.out] at ho; replace HO_206000 := am_ (Kd.S_after (ok := (fun k_ => k_ ≠ gb207)) (sF_ (Kd.S_mono HO_206000.out (fun _ hk => ⟨hk.1.2, hk.2⟩))) hg hat); replace BK203 := am_ (blk_grown (g := gb203) (o := .cells #[.slice (some ad206) l0_0.length c0_0, .slice A0_1 l0_1.length c0_1, .int .i64 a0_2] 33 (0, 0)) (kb_ BK203.out) hg (Kd.R_ne HO210.out BK203.out (by decide))); replace BK204 := am_ (blk_grown (g := gb204) (o := .cells #[.slice none 0 0, .slice none 0 0, .int .i64 0] 33 (0, 0)) (kb_ BK204.out) hg (Kd.R_ne HO210.out BK204.out (by decide))); replace BK205 := am_ (blk_grown (g := gb205) (o := .cells #[u206000, .slice none 0 0, .int .i64 a0_2] 33 (0, 0)) (kb_ BK205.out) hg (Kd.R_ne HO210.out BK205.out (by decide))); replace BK207 := am_ (blk_grown (g := gb207) (o := .cells #[.int .i64 ((rd_T81 l0_0 x14_1).f0), .int .i64 ((rd_T81 l0_0 x14_1).f1), .int .i64 ((rd_T81 l0_0 x14_1).f2), .slice A206_3 ((rd_T81 l0_0 x14_1).f3).length c206_3] 81 (0, 0)) (kb_ BK207.out) hg (Kd.R_ne HO210.out BK207.out (by decide))); replace HB := am_ (hb); have HO213 := am_ (ho); clear HO210; clear ho hb hg hat; obtain ⟨Ao25, co25, eo25⟩ := Kd.R_slice HO213.out; subst eo25; obtain ⟨hcz26_0, hcz26_1, hcz26_2, hcz26_3, hfz26_0, hfz26_1, hfz26_2, hfz26_3⟩ := cf4_ BK207.out) | ((with_reducible refine gate_store (t := 79) (p := 22) rfl ?_); refine store_event (t := 79) (p := 22) (v := ?vo_w27) (w1 := (w24.setCell ⟨gb207, 3, none⟩ (.slice Ao25 y211.length co25))) ?hg ?ho ?hn ?hr ?_; (case ho => rfl); (case hg => rfl); (case hn => rfl); (case hr => first | (go_simp; done) | (go_simp; rfl)); intro w27 hw; have n0_ : Aside0 (Kd.S k81 81 w27 w.heap.size (fun k_ => some k_ ≠ (.slice Ao25 y211.length co25 : Value).ownBlock ∧ k_ ≠ gb207) u206000 x206000_1) := ⟨(by rw [hw]; exact (sF_ (Kd.S_mono (Kd.S_far (p := ⟨gb207, 3, none⟩) (Kd.S_mono HO_206000.out (fun k_ hk => (⟨hk, hk.1⟩ : _ ∧ k_ ≠ gb207))) (fun _ hk => hk.2) (.slice Ao25 y211.length co25)) (fun _ hk => ⟨hk.1.2, hk.1.1⟩))))⟩; have n1_ : Aside0 (Kd.R k112 112 w27 w.heap.size (fun _ => True) (.slice Ao25 y211.length co25) y211) := ⟨(by rw [hw]; exact (rF_ (Kd.R_mono (Kd.R_far (p := ⟨gb207, 3, none⟩) (Kd.R_types HO213.out BK207.out (by decide)) (fun _ hk => hk.2) (.slice Ao25 y211.length co25)) (fun _ hk => trivial))))⟩; have n2_ : Aside0 (w27.heap[gb203]? = some (.cells #[.slice (some ad206) l0_0.length c0_0, .slice A0_1 l0_1.length c0_1, .int .i64 a0_2] 33 (0, 0))) := ⟨(by rw [hw]; exact (uf_ BK203 NB203_207.out))⟩; have n3_ : Aside0 (w27.heap[gb204]? = some (.cells #[.slice none 0 0, .slice none 0 0, .int .i64 0] 33 (0, 0))) := ⟨(by rw [hw]; exact (uf_ BK204 NB204_207.out))⟩; have n4_ : Aside0 (w27.heap[gb205]? = some (.cells #[u206000, .slice none 0 0, .int .i64 a0_2] 33 (0, 0))) := ⟨(by rw [hw]; exact (uf_ BK205 NB205_207.out))⟩; have n5_ : Aside0 (w27.heap[gb207]? = some (.cells #[.int .i64 ((rd_T81 l0_0 x14_1).f0), .int .i64 ((rd_T81 l0_0 x14_1).f1), .int .i64 ((rd_T81 l0_0 x14_1).f2), .slice Ao25 y211.length co25] 81 (0, 0))) := ⟨(by rw [hw]; exact (up_ BK207))⟩; have n6_ : Aside0 (Below w.heap.size w w27) := ⟨(by rw [hw]; exact (hs4_ GE203.out GE204.out GE205.out GE207.out))⟩; clear hw; clear HO_206000; clear HO213; clear BK203; clear BK204; clear BK205; clear BK207; clear HB; have HO_206000 := n0_; have HO213 := n1_; have BK203 := n2_; have BK204 := n3_; have BK205 := n4_; have BK207 := n5_; have HB := n6_; clear n0_ n1_ n2_ n3_ n4_ n5_ n6_; have hnb28 := NB205_203.out; have hnc28 := NB203_205.out; have hnb29 := NB205_204.out; have hnc29 := NB204_205.out; obtain ⟨hcz30_0, hcz30_1, hcz30_2, hfz30_0, hfz30_1, hfz30_2⟩ := cf3_ BK205.out; obtain ⟨hcz31_0, hcz31_1, hcz31_2, hcz31_3, hfz31_0, hfz31_1, hfz31_2, hfz31_3⟩ := cf4_ BK207.out) | ((with_reducible refine gate_builtin (b := .append) (xs := #[.tmp 24, .tmp 26]) rfl ?_); at_builtin; refine Kd.S_append k81 (w0 := w) w.heap.size rfl (.tmp 24) (.tmp 26) 30 81 (.agg #[(.int .i64 0), (.int .i64 0), (.int .i64 0), (.slice none 0 0)]) 48 rfl Try.underlying30 info81 rfl (by decide) (by omega) u206000 x206000_1 (⟨(rd_T81 l0_0 x14_1).f0, (rd_T81 l0_0 x14_1).f1, (rd_T81 l0_0 x14_1).f2, y211⟩ : S81) [.int .i64 ((rd_T81 l0_0 x14_1).f0), .int .i64 ((rd_T81 l0_0 x14_1).f1), .int .i64 ((rd_T81 l0_0 x14_1).f2), .slice Ao25 y211.length co25] (fun k_ => k_ ≠ gb207) (fun k_ => some k_ = (.slice Ao25 y211.length co25 : Value).ownBlock) rfl rfl ?aP (fun k_ hk_ => ((Kd.R_mono (ok' := fun k_ => ((fun k_ => k_ ≠ gb207)) k_ ∧ some k_ ≠ (u206000 : Value).ownBlock) (Kd.R_types (Kd.R_apart' (HO213.out) (Kd.S_typed HO_206000.out) (by decide)) BK207.out (by decide)) (fun k_ hk => ⟨hk.2, hk.1.2⟩))).1 k_ hk_.symm) ?aF ?aO ?aB ?aS ?aL ?_; (case aP => exact k81_mkM _ _ _ (⟨(rd_T81 l0_0 x14_1).f0, (rd_T81 l0_0 x14_1).f1, (rd_T81 l0_0 x14_1).f2, y211⟩ : S81) (Kd.R_mono (Kd.R_tight rfl (Kd.R_mono (ok' := fun k_ => ((fun k_ => k_ ≠ gb207)) k_ ∧ some k_ ≠ (u206000 : Value).ownBlock) (Kd.R_types (Kd.R_apart' (HO213.out) (Kd.S_typed HO_206000.out) (by decide)) BK207.out (by decide)) (fun k_ hk => ⟨hk.2, hk.1.2⟩))) (fun _ h_ => h_))); (case aB => exact (hs4_ GE203.out GE204.out GE205.out GE207.out)); (case aF => exact (fun k_ hk => Kd.freshB (g := gb207) (o := .cells #[.int .i64 ((rd_T81 l0_0 x14_1).f0), .int .i64 ((rd_T81 l0_0 x14_1).f1), .int .i64 ((rd_T81 l0_0 x14_1).f2), .slice Ao25 y211.length co25] 81 (0, 0)) (kb_ BK207.out) k_ hk)); (case aO => exact (sF_ (Kd.S_mono HO_206000.out (fun k_ hk => ⟨hk.2, fun e_ => hk.1 e_⟩)))); (case aS => exact (below_size (hs4_ GE203.out GE204.out GE205.out GE207.out))); (case aL => have := LMc15.out; omega); intro v215 w32 ho hb hg hat; rw [← Ny214.out] at ho; replace BK203 := am_ (blk_grown (g := gb203) (o := .cells #[.slice (some ad206) l0_0.length c0_0, .slice A0_1 l0_1.length c0_1, .int .i64 a0_2] 33 (0, 0)) (kb_ BK203.out) hg (Kd.S_ne HO_206000.out BK203.out (by decide))); replace BK204 := am_ (blk_grown (g := gb204) (o := .cells #[.slice none 0 0, .slice none 0 0, .int .i64 0] 33 (0, 0)) (kb_ BK204.out) hg (Kd.S_ne HO_206000.out BK204.out (by decide))); replace BK205 := am_ (blk_grown (g := gb205) (o := .cells #[u206000, .slice none 0 0, .int .i64 a0_2] 33 (0, 0)) (kb_ BK205.out) hg (Kd.S_ne HO_206000.out BK205.out (by decide))); replace BK207 := am_ (blk_grown (g := gb207) (o := .cells #[.int .i64 ((rd_T81 l0_0 x14_1).f0), .int .i64 ((rd_T81 l0_0 x14_1).f1), .int .i64 ((rd_T81 l0_0 x14_1).f2), .slice Ao25 y211.length co25] 81 (0, 0)) (kb_ BK207.out) hg (Kd.S_away HO_206000.out (fun _ hk => hk.2))); replace HB := am_ (hb); have HO216 := am_ (ho); clear HO_206000 HO213; clear ho hb hg hat; obtain ⟨Ao33, co33, eo33⟩ := Kd.S_slice HO216.out; subst eo33; obtain ⟨hcz34_0, hcz34_1, hcz34_2, hfz34_0, hfz34_1, hfz34_2⟩ := cf3_ BK205.out))
    go_roundg k1
    case measure => have := HK1.out; omega
    case rel => exact ⟨(wrap64 (x14_1 + 1)), (y214), (.slice Ao33 y214.length co33), sr_, H', ⟨by have := HK1.out; omega⟩, ⟨sF_ (Kd.S_mono (Kd.S_far (p := ⟨gb205, 0, none⟩) (Kd.S_types HO216.out BK205.out (by decide)) (fun _ hk => hk.2) (.slice Ao33 y214.length co33)) (fun _ hk => trivial))⟩, ⟨uf_ BK203 NB203_205.out⟩, ⟨uf_ BK204 NB204_205.out⟩, ⟨up_ BK205⟩, ⟨hs4_ GE203.out GE204.out GE205.out GE207.out⟩⟩
   have c11b0 := decide_eq_false c11
   clear c11
   have H' := am_ H
   clear H
   have hnb35 := NB203_204.out
   have hnc35 := NB204_203.out
   have hnb36 := NB203_205.out
   have hnc36 := NB205_203.out
   obtain ⟨hcz37_0, hcz37_1, hcz37_2, hfz37_0, hfz37_1, hfz37_2⟩ := cf3_ BK203.out
   go_wp2
   go_loopg [33] k1 (fun kq v33 w' => ∃ (x33_2 : Int) (x206001_2 : List (S78)) (u206001 : Value), v33 = .int .i64 x33_2 ∧ Aside0 (spec_l5Own.l1 kq l0_1 (l0_1.length : Int) x33_2 x206000_1 x206001_2 a0_2 = some (r1, r2, r3)) ∧ Aside0 (kq ≤ k1) ∧ Aside0 (Kd.S k81 81 w' w.heap.size (fun _ => True) u206000 x206000_1) ∧ Aside0 (Kd.S k78 78 w' w.heap.size (fun _ => True) u206001 x206001_2) ∧ Aside0 (w'.heap[gb203]? = some (.cells #[(.slice A0_0 l0_0.length c0_0), (.slice A0_1 l0_1.length c0_1), .int .i64 a0_2] 33 (0, 0))) ∧ Aside0 (w'.heap[gb204]? = some (.cells #[(.slice none 0 0), (.slice none 0 0), .int .i64 0] 33 (0, 0))) ∧ Aside0 (w'.heap[gb205]? = some (.cells #[u206000, u206001, .int .i64 a0_2] 33 (0, 0))) ∧ Aside0 (Below w.heap.size w w'))
   case atStart => exact ⟨(0), (([] : List (S78))), (.slice none 0 0), sr_, H', ⟨Nat.le_refl _⟩, ⟨ks_ HO_206000.out⟩, ⟨by first | exact Kd.S_nil _ _ _ _ _ | exact Kd.N_nil _ _ _ _ _ | exact Kd.V_nil _ _ _ _ _ | exact Kd.Q_nil _ _ _ _ _ | exact Kd.R_nil _ _ _ _ _⟩, ⟨kb_ BK203.out⟩, ⟨kb_ BK204.out⟩, ⟨kb_ BK205.out⟩, ⟨hs3_ GE203.out GE204.out GE205.out⟩⟩
   case round =>
    clear H'
    try clear c11
    try clear c11b0
    try clear hcz10_0
    try clear hcz10_1
    try clear hcz10_2
    try clear hcz37_0
    try clear hcz37_1
    try clear hcz37_2
    try clear hcz5_0
    try clear hcz5_1
    try clear hcz5_2
    try clear hcz9_0
    try clear hcz9_1
    try clear hcz9_2
    try clear hfz10_0
    try clear hfz10_1
    try clear hfz10_2
    try clear hfz37_0
    try clear hfz37_1
    try clear hfz37_2
    try clear hfz5_0
    try clear hfz5_1
    try clear hfz5_2
    try clear hfz9_0
    try clear hfz9_1
    try clear hfz9_2
    obtain ⟨x33_2, x206001_2, u206001, rfl, HA, HK2, HO_206000, HO_206001, BK203, BK204, BK205, HB⟩ := hrel
    cases gk with
    | zero => exact absurd HA.out (by simp [spec_l5Own.l1])
    | succ k2 =>
     have H := HA.out
     clear HA
     simp only [spec_l5Own.l1] at H
     replace H := ite_ H
     obtain ⟨c38, H⟩ | ⟨c38, H⟩ := H
     rotate_left
     ·have c38b0 := decide_eq_false c38
      clear c38
      simp only [Option.some.injEq, Prod.mk.injEq] at H
      obtain ⟨rfl, rfl, rfl⟩ := H
      have hnb62 := NB205_203.out
      have hnc62 := NB203_205.out
      have hnb63 := NB205_204.out
      have hnc63 := NB204_205.out
      obtain ⟨hcz64_0, hcz64_1, hcz64_2, hfz64_0, hfz64_1, hfz64_2⟩ := cf3_ BK205.out
      obtain ⟨Ao65, co65, eo65⟩ := Kd.S_slice HO_206000.out
      subst eo65
      have hnb66 := NB204_203.out
      have hnc66 := NB203_204.out
      obtain ⟨hcz67_0, hcz67_1, hcz67_2, hfz67_0, hfz67_1, hfz67_2⟩ := cf3_ BK204.out
      obtain ⟨Ao68, co68, eo68⟩ := Kd.S_slice HO_206001.out
      subst eo68
      go_wp2
      refine bodyPost_ret (results_cell_row rfl _ _ gb204 33 #[.slice Ao65 x206000_1.length co65, .slice Ao68 x206001_2.length co68, .int .i64 a0_2] (0, 0) _ rfl (up_ BK204) Try.underlying33 rfl (by kernel_rfl)) rfl ?_
      exact ⟨_, _, er_, Kd.S_mono (sF_ (Kd.S_types HO_206000.out BK204.out (by decide))) (fun _ hk => trivial), Kd.S_mono (sF_ (Kd.S_types HO_206001.out BK204.out (by decide))) (fun _ hk => trivial), hs3_ GE203.out GE204.out GE205.out⟩
     have c38b0 := decide_eq_true c38
     clear c38
     replace H := ifs_ H
     obtain ⟨c39, H⟩ := H
     have c39b0 := decide_eq_true c39
     clear c39
     replace H := ifs_ H
     obtain ⟨c40, H⟩ := H
     have c40b0 := decide_eq_true c40
     clear c40
     obtain ⟨y219, hy219⟩ : ∃ y_ : List ByteArray, y_ = (([] : List ByteArray)) := ⟨_, rfl⟩
     replace H : (if y219.length + ((rd_T78 l0_1 x33_2).f4).length < 8796093022208 then (if x206001_2.length < 2513169434916 then (spec_l5Own.l1 k2 l0_1 (l0_1.length : Int) (wrap64 (x33_2 + 1)) x206000_1 (x206001_2 ++ [(⟨(rd_T78 l0_1 x33_2).f0, (rd_T78 l0_1 x33_2).f1, (rd_T78 l0_1 x33_2).f2, (rd_T78 l0_1 x33_2).f3, (y219 ++ ((rd_T78 l0_1 x33_2).f4))⟩ : S78)]) a0_2) else (none)) else (none)) = some (r1, r2, r3) := by first | (rw [hy219]; with_reducible exact H) | (have H2_ := (Option.bind_some _ _).symm.trans H; rw [hy219]; with_reducible exact H2_) | (have H2_ := (Option.bind_some _ _).symm.trans H; with_reducible exact H2_) | with_reducible exact H | (rw [hy219]; exact H) | exact H
     have Ny219 := am_ hy219
     clear hy219
     replace H := ifs_ H
     obtain ⟨c41, H⟩ := H
     have LMc41 := am_ c41
     clear c41
     obtain ⟨y222, hy222⟩ : ∃ y_ : List ByteArray, y_ = (y219 ++ ((rd_T78 l0_1 x33_2).f4)) := ⟨_, rfl⟩
     replace H : (if x206001_2.length < 2513169434916 then (spec_l5Own.l1 k2 l0_1 (l0_1.length : Int) (wrap64 (x33_2 + 1)) x206000_1 (x206001_2 ++ [(⟨(rd_T78 l0_1 x33_2).f0, (rd_T78 l0_1 x33_2).f1, (rd_T78 l0_1 x33_2).f2, (rd_T78 l0_1 x33_2).f3, y222⟩ : S78)]) a0_2) else (none)) = some (r1, r2, r3) := by first | (rw [hy222]; with_reducible exact H) | (have H2_ := (Option.bind_some _ _).symm.trans H; rw [hy222]; with_reducible exact H2_) | (have H2_ := (Option.bind_some _ _).symm.trans H; with_reducible exact H2_) | with_reducible exact H | (rw [hy222]; exact H) | exact H
     have Ny222 := am_ hy222
     clear hy222
     replace H := ifs_ H
     obtain ⟨c42, H⟩ := H
     have LMc42 := am_ c42
     clear c42
     obtain ⟨y225, hy225⟩ : ∃ y_ : List (S78), y_ = (x206001_2 ++ [(⟨(rd_T78 l0_1 x33_2).f0, (rd_T78 l0_1 x33_2).f1, (rd_T78 l0_1 x33_2).f2, (rd_T78 l0_1 x33_2).f3, y222⟩ : S78)]) := ⟨_, rfl⟩
     replace H : (spec_l5Own.l1 k2 l0_1 (l0_1.length : Int) (wrap64 (x33_2 + 1)) x206000_1 y225 a0_2) = some (r1, r2, r3) := by first | (rw [hy225]; with_reducible exact H) | (have H2_ := (Option.bind_some _ _).symm.trans H; rw [hy225]; with_reducible exact H2_) | (have H2_ := (Option.bind_some _ _).symm.trans H; with_reducible exact H2_) | with_reducible exact H | (rw [hy225]; exact H) | exact H
     have Ny225 := am_ hy225
     clear hy225
     have H' := am_ H
     clear H
     have p217 : 0 ≤ (x33_2 : Int) := oa_
     have q217 : x33_2 < (l0_1.length : Int) := oa_
     obtain ⟨ad217, A217_4, c217_4, e217, hx217_0, hx217_1, hx217_2, hx217_3, hx217_4, hl217_4, hi217_4⟩ := at_T78 HR0_1.out x33_2 p217 q217
     cases e217
     replace hx217_0 := pc_ HB.out hx217_0
     replace hx217_1 := pc_ HB.out hx217_1
     replace hx217_2 := pc_ HB.out hx217_2
     replace hx217_3 := pc_ HB.out hx217_3
     replace hx217_4 := pc_ HB.out hx217_4
     have HR217_4 := am_ hi217_4
     have HC217_4 := am_ hl217_4
     clear hi217_4 hl217_4
     replace p217 := eq_true p217
     replace q217 := eq_true q217
     go_wp2_with (first | ((with_reducible refine gate_dst (N := 7) rfl ?_); refine bq_ (N := 7) #[.int .i64 0, .int .i64 0, .int .i64 0, .int .i64 0, .slice none 0 0] 78 ?_; intro gb218 hg w43 BK218 hb; replace HO_206000 := sB_ HO_206000 hb; replace HO_206001 := am_ (Kd.S_below (Kd.S_elderB (ks_ HO_206001.out) gb218 (Nat.le_of_eq hg.symm)) hb); have GE218 := ge3_ hg GE203 GE204 GE205; replace HB := nc3_ GE203 GE204 GE205 hb; have NB203_218 := nl_ BK203 hg; have NB218_203 := ng_ BK203 hg; replace BK203 := bK_ BK203 hb; have NB204_218 := nl_ BK204 hg; have NB218_204 := ng_ BK204 hg; replace BK204 := bK_ BK204 hb; have NB205_218 := nl_ BK205 hg; have NB218_205 := ng_ BK205 hg; replace BK205 := bK_ BK205 hb; clear hb hg; have hnb44 := NB218_203.out; have hnc44 := NB203_218.out; have hnb45 := NB218_204.out; have hnc45 := NB204_218.out; have hnb46 := NB218_205.out; have hnc46 := NB205_218.out; obtain ⟨hcz47_0, hcz47_1, hcz47_2, hcz47_3, hcz47_4, hfz47_0, hfz47_1, hfz47_2, hfz47_3, hfz47_4⟩ := cf5_ BK218.out) | ((with_reducible refine gate_dst (N := 37) rfl ?_); refine Kd.R_lit Kd.string _ 9 ?hg (N := 37) ?hd (xs := ([] : List ByteArray)) (inner := []) (ok := fun _ => True) (okp := fun _ => True) ?hr ?hp (fun _ hk => hk) trivial (Below.refl _ _) (Nat.le_refl _) (by simp) ?_; (case hd => rfl); (case hg => rfl); (case hr => first | (go_simp; done) | (go_simp; rfl)); (case hp => exact (Reps.none _ _)); intro v220 w48 ho49 hb hg_ hnew_; clear hg_ hnew_; (first | rw [← Ny219.out] at ho49 | (simp only [Int.reduceToNat] at ho49; rw [← Ny219.out] at ho49)); replace HO_206000 := am_ (Kd.S_below ((Kd.S_mono (sF_ (Kd.S_types HO_206000.out BK218.out (by decide))) (fun _ h_ => h_.1))) hb); replace HO_206001 := am_ (Kd.S_elder' ((Kd.S_mono (sF_ (Kd.S_mono HO_206001.out (fun k_ hk => (⟨hk, hk.2⟩ : _ ∧ k_ ≠ gb218)))) (fun _ h_ => h_.1))) (Kd.R_base ho49) hb); have HO221 := am_ (Kd.R_lower ho49 (below_size (hs4_ GE203.out GE204.out GE205.out GE218.out))); replace BK203 := am_ (blk_below (g := gb203) (o := .cells #[.slice A0_0 l0_0.length c0_0, .slice (some ad217) l0_1.length c0_1, .int .i64 a0_2] 33 (0, 0)) (uf_ BK203 NB203_218.out) hb); replace BK204 := am_ (blk_below (g := gb204) (o := .cells #[.slice none 0 0, .slice none 0 0, .int .i64 0] 33 (0, 0)) (uf_ BK204 NB204_218.out) hb); replace BK205 := am_ (blk_below (g := gb205) (o := .cells #[u206000, u206001, .int .i64 a0_2] 33 (0, 0)) (uf_ BK205 NB205_218.out) hb); replace BK218 := am_ (blk_below (g := gb218) (o := .cells #[.int .i64 ((rd_T78 l0_1 x33_2).f0), .int .i64 ((rd_T78 l0_1 x33_2).f1), .int .i64 ((rd_T78 l0_1 x33_2).f2), .int .i64 ((rd_T78 l0_1 x33_2).f3), .slice A217_4 ((rd_T78 l0_1 x33_2).f4).length c217_4] 78 (0, 0)) (up_ BK218) hb); replace HB := nc4_ GE203 GE204 GE205 GE218 hb; clear hb ho49; obtain ⟨hcz50_0, hcz50_1, hcz50_2, hcz50_3, hcz50_4, hfz50_0, hfz50_1, hfz50_2, hfz50_3, hfz50_4⟩ := cf5_ BK218.out) | ((with_reducible refine gate_builtin (b := .append) (xs := #[.tmp 37, .tmp 39]) rfl ?_); at_builtin; refine Kd.R_append_rows Kd.string (w0 := w) w.heap.size rfl (.tmp 37) (.tmp 39) 27 9 (.string ⟨#[]⟩) 16 rfl Try.underlying27 info9 rfl (by decide) (by omega) v220 y219 ((rd_T78 l0_1 x33_2).f4) _ _ _ (fun _ => True) (fun _ => False) rfl rfl ?aO ?aR (fun _ _ h => h) (fun _ h => h.elim) ?aF ?aB ?aS ?aL ?_; (case aR => exact cs_ ((Kd.C_below HR217_4.out HB.out))); (case aB => exact (hs4_ GE203.out GE204.out GE205.out GE218.out)); (case aF => exact (fun _ _ => trivial)); (case aO => exact (kr_ HO221.out)); (case aS => exact (below_size (hs4_ GE203.out GE204.out GE205.out GE218.out))); (case aL => have := LMc41.out; omega); intro v223 w51 ho hb hg hat; rw [← Ny222.out] at ho; replace HO_206000 := am_ (Kd.S_over' (ks_ HO_206000.out) (Kd.R_typed (kr_ HO221.out)) (by decide) hg); replace HO_206001 := am_ (Kd.S_after (ok := (fun k_ => k_ ≠ gb218)) (sF_ (Kd.S_mono HO_206001.out (fun _ hk => ⟨hk.1.2, hk.2⟩))) hg hat); replace BK203 := am_ (blk_grown (g := gb203) (o := .cells #[.slice A0_0 l0_0.length c0_0, .slice (some ad217) l0_1.length c0_1, .int .i64 a0_2] 33 (0, 0)) (kb_ BK203.out) hg (Kd.R_ne HO221.out BK203.out (by decide))); replace BK204 := am_ (blk_grown (g := gb204) (o := .cells #[.slice none 0 0, .slice none 0 0, .int .i64 0] 33 (0, 0)) (kb_ BK204.out) hg (Kd.R_ne HO221.out BK204.out (by decide))); replace BK205 := am_ (blk_grown (g := gb205) (o := .cells #[u206000, u206001, .int .i64 a0_2] 33 (0, 0)) (kb_ BK205.out) hg (Kd.R_ne HO221.out BK205.out (by decide))); replace BK218 := am_ (blk_grown (g := gb218) (o := .cells #[.int .i64 ((rd_T78 l0_1 x33_2).f0), .int .i64 ((rd_T78 l0_1 x33_2).f1), .int .i64 ((rd_T78 l0_1 x33_2).f2), .int .i64 ((rd_T78 l0_1 x33_2).f3), .slice A217_4 ((rd_T78 l0_1 x33_2).f4).length c217_4] 78 (0, 0)) (kb_ BK218.out) hg (Kd.R_ne HO221.out BK218.out (by decide))); replace HB := am_ (hb); have HO224 := am_ (ho); clear HO221; clear ho hb hg hat; obtain ⟨Ao52, co52, eo52⟩ := Kd.R_slice HO224.out; subst eo52; obtain ⟨hcz53_0, hcz53_1, hcz53_2, hcz53_3, hcz53_4, hfz53_0, hfz53_1, hfz53_2, hfz53_3, hfz53_4⟩ := cf5_ BK218.out) | ((with_reducible refine gate_store (t := 27) (p := 41) rfl ?_); refine store_event (t := 27) (p := 41) (v := ?vo_w54) (w1 := (w51.setCell ⟨gb218, 4, none⟩ (.slice Ao52 y222.length co52))) ?hg ?ho ?hn ?hr ?_; (case ho => rfl); (case hg => rfl); (case hn => rfl); (case hr => first | (go_simp; done) | (go_simp; rfl)); intro w54 hw; have n0_ : Aside0 (Kd.S k81 81 w54 w.heap.size (fun _ => True) u206000 x206000_1) := ⟨(by rw [hw]; exact (sF_ (Kd.S_mono (Kd.S_far (p := ⟨gb218, 4, none⟩) (Kd.S_types HO_206000.out BK218.out (by decide)) (fun _ hk => hk.2) (.slice Ao52 y222.length co52)) (fun _ hk => trivial))))⟩; have n1_ : Aside0 (Kd.S k78 78 w54 w.heap.size (fun k_ => some k_ ≠ (.slice Ao52 y222.length co52 : Value).ownBlock ∧ k_ ≠ gb218) u206001 x206001_2) := ⟨(by rw [hw]; exact (sF_ (Kd.S_mono (Kd.S_far (p := ⟨gb218, 4, none⟩) (Kd.S_mono HO_206001.out (fun k_ hk => (⟨hk, hk.1⟩ : _ ∧ k_ ≠ gb218))) (fun _ hk => hk.2) (.slice Ao52 y222.length co52)) (fun _ hk => ⟨hk.1.2, hk.1.1⟩))))⟩; have n2_ : Aside0 (Kd.R Kd.string 9 w54 w.heap.size (fun _ => True) (.slice Ao52 y222.length co52) y222) := ⟨(by rw [hw]; exact (rF_ (Kd.R_mono (Kd.R_far (p := ⟨gb218, 4, none⟩) (Kd.R_types HO224.out BK218.out (by decide)) (fun _ hk => hk.2) (.slice Ao52 y222.length co52)) (fun _ hk => trivial))))⟩; have n3_ : Aside0 (w54.heap[gb203]? = some (.cells #[.slice A0_0 l0_0.length c0_0, .slice (some ad217) l0_1.length c0_1, .int .i64 a0_2] 33 (0, 0))) := ⟨(by rw [hw]; exact (uf_ BK203 NB203_218.out))⟩; have n4_ : Aside0 (w54.heap[gb204]? = some (.cells #[.slice none 0 0, .slice none 0 0, .int .i64 0] 33 (0, 0))) := ⟨(by rw [hw]; exact (uf_ BK204 NB204_218.out))⟩; have n5_ : Aside0 (w54.heap[gb205]? = some (.cells #[u206000, u206001, .int .i64 a0_2] 33 (0, 0))) := ⟨(by rw [hw]; exact (uf_ BK205 NB205_218.out))⟩; have n6_ : Aside0 (w54.heap[gb218]? = some (.cells #[.int .i64 ((rd_T78 l0_1 x33_2).f0), .int .i64 ((rd_T78 l0_1 x33_2).f1), .int .i64 ((rd_T78 l0_1 x33_2).f2), .int .i64 ((rd_T78 l0_1 x33_2).f3), .slice Ao52 y222.length co52] 78 (0, 0))) := ⟨(by rw [hw]; exact (up_ BK218))⟩; have n7_ : Aside0 (Below w.heap.size w w54) := ⟨(by rw [hw]; exact (hs4_ GE203.out GE204.out GE205.out GE218.out))⟩; clear hw; clear HO_206000; clear HO_206001; clear HO224; clear BK203; clear BK204; clear BK205; clear BK218; clear HB; have HO_206000 := n0_; have HO_206001 := n1_; have HO224 := n2_; have BK203 := n3_; have BK204 := n4_; have BK205 := n5_; have BK218 := n6_; have HB := n7_; clear n0_ n1_ n2_ n3_ n4_ n5_ n6_ n7_; have hnb55 := NB205_203.out; have hnc55 := NB203_205.out; have hnb56 := NB205_204.out; have hnc56 := NB204_205.out; obtain ⟨hcz57_0, hcz57_1, hcz57_2, hfz57_0, hfz57_1, hfz57_2⟩ := cf3_ BK205.out; obtain ⟨hcz58_0, hcz58_1, hcz58_2, hcz58_3, hcz58_4, hfz58_0, hfz58_1, hfz58_2, hfz58_3, hfz58_4⟩ := cf5_ BK218.out) | ((with_reducible refine gate_builtin (b := .append) (xs := #[.tmp 43, .tmp 45]) rfl ?_); at_builtin; refine Kd.S_append k78 (w0 := w) w.heap.size rfl (.tmp 43) (.tmp 45) 31 78 (.agg #[(.int .i64 0), (.int .i64 0), (.int .i64 0), (.int .i64 0), (.slice none 0 0)]) 56 rfl Try.underlying31 info78 rfl (by decide) (by omega) u206001 x206001_2 (⟨(rd_T78 l0_1 x33_2).f0, (rd_T78 l0_1 x33_2).f1, (rd_T78 l0_1 x33_2).f2, (rd_T78 l0_1 x33_2).f3, y222⟩ : S78) [.int .i64 ((rd_T78 l0_1 x33_2).f0), .int .i64 ((rd_T78 l0_1 x33_2).f1), .int .i64 ((rd_T78 l0_1 x33_2).f2), .int .i64 ((rd_T78 l0_1 x33_2).f3), .slice Ao52 y222.length co52] (fun k_ => k_ ≠ gb218) (fun k_ => some k_ = (.slice Ao52 y222.length co52 : Value).ownBlock) rfl rfl ?aP (fun k_ hk_ => ((Kd.R_mono (ok' := fun k_ => ((fun k_ => k_ ≠ gb218)) k_ ∧ some k_ ≠ (u206001 : Value).ownBlock) (Kd.R_types (Kd.R_apart' (HO224.out) (Kd.S_typed HO_206001.out) (by decide)) BK218.out (by decide)) (fun k_ hk => ⟨hk.2, hk.1.2⟩))).1 k_ hk_.symm) ?aF ?aO ?aB ?aS ?aL ?_; (case aP => exact k78_mkM _ _ _ (⟨(rd_T78 l0_1 x33_2).f0, (rd_T78 l0_1 x33_2).f1, (rd_T78 l0_1 x33_2).f2, (rd_T78 l0_1 x33_2).f3, y222⟩ : S78) (Kd.R_mono (Kd.R_tight rfl (Kd.R_mono (ok' := fun k_ => ((fun k_ => k_ ≠ gb218)) k_ ∧ some k_ ≠ (u206001 : Value).ownBlock) (Kd.R_types (Kd.R_apart' (HO224.out) (Kd.S_typed HO_206001.out) (by decide)) BK218.out (by decide)) (fun k_ hk => ⟨hk.2, hk.1.2⟩))) (fun _ h_ => h_))); (case aB => exact (hs4_ GE203.out GE204.out GE205.out GE218.out)); (case aF => exact (fun k_ hk => Kd.freshB (g := gb218) (o := .cells #[.int .i64 ((rd_T78 l0_1 x33_2).f0), .int .i64 ((rd_T78 l0_1 x33_2).f1), .int .i64 ((rd_T78 l0_1 x33_2).f2), .int .i64 ((rd_T78 l0_1 x33_2).f3), .slice Ao52 y222.length co52] 78 (0, 0)) (kb_ BK218.out) k_ hk)); (case aO => exact (sF_ (Kd.S_mono HO_206001.out (fun k_ hk => ⟨hk.2, fun e_ => hk.1 e_⟩)))); (case aS => exact (below_size (hs4_ GE203.out GE204.out GE205.out GE218.out))); (case aL => have := LMc42.out; omega); intro v226 w59 ho hb hg hat; rw [← Ny225.out] at ho; replace HO_206000 := am_ (Kd.S_over' (ks_ HO_206000.out) (Kd.S_typed (ks_ HO_206001.out)) (by decide) hg); replace BK203 := am_ (blk_grown (g := gb203) (o := .cells #[.slice A0_0 l0_0.length c0_0, .slice (some ad217) l0_1.length c0_1, .int .i64 a0_2] 33 (0, 0)) (kb_ BK203.out) hg (Kd.S_ne HO_206001.out BK203.out (by decide))); replace BK204 := am_ (blk_grown (g := gb204) (o := .cells #[.slice none 0 0, .slice none 0 0, .int .i64 0] 33 (0, 0)) (kb_ BK204.out) hg (Kd.S_ne HO_206001.out BK204.out (by decide))); replace BK205 := am_ (blk_grown (g := gb205) (o := .cells #[u206000, u206001, .int .i64 a0_2] 33 (0, 0)) (kb_ BK205.out) hg (Kd.S_ne HO_206001.out BK205.out (by decide))); replace BK218 := am_ (blk_grown (g := gb218) (o := .cells #[.int .i64 ((rd_T78 l0_1 x33_2).f0), .int .i64 ((rd_T78 l0_1 x33_2).f1), .int .i64 ((rd_T78 l0_1 x33_2).f2), .int .i64 ((rd_T78 l0_1 x33_2).f3), .slice Ao52 y222.length co52] 78 (0, 0)) (kb_ BK218.out) hg (Kd.S_away HO_206001.out (fun _ hk => hk.2))); replace HB := am_ (hb); have HO227 := am_ (ho); clear HO_206001 HO224; clear ho hb hg hat; obtain ⟨Ao60, co60, eo60⟩ := Kd.S_slice HO227.out; subst eo60; obtain ⟨hcz61_0, hcz61_1, hcz61_2, hfz61_0, hfz61_1, hfz61_2⟩ := cf3_ BK205.out))
     go_roundg k2
     case measure => have := HK1.out; have := HK2.out; omega
     case rel => exact ⟨(wrap64 (x33_2 + 1)), (y225), (.slice Ao60 y225.length co60), sr_, H', ⟨by have := HK1.out; have := HK2.out; omega⟩, ⟨sF_ (Kd.S_mono (Kd.S_far (p := ⟨gb205, 1, none⟩) (Kd.S_types HO_206000.out BK205.out (by decide)) (fun _ hk => hk.2) (.slice Ao60 y225.length co60)) (fun _ hk => trivial))⟩, ⟨sF_ (Kd.S_mono (Kd.S_far (p := ⟨gb205, 1, none⟩) (Kd.S_types HO227.out BK205.out (by decide)) (fun _ hk => hk.2) (.slice Ao60 y225.length co60)) (fun _ hk => trivial))⟩, ⟨uf_ BK203 NB203_205.out⟩, ⟨uf_ BK204 NB204_205.out⟩, ⟨up_ BK205⟩, ⟨hs4_ GE203.out GE204.out GE205.out GE218.out⟩⟩

/-! ### spec_PlayAsks: function 20 -/
def spec_PlayAsks.l0 : Nat → List Int → List (S57) → Int → Int → List (S81) → List (S78) → Int → Option ((List (S81)) × (List (S78)) × Int × List Int × Bool)
 | 0, _, _, _, _, _, _, _ => none
 | k + 1, x6, x17, x18, x19, x237000, x237001, x237002 => if x19 < x18 then (if 0 ≤ x19 then (if x19 < (x17.length : Int) then ((spec_l5Batch.f 0 0 0 0 ([] : List ByteArray) ((rd_T57 x17 x19).f0) ((rd_T57 x17 x19).f1) ((rd_T57 x17 x19).f2) ((rd_T57 x17 x19).f3)).bind fun bt246 => ((spec_GoodBatch.f k bt246.1 bt246.2.1 bt246.2.2.1 bt246.2.2.2.1 bt246.2.2.2.2).bind fun t253 => (if t253 = true then ((spec_l5Ask.f k x237000 x237001 x237002 ((rd_T57 x17 x19).f0) ((rd_T57 x17 x19).f1) ((rd_T57 x17 x19).f2) ((rd_T57 x17 x19).f3)).bind fun bt254 => (if x6.length < 17592186044416 then (spec_PlayAsks.l0 k (x6 ++ [bt254.2.2.2.1]) x17 x18 (wrap64 (x19 + 1)) bt254.1 bt254.2.1 bt254.2.2.1) else (none))) else (some (([] : List (S81)), ([] : List (S78)), 0, ([] : List Int), false))))) else (none)) else (none)) else ((spec_l5Own.f k x237000 x237001 x237002).bind fun bt237 => (some (bt237.1, bt237.2.1, bt237.2.2, x6, true)))
def spec_PlayAsks.f (k : Nat) (l0 : List (S57)) : Option ((List (S81)) × (List (S78)) × Int × List Int × Bool) := (spec_NewPart.f k).bind fun bt229 => (if (l0.length : Int) > 60 then (some (([] : List (S81)), ([] : List (S78)), 0, ([] : List Int), false)) else (spec_PlayAsks.l0 k ([] : List Int) l0 (l0.length : Int) 0 bt229.1 bt229.2.1 bt229.2.2))
theorem spec_PlayAsks.mono_l : ∀ k, (∀ y0 y1 y2 y3 y4 y5 y6, LeO (spec_PlayAsks.l0 k y0 y1 y2 y3 y4 y5 y6) (spec_PlayAsks.l0 (k + 1) y0 y1 y2 y3 y4 y5 y6))
 | 0 => fun _ _ _ _ _ _ _ r h => by simp [spec_PlayAsks.l0] at h
 | k + 1 => by
  have ih0 := spec_PlayAsks.mono_l k
  ·intro y0 y1 y2 y3 y4 y5 y6
   unfold spec_PlayAsks.l0
   repeat' first
   | (with_reducible first | apply ih0 | apply spec_GoodBatch.mono | apply spec_NewPart.mono | apply spec_l5Ask.mono | apply spec_l5Own.mono | exact LeO.refl _ | exact LeO.none _ | refine LeO.ite ?_ ?_ | refine LeO.bind ?_ (fun _ => ?_))
theorem spec_PlayAsks.mono : ∀ a0 k, LeO (spec_PlayAsks.f k a0) (spec_PlayAsks.f (k + 1) a0) := by
 intro a0 k
 have ih0 := spec_PlayAsks.mono_l k
 unfold spec_PlayAsks.f
 repeat' first
   | (with_reducible first | apply ih0 | apply spec_GoodBatch.mono | apply spec_NewPart.mono | apply spec_l5Ask.mono | apply spec_l5Own.mono | exact LeO.refl _ | exact LeO.none _ | refine LeO.ite ?_ ?_ | refine LeO.bind ?_ (fun _ => ?_))
set_option maxHeartbeats 8000000 in
set_option maxRecDepth 100000 in
theorem spec_PlayAsks.calls (k : Nat) (A0 : Option Addr) (c0 : Nat) (l0 : List (S57)) (r1 : List (S81)) (r2 : List (S78)) (r3 : Int) (r4 : List Int) (r5 : Bool) (w : World) (hr0 : Kd.C k57 w A0 l0.length l0) (hc0 : l0.length ≤ c0) (h : spec_PlayAsks.f k l0 = some (r1, r2, r3, r4, r5)) :
  Calls Try.prog 20 #[.slice A0 l0.length c0] w fun e w' => ∃ v0_ v1_ v3_ : Value, e = .returned (.tuple #[.agg #[v0_, v1_, .int .i64 r3], v3_, .bool r5]) ∧ Kd.S k81 81 w' w.heap.size (fun _ => True) v0_ r1 ∧ Kd.S k78 78 w' w.heap.size (fun _ => True) v1_ r2 ∧ Kd.R (Kd.int .i64) 3 w' w.heap.size (fun _ => True) v3_ r4 ∧ Below w.heap.size w w' := by
 have hu33 := Try.underlying33
 have hu57 := Try.underlying57
 have hu78 := Try.underlying78
 have HR0 := am_ hr0
 have HC0 := am_ hc0
 clear hr0 hc0
 have HB := am_ (Below.refl w.heap.size w)
 have H : ((spec_NewPart.f k).bind fun bt229 => (if (l0.length : Int) > 60 then (some (([] : List (S81)), ([] : List (S78)), 0, ([] : List Int), false)) else (spec_PlayAsks.l0 k ([] : List Int) l0 (l0.length : Int) 0 bt229.1 bt229.2.1 bt229.2.2))) = some (r1, r2, r3, r4, r5) := h
 clear h
 replace H := bnd_ H
 obtain ⟨⟨t229, t232, t235⟩, A2, H⟩ := H
 replace H := red_ H
 replace H := ite_ H
 obtain ⟨c3, H⟩ | ⟨c3, H⟩ := H
 ·have c3b0 := dgt_ c3
  have c3b1 : decide (60 < l0.length) = true := decide_eq_true (by omega)
  clear c3
  simp only [Option.some.injEq, Prod.mk.injEq] at H
  obtain ⟨rfl, rfl, rfl, rfl, rfl⟩ := H
  go_enter Try.func20, Try.ntmps20
  go_wp2_with (first | ((with_reducible refine gate_dst (N := 2) rfl ?_); refine bq_ (N := 2) #[.slice none 0 0, .slice none 0 0, .int .i64 0] 33 ?_; intro gb228 hg w4 BK228 hb; have GE228 := ge_ hg; replace HB := nb_ hb; clear hb hg) | ((with_reducible refine gate_callee (f := 35) rfl ?_); refine gl_ 12 Try.func35 #[] rfl ma_ ?_; (with_reducible refine (spec_NewPart.calls k  t229 t232 t235 _ A2.out).mono ?_); rintro e w5 ⟨v230, v233, rfl, ho0, ho1, hb⟩; refine ⟨_, rfl, ?_⟩; have HO231 := am_ (Kd.V_lower (Kd.V_mono (ok' := fun k_ => k_ ≠ gb228) ho0 (fun k_ hk_ => (Kd.freshB (g := gb228) (o := .cells #[.slice none 0 0, .slice none 0 0, .int .i64 0] 33 (0, 0)) (kb_ BK228.out) k_ hk_))) (below_size (hs_ GE228.out))); have HO234 := am_ (Kd.V_lower (Kd.V_mono (ok' := fun k_ => k_ ≠ gb228) ho1 (fun k_ hk_ => (Kd.freshB (g := gb228) (o := .cells #[.slice none 0 0, .slice none 0 0, .int .i64 0] 33 (0, 0)) (kb_ BK228.out) k_ hk_))) (below_size (hs_ GE228.out))); replace BK228 := bK_ BK228 hb; replace HB := nc_ GE228 hb; (try clear hb); (try clear hb2); (try clear hk); (try clear hi); (try clear ho0); (try clear ho1)) | ((with_reducible refine gate_dst (N := 5) rfl ?_); refine bq_ (N := 5) #[.slice none 0 0, .slice none 0 0, .int .i64 0] 33 ?_; intro gb236 hg w6 BK236 hb; replace HO231 := am_ (Kd.V_below (Kd.V_elderB (vF_ HO231.out) gb236 (Nat.le_of_eq hg.symm)) hb); replace HO234 := am_ (Kd.V_below (Kd.V_elderB (vF_ HO234.out) gb236 (Nat.le_of_eq hg.symm)) hb); have GE236 := ge1_ hg GE228; replace HB := nc_ GE228 hb; have NB228_236 := nl_ BK228 hg; have NB236_228 := ng_ BK228 hg; replace BK228 := bK_ BK228 hb; clear hb hg; obtain ⟨Ao7, co7, eo7⟩ := Kd.V_slice HO231.out; subst eo7; have hnb8 := NB236_228.out; have hnc8 := NB228_236.out; obtain ⟨hcz9_0, hcz9_1, hcz9_2, hfz9_0, hfz9_1, hfz9_2⟩ := cf3_ BK236.out; obtain ⟨Ao10, co10, eo10⟩ := Kd.V_slice HO234.out; subst eo10; obtain ⟨hcz11_0, hcz11_1, hcz11_2, hfz11_0, hfz11_1, hfz11_2⟩ := cf3_ BK228.out))
  refine bodyPost_ret (results_ctt rfl _ _ gb228 33 #[.slice none 0 0, .slice none 0 0, .int .i64 0] (0, 0) _ rfl (by (with_reducible repeat (first | refine blk_drewN ?_ _ | refine blk_drew ?_ | refine blk_alloc ?_ _)); refine blk_put (cs := #[.slice none 0 0, .slice none 0 0, .int .i64 0]) ?_ 2 _ rfl; (with_reducible repeat (first | refine blk_drewN ?_ _ | refine blk_drew ?_ | refine blk_alloc ?_ _)); refine blk_put (cs := #[.slice none 0 0, .slice none 0 0, .int .i64 0]) ?_ 1 _ rfl; (with_reducible repeat (first | refine blk_drewN ?_ _ | refine blk_drew ?_ | refine blk_alloc ?_ _)); refine blk_put (cs := #[.slice none 0 0, .slice none 0 0, .int .i64 0]) ?_ 0 _ rfl; (with_reducible repeat (first | refine blk_drewN ?_ _ | refine blk_drew ?_ | refine blk_alloc ?_ _)); refine blk_far ?_ NB228_236.out _; (with_reducible repeat (first | refine blk_drewN ?_ _ | refine blk_drew ?_ | refine blk_alloc ?_ _)); refine blk_far ?_ NB228_236.out _; (with_reducible repeat (first | refine blk_drewN ?_ _ | refine blk_drew ?_ | refine blk_alloc ?_ _)); refine blk_far ?_ NB228_236.out _; (with_reducible repeat (first | refine blk_drewN ?_ _ | refine blk_drew ?_ | refine blk_alloc ?_ _)); exact BK228.out) Try.underlying33 rfl (by kernel_rfl)) rfl ?_
  exact ⟨_, _, _, er_, by first | exact Kd.S_nil _ _ _ _ _ | exact Kd.N_nil _ _ _ _ _ | exact Kd.V_nil _ _ _ _ _ | exact Kd.Q_nil _ _ _ _ _ | exact Kd.R_nil _ _ _ _ _, by first | exact Kd.S_nil _ _ _ _ _ | exact Kd.N_nil _ _ _ _ _ | exact Kd.V_nil _ _ _ _ _ | exact Kd.Q_nil _ _ _ _ _ | exact Kd.R_nil _ _ _ _ _, ni_, hs2_ GE228.out GE236.out⟩
 have c3b0 := dgf_ c3
 have c3b1 : decide (60 < l0.length) = false := decide_eq_false (by omega)
 clear c3
 have H' := am_ H
 clear H
 go_enter Try.func20, Try.ntmps20
 go_wp2_with (first | ((with_reducible refine gate_dst (N := 2) rfl ?_); refine bq_ (N := 2) #[.slice none 0 0, .slice none 0 0, .int .i64 0] 33 ?_; intro gb228 hg w12 BK228 hb; have GE228 := ge_ hg; replace HB := nb_ hb; clear hb hg) | ((with_reducible refine gate_callee (f := 35) rfl ?_); refine gl_ 12 Try.func35 #[] rfl ma_ ?_; (with_reducible refine (spec_NewPart.calls k  t229 t232 t235 _ A2.out).mono ?_); rintro e w13 ⟨v230, v233, rfl, ho0, ho1, hb⟩; refine ⟨_, rfl, ?_⟩; have HO231 := am_ (Kd.V_lower (Kd.V_mono (ok' := fun k_ => k_ ≠ gb228) ho0 (fun k_ hk_ => (Kd.freshB (g := gb228) (o := .cells #[.slice none 0 0, .slice none 0 0, .int .i64 0] 33 (0, 0)) (kb_ BK228.out) k_ hk_))) (below_size (hs_ GE228.out))); have HO234 := am_ (Kd.V_lower (Kd.V_mono (ok' := fun k_ => k_ ≠ gb228) ho1 (fun k_ hk_ => (Kd.freshB (g := gb228) (o := .cells #[.slice none 0 0, .slice none 0 0, .int .i64 0] 33 (0, 0)) (kb_ BK228.out) k_ hk_))) (below_size (hs_ GE228.out))); replace BK228 := bK_ BK228 hb; replace HB := nc_ GE228 hb; (try clear hb); (try clear hb2); (try clear hk); (try clear hi); (try clear ho0); (try clear ho1)) | ((with_reducible refine gate_dst (N := 5) rfl ?_); refine bq_ (N := 5) #[.slice none 0 0, .slice none 0 0, .int .i64 0] 33 ?_; intro gb236 hg w14 BK236 hb; replace HO231 := am_ (Kd.V_below (Kd.V_elderB (vF_ HO231.out) gb236 (Nat.le_of_eq hg.symm)) hb); replace HO234 := am_ (Kd.V_below (Kd.V_elderB (vF_ HO234.out) gb236 (Nat.le_of_eq hg.symm)) hb); have GE236 := ge1_ hg GE228; replace HB := nc_ GE228 hb; have NB228_236 := nl_ BK228 hg; have NB236_228 := ng_ BK228 hg; replace BK228 := bK_ BK228 hb; clear hb hg; obtain ⟨Ao15, co15, eo15⟩ := Kd.V_slice HO231.out; subst eo15; have hnb16 := NB236_228.out; have hnc16 := NB228_236.out; obtain ⟨hcz17_0, hcz17_1, hcz17_2, hfz17_0, hfz17_1, hfz17_2⟩ := cf3_ BK236.out; obtain ⟨Ao18, co18, eo18⟩ := Kd.V_slice HO234.out; subst eo18))
 go_loopg [6, 19] k (fun kq v6 v19 w' => ∃ (x6_1 : List Int) (x19_1 : Int) (x229002_1 : Int) (x237000_1 : List (S81)) (x237001_1 : List (S78)) (x237002_1 : Int) (u237000 : Value) (u237001 : Value), v19 = .int .i64 x19_1 ∧ Aside0 (spec_PlayAsks.l0 kq x6_1 l0 (l0.length : Int) x19_1 x237000_1 x237001_1 x237002_1 = some (r1, r2, r3, r4, r5)) ∧ Aside0 (kq ≤ k) ∧ Aside0 (Kd.R (Kd.int .i64) 3 w' w.heap.size (fun _ => True) v6 x6_1) ∧ Aside0 (Kd.V k81 81 w' w.heap.size (fun k_ => some k_ ≠ (v6 : Value).ownBlock ∧ k_ ≠ gb228 ∧ k_ ≠ gb236) u237000 x237000_1) ∧ Aside0 (Kd.V k78 78 w' w.heap.size (fun k_ => some k_ ≠ (v6 : Value).ownBlock ∧ k_ ≠ gb228 ∧ k_ ≠ gb236) u237001 x237001_1) ∧ Aside0 (w'.heap[gb228]? = some (.cells #[(.slice none 0 0), (.slice none 0 0), .int .i64 x229002_1] 33 (0, 0))) ∧ Aside0 (w'.heap[gb236]? = some (.cells #[u237000, u237001, .int .i64 x237002_1] 33 (0, 0))) ∧ Aside0 (Below w.heap.size w w'))
 case atStart => exact ⟨(([] : List Int)), (0), (0), (t229), (t232), (t235), (.slice Ao15 t229.length co15), (.slice Ao18 t232.length co18), sr_, H', ⟨Nat.le_refl _⟩, ⟨ni_⟩, ⟨Kd.V_mono (vF_ (Kd.V_mono HO231.out (fun k_ hk => (⟨hk, hk.2⟩ : _ ∧ k_ ≠ gb236)))) (fun _ hk => ⟨(by simp [Value.ownBlock]), ⟨hk.1.1, hk.1.2⟩⟩)⟩, ⟨Kd.V_mono (vF_ (Kd.V_mono HO234.out (fun k_ hk => (⟨hk, hk.2⟩ : _ ∧ k_ ≠ gb236)))) (fun _ hk => ⟨(by simp [Value.ownBlock]), ⟨hk.1.1, hk.1.2⟩⟩)⟩, ⟨uf_ BK228 NB228_236.out⟩, ⟨up_ BK236⟩, ⟨hs2_ GE228.out GE236.out⟩⟩
 case round =>
  clear H'
  try clear c3
  try clear c3b0
  try clear c3b1
  try clear hcz17_0
  try clear hcz17_1
  try clear hcz17_2
  try clear hfz17_0
  try clear hfz17_1
  try clear hfz17_2
  obtain ⟨x6_1, x19_1, x229002_1, x237000_1, x237001_1, x237002_1, u237000, u237001, rfl, HA, HK1, HO_6, HO_237000, HO_237001, BK228, BK236, HB⟩ := hrel
  cases gk with
  | zero => exact absurd HA.out (by simp [spec_PlayAsks.l0])
  | succ k1 =>
   have H := HA.out
   clear HA
   simp only [spec_PlayAsks.l0] at H
   replace H := ite_ H
   obtain ⟨c19, H⟩ | ⟨c19, H⟩ := H
   rotate_left
   ·have c19b0 := decide_eq_false c19
    clear c19
    replace H := bnd_ H
    obtain ⟨⟨t237, t240, t243⟩, A58, H⟩ := H
    replace H := red_ H
    simp only [Option.some.injEq, Prod.mk.injEq] at H
    obtain ⟨rfl, rfl, rfl, rfl, rfl⟩ := H
    have hnb59 := NB236_228.out
    have hnc59 := NB228_236.out
    obtain ⟨hcz60_0, hcz60_1, hcz60_2, hfz60_0, hfz60_1, hfz60_2⟩ := cf3_ BK236.out
    obtain ⟨Ao61, co61, eo61⟩ := Kd.V_slice HO_237000.out
    subst eo61
    obtain ⟨Ao62, co62, eo62⟩ := Kd.V_slice HO_237001.out
    subst eo62
    go_wp2_with (first | ((with_reducible refine gate_callee (f := 58) rfl ?_); refine gl_ 43 Try.func58 #[.agg #[.slice Ao61 x237000_1.length co61, .slice Ao62 x237001_1.length co62, .int .i64 x237002_1]] rfl ma_ ?_; (with_reducible refine (spec_l5Own.calls k1 _ _ x237000_1 _ _ x237001_1 x237002_1 t237 t240 t243 _ ?side1 ?side2 ?side3 ?side4 A58.out).mono ?_); (case side1 => exact cs_ ((Kd.V_reads' HO_237000.out).2.2)); (case side2 => exact (Kd.V_reads' HO_237000.out).2.1); (case side3 => exact cs_ ((Kd.V_reads' HO_237001.out).2.2)); (case side4 => exact (Kd.V_reads' HO_237001.out).2.1); rintro e w63 ⟨v238, v241, rfl, ho0, ho1, hb⟩; refine ⟨_, rfl, ?_⟩; replace HO_6 := rB_ HO_6 hb; replace HO_237000 := am_ (Kd.V_mono (Kd.V_told (Kd.V_told (Kd.V_old (vF_ HO_237000.out) hb) (Kd.S_base ho0)) (Kd.S_base ho1)) (fun _ h_ => h_.1)); replace HO_237001 := am_ (Kd.V_mono (Kd.V_told (Kd.V_told (Kd.V_old (vF_ HO_237001.out) hb) (Kd.S_base ho0)) (Kd.S_base ho1)) (fun _ h_ => h_.1)); have HO239 := am_ (Kd.S_lower ho0 (below_size (hs2_ GE228.out GE236.out))); have HO242 := am_ (Kd.S_lower ho1 (below_size (hs2_ GE228.out GE236.out))); replace BK228 := bK_ BK228 hb; replace BK236 := bK_ BK236 hb; replace HB := nc2_ GE228 GE236 hb; (try clear hb); (try clear hb2); (try clear hk); (try clear hi); (try clear ho0); (try clear ho1); obtain ⟨Ao64, co64, eo64⟩ := Kd.S_slice HO239.out; subst eo64; obtain ⟨hcz65_0, hcz65_1, hcz65_2, hfz65_0, hfz65_1, hfz65_2⟩ := cf3_ BK228.out; obtain ⟨Ao66, co66, eo66⟩ := Kd.S_slice HO242.out; subst eo66))
    refine bodyPost_ret (results_ctt rfl _ _ gb228 33 #[.slice Ao64 t237.length co64, .slice Ao66 t240.length co66, .int .i64 t243] (0, 0) _ rfl (up_ BK228) Try.underlying33 rfl (by kernel_rfl)) rfl ?_
    exact ⟨_, _, _, er_, Kd.S_mono (sF_ (Kd.S_types HO239.out BK228.out (by decide))) (fun _ hk => trivial), Kd.S_mono (sF_ (Kd.S_types HO242.out BK228.out (by decide))) (fun _ hk => trivial), Kd.R_mono (rF_ (Kd.R_types HO_6.out BK228.out (by decide))) (fun _ hk => trivial), hs2_ GE228.out GE236.out⟩
   have c19b0 := decide_eq_true c19
   clear c19
   replace H := ifs_ H
   obtain ⟨c20, H⟩ := H
   have c20b0 := decide_eq_true c20
   clear c20
   replace H := ifs_ H
   obtain ⟨c21, H⟩ := H
   have c21b0 := decide_eq_true c21
   clear c21
   replace H := bnd_ H
   obtain ⟨⟨t246, t247, t248, t249, t250⟩, A22, H⟩ := H
   replace H := red_ H
   replace H := bnd_ H
   obtain ⟨t253, A23, H⟩ := H
   replace H := ifb_ H
   obtain ⟨rfl, H⟩ | ⟨rfl, H⟩ := H
   rotate_left
   ·simp only [Option.some.injEq, Prod.mk.injEq] at H
    obtain ⟨rfl, rfl, rfl, rfl, rfl⟩ := H
    have p244 : 0 ≤ (x19_1 : Int) := oa_
    have q244 : x19_1 < (l0.length : Int) := oa_
    obtain ⟨ad244, A244_3, c244_3, e244, hx244_0, hx244_1, hx244_2, hx244_3, hl244_3, hi244_3⟩ := at_T57 HR0.out x19_1 p244 q244
    cases e244
    replace hx244_0 := pc_ HB.out hx244_0
    replace hx244_1 := pc_ HB.out hx244_1
    replace hx244_2 := pc_ HB.out hx244_2
    replace hx244_3 := pc_ HB.out hx244_3
    have HR244_3 := am_ hi244_3
    have HC244_3 := am_ hl244_3
    clear hi244_3 hl244_3
    replace p244 := eq_true p244
    replace q244 := eq_true q244
    go_wp2_with (first | ((with_reducible refine gate_dst (N := 8) rfl ?_); refine bq_ (N := 8) #[.int .i64 0, .int .i64 0, .int .i64 0, .slice none 0 0] 57 ?_; intro gb245 hg w49 BK245 hb; replace HO_6 := rB_ HO_6 hb; replace HO_237000 := am_ (Kd.V_below (Kd.V_elderB (vF_ HO_237000.out) gb245 (Nat.le_of_eq hg.symm)) hb); replace HO_237001 := am_ (Kd.V_below (Kd.V_elderB (vF_ HO_237001.out) gb245 (Nat.le_of_eq hg.symm)) hb); have GE245 := ge2_ hg GE228 GE236; replace HB := nc2_ GE228 GE236 hb; have NB228_245 := nl_ BK228 hg; have NB245_228 := ng_ BK228 hg; replace BK228 := bK_ BK228 hb; have NB236_245 := nl_ BK236 hg; have NB245_236 := ng_ BK236 hg; replace BK236 := bK_ BK236 hb; clear hb hg; have hnb50 := NB245_228.out; have hnc50 := NB228_245.out; have hnb51 := NB245_236.out; have hnc51 := NB236_245.out; obtain ⟨hcz52_0, hcz52_1, hcz52_2, hcz52_3, hfz52_0, hfz52_1, hfz52_2, hfz52_3⟩ := cf4_ BK245.out) | ((with_reducible refine gate_callee (f := 56) rfl ?_); refine gl_ 25 Try.func56 #[.agg #[.int .i64 0, .int .i64 0, .int .i64 0, .int .i64 0, .slice none 0 0], .agg #[.int .i64 ((rd_T57 l0 x19_1).f0), .int .i64 ((rd_T57 l0 x19_1).f1), .int .i64 ((rd_T57 l0 x19_1).f2), .slice A244_3 ((rd_T57 l0 x19_1).f3).length c244_3]] rfl ma_ ?_; (refine (spec_l5Batch.calls 0 0 0 0 _ _ ([] : List ByteArray) ((rd_T57 l0 x19_1).f0) ((rd_T57 l0 x19_1).f1) ((rd_T57 l0 x19_1).f2) _ _ ((rd_T57 l0 x19_1).f3) t246 t247 t248 t249 t250 _ ?side1 ?side2 ?side3 ?side4 A22.out).mono ?_); (case side1 => exact Kd.C_nil _ _); (case side2 => exact Nat.le_refl _); (case side3 => exact Kd.C_below HR244_3.out (hs3_ GE228.out GE236.out GE245.out)); (case side4 => exact HC244_3.out); rintro e w53 ⟨v251, rfl, ho0, hb⟩; refine ⟨_, rfl, ?_⟩; replace HO_6 := am_ (Kd.R_below ((Kd.R_mono (rF_ (Kd.R_types HO_6.out BK245.out (by decide))) (fun _ h_ => h_.1))) hb); replace HO_237000 := am_ (Kd.V_elder' ((Kd.V_mono (vF_ (Kd.V_mono HO_237000.out (fun k_ hk => (⟨hk, hk.2⟩ : _ ∧ k_ ≠ gb245)))) (fun _ h_ => h_.1))) (Kd.R_base ho0) hb); replace HO_237001 := am_ (Kd.V_elder' ((Kd.V_mono (vF_ (Kd.V_mono HO_237001.out (fun k_ hk => (⟨hk, hk.2⟩ : _ ∧ k_ ≠ gb245)))) (fun _ h_ => h_.1))) (Kd.R_base ho0) hb); have HO252 := am_ (Kd.R_lower ho0 (below_size (hs3_ GE228.out GE236.out GE245.out))); replace BK228 := am_ (blk_below (g := gb228) (o := .cells #[.slice none 0 0, .slice none 0 0, .int .i64 x229002_1] 33 (0, 0)) (uf_ BK228 NB228_245.out) hb); replace BK236 := am_ (blk_below (g := gb236) (o := .cells #[u237000, u237001, .int .i64 x237002_1] 33 (0, 0)) (uf_ BK236 NB236_245.out) hb); replace BK245 := am_ (blk_below (g := gb245) (o := .cells #[.int .i64 ((rd_T57 l0 x19_1).f0), .int .i64 ((rd_T57 l0 x19_1).f1), .int .i64 ((rd_T57 l0 x19_1).f2), .slice A244_3 ((rd_T57 l0 x19_1).f3).length c244_3] 57 (0, 0)) (up_ BK245) hb); replace HB := nc3_ GE228 GE236 GE245 hb; (try clear hb); (try clear hb2); (try clear hk); (try clear hi); (try clear ho0); obtain ⟨Ao54, co54, eo54⟩ := Kd.R_slice HO252.out; subst eo54) | ((with_reducible refine gate_callee (f := 55) rfl ?_); refine gl_ 26 Try.func55 #[.agg #[.int .i64 t246, .int .i64 t247, .int .i64 t248, .int .i64 t249, .slice Ao54 t250.length co54]] rfl ma_ ?_; (with_reducible refine (spec_GoodBatch.calls k1 t246 t247 t248 t249 _ _ t250 false _ ?side1 ?side2 A23.out).mono ?_); (case side1 => exact cs_ ((Kd.R_reads' HO252.out).2.2)); (case side2 => exact (Kd.R_reads' HO252.out).2.1); rintro e w55 ⟨rfl, hb⟩; refine ⟨_, rfl, ?_⟩; replace HO_6 := rB_ HO_6 hb; replace HO_237000 := am_ (Kd.V_below (vF_ HO_237000.out) hb); replace HO_237001 := am_ (Kd.V_below (vF_ HO_237001.out) hb); replace HO252 := rB_ HO252 hb; replace BK228 := bK_ BK228 hb; replace BK236 := bK_ BK236 hb; replace BK245 := bK_ BK245 hb; replace HB := nc3_ GE228 GE236 GE245 hb; (try clear hb); (try clear hb2); (try clear hk); (try clear hi); have hnb56 := NB228_236.out; have hnc56 := NB236_228.out; obtain ⟨hcz57_0, hcz57_1, hcz57_2, hfz57_0, hfz57_1, hfz57_2⟩ := cf3_ BK228.out))
    refine bodyPost_ret (results_ctt rfl _ _ gb228 33 #[.slice none 0 0, .slice none 0 0, .int .i64 0] (0, 0) _ rfl (up_ BK228) Try.underlying33 rfl (by kernel_rfl)) rfl ?_
    exact ⟨_, _, _, er_, by first | exact Kd.S_nil _ _ _ _ _ | exact Kd.N_nil _ _ _ _ _ | exact Kd.V_nil _ _ _ _ _ | exact Kd.Q_nil _ _ _ _ _ | exact Kd.R_nil _ _ _ _ _, by first | exact Kd.S_nil _ _ _ _ _ | exact Kd.N_nil _ _ _ _ _ | exact Kd.V_nil _ _ _ _ _ | exact Kd.Q_nil _ _ _ _ _ | exact Kd.R_nil _ _ _ _ _, ni_, hs3_ GE228.out GE236.out GE245.out⟩
   replace H := bnd_ H
   obtain ⟨⟨t254, t257, t260, t261, t262⟩, A25, H⟩ := H
   replace H := red_ H
   replace H := ifs_ H
   obtain ⟨c26, H⟩ := H
   have LMc26 := am_ c26
   clear c26
   obtain ⟨y264, hy264⟩ : ∃ y_ : List Int, y_ = (x6_1 ++ [t261]) := ⟨_, rfl⟩
   replace H : (spec_PlayAsks.l0 k1 y264 l0 (l0.length : Int) (wrap64 (x19_1 + 1)) t254 t257 t260) = some (r1, r2, r3, r4, r5) := by first | (rw [hy264]; with_reducible exact H) | (have H2_ := (Option.bind_some _ _).symm.trans H; rw [hy264]; with_reducible exact H2_) | (have H2_ := (Option.bind_some _ _).symm.trans H; with_reducible exact H2_) | with_reducible exact H | (rw [hy264]; exact H) | exact H
   have Ny264 := am_ hy264
   clear hy264
   have H' := am_ H
   clear H
   have p244 : 0 ≤ (x19_1 : Int) := oa_
   have q244 : x19_1 < (l0.length : Int) := oa_
   obtain ⟨ad244, A244_3, c244_3, e244, hx244_0, hx244_1, hx244_2, hx244_3, hl244_3, hi244_3⟩ := at_T57 HR0.out x19_1 p244 q244
   cases e244
   replace hx244_0 := pc_ HB.out hx244_0
   replace hx244_1 := pc_ HB.out hx244_1
   replace hx244_2 := pc_ HB.out hx244_2
   replace hx244_3 := pc_ HB.out hx244_3
   have HR244_3 := am_ hi244_3
   have HC244_3 := am_ hl244_3
   clear hi244_3 hl244_3
   replace p244 := eq_true p244
   replace q244 := eq_true q244
   go_wp2_with (first | ((with_reducible refine gate_dst (N := 8) rfl ?_); refine bq_ (N := 8) #[.int .i64 0, .int .i64 0, .int .i64 0, .slice none 0 0] 57 ?_; intro gb245 hg w27 BK245 hb; replace HO_6 := rB_ HO_6 hb; replace HO_237000 := am_ (Kd.V_below (Kd.V_elderB (vF_ HO_237000.out) gb245 (Nat.le_of_eq hg.symm)) hb); replace HO_237001 := am_ (Kd.V_below (Kd.V_elderB (vF_ HO_237001.out) gb245 (Nat.le_of_eq hg.symm)) hb); have GE245 := ge2_ hg GE228 GE236; replace HB := nc2_ GE228 GE236 hb; have NB228_245 := nl_ BK228 hg; have NB245_228 := ng_ BK228 hg; replace BK228 := bK_ BK228 hb; have NB236_245 := nl_ BK236 hg; have NB245_236 := ng_ BK236 hg; replace BK236 := bK_ BK236 hb; clear hb hg; have hnb28 := NB245_228.out; have hnc28 := NB228_245.out; have hnb29 := NB245_236.out; have hnc29 := NB236_245.out; obtain ⟨hcz30_0, hcz30_1, hcz30_2, hcz30_3, hfz30_0, hfz30_1, hfz30_2, hfz30_3⟩ := cf4_ BK245.out) | ((with_reducible refine gate_callee (f := 56) rfl ?_); refine gl_ 25 Try.func56 #[.agg #[.int .i64 0, .int .i64 0, .int .i64 0, .int .i64 0, .slice none 0 0], .agg #[.int .i64 ((rd_T57 l0 x19_1).f0), .int .i64 ((rd_T57 l0 x19_1).f1), .int .i64 ((rd_T57 l0 x19_1).f2), .slice A244_3 ((rd_T57 l0 x19_1).f3).length c244_3]] rfl ma_ ?_; (refine (spec_l5Batch.calls 0 0 0 0 _ _ ([] : List ByteArray) ((rd_T57 l0 x19_1).f0) ((rd_T57 l0 x19_1).f1) ((rd_T57 l0 x19_1).f2) _ _ ((rd_T57 l0 x19_1).f3) t246 t247 t248 t249 t250 _ ?side1 ?side2 ?side3 ?side4 A22.out).mono ?_); (case side1 => exact Kd.C_nil _ _); (case side2 => exact Nat.le_refl _); (case side3 => exact Kd.C_below HR244_3.out (hs3_ GE228.out GE236.out GE245.out)); (case side4 => exact HC244_3.out); rintro e w31 ⟨v251, rfl, ho0, hb⟩; refine ⟨_, rfl, ?_⟩; replace HO_6 := am_ (Kd.R_below ((Kd.R_mono (rF_ (Kd.R_types HO_6.out BK245.out (by decide))) (fun _ h_ => h_.1))) hb); replace HO_237000 := am_ (Kd.V_elder' ((Kd.V_mono (vF_ (Kd.V_mono HO_237000.out (fun k_ hk => (⟨hk, hk.2⟩ : _ ∧ k_ ≠ gb245)))) (fun _ h_ => h_.1))) (Kd.R_base ho0) hb); replace HO_237001 := am_ (Kd.V_elder' ((Kd.V_mono (vF_ (Kd.V_mono HO_237001.out (fun k_ hk => (⟨hk, hk.2⟩ : _ ∧ k_ ≠ gb245)))) (fun _ h_ => h_.1))) (Kd.R_base ho0) hb); have HO252 := am_ (Kd.R_lower ho0 (below_size (hs3_ GE228.out GE236.out GE245.out))); replace BK228 := am_ (blk_below (g := gb228) (o := .cells #[.slice none 0 0, .slice none 0 0, .int .i64 x229002_1] 33 (0, 0)) (uf_ BK228 NB228_245.out) hb); replace BK236 := am_ (blk_below (g := gb236) (o := .cells #[u237000, u237001, .int .i64 x237002_1] 33 (0, 0)) (uf_ BK236 NB236_245.out) hb); replace BK245 := am_ (blk_below (g := gb245) (o := .cells #[.int .i64 ((rd_T57 l0 x19_1).f0), .int .i64 ((rd_T57 l0 x19_1).f1), .int .i64 ((rd_T57 l0 x19_1).f2), .slice A244_3 ((rd_T57 l0 x19_1).f3).length c244_3] 57 (0, 0)) (up_ BK245) hb); replace HB := nc3_ GE228 GE236 GE245 hb; (try clear hb); (try clear hb2); (try clear hk); (try clear hi); (try clear ho0); obtain ⟨Ao32, co32, eo32⟩ := Kd.R_slice HO252.out; subst eo32) | ((with_reducible refine gate_callee (f := 55) rfl ?_); refine gl_ 26 Try.func55 #[.agg #[.int .i64 t246, .int .i64 t247, .int .i64 t248, .int .i64 t249, .slice Ao32 t250.length co32]] rfl ma_ ?_; (with_reducible refine (spec_GoodBatch.calls k1 t246 t247 t248 t249 _ _ t250 true _ ?side1 ?side2 A23.out).mono ?_); (case side1 => exact cs_ ((Kd.R_reads' HO252.out).2.2)); (case side2 => exact (Kd.R_reads' HO252.out).2.1); rintro e w33 ⟨rfl, hb⟩; refine ⟨_, rfl, ?_⟩; replace HO_6 := rB_ HO_6 hb; replace HO_237000 := am_ (Kd.V_below (vF_ HO_237000.out) hb); replace HO_237001 := am_ (Kd.V_below (vF_ HO_237001.out) hb); replace HO252 := rB_ HO252 hb; replace BK228 := bK_ BK228 hb; replace BK236 := bK_ BK236 hb; replace BK245 := bK_ BK245 hb; replace HB := nc3_ GE228 GE236 GE245 hb; (try clear hb); (try clear hb2); (try clear hk); (try clear hi); have hnb34 := NB236_228.out; have hnc34 := NB228_236.out; obtain ⟨hcz35_0, hcz35_1, hcz35_2, hfz35_0, hfz35_1, hfz35_2⟩ := cf3_ BK236.out; obtain ⟨hcz36_0, hcz36_1, hcz36_2, hcz36_3, hfz36_0, hfz36_1, hfz36_2, hfz36_3⟩ := cf4_ BK245.out; obtain ⟨Ao37, co37, eo37⟩ := Kd.V_slice HO_237000.out; subst eo37; obtain ⟨Ao38, co38, eo38⟩ := Kd.V_slice HO_237001.out; subst eo38) | ((with_reducible refine gate_callee (f := 57) rfl ?_); refine gl_ 32 Try.func57 #[.agg #[.slice Ao37 x237000_1.length co37, .slice Ao38 x237001_1.length co38, .int .i64 x237002_1], .agg #[.int .i64 ((rd_T57 l0 x19_1).f0), .int .i64 ((rd_T57 l0 x19_1).f1), .int .i64 ((rd_T57 l0 x19_1).f2), .slice A244_3 ((rd_T57 l0 x19_1).f3).length c244_3]] rfl ma_ ?_; (with_reducible refine (spec_l5Ask.calls k1 (fun k_ => (((some k_ ≠ (u6 : Value).ownBlock ∧ (k_ ≠ gb228 ∧ k_ ≠ gb236)) ∧ k_ ≠ gb245) ∧ some k_ ≠ (.slice Ao32 t250.length co32 : Value).ownBlock)) _ _ x237000_1 (fun k_ => (((some k_ ≠ (u6 : Value).ownBlock ∧ (k_ ≠ gb228 ∧ k_ ≠ gb236)) ∧ k_ ≠ gb245) ∧ some k_ ≠ (.slice Ao32 t250.length co32 : Value).ownBlock)) _ _ x237001_1 x237002_1 ((rd_T57 l0 x19_1).f0) ((rd_T57 l0 x19_1).f1) ((rd_T57 l0 x19_1).f2) _ _ ((rd_T57 l0 x19_1).f3) t254 t257 t260 t261 t262 _ ?side1 ?side2 ?side3 ?side4 A25.out).mono ?_); (case side1 => exact HO_237000.out); (case side2 => exact HO_237001.out); (case side3 => exact cs_ ((Kd.C_below HR244_3.out HB.out))); (case side4 => exact HC244_3.out); rintro e w39 ⟨v255, v258, rfl, ho0, ho1, hb⟩; refine ⟨_, rfl, ?_⟩; replace HO_237000 := am_ (Kd.V_below (vF_ HO_237000.out) hb); replace HO_237001 := am_ (Kd.V_below (vF_ HO_237001.out) hb); have HO256 := am_ (Kd.V_lower (Kd.V_mono (ok' := fun k_ => some k_ ≠ (u6 : Value).ownBlock ∧ some k_ ≠ (.slice Ao32 t250.length co32 : Value).ownBlock ∧ k_ ≠ gb228 ∧ k_ ≠ gb236 ∧ k_ ≠ gb245) ho0 (fun k_ hk_ => ⟨Or.elim hk_ (fun hs_ => Or.elim hs_ (fun hs_ => hs_.1.1.1) (fun hs_ => hs_.1.1.1)) (fun hn_ => (Kd.fresh' (Kd.R_lt (kr_ HO_6.out)) k_ hn_)), Or.elim hk_ (fun hs_ => Or.elim hs_ (fun hs_ => hs_.2) (fun hs_ => hs_.2)) (fun hn_ => (Kd.fresh' (Kd.R_lt (kr_ HO252.out)) k_ hn_)), Or.elim hk_ (fun hs_ => Or.elim hs_ (fun hs_ => hs_.1.1.2.1) (fun hs_ => hs_.1.1.2.1)) (fun hn_ => (Kd.freshB (g := gb228) (o := .cells #[.slice none 0 0, .slice none 0 0, .int .i64 x229002_1] 33 (0, 0)) (kb_ BK228.out) k_ hn_)), Or.elim hk_ (fun hs_ => Or.elim hs_ (fun hs_ => hs_.1.1.2.2) (fun hs_ => hs_.1.1.2.2)) (fun hn_ => (Kd.freshB (g := gb236) (o := .cells #[.slice Ao37 x237000_1.length co37, .slice Ao38 x237001_1.length co38, .int .i64 x237002_1] 33 (0, 0)) (kb_ BK236.out) k_ hn_)), Or.elim hk_ (fun hs_ => Or.elim hs_ (fun hs_ => hs_.1.2) (fun hs_ => hs_.1.2)) (fun hn_ => (Kd.freshB (g := gb245) (o := .cells #[.int .i64 ((rd_T57 l0 x19_1).f0), .int .i64 ((rd_T57 l0 x19_1).f1), .int .i64 ((rd_T57 l0 x19_1).f2), .slice A244_3 ((rd_T57 l0 x19_1).f3).length c244_3] 57 (0, 0)) (kb_ BK245.out) k_ hn_))⟩)) (below_size (hs3_ GE228.out GE236.out GE245.out))); have HO259 := am_ (Kd.V_lower (Kd.V_mono (ok' := fun k_ => some k_ ≠ (u6 : Value).ownBlock ∧ some k_ ≠ (.slice Ao32 t250.length co32 : Value).ownBlock ∧ k_ ≠ gb228 ∧ k_ ≠ gb236 ∧ k_ ≠ gb245) ho1 (fun k_ hk_ => ⟨Or.elim hk_ (fun hs_ => Or.elim hs_ (fun hs_ => hs_.1.1.1) (fun hs_ => hs_.1.1.1)) (fun hn_ => (Kd.fresh' (Kd.R_lt (kr_ HO_6.out)) k_ hn_)), Or.elim hk_ (fun hs_ => Or.elim hs_ (fun hs_ => hs_.2) (fun hs_ => hs_.2)) (fun hn_ => (Kd.fresh' (Kd.R_lt (kr_ HO252.out)) k_ hn_)), Or.elim hk_ (fun hs_ => Or.elim hs_ (fun hs_ => hs_.1.1.2.1) (fun hs_ => hs_.1.1.2.1)) (fun hn_ => (Kd.freshB (g := gb228) (o := .cells #[.slice none 0 0, .slice none 0 0, .int .i64 x229002_1] 33 (0, 0)) (kb_ BK228.out) k_ hn_)), Or.elim hk_ (fun hs_ => Or.elim hs_ (fun hs_ => hs_.1.1.2.2) (fun hs_ => hs_.1.1.2.2)) (fun hn_ => (Kd.freshB (g := gb236) (o := .cells #[.slice Ao37 x237000_1.length co37, .slice Ao38 x237001_1.length co38, .int .i64 x237002_1] 33 (0, 0)) (kb_ BK236.out) k_ hn_)), Or.elim hk_ (fun hs_ => Or.elim hs_ (fun hs_ => hs_.1.2) (fun hs_ => hs_.1.2)) (fun hn_ => (Kd.freshB (g := gb245) (o := .cells #[.int .i64 ((rd_T57 l0 x19_1).f0), .int .i64 ((rd_T57 l0 x19_1).f1), .int .i64 ((rd_T57 l0 x19_1).f2), .slice A244_3 ((rd_T57 l0 x19_1).f3).length c244_3] 57 (0, 0)) (kb_ BK245.out) k_ hn_))⟩)) (below_size (hs3_ GE228.out GE236.out GE245.out))); replace HO_6 := rB_ HO_6 hb; replace HO252 := rB_ HO252 hb; replace BK228 := bK_ BK228 hb; replace BK236 := bK_ BK236 hb; replace BK245 := bK_ BK245 hb; replace HB := nc3_ GE228 GE236 GE245 hb; (try clear hb); (try clear hb2); (try clear hk); (try clear hi); (try clear ho0); (try clear ho1)) | ((with_reducible refine gate_dst (N := 9) rfl ?_); refine bq_ (N := 9) #[.slice none 0 0, .slice none 0 0, .int .i64 0] 33 ?_; intro gb263 hg w40 BK263 hb; replace HO_6 := rB_ HO_6 hb; replace HO_237000 := am_ (Kd.V_below (Kd.V_elderB (vF_ HO_237000.out) gb263 (Nat.le_of_eq hg.symm)) hb); replace HO_237001 := am_ (Kd.V_below (Kd.V_elderB (vF_ HO_237001.out) gb263 (Nat.le_of_eq hg.symm)) hb); replace HO252 := rB_ HO252 hb; replace HO256 := am_ (Kd.V_below (Kd.V_elderB (vF_ HO256.out) gb263 (Nat.le_of_eq hg.symm)) hb); replace HO259 := am_ (Kd.V_below (Kd.V_elderB (vF_ HO259.out) gb263 (Nat.le_of_eq hg.symm)) hb); have GE263 := ge3_ hg GE228 GE236 GE245; replace HB := nc3_ GE228 GE236 GE245 hb; have NB228_263 := nl_ BK228 hg; have NB263_228 := ng_ BK228 hg; replace BK228 := bK_ BK228 hb; have NB236_263 := nl_ BK236 hg; have NB263_236 := ng_ BK236 hg; replace BK236 := bK_ BK236 hb; have NB245_263 := nl_ BK245 hg; have NB263_245 := ng_ BK245 hg; replace BK245 := bK_ BK245 hb; clear hb hg; obtain ⟨Ao41, co41, eo41⟩ := Kd.V_slice HO256.out; subst eo41; have hnb42 := NB263_228.out; have hnc42 := NB228_263.out; have hnb43 := NB263_236.out; have hnc43 := NB236_263.out; have hnb44 := NB263_245.out; have hnc44 := NB245_263.out; obtain ⟨hcz45_0, hcz45_1, hcz45_2, hfz45_0, hfz45_1, hfz45_2⟩ := cf3_ BK263.out; obtain ⟨Ao46, co46, eo46⟩ := Kd.V_slice HO259.out; subst eo46; obtain ⟨hcz47_0, hcz47_1, hcz47_2, hfz47_0, hfz47_1, hfz47_2⟩ := cf3_ BK236.out) | ((with_reducible refine gate_builtin (b := .append) (xs := #[.tmp 37, .tmp 39]) rfl ?_); at_builtin; refine Kd.R_append (Kd.int .i64) (w0 := w) w.heap.size rfl (.tmp 37) (.tmp 39) 42 3 (.int .i64 0) 8 rfl Try.underlying42 info3 rfl (by decide) (by omega) u6 x6_1 t261 [.int .i64 t261] (fun _ => True) (fun _ => False) rfl (by first | (go_simp; done) | (go_simp; rfl)) ?aP (fun _ hk => hk.elim) ?aF ?aO ?aB ?aS ?aL ?_; (case aP => exact rfl); (case aB => exact (hs4_ GE228.out GE236.out GE245.out GE263.out)); (case aF => exact (fun _ _ => trivial)); (case aO => exact (Kd.R_mono (rF_ (Kd.R_far (p := ⟨gb263, 2, none⟩) (Kd.R_far (p := ⟨gb263, 1, none⟩) (Kd.R_far (p := ⟨gb263, 0, none⟩) (Kd.R_types (Kd.R_types HO_6.out BK263.out (by decide)) BK236.out (by decide)) (fun _ hk => hk.1.2) (.slice Ao41 t254.length co41)) (fun _ hk => hk.1.2) (.slice Ao46 t257.length co46)) (fun _ hk => hk.1.2) (.int .i64 t260))) (fun _ hk => trivial))); (case aS => exact (below_size (hs4_ GE228.out GE236.out GE245.out GE263.out))); (case aL => have := LMc26.out; omega); intro v265 w48 ho hb hg hat; rw [← Ny264.out] at ho; replace HO_237000 := am_ (Kd.V_afterv (ok := (fun k_ => some k_ ≠ (.slice Ao32 t250.length co32 : Value).ownBlock ∧ k_ ≠ gb228 ∧ k_ ≠ gb236 ∧ k_ ≠ gb245 ∧ k_ ≠ gb263)) (Kd.V_mono (vF_ (Kd.V_far (p := ⟨gb263, 2, none⟩) (Kd.V_far (p := ⟨gb263, 1, none⟩) (Kd.V_far (p := ⟨gb263, 0, none⟩) (Kd.V_mono (Kd.V_mono HO_237000.out (fun k_ hk => (⟨hk, hk.2⟩ : _ ∧ k_ ≠ gb263))) (fun k_ hk => (⟨hk, hk.1.1.1.1.2.2⟩ : _ ∧ k_ ≠ gb236))) (fun _ hk => hk.1.2) (.slice Ao41 t254.length co41)) (fun _ hk => hk.1.2) (.slice Ao46 t257.length co46)) (fun _ hk => hk.1.2) (.int .i64 t260))) (fun _ hk => ⟨⟨hk.1.1.1.2, ⟨hk.1.1.1.1.1.2.1, ⟨hk.1.1.1.1.1.2.2, ⟨hk.1.1.1.1.2, hk.1.1.2⟩⟩⟩⟩, hk.1.1.1.1.1.1⟩)) hg hat); replace HO_237001 := am_ (Kd.V_afterv (ok := (fun k_ => some k_ ≠ (.slice Ao32 t250.length co32 : Value).ownBlock ∧ k_ ≠ gb228 ∧ k_ ≠ gb236 ∧ k_ ≠ gb245 ∧ k_ ≠ gb263)) (Kd.V_mono (vF_ (Kd.V_far (p := ⟨gb263, 2, none⟩) (Kd.V_far (p := ⟨gb263, 1, none⟩) (Kd.V_far (p := ⟨gb263, 0, none⟩) (Kd.V_mono (Kd.V_mono HO_237001.out (fun k_ hk => (⟨hk, hk.2⟩ : _ ∧ k_ ≠ gb263))) (fun k_ hk => (⟨hk, hk.1.1.1.1.2.2⟩ : _ ∧ k_ ≠ gb236))) (fun _ hk => hk.1.2) (.slice Ao41 t254.length co41)) (fun _ hk => hk.1.2) (.slice Ao46 t257.length co46)) (fun _ hk => hk.1.2) (.int .i64 t260))) (fun _ hk => ⟨⟨hk.1.1.1.2, ⟨hk.1.1.1.1.1.2.1, ⟨hk.1.1.1.1.1.2.2, ⟨hk.1.1.1.1.2, hk.1.1.2⟩⟩⟩⟩, hk.1.1.1.1.1.1⟩)) hg hat); replace BK228 := am_ (blk_grown (g := gb228) (o := .cells #[.slice none 0 0, .slice none 0 0, .int .i64 x229002_1] 33 (0, 0)) (ug_ BK228 NB228_236.out NB228_263.out) hg (Kd.R_ne HO_6.out BK228.out (by decide))); replace BK245 := am_ (blk_grown (g := gb245) (o := .cells #[.int .i64 ((rd_T57 l0 x19_1).f0), .int .i64 ((rd_T57 l0 x19_1).f1), .int .i64 ((rd_T57 l0 x19_1).f2), .slice A244_3 ((rd_T57 l0 x19_1).f3).length c244_3] 57 (0, 0)) (ug_ BK245 NB245_236.out NB245_263.out) hg (Kd.R_ne HO_6.out BK245.out (by decide))); replace HO252 := am_ (Kd.R_over' ((Kd.R_mono (Kd.R_mono (rF_ (Kd.R_far (p := ⟨gb263, 2, none⟩) (Kd.R_far (p := ⟨gb263, 1, none⟩) (Kd.R_far (p := ⟨gb263, 0, none⟩) (Kd.R_types (Kd.R_types HO252.out BK263.out (by decide)) BK236.out (by decide)) (fun _ hk => hk.1.2) (.slice Ao41 t254.length co41)) (fun _ hk => hk.1.2) (.slice Ao46 t257.length co46)) (fun _ hk => hk.1.2) (.int .i64 t260))) (fun _ h_ => h_.1)) (fun _ h_ => h_.1))) (Kd.R_typed ((Kd.R_mono (Kd.R_mono (rF_ (Kd.R_far (p := ⟨gb263, 2, none⟩) (Kd.R_far (p := ⟨gb263, 1, none⟩) (Kd.R_far (p := ⟨gb263, 0, none⟩) (Kd.R_types (Kd.R_types HO_6.out BK263.out (by decide)) BK236.out (by decide)) (fun _ hk => hk.1.2) (.slice Ao41 t254.length co41)) (fun _ hk => hk.1.2) (.slice Ao46 t257.length co46)) (fun _ hk => hk.1.2) (.int .i64 t260))) (fun _ h_ => h_.1)) (fun _ h_ => h_.1)))) (by decide) hg); replace BK236 := am_ (blk_grown (g := gb236) (o := .cells #[.slice Ao41 t254.length co41, .slice Ao46 t257.length co46, .int .i64 t260] 33 (0, 0)) (by (with_reducible repeat (first | refine blk_drewN ?_ _ | refine blk_drew ?_ | refine blk_alloc ?_ _)); refine blk_put (cs := #[.slice Ao41 t254.length co41, .slice Ao46 t257.length co46, .int .i64 x237002_1]) ?_ 2 _ rfl; (with_reducible repeat (first | refine blk_drewN ?_ _ | refine blk_drew ?_ | refine blk_alloc ?_ _)); refine blk_put (cs := #[.slice Ao41 t254.length co41, .slice Ao38 x237001_1.length co38, .int .i64 x237002_1]) ?_ 1 _ rfl; (with_reducible repeat (first | refine blk_drewN ?_ _ | refine blk_drew ?_ | refine blk_alloc ?_ _)); refine blk_put (cs := #[.slice Ao37 x237000_1.length co37, .slice Ao38 x237001_1.length co38, .int .i64 x237002_1]) ?_ 0 _ rfl; (with_reducible repeat (first | refine blk_drewN ?_ _ | refine blk_drew ?_ | refine blk_alloc ?_ _)); refine blk_far ?_ NB236_263.out _; (with_reducible repeat (first | refine blk_drewN ?_ _ | refine blk_drew ?_ | refine blk_alloc ?_ _)); refine blk_far ?_ NB236_263.out _; (with_reducible repeat (first | refine blk_drewN ?_ _ | refine blk_drew ?_ | refine blk_alloc ?_ _)); refine blk_far ?_ NB236_263.out _; (with_reducible repeat (first | refine blk_drewN ?_ _ | refine blk_drew ?_ | refine blk_alloc ?_ _)); exact BK236.out) hg (Kd.R_ne HO_6.out BK236.out (by decide))); replace HO256 := am_ (Kd.V_afterv (ok := (fun k_ => some k_ ≠ (.slice Ao32 t250.length co32 : Value).ownBlock ∧ k_ ≠ gb228 ∧ k_ ≠ gb236 ∧ k_ ≠ gb245 ∧ k_ ≠ gb263)) (Kd.V_mono (vF_ (Kd.V_far (p := ⟨gb263, 2, none⟩) (Kd.V_far (p := ⟨gb263, 1, none⟩) (Kd.V_far (p := ⟨gb263, 0, none⟩) (Kd.V_mono (Kd.V_mono HO256.out (fun k_ hk => (⟨hk, hk.2⟩ : _ ∧ k_ ≠ gb263))) (fun k_ hk => (⟨hk, hk.1.1.2.2.2.1⟩ : _ ∧ k_ ≠ gb236))) (fun _ hk => hk.1.2) (.slice Ao41 t254.length co41)) (fun _ hk => hk.1.2) (.slice Ao46 t257.length co46)) (fun _ hk => hk.1.2) (.int .i64 t260))) (fun _ hk => ⟨⟨hk.1.1.1.2.1, ⟨hk.1.1.1.2.2.1, ⟨hk.1.1.1.2.2.2.1, ⟨hk.1.1.1.2.2.2.2, hk.1.1.2⟩⟩⟩⟩, hk.1.1.1.1⟩)) hg hat); replace HO259 := am_ (Kd.V_afterv (ok := (fun k_ => some k_ ≠ (.slice Ao32 t250.length co32 : Value).ownBlock ∧ k_ ≠ gb228 ∧ k_ ≠ gb236 ∧ k_ ≠ gb245 ∧ k_ ≠ gb263)) (Kd.V_mono (vF_ (Kd.V_far (p := ⟨gb263, 2, none⟩) (Kd.V_far (p := ⟨gb263, 1, none⟩) (Kd.V_far (p := ⟨gb263, 0, none⟩) (Kd.V_mono (Kd.V_mono HO259.out (fun k_ hk => (⟨hk, hk.2⟩ : _ ∧ k_ ≠ gb263))) (fun k_ hk => (⟨hk, hk.1.1.2.2.2.1⟩ : _ ∧ k_ ≠ gb236))) (fun _ hk => hk.1.2) (.slice Ao41 t254.length co41)) (fun _ hk => hk.1.2) (.slice Ao46 t257.length co46)) (fun _ hk => hk.1.2) (.int .i64 t260))) (fun _ hk => ⟨⟨hk.1.1.1.2.1, ⟨hk.1.1.1.2.2.1, ⟨hk.1.1.1.2.2.2.1, ⟨hk.1.1.1.2.2.2.2, hk.1.1.2⟩⟩⟩⟩, hk.1.1.1.1⟩)) hg hat); replace BK263 := am_ (blk_grown (g := gb263) (o := .cells #[.slice Ao41 t254.length co41, .slice Ao46 t257.length co46, .int .i64 t260] 33 (0, 0)) (by (with_reducible repeat (first | refine blk_drewN ?_ _ | refine blk_drew ?_ | refine blk_alloc ?_ _)); refine blk_far ?_ NB263_236.out _; (with_reducible repeat (first | refine blk_drewN ?_ _ | refine blk_drew ?_ | refine blk_alloc ?_ _)); refine blk_far ?_ NB263_236.out _; (with_reducible repeat (first | refine blk_drewN ?_ _ | refine blk_drew ?_ | refine blk_alloc ?_ _)); refine blk_far ?_ NB263_236.out _; (with_reducible repeat (first | refine blk_drewN ?_ _ | refine blk_drew ?_ | refine blk_alloc ?_ _)); refine blk_put (cs := #[.slice Ao41 t254.length co41, .slice Ao46 t257.length co46, .int .i64 0]) ?_ 2 _ rfl; (with_reducible repeat (first | refine blk_drewN ?_ _ | refine blk_drew ?_ | refine blk_alloc ?_ _)); refine blk_put (cs := #[.slice Ao41 t254.length co41, .slice none 0 0, .int .i64 0]) ?_ 1 _ rfl; (with_reducible repeat (first | refine blk_drewN ?_ _ | refine blk_drew ?_ | refine blk_alloc ?_ _)); refine blk_put (cs := #[.slice none 0 0, .slice none 0 0, .int .i64 0]) ?_ 0 _ rfl; (with_reducible repeat (first | refine blk_drewN ?_ _ | refine blk_drew ?_ | refine blk_alloc ?_ _)); exact BK263.out) hg (Kd.R_ne HO_6.out BK263.out (by decide))); replace HB := am_ (hb); have HO266 := am_ (ho); clear HO_6; clear ho hb hg hat))
   go_roundg k1
   case measure => have := HK1.out; omega
   case rel => exact ⟨(y264), (wrap64 (x19_1 + 1)), (x229002_1), (t254), (t257), (t260), (.slice Ao41 t254.length co41), (.slice Ao46 t257.length co46), sr_, H', ⟨by have := HK1.out; omega⟩, ⟨kr_ HO266.out⟩, ⟨vF_ (Kd.V_mono HO256.out (fun _ hk => ⟨hk.2, ⟨hk.1.2.1, hk.1.2.2.1⟩⟩))⟩, ⟨vF_ (Kd.V_mono HO259.out (fun _ hk => ⟨hk.2, ⟨hk.1.2.1, hk.1.2.2.1⟩⟩))⟩, ⟨kb_ BK228.out⟩, ⟨kb_ BK236.out⟩, ⟨hs4_ GE228.out GE236.out GE245.out GE263.out⟩⟩

/-! ### laws_toStringS: function 62 -/
def laws_toStringS.l0 : Nat → List ByteArray → List ByteArray → Int → Option (List ByteArray)
 | 0, _, _, _ => none
 | k + 1, x0, x3, x4 => if x4 < (x0.length : Int) then (if 0 ≤ x4 then (if x4 < (x3.length : Int) then (laws_toStringS.l0 k x0 (x3.set (x4 : Int).toNat (rdOf ByteArray.empty x0 x4)) (wrap64 (x4 + 1))) else (none)) else (none)) else (some x3)
def laws_toStringS.f (k : Nat) (l0 : List ByteArray) : Option (List ByteArray) := if 0 ≤ (l0.length : Int) then (if ((l0.length : Int) : Int).toNat ≤ 17592186044416 then (laws_toStringS.l0 k l0 (List.replicate ((l0.length : Int) : Int).toNat (⟨#[]⟩ : ByteArray)) 0) else (none)) else (none)
theorem laws_toStringS.mono_l : ∀ k, (∀ y0 y1 y2, LeO (laws_toStringS.l0 k y0 y1 y2) (laws_toStringS.l0 (k + 1) y0 y1 y2))
 | 0 => fun _ _ _ r h => by simp [laws_toStringS.l0] at h
 | k + 1 => by
  have ih0 := laws_toStringS.mono_l k
  ·intro y0 y1 y2
   unfold laws_toStringS.l0
   repeat' first
   | (with_reducible first | apply ih0 | exact LeO.refl _ | exact LeO.none _ | refine LeO.ite ?_ ?_ | refine LeO.bind ?_ (fun _ => ?_))
theorem laws_toStringS.mono : ∀ a0 k, LeO (laws_toStringS.f k a0) (laws_toStringS.f (k + 1) a0) := by
 intro a0 k
 have ih0 := laws_toStringS.mono_l k
 unfold laws_toStringS.f
 repeat' first
   | (with_reducible first | apply ih0 | exact LeO.refl _ | exact LeO.none _ | refine LeO.ite ?_ ?_ | refine LeO.bind ?_ (fun _ => ?_))
set_option maxHeartbeats 8000000 in
set_option maxRecDepth 100000 in
theorem laws_toStringS.calls (k : Nat) (A0 : Option Addr) (c0 : Nat) (l0 : List ByteArray) (r : List ByteArray) (w : World) (hr0 : Kd.C Kd.string w A0 l0.length l0) (hc0 : l0.length ≤ c0) (h : laws_toStringS.f k l0 = some r) :
  Calls Try.prog 62 #[.slice A0 l0.length c0] w fun e w' => ∃ v0_ : Value, e = .returned (v0_) ∧ Kd.R Kd.string 9 w' w.heap.size (fun _ => True) v0_ r ∧ Below w.heap.size w w' := by
 have HR0 := am_ hr0
 have HC0 := am_ hc0
 clear hr0 hc0
 have HB := am_ (Below.refl w.heap.size w)
 have H : (if 0 ≤ (l0.length : Int) then (if ((l0.length : Int) : Int).toNat ≤ 17592186044416 then (laws_toStringS.l0 k l0 (List.replicate ((l0.length : Int) : Int).toNat (⟨#[]⟩ : ByteArray)) 0) else (none)) else (none)) = some r := h
 clear h
 replace H := ifs_ H
 obtain ⟨c2, H⟩ := H
 have c2b0 := eq_true c2
 have c2b1 := decide_eq_true c2
 clear c2
 replace H := ifs_ H
 obtain ⟨c3, H⟩ := H
 have c3b0 := eq_true c3
 have c3b1 := decide_eq_true c3
 clear c3
 obtain ⟨y267, hy267⟩ : ∃ y_ : List ByteArray, y_ = (List.replicate ((l0.length : Int) : Int).toNat (⟨#[]⟩ : ByteArray)) := ⟨_, rfl⟩
 replace H : (laws_toStringS.l0 k l0 y267 0) = some r := by first | (rw [hy267]; with_reducible exact H) | (have H2_ := (Option.bind_some _ _).symm.trans H; rw [hy267]; with_reducible exact H2_) | (have H2_ := (Option.bind_some _ _).symm.trans H; with_reducible exact H2_) | with_reducible exact H | (rw [hy267]; exact H) | exact H
 have Ny267 := am_ hy267
 clear hy267
 have H' := am_ H
 clear H
 go_enter Try.func62, Try.ntmps62
 go_wp2_with (first | ((with_reducible refine gate_dst (N := 7) rfl ?_); refine Kd.R_make Kd.string _ 9 rfl (N := 7) rfl 27 _ _ rfl (l0.length : Int) rfl rfl Try.underlying27 (.string ⟨#[]⟩) 16 info9 rfl (by decide) (by omega) (⟨#[]⟩ : ByteArray) (ok := fun _ => True) (okp := fun _ => True) rfl (fun _ hk => hk) trivial (oa_) (Nat.le_trans (Nat.mul_le_mul_right _ (oa_ : (l0.length : Int).toNat ≤ 17592186044416)) (by omega)) (Below.refl _ _) (Nat.le_refl _) ?_; intro v268 w4 ho5 hb hg_ hnew_; clear hg_ hnew_; (first | rw [← Ny267.out] at ho5 | (simp only [Int.reduceToNat] at ho5; rw [← Ny267.out] at ho5)); have HO269 := am_ (Kd.R_lower ho5 (below_size (hb_))); replace HB := nb_ hb; clear hb ho5))
 go_loopg [4] k (fun kq v4 w' => ∃ (x3_1 : List ByteArray) (x4_1 : Int), v4 = .int .i64 x4_1 ∧ Aside0 (laws_toStringS.l0 kq l0 x3_1 x4_1 = some r) ∧ Aside0 (kq ≤ k) ∧ Aside0 (Kd.R Kd.string 9 w' w.heap.size (fun _ => True) v268 x3_1) ∧ Aside0 (Below w.heap.size w w'))
 case atStart => exact ⟨(y267), (0), sr_, H', ⟨Nat.le_refl _⟩, ⟨kr_ HO269.out⟩, ⟨hb_⟩⟩
 case round =>
  clear H'
  try clear c2
  try clear c2b0
  try clear c2b1
  try clear c3
  try clear c3b0
  try clear c3b1
  obtain ⟨x3_1, x4_1, rfl, HA, HK1, HO_3, HB⟩ := hrel
  cases gk with
  | zero => exact absurd HA.out (by simp [laws_toStringS.l0])
  | succ k1 =>
   have H := HA.out
   clear HA
   simp only [laws_toStringS.l0] at H
   replace H := ite_ H
   obtain ⟨c6, H⟩ | ⟨c6, H⟩ := H
   rotate_left
   ·have c6b0 := decide_eq_false c6
    clear c6
    obtain rfl := Option.some.inj H
    go_wp2
    go_ret
    exact ⟨_, er_, kr_ HO_3.out, hb_⟩
   have c6b0 := decide_eq_true c6
   clear c6
   replace H := ifs_ H
   obtain ⟨c7, H⟩ := H
   have c7b0 := decide_eq_true c7
   clear c7
   replace H := ifs_ H
   obtain ⟨c8, H⟩ := H
   have c8b0 := decide_eq_true c8
   clear c8
   obtain ⟨y271, hy271⟩ : ∃ y_ : List ByteArray, y_ = (x3_1.set (x4_1 : Int).toNat (rdOf ByteArray.empty l0 x4_1)) := ⟨_, rfl⟩
   replace H : (laws_toStringS.l0 k1 l0 y271 (wrap64 (x4_1 + 1))) = some r := by first | (rw [hy271]; with_reducible exact H) | (have H2_ := (Option.bind_some _ _).symm.trans H; rw [hy271]; with_reducible exact H2_) | (have H2_ := (Option.bind_some _ _).symm.trans H; with_reducible exact H2_) | with_reducible exact H | (rw [hy271]; exact H) | exact H
   have Ny271 := am_ hy271
   clear hy271
   have H' := am_ H
   clear H
   have p270 : 0 ≤ (x4_1 : Int) := oa_
   have q270 : x4_1 < (l0.length : Int) := oa_
   obtain ⟨ad270, e270, hx270_0⟩ := Kd.at_string HR0.out x4_1 p270 q270
   cases e270
   replace hx270_0 := pc_ HB.out hx270_0
   replace p270 := eq_true p270
   replace q270 := eq_true q270
   have p9 : 0 ≤ (x4_1 : Int) := oa_
   have q9 : (x4_1 : Int) < ((x3_1.length : Int) : Int) := oa_
   obtain ⟨go9, co9, eo9, gb9, gl9, cl9, HG9⟩ := Kd.R_form HO_3.out (by omega)
   (first | cases eo9 | (injection eo9 with ea_ en_ ec_; (first | subst ea_ | (injection ea_ with ea_; subst ea_)); subst ec_; clear en_))
   have GB9 := am_ gb9
   have GG9 := am_ HG9
   clear gb9 gl9 HG9
   obtain ⟨hx9_0, hf9_0⟩ := Kd.R_celln (⟨#[]⟩ : ByteArray) HO_3.out (x4_1 : Int) p9 q9
   replace p9 := eq_true p9
   replace q9 := eq_true q9
   have HP10 := Kd.R_putg HO_3.out (x4_1 : Int) (rdOf ByteArray.empty l0 x4_1)
   go_wp2_with (first | ((with_reducible refine gate_store (t := 9) (p := 20) rfl ?_); refine store_event (t := 9) (p := 20) (v := ?vo_w11) (w1 := (wr.setCell ⟨go9, (x4_1 : Int).toNat, none⟩ (.string (rdOf ByteArray.empty l0 x4_1)))) ?hg ?ho ?hn ?hr ?_; (case ho => rfl); (case hg => rfl); (case hn => rfl); (case hr => first | (go_simp; done) | (go_simp; rfl)); intro w11 hw; have hg : wr.grownBy w11 (some go9) := (by rw [hw]; exact HP10.2); have hp_ : Kd.R Kd.string 9 w11 w.heap.size (fun _ => True) (.slice (some ⟨go9, 0, none⟩) x3_1.length co9) y271 := (by rw [hw, Ny271.out]; exact HP10.1); clear HP10; replace HO_3 := am_ (hp_); replace HB := am_ ((by rw [hw]; exact below_set (HB.out) GB9.out : Below w.heap.size w w11)); clear hg hw hp_))
   go_roundg k1
   case measure => have := HK1.out; omega
   case rel => exact ⟨(y271), (wrap64 (x4_1 + 1)), sr_, H', ⟨by have := HK1.out; omega⟩, ⟨kr_ HO_3.out⟩, ⟨hb_⟩⟩

/-! ### laws_toAsk: function 31 -/
def laws_toAsk.f (k : Nat) (a0_0 : Int) (a0_1 : Int) (a0_2 : Int) (l0_3 : List ByteArray) : Option (Int × Int × Int × List ByteArray) := (laws_toStringS.f k l0_3).bind fun t275 => (some (a0_0, a0_1, a0_2, t275))
theorem laws_toAsk.mono : ∀ a0 a1 a2 a3 k, LeO (laws_toAsk.f k a0 a1 a2 a3) (laws_toAsk.f (k + 1) a0 a1 a2 a3) := by
 intro a0 a1 a2 a3 k
 unfold laws_toAsk.f
 repeat' first
   | (with_reducible first | apply laws_toStringS.mono | exact LeO.refl _ | exact LeO.none _ | refine LeO.ite ?_ ?_ | refine LeO.bind ?_ (fun _ => ?_))
set_option maxHeartbeats 8000000 in
set_option maxRecDepth 100000 in
theorem laws_toAsk.calls (k : Nat) (a0_0 : Int) (a0_1 : Int) (a0_2 : Int) (A0_3 : Option Addr) (c0_3 : Nat) (l0_3 : List ByteArray) (r1 : Int) (r2 : Int) (r3 : Int) (r4 : List ByteArray) (w : World) (hr0_3 : Kd.C Kd.string w A0_3 l0_3.length l0_3) (hc0_3 : l0_3.length ≤ c0_3) (h : laws_toAsk.f k a0_0 a0_1 a0_2 l0_3 = some (r1, r2, r3, r4)) :
  Calls Try.prog 31 #[.agg #[.int .i64 a0_0, .int .i64 a0_1, .int .i64 a0_2, .slice A0_3 l0_3.length c0_3]] w fun e w' => ∃ v3_ : Value, e = .returned (.agg #[.int .i64 r1, .int .i64 r2, .int .i64 r3, v3_]) ∧ Kd.R Kd.string 9 w' w.heap.size (fun _ => True) v3_ r4 ∧ Below w.heap.size w w' := by
 have hu53 := Try.underlying53
 have hu57 := Try.underlying57
 have HR0_3 := am_ hr0_3
 have HC0_3 := am_ hc0_3
 clear hr0_3 hc0_3
 have HB := am_ (Below.refl w.heap.size w)
 have H : ((laws_toStringS.f k l0_3).bind fun t275 => (some (a0_0, a0_1, a0_2, t275))) = some (r1, r2, r3, r4) := h
 clear h
 replace H := bnd_ H
 obtain ⟨t275, A2, H⟩ := H
 simp only [Option.some.injEq, Prod.mk.injEq] at H
 obtain ⟨rfl, rfl, rfl, rfl⟩ := H
 go_enter Try.func31, Try.ntmps31
 go_wp2_with (first | ((with_reducible refine gate_dst (N := 1) rfl ?_); refine bq_ (N := 1) #[.int .i64 a0_0, .int .i64 a0_1, .int .i64 a0_2, .slice A0_3 l0_3.length c0_3] 53 ?_; intro gb272 hg w3 BK272 hb; have GE272 := ge_ hg; replace HB := nb_ hb; clear hb hg) | ((with_reducible refine gate_dst (N := 2) rfl ?_); refine bq_ (N := 2) #[.int .i64 0, .int .i64 0, .int .i64 0, .slice none 0 0] 57 ?_; intro gb273 hg w4 BK273 hb; have GE273 := ge1_ hg GE272; replace HB := nc_ GE272 hb; have NB272_273 := nl_ BK272 hg; have NB273_272 := ng_ BK272 hg; replace BK272 := bK_ BK272 hb; clear hb hg) | ((with_reducible refine gate_dst (N := 3) rfl ?_); refine bq_ (N := 3) #[.int .i64 0, .int .i64 0, .int .i64 0, .slice none 0 0] 57 ?_; intro gb274 hg w5 BK274 hb; have GE274 := ge2_ hg GE272 GE273; replace HB := nc2_ GE272 GE273 hb; have NB272_274 := nl_ BK272 hg; have NB274_272 := ng_ BK272 hg; replace BK272 := bK_ BK272 hb; have NB273_274 := nl_ BK273 hg; have NB274_273 := ng_ BK273 hg; replace BK273 := bK_ BK273 hb; clear hb hg; have hnb6 := NB272_273.out; have hnc6 := NB273_272.out; have hnb7 := NB272_274.out; have hnc7 := NB274_272.out; obtain ⟨hcz8_0, hcz8_1, hcz8_2, hcz8_3, hfz8_0, hfz8_1, hfz8_2, hfz8_3⟩ := cf4_ BK272.out; have hnb9 := NB274_273.out; have hnc9 := NB273_274.out; obtain ⟨hcz10_0, hcz10_1, hcz10_2, hcz10_3, hfz10_0, hfz10_1, hfz10_2, hfz10_3⟩ := cf4_ BK274.out) | ((with_reducible refine gate_callee (f := 62) rfl ?_); refine gl_ 15 Try.func62 #[.slice A0_3 l0_3.length c0_3] rfl ma_ ?_; (with_reducible refine (laws_toStringS.calls k _ _ l0_3 t275 _ ?side1 ?side2 A2.out).mono ?_); (case side1 => exact Kd.C_below HR0_3.out (hs3_ GE272.out GE273.out GE274.out)); (case side2 => exact HC0_3.out); rintro e w11 ⟨v276, rfl, ho0, hb⟩; refine ⟨_, rfl, ?_⟩; have HO277 := am_ (Kd.R_lower ho0 (below_size (hs3_ GE272.out GE273.out GE274.out))); replace BK272 := am_ (blk_below (g := gb272) (o := .cells #[.int .i64 a0_0, .int .i64 a0_1, .int .i64 a0_2, .slice A0_3 l0_3.length c0_3] 53 (0, 0)) (uf_ BK272 NB272_274.out) hb); replace BK273 := am_ (blk_below (g := gb273) (o := .cells #[.int .i64 0, .int .i64 0, .int .i64 0, .slice none 0 0] 57 (0, 0)) (uf_ BK273 NB273_274.out) hb); replace BK274 := am_ (blk_below (g := gb274) (o := .cells #[.int .i64 a0_0, .int .i64 a0_1, .int .i64 a0_2, .slice none 0 0] 57 (0, 0)) (up_ BK274) hb); replace HB := nc3_ GE272 GE273 GE274 hb; (try clear hb); (try clear hb2); (try clear hk); (try clear hi); (try clear ho0); obtain ⟨Ao12, co12, eo12⟩ := Kd.R_slice HO277.out; subst eo12; obtain ⟨hcz13_0, hcz13_1, hcz13_2, hcz13_3, hfz13_0, hfz13_1, hfz13_2, hfz13_3⟩ := cf4_ BK274.out; obtain ⟨hcz14_0, hcz14_1, hcz14_2, hcz14_3, hfz14_0, hfz14_1, hfz14_2, hfz14_3⟩ := cf4_ BK273.out))
 refine bodyPost_ret (results_cell_row rfl _ _ gb273 57 #[.int .i64 a0_0, .int .i64 a0_1, .int .i64 a0_2, .slice Ao12 t275.length co12] (0, 0) _ rfl (by (with_reducible repeat (first | refine blk_drewN ?_ _ | refine blk_drew ?_ | refine blk_alloc ?_ _)); refine blk_put (cs := #[.int .i64 a0_0, .int .i64 a0_1, .int .i64 a0_2, .slice none 0 0]) ?_ 3 _ rfl; (with_reducible repeat (first | refine blk_drewN ?_ _ | refine blk_drew ?_ | refine blk_alloc ?_ _)); refine blk_put (cs := #[.int .i64 a0_0, .int .i64 a0_1, .int .i64 0, .slice none 0 0]) ?_ 2 _ rfl; (with_reducible repeat (first | refine blk_drewN ?_ _ | refine blk_drew ?_ | refine blk_alloc ?_ _)); refine blk_put (cs := #[.int .i64 a0_0, .int .i64 0, .int .i64 0, .slice none 0 0]) ?_ 1 _ rfl; (with_reducible repeat (first | refine blk_drewN ?_ _ | refine blk_drew ?_ | refine blk_alloc ?_ _)); refine blk_put (cs := #[.int .i64 0, .int .i64 0, .int .i64 0, .slice none 0 0]) ?_ 0 _ rfl; (with_reducible repeat (first | refine blk_drewN ?_ _ | refine blk_drew ?_ | refine blk_alloc ?_ _)); refine blk_far ?_ NB273_274.out _; (with_reducible repeat (first | refine blk_drewN ?_ _ | refine blk_drew ?_ | refine blk_alloc ?_ _)); exact BK273.out) Try.underlying57 rfl (by kernel_rfl)) rfl ?_
 exact ⟨_, er_, Kd.R_mono (rF_ (Kd.R_far (p := ⟨gb274, 3, none⟩) (Kd.R_types (Kd.R_types HO277.out BK274.out (by decide)) BK273.out (by decide)) (fun _ hk => hk.1.2) (.slice Ao12 t275.length co12))) (fun _ hk => trivial), hs3_ GE272.out GE273.out GE274.out⟩
end Go.Proofs.Ytojdaolclcmalaa.QFnExactPlayAsks
