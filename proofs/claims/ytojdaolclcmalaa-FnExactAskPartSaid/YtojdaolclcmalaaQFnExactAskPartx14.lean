/- Functions that one statement reaches: of each a plain function, and the proof that calls come to it. Conditions: those that each contract names. Written by a program of this repository. -/
import Derived.Test.YtojdaolclcmalaaVAskParta
import Derived.Test.YtojdaolclcmalaaQFnExactAskPartx1
import Derived.Test.YtojdaolclcmalaaQFnExactAskPartx2
import Derived.Test.YtojdaolclcmalaaQFnExactAskPartx8
import Derived.Test.YtojdaolclcmalaaQFnExactAskPartx11
import Derived.Test.YtojdaolclcmalaaQFnExactAskPartx13
namespace Go.Proofs.Ytojdaolclcmalaa.QFnExactAskPart
open Go.RowKit Go.Proofs.YtojdaolclcmalaaW.PrintWords Go.Proofs.YtojdaolclcmalaaW.PrintLast Go.Proofs.YtojdaolclcmalaaW.PrintMore
attribute [local go_sem] max2_int min2_int max_two min_two max_three min_three max_four min_four Go.Proofs.YtojdaolclcmalaaW.PrintMore2.isSome_setCell   -- for this text's walks alone
set_option linter.unusedVariables false
set_option linter.unusedSimpArgs false

/-! ### spec_l5Own: function 58 -/
mutual
def spec_l5Own.l0 : Nat → List (S81) → Int → Int → List (S81) → List (S78) → Int → List (S81) → Int → Option ((List (S81)) × (List (S78)) × Int)
 | 0, _, _, _, _, _, _, _, _ => none
 | k + 1, x12, x13, x14, x285000, x285001, x285002, x287000, x287002 => if x14 < x13 then (if 0 ≤ x14 then (if x14 < (x12.length : Int) then ((some (([] : List (S112)) : List (S112))).bind fun y289 => (if y289.length + ((rd_T81 x12 x14).f3).length < 5864062014805 then (if x287000.length < 2932031007402 then (spec_l5Own.l0 k x12 x13 (wrap64 (x14 + 1)) x285000 x285001 x285002 (x287000 ++ [(⟨(rd_T81 x12 x14).f0, (rd_T81 x12 x14).f1, (rd_T81 x12 x14).f2, (y289 ++ ((rd_T81 x12 x14).f3))⟩ : S81)]) x287002) else (none)) else (none))) else (none)) else (none)) else (spec_l5Own.l1 k x285001 (x285001.length : Int) 0 x287000 ([] : List (S78)) x287002)
def spec_l5Own.l1 : Nat → List (S78) → Int → Int → List (S81) → List (S78) → Int → Option ((List (S81)) × (List (S78)) × Int)
 | 0, _, _, _, _, _, _ => none
 | k + 1, x31, x32, x33, x287000, x287001, x287002 => if x33 < x32 then (if 0 ≤ x33 then (if x33 < (x31.length : Int) then ((some (([] : List ByteArray) : List ByteArray)).bind fun y300 => (if y300.length + ((rd_T78 x31 x33).f4).length < 8796093022208 then (if x287001.length < 2513169434916 then (spec_l5Own.l1 k x31 x32 (wrap64 (x33 + 1)) x287000 (x287001 ++ [(⟨(rd_T78 x31 x33).f0, (rd_T78 x31 x33).f1, (rd_T78 x31 x33).f2, (rd_T78 x31 x33).f3, (y300 ++ ((rd_T78 x31 x33).f4))⟩ : S78)]) x287002) else (none)) else (none))) else (none)) else (none)) else (some (x287000, x287001, x287002))
end
def spec_l5Own.f (k : Nat) (l0_0 : List (S81)) (l0_1 : List (S78)) (a0_2 : Int) : Option ((List (S81)) × (List (S78)) × Int) := spec_l5Own.l0 k l0_0 (l0_0.length : Int) 0 l0_0 l0_1 a0_2 ([] : List (S81)) a0_2
theorem spec_l5Own.mono_l : ∀ k, (∀ y0 y1 y2 y3 y4 y5 y6 y7, LeO (spec_l5Own.l0 k y0 y1 y2 y3 y4 y5 y6 y7) (spec_l5Own.l0 (k + 1) y0 y1 y2 y3 y4 y5 y6 y7)) ∧ (∀ y0 y1 y2 y3 y4 y5, LeO (spec_l5Own.l1 k y0 y1 y2 y3 y4 y5) (spec_l5Own.l1 (k + 1) y0 y1 y2 y3 y4 y5))
 | 0 => ⟨fun _ _ _ _ _ _ _ _ r h => by simp [spec_l5Own.l0] at h, fun _ _ _ _ _ _ r h => by simp [spec_l5Own.l1] at h⟩
 | k + 1 => by
  obtain ⟨ih0, ih1⟩ := spec_l5Own.mono_l k
  refine ⟨?_, ?_⟩
  all_goals intros; first | unfold spec_l5Own.l0 | unfold spec_l5Own.l1
  all_goals repeat' first | (with_reducible first | apply ih0 | apply ih1 | exact LeO.refl _ | exact LeO.none _ | refine LeO.ite ?_ ?_ | refine LeO.bind ?_ (fun _ => ?_))
theorem spec_l5Own.mono : ∀ a0 a1 a2 k, LeO (spec_l5Own.f k a0 a1 a2) (spec_l5Own.f (k + 1) a0 a1 a2) := by
 intro a0 a1 a2 k
 obtain ⟨ih0, ih1⟩ := spec_l5Own.mono_l k
 unfold spec_l5Own.f
 repeat' first
   | (with_reducible first | apply ih0 | apply ih1 | exact LeO.refl _ | exact LeO.none _ | refine LeO.ite ?_ ?_ | refine LeO.bind ?_ (fun _ => ?_))
set_option maxHeartbeats 8000000 in
set_option maxRecDepth 100000 in
theorem spec_l5Own.calls (k : Nat) (A0_0 : Option Addr) (c0_0 : Nat) (l0_0 : List (S81)) (A0_1 : Option Addr) (c0_1 : Nat) (l0_1 : List (S78)) (a0_2 : Int) (r1 : List (S81)) (r2 : List (S78)) (r3 : Int) (w : World) (hr0_0 : Kd.C k81 w A0_0 l0_0.length l0_0) (hc0_0 : l0_0.length ≤ c0_0) (hr0_1 : Kd.C k78 w A0_1 l0_1.length l0_1) (hc0_1 : l0_1.length ≤ c0_1) (h : spec_l5Own.f k l0_0 l0_1 a0_2 = some (r1, r2, r3)) :
  Calls Try.prog 58 #[.agg #[.slice A0_0 l0_0.length c0_0, .slice A0_1 l0_1.length c0_1, .int .i64 a0_2]] w fun e w' => ∃ v0_ v1_ : Value, e = .returned (.agg #[v0_, v1_, .int .i64 r3]) ∧ Kd.S k81 81 w' w.heap.size (fun _ => True) v0_ r1 ∧ Kd.S k78 78 w' w.heap.size (fun _ => True) v1_ r2 ∧ Below w.heap.size w w' := by
 have hu33 := Try.underlying33
 have hu81 := Try.underlying81
 have hu78 := Try.underlying78
 have uE := am_ hr0_0
 have eK := am_ hc0_0
 clear hr0_0 hc0_0
 have vE := am_ hr0_1
 have fK := am_ hc0_1
 clear hr0_1 hc0_1
 have HB := am_ (Below.refl w.heap.size w)
 have H : (spec_l5Own.l0 k l0_0 (l0_0.length : Int) 0 l0_0 l0_1 a0_2 ([] : List (S81)) a0_2) = some (r1, r2, r3) := h
 clear h
 have H' := am_ H
 clear H
 go_enter Try.func58, Try.ntmps58
 go_wp2_with (first | ((with_reducible refine gate_dst (N := 1) rfl ?_); refine bq_ (N := 1) #[.slice A0_0 l0_0.length c0_0, .slice A0_1 l0_1.length c0_1, .int .i64 a0_2] 33 ?_; intro bB hg w2 eA hb; have kA := ge_ hg; replace HB := nb_ hb; clear hb hg) | ((with_reducible refine gate_dst (N := 2) rfl ?_); refine bq_ (N := 2) #[.slice none 0 0, .slice none 0 0, .int .i64 0] 33 ?_; intro xA hg w3 gA hb; have mA := ge1_ hg kA; replace HB := nc_ kA hb; have dB := nl_ eA hg; have eB := ng_ eA hg; replace eA := bK_ eA hb; clear hb hg; have yL := dB.out; have zL := eB.out; obtain ⟨eD, fD, gD, hD, iD, jD⟩ := cf3_ eA.out) | ((with_reducible refine gate_dst (N := 3) rfl ?_); refine bq_ (N := 3) #[.slice none 0 0, .slice none 0 0, .int .i64 0] 33 ?_; intro vA hg w6 fA hb; have nA := ge2_ hg kA mA; replace HB := nc2_ kA mA hb; have oA := nl_ eA hg; have wA := ng_ eA hg; replace eA := bK_ eA hb; have sA := nl_ gA hg; have yA := ng_ gA hg; replace gA := bK_ gA hb; clear hb hg; have aM := wA.out; have bM := oA.out; have cM := yA.out; have dM := sA.out; obtain ⟨kD, lD, mD, nD, oD, pD⟩ := cf3_ fA.out; obtain ⟨bC, cC, dC, eC, fC, gC⟩ := cf3_ eA.out))
 go_loopg [14] k (fun kq eM w' => ∃ (cA : Int) (iA : List (S81)) (jA : Value), eM = .int .i64 cA ∧ Aside0 (spec_l5Own.l0 kq l0_0 (l0_0.length : Int) cA l0_0 l0_1 a0_2 iA a0_2 = some (r1, r2, r3)) ∧ Aside0 (kq ≤ k) ∧ Aside0 (Kd.S k81 81 w' w.heap.size (fun _ => True) jA iA) ∧ Aside0 (w'.heap[bB]? = some (.cells #[(.slice A0_0 l0_0.length c0_0), (.slice A0_1 l0_1.length c0_1), .int .i64 a0_2] 33 (0, 0))) ∧ Aside0 (w'.heap[xA]? = some (.cells #[(.slice none 0 0), (.slice none 0 0), .int .i64 0] 33 (0, 0))) ∧ Aside0 (w'.heap[vA]? = some (.cells #[jA, (.slice none 0 0), .int .i64 a0_2] 33 (0, 0))) ∧ Aside0 (Below w.heap.size w w'))
 case atStart => exact ⟨(0), (([] : List (S81))), (.slice none 0 0), sr_, H', ⟨Nat.le_refl _⟩, ⟨by first | exact Kd.S_nil _ _ _ _ _ | exact Kd.N_nil _ _ _ _ _ | exact Kd.V_nil _ _ _ _ _ | exact Kd.Q_nil _ _ _ _ _ | exact Kd.R_nil _ _ _ _ _⟩, ⟨uf_ eA oA.out⟩, ⟨uf_ gA sA.out⟩, ⟨up_ fA⟩, ⟨hs3_ kA.out mA.out nA.out⟩⟩
 case round =>
  clear H'
  try clear bC
  try clear cC
  try clear dC
  try clear eD
  try clear fD
  try clear gD
  try clear kD
  try clear lD
  try clear mD
  try clear eC
  try clear fC
  try clear gC
  try clear hD
  try clear iD
  try clear jD
  try clear nD
  try clear oD
  try clear pD
  obtain ⟨cA, iA, jA, rfl, HA, jF, aA, eA, gA, fA, HB⟩ := hrel
  cases gk with
  | zero => exact absurd HA.out (by simp [spec_l5Own.l0])
  | succ k1 =>
   have H := HA.out
   clear HA
   simp only [spec_l5Own.l0] at H
   replace H := ite_ H
   obtain ⟨tE, H⟩ | ⟨tE, H⟩ := H
   ·have gE := decide_eq_true tE
    clear tE
    replace H := ifs_ H
    obtain ⟨gK, H⟩ := H
    have hK := decide_eq_true gK
    clear gK
    replace H := ifs_ H
    obtain ⟨iK, H⟩ := H
    have jK := decide_eq_true iK
    clear iK
    obtain ⟨vD, vB⟩ : ∃ y_ : List (S112), y_ = (([] : List (S112))) := ⟨_, rfl⟩
    replace H : (if vD.length + ((rd_T81 l0_0 cA).f3).length < 5864062014805 then (if iA.length < 2932031007402 then (spec_l5Own.l0 k1 l0_0 (l0_0.length : Int) (wrap64 (cA + 1)) l0_0 l0_1 a0_2 (iA ++ [(⟨(rd_T81 l0_0 cA).f0, (rd_T81 l0_0 cA).f1, (rd_T81 l0_0 cA).f2, (vD ++ ((rd_T81 l0_0 cA).f3))⟩ : S81)]) a0_2) else (none)) else (none)) = some (r1, r2, r3) := by first | (rw [vB]; with_reducible exact H) | (have H2_ := (Option.bind_some _ _).symm.trans H; rw [vB]; with_reducible exact H2_) | (have H2_ := (Option.bind_some _ _).symm.trans H; with_reducible exact H2_) | with_reducible exact H | (rw [vB]; exact H) | exact H
    have hE := am_ vB
    clear vB
    replace H := ifs_ H
    obtain ⟨kK, H⟩ := H
    have wE := am_ kK
    clear kK
    obtain ⟨cB, wB⟩ : ∃ y_ : List (S112), y_ = (vD ++ ((rd_T81 l0_0 cA).f3)) := ⟨_, rfl⟩
    replace H : (if iA.length < 2932031007402 then (spec_l5Own.l0 k1 l0_0 (l0_0.length : Int) (wrap64 (cA + 1)) l0_0 l0_1 a0_2 (iA ++ [(⟨(rd_T81 l0_0 cA).f0, (rd_T81 l0_0 cA).f1, (rd_T81 l0_0 cA).f2, cB⟩ : S81)]) a0_2) else (none)) = some (r1, r2, r3) := by first | (rw [wB]; with_reducible exact H) | (have H2_ := (Option.bind_some _ _).symm.trans H; rw [wB]; with_reducible exact H2_) | (have H2_ := (Option.bind_some _ _).symm.trans H; with_reducible exact H2_) | with_reducible exact H | (rw [wB]; exact H) | exact H
    have xE := am_ wB
    clear wB
    replace H := ifs_ H
    obtain ⟨lK, H⟩ := H
    have yE := am_ lK
    clear lK
    obtain ⟨wD, xB⟩ : ∃ y_ : List (S81), y_ = (iA ++ [(⟨(rd_T81 l0_0 cA).f0, (rd_T81 l0_0 cA).f1, (rd_T81 l0_0 cA).f2, cB⟩ : S81)]) := ⟨_, rfl⟩
    replace H : (spec_l5Own.l0 k1 l0_0 (l0_0.length : Int) (wrap64 (cA + 1)) l0_0 l0_1 a0_2 wD a0_2) = some (r1, r2, r3) := by first | (rw [xB]; with_reducible exact H) | (have H2_ := (Option.bind_some _ _).symm.trans H; rw [xB]; with_reducible exact H2_) | (have H2_ := (Option.bind_some _ _).symm.trans H; with_reducible exact H2_) | with_reducible exact H | (rw [xB]; exact H) | exact H
    have zE := am_ xB
    clear xB
    have H' := am_ H
    clear H
    have mE : 0 ≤ (cA : Int) := oa_
    have nE : cA < (l0_0.length : Int) := oa_
    obtain ⟨hC, qD, rD, qJ, iC, jC, kC, lC, mC, nC⟩ := at_T81 uE.out cA mE nE
    cases qJ
    replace iC := pc_ HB.out iC
    replace jC := pc_ HB.out jC
    replace kC := pc_ HB.out kC
    replace lC := pc_ HB.out lC
    have xD := am_ nC
    have kF := am_ mC
    clear nC mC
    replace mE := eq_true mE
    replace nE := eq_true nE
    go_wp2_with (first | ((with_reducible refine gate_dst (N := 5) rfl ?_); refine bq_ (N := 5) #[.int .i64 0, .int .i64 0, .int .i64 0, .slice none 0 0] 81 ?_; intro uA hg mM rA hb; replace aA := am_ (Kd.S_below (Kd.S_elderB (ks_ aA.out) uA (Nat.le_of_eq hg.symm)) hb); have lB := ge3_ hg kA mA nA; replace HB := nc3_ kA mA nA hb; have fB := nl_ eA hg; have wC := ng_ eA hg; replace eA := bK_ eA hb; have gB := nl_ gA hg; have xC := ng_ gA hg; replace gA := bK_ gA hb; have hB := nl_ fA hg; have yC := ng_ fA hg; replace fA := bK_ fA hb; clear hb hg; have mK := wC.out; have nK := fB.out; have oK := xC.out; have pK := gB.out; have qK := yC.out; have rK := hB.out; obtain ⟨lF, mF, nF, oF, pF, qF, rF, sF⟩ := cf4_ rA.out) | ((with_reducible refine gate_dst (N := 18) rfl ?_); refine Kd.R_lit k112 _ 112 ?hg (N := 18) ?hd (xs := ([] : List (S112))) (inner := []) (ok := fun _ => True) (okp := fun _ => True) ?hr ?hp (fun _ hk => hk) trivial (Below.refl _ _) (Nat.le_refl _) (by simp) ?_; (case hd => rfl); (case hg => rfl); (case hr => first | (go_simp; done) | (go_simp; rfl)); (case hp => exact (Reps.none _ _)); intro rJ nM zC hb hg_ hnew_; clear hg_ hnew_; (first | rw [← hE.out] at zC | (simp only [Int.reduceToNat] at zC; rw [← hE.out] at zC)); replace aA := am_ (Kd.S_elder' ((Kd.S_mono (sF_ (Kd.S_mono aA.out (fun k_ hk => (⟨hk, hk.2⟩ : _ ∧ k_ ≠ uA)))) (fun _ h_ => h_.1))) (Kd.R_base zC) hb); have uB := am_ (Kd.R_lower zC (below_size (hs4_ kA.out mA.out nA.out lB.out))); replace eA := am_ (blk_below (g := bB) (o := .cells #[.slice (some hC) l0_0.length c0_0, .slice A0_1 l0_1.length c0_1, .int .i64 a0_2] 33 (0, 0)) (uf_ eA fB.out) hb); replace gA := am_ (blk_below (g := xA) (o := .cells #[.slice none 0 0, .slice none 0 0, .int .i64 0] 33 (0, 0)) (uf_ gA gB.out) hb); replace fA := am_ (blk_below (g := vA) (o := .cells #[jA, .slice none 0 0, .int .i64 a0_2] 33 (0, 0)) (uf_ fA hB.out) hb); replace rA := am_ (blk_below (g := uA) (o := .cells #[.int .i64 ((rd_T81 l0_0 cA).f0), .int .i64 ((rd_T81 l0_0 cA).f1), .int .i64 ((rd_T81 l0_0 cA).f2), .slice qD ((rd_T81 l0_0 cA).f3).length rD] 81 (0, 0)) (up_ rA) hb); replace HB := nc4_ kA mA nA lB hb; clear hb zC; obtain ⟨tF, uF, vF, wF, xF, yF, zF, aG⟩ := cf4_ rA.out) | ((with_reducible refine gate_builtin (b := .append) (xs := #[.tmp 18, .tmp 20]) rfl ?_); at_builtin; refine Kd.R_append_rows k112 (w0 := w) w.heap.size rfl (.tmp 18) (.tmp 20) 79 112 (.agg #[(.int .i64 0), (.int .i64 0), (.int .i64 0)]) 24 rfl Try.underlying79 info112 rfl (by decide) (by omega) rJ vD ((rd_T81 l0_0 cA).f3) _ _ _ (fun _ => True) (fun _ => False) rfl rfl ?aO ?aR (fun _ _ h => h) (fun _ h => h.elim) ?aF ?aB ?aS ?aL ?_; (case aR => exact cs_ ((Kd.C_below xD.out HB.out))); (case aB => exact (hs4_ kA.out mA.out nA.out lB.out)); (case aF => exact (fun _ _ => trivial)); (case aO => exact (kr_ uB.out)); (case aS => exact (below_size (hs4_ kA.out mA.out nA.out lB.out))); (case aL => have := wE.out; omega); intro fM gM ho hb hg hat; rw [← xE.out] at ho; replace aA := am_ (Kd.S_after (ok := (fun k_ => k_ ≠ uA)) (sF_ (Kd.S_mono aA.out (fun _ hk => ⟨hk.1.2, hk.2⟩))) hg hat); replace eA := am_ (blk_grown (g := bB) (o := .cells #[.slice (some hC) l0_0.length c0_0, .slice A0_1 l0_1.length c0_1, .int .i64 a0_2] 33 (0, 0)) (kb_ eA.out) hg (Kd.R_ne uB.out eA.out (by decide))); replace gA := am_ (blk_grown (g := xA) (o := .cells #[.slice none 0 0, .slice none 0 0, .int .i64 0] 33 (0, 0)) (kb_ gA.out) hg (Kd.R_ne uB.out gA.out (by decide))); replace fA := am_ (blk_grown (g := vA) (o := .cells #[jA, .slice none 0 0, .int .i64 a0_2] 33 (0, 0)) (kb_ fA.out) hg (Kd.R_ne uB.out fA.out (by decide))); replace rA := am_ (blk_grown (g := uA) (o := .cells #[.int .i64 ((rd_T81 l0_0 cA).f0), .int .i64 ((rd_T81 l0_0 cA).f1), .int .i64 ((rd_T81 l0_0 cA).f2), .slice qD ((rd_T81 l0_0 cA).f3).length rD] 81 (0, 0)) (kb_ rA.out) hg (Kd.R_ne uB.out rA.out (by decide))); replace HB := am_ (hb); have nB := am_ (ho); clear uB; clear ho hb hg hat; obtain ⟨sB, tB, sJ⟩ := Kd.R_slice nB.out; subst sJ; obtain ⟨bG, cG, dG, eG, fG, gG, hG, iG⟩ := cf4_ rA.out) | ((with_reducible refine gate_store (t := 79) (p := 22) rfl ?_); refine store_event (t := 79) (p := 22) (v := ?vo_w27) (w1 := (gM.setCell ⟨uA, 3, none⟩ (.slice sB cB.length tB))) ?hg ?ho ?hn ?hr ?_; (case ho => rfl); (case hg => rfl); (case hn => rfl); (case hr => first | (go_simp; done) | (go_simp; rfl)); intro oE hw; have n0_ : Aside0 (Kd.S k81 81 oE w.heap.size (fun k_ => some k_ ≠ (.slice sB cB.length tB : Value).ownBlock ∧ k_ ≠ uA) jA iA) := ⟨(by rw [hw]; exact (sF_ (Kd.S_mono (Kd.S_far (p := ⟨uA, 3, none⟩) (Kd.S_mono aA.out (fun k_ hk => (⟨hk, hk.1⟩ : _ ∧ k_ ≠ uA))) (fun _ hk => hk.2) (.slice sB cB.length tB)) (fun _ hk => ⟨hk.1.2, hk.1.1⟩))))⟩; have n1_ : Aside0 (Kd.R k112 112 oE w.heap.size (fun _ => True) (.slice sB cB.length tB) cB) := ⟨(by rw [hw]; exact (rF_ (Kd.R_mono (Kd.R_far (p := ⟨uA, 3, none⟩) (Kd.R_types nB.out rA.out (by decide)) (fun _ hk => hk.2) (.slice sB cB.length tB)) (fun _ hk => trivial))))⟩; have n2_ : Aside0 (oE.heap[bB]? = some (.cells #[.slice (some hC) l0_0.length c0_0, .slice A0_1 l0_1.length c0_1, .int .i64 a0_2] 33 (0, 0))) := ⟨(by rw [hw]; exact (uf_ eA fB.out))⟩; have n3_ : Aside0 (oE.heap[xA]? = some (.cells #[.slice none 0 0, .slice none 0 0, .int .i64 0] 33 (0, 0))) := ⟨(by rw [hw]; exact (uf_ gA gB.out))⟩; have n4_ : Aside0 (oE.heap[vA]? = some (.cells #[jA, .slice none 0 0, .int .i64 a0_2] 33 (0, 0))) := ⟨(by rw [hw]; exact (uf_ fA hB.out))⟩; have n5_ : Aside0 (oE.heap[uA]? = some (.cells #[.int .i64 ((rd_T81 l0_0 cA).f0), .int .i64 ((rd_T81 l0_0 cA).f1), .int .i64 ((rd_T81 l0_0 cA).f2), .slice sB cB.length tB] 81 (0, 0))) := ⟨(by rw [hw]; exact (up_ rA))⟩; have n6_ : Aside0 (Below w.heap.size w oE) := ⟨(by rw [hw]; exact (hs4_ kA.out mA.out nA.out lB.out))⟩; clear hw; clear aA; clear nB; clear eA; clear gA; clear fA; clear rA; clear HB; have aA := n0_; have nB := n1_; have eA := n2_; have gA := n3_; have fA := n4_; have rA := n5_; have HB := n6_; clear n0_ n1_ n2_ n3_ n4_ n5_ n6_; have sK := wA.out; have tK := oA.out; have uK := yA.out; have vK := sA.out; obtain ⟨jG, kG, lG, mG, nG, oG⟩ := cf3_ fA.out; obtain ⟨pG, qG, rG, sG, tG, uG, vG, wG⟩ := cf4_ rA.out) | ((with_reducible refine gate_builtin (b := .append) (xs := #[.tmp 24, .tmp 26]) rfl ?_); at_builtin; refine Kd.S_append k81 (w0 := w) w.heap.size rfl (.tmp 24) (.tmp 26) 30 81 (.agg #[(.int .i64 0), (.int .i64 0), (.int .i64 0), (.slice none 0 0)]) 48 rfl Try.underlying30 info81 rfl (by decide) (by omega) jA iA (⟨(rd_T81 l0_0 cA).f0, (rd_T81 l0_0 cA).f1, (rd_T81 l0_0 cA).f2, cB⟩ : S81) [.int .i64 ((rd_T81 l0_0 cA).f0), .int .i64 ((rd_T81 l0_0 cA).f1), .int .i64 ((rd_T81 l0_0 cA).f2), .slice sB cB.length tB] (fun k_ => k_ ≠ uA) (fun k_ => some k_ = (.slice sB cB.length tB : Value).ownBlock) rfl rfl ?aP (fun k_ hk_ => ((Kd.R_mono (ok' := fun k_ => ((fun k_ => k_ ≠ uA)) k_ ∧ some k_ ≠ (jA : Value).ownBlock) (Kd.R_types (Kd.R_apart' (nB.out) (Kd.S_typed aA.out) (by decide)) rA.out (by decide)) (fun k_ hk => ⟨hk.2, hk.1.2⟩))).1 k_ hk_.symm) ?aF ?aO ?aB ?aS ?aL ?_; (case aP => exact k81_mkM _ _ _ (⟨(rd_T81 l0_0 cA).f0, (rd_T81 l0_0 cA).f1, (rd_T81 l0_0 cA).f2, cB⟩ : S81) (Kd.R_mono (Kd.R_tight rfl (Kd.R_mono (ok' := fun k_ => ((fun k_ => k_ ≠ uA)) k_ ∧ some k_ ≠ (jA : Value).ownBlock) (Kd.R_types (Kd.R_apart' (nB.out) (Kd.S_typed aA.out) (by decide)) rA.out (by decide)) (fun k_ hk => ⟨hk.2, hk.1.2⟩))) (fun _ h_ => h_))); (case aB => exact (hs4_ kA.out mA.out nA.out lB.out)); (case aF => exact (fun k_ hk => Kd.freshB (g := uA) (o := .cells #[.int .i64 ((rd_T81 l0_0 cA).f0), .int .i64 ((rd_T81 l0_0 cA).f1), .int .i64 ((rd_T81 l0_0 cA).f2), .slice sB cB.length tB] 81 (0, 0)) (kb_ rA.out) k_ hk)); (case aO => exact (sF_ (Kd.S_mono aA.out (fun k_ hk => ⟨hk.2, fun e_ => hk.1 e_⟩)))); (case aS => exact (below_size (hs4_ kA.out mA.out nA.out lB.out))); (case aL => have := yE.out; omega); intro hM oM ho hb hg hat; rw [← zE.out] at ho; replace eA := am_ (blk_grown (g := bB) (o := .cells #[.slice (some hC) l0_0.length c0_0, .slice A0_1 l0_1.length c0_1, .int .i64 a0_2] 33 (0, 0)) (kb_ eA.out) hg (Kd.S_ne aA.out eA.out (by decide))); replace gA := am_ (blk_grown (g := xA) (o := .cells #[.slice none 0 0, .slice none 0 0, .int .i64 0] 33 (0, 0)) (kb_ gA.out) hg (Kd.S_ne aA.out gA.out (by decide))); replace fA := am_ (blk_grown (g := vA) (o := .cells #[jA, .slice none 0 0, .int .i64 a0_2] 33 (0, 0)) (kb_ fA.out) hg (Kd.S_ne aA.out fA.out (by decide))); replace rA := am_ (blk_grown (g := uA) (o := .cells #[.int .i64 ((rd_T81 l0_0 cA).f0), .int .i64 ((rd_T81 l0_0 cA).f1), .int .i64 ((rd_T81 l0_0 cA).f2), .slice sB cB.length tB] 81 (0, 0)) (kb_ rA.out) hg (Kd.S_away aA.out (fun _ hk => hk.2))); replace HB := am_ (hb); have iE := am_ (ho); clear aA nB; clear ho hb hg hat; obtain ⟨bF, cF, tJ⟩ := Kd.S_slice iE.out; subst tJ; obtain ⟨xG, yG, zG, aH, bH, cH⟩ := cf3_ fA.out))
    go_roundg k1
    case measure => have := jF.out; omega
    case rel => exact ⟨(wrap64 (cA + 1)), (wD), (.slice bF wD.length cF), sr_, H', ⟨by have := jF.out; omega⟩, ⟨sF_ (Kd.S_mono (Kd.S_far (p := ⟨vA, 0, none⟩) (Kd.S_types iE.out fA.out (by decide)) (fun _ hk => hk.2) (.slice bF wD.length cF)) (fun _ hk => trivial))⟩, ⟨uf_ eA oA.out⟩, ⟨uf_ gA sA.out⟩, ⟨up_ fA⟩, ⟨hs4_ kA.out mA.out nA.out lB.out⟩⟩
   have gE := decide_eq_false tE
   clear tE
   have H' := am_ H
   clear H
   have wK := dB.out
   have xK := eB.out
   have yK := oA.out
   have zK := wA.out
   obtain ⟨yD, zD, aE, bE, cE, dE⟩ := cf3_ eA.out
   go_wp2
   go_loopg [33] k1 (fun kq iM w' => ∃ (bA : Int) (lA : List (S78)) (qA : Value), iM = .int .i64 bA ∧ Aside0 (spec_l5Own.l1 kq l0_1 (l0_1.length : Int) bA iA lA a0_2 = some (r1, r2, r3)) ∧ Aside0 (kq ≤ k1) ∧ Aside0 (Kd.S k81 81 w' w.heap.size (fun _ => True) jA iA) ∧ Aside0 (Kd.S k78 78 w' w.heap.size (fun _ => True) qA lA) ∧ Aside0 (w'.heap[bB]? = some (.cells #[(.slice A0_0 l0_0.length c0_0), (.slice A0_1 l0_1.length c0_1), .int .i64 a0_2] 33 (0, 0))) ∧ Aside0 (w'.heap[xA]? = some (.cells #[(.slice none 0 0), (.slice none 0 0), .int .i64 0] 33 (0, 0))) ∧ Aside0 (w'.heap[vA]? = some (.cells #[jA, qA, .int .i64 a0_2] 33 (0, 0))) ∧ Aside0 (Below w.heap.size w w'))
   case atStart => exact ⟨(0), (([] : List (S78))), (.slice none 0 0), sr_, H', ⟨Nat.le_refl _⟩, ⟨ks_ aA.out⟩, ⟨by first | exact Kd.S_nil _ _ _ _ _ | exact Kd.N_nil _ _ _ _ _ | exact Kd.V_nil _ _ _ _ _ | exact Kd.Q_nil _ _ _ _ _ | exact Kd.R_nil _ _ _ _ _⟩, ⟨kb_ eA.out⟩, ⟨kb_ gA.out⟩, ⟨kb_ fA.out⟩, ⟨hs3_ kA.out mA.out nA.out⟩⟩
   case round =>
    clear H'
    try clear tE
    try clear gE
    try clear bC
    try clear cC
    try clear dC
    try clear yD
    try clear zD
    try clear aE
    try clear eD
    try clear fD
    try clear gD
    try clear kD
    try clear lD
    try clear mD
    try clear eC
    try clear fC
    try clear gC
    try clear bE
    try clear cE
    try clear dE
    try clear hD
    try clear iD
    try clear jD
    try clear nD
    try clear oD
    try clear pD
    obtain ⟨bA, lA, qA, rfl, HA, bL, aA, dA, eA, gA, fA, HB⟩ := hrel
    cases gk with
    | zero => exact absurd HA.out (by simp [spec_l5Own.l1])
    | succ k2 =>
     have H := HA.out
     clear HA
     simp only [spec_l5Own.l1] at H
     replace H := ite_ H
     obtain ⟨dF, H⟩ | ⟨dF, H⟩ := H
     rotate_left
     ·have eF := decide_eq_false dF
      clear dF
      simp only [Option.some.injEq, Prod.mk.injEq] at H
      obtain ⟨rfl, rfl, rfl⟩ := H
      have cL := wA.out
      have dL := oA.out
      have eL := yA.out
      have fL := sA.out
      obtain ⟨dH, eH, fH, gH, hH, iH⟩ := cf3_ fA.out
      obtain ⟨uJ, vJ, wJ⟩ := Kd.S_slice aA.out
      subst wJ
      have gL := eB.out
      have hL := dB.out
      obtain ⟨jH, kH, lH, mH, nH, oH⟩ := cf3_ gA.out
      obtain ⟨xJ, yJ, zJ⟩ := Kd.S_slice dA.out
      subst zJ
      go_wp2
      refine bodyPost_ret (results_cell_row rfl _ _ xA 33 #[.slice uJ iA.length vJ, .slice xJ lA.length yJ, .int .i64 a0_2] (0, 0) _ rfl (up_ gA) Try.underlying33 rfl (by kernel_rfl)) rfl ?_
      exact ⟨_, _, er_, Kd.S_mono (sF_ (Kd.S_types aA.out gA.out (by decide))) (fun _ hk => trivial), Kd.S_mono (sF_ (Kd.S_types dA.out gA.out (by decide))) (fun _ hk => trivial), hs3_ kA.out mA.out nA.out⟩
     have eF := decide_eq_true dF
     clear dF
     replace H := ifs_ H
     obtain ⟨iL, H⟩ := H
     have jL := decide_eq_true iL
     clear iL
     replace H := ifs_ H
     obtain ⟨kL, H⟩ := H
     have lL := decide_eq_true kL
     clear kL
     obtain ⟨eE, yB⟩ : ∃ y_ : List ByteArray, y_ = (([] : List ByteArray)) := ⟨_, rfl⟩
     replace H : (if eE.length + ((rd_T78 l0_1 bA).f4).length < 8796093022208 then (if lA.length < 2513169434916 then (spec_l5Own.l1 k2 l0_1 (l0_1.length : Int) (wrap64 (bA + 1)) iA (lA ++ [(⟨(rd_T78 l0_1 bA).f0, (rd_T78 l0_1 bA).f1, (rd_T78 l0_1 bA).f2, (rd_T78 l0_1 bA).f3, (eE ++ ((rd_T78 l0_1 bA).f4))⟩ : S78)]) a0_2) else (none)) else (none)) = some (r1, r2, r3) := by first | (rw [yB]; with_reducible exact H) | (have H2_ := (Option.bind_some _ _).symm.trans H; rw [yB]; with_reducible exact H2_) | (have H2_ := (Option.bind_some _ _).symm.trans H; with_reducible exact H2_) | with_reducible exact H | (rw [yB]; exact H) | exact H
     have jE := am_ yB
     clear yB
     replace H := ifs_ H
     obtain ⟨mL, H⟩ := H
     have fF := am_ mL
     clear mL
     obtain ⟨zA, zB⟩ : ∃ y_ : List ByteArray, y_ = (eE ++ ((rd_T78 l0_1 bA).f4)) := ⟨_, rfl⟩
     replace H : (if lA.length < 2513169434916 then (spec_l5Own.l1 k2 l0_1 (l0_1.length : Int) (wrap64 (bA + 1)) iA (lA ++ [(⟨(rd_T78 l0_1 bA).f0, (rd_T78 l0_1 bA).f1, (rd_T78 l0_1 bA).f2, (rd_T78 l0_1 bA).f3, zA⟩ : S78)]) a0_2) else (none)) = some (r1, r2, r3) := by first | (rw [zB]; with_reducible exact H) | (have H2_ := (Option.bind_some _ _).symm.trans H; rw [zB]; with_reducible exact H2_) | (have H2_ := (Option.bind_some _ _).symm.trans H; with_reducible exact H2_) | with_reducible exact H | (rw [zB]; exact H) | exact H
     have gF := am_ zB
     clear zB
     replace H := ifs_ H
     obtain ⟨nL, H⟩ := H
     have hF := am_ nL
     clear nL
     obtain ⟨sD, aC⟩ : ∃ y_ : List (S78), y_ = (lA ++ [(⟨(rd_T78 l0_1 bA).f0, (rd_T78 l0_1 bA).f1, (rd_T78 l0_1 bA).f2, (rd_T78 l0_1 bA).f3, zA⟩ : S78)]) := ⟨_, rfl⟩
     replace H : (spec_l5Own.l1 k2 l0_1 (l0_1.length : Int) (wrap64 (bA + 1)) iA sD a0_2) = some (r1, r2, r3) := by first | (rw [aC]; with_reducible exact H) | (have H2_ := (Option.bind_some _ _).symm.trans H; rw [aC]; with_reducible exact H2_) | (have H2_ := (Option.bind_some _ _).symm.trans H; with_reducible exact H2_) | with_reducible exact H | (rw [aC]; exact H) | exact H
     have iF := am_ aC
     clear aC
     have H' := am_ H
     clear H
     have pE : 0 ≤ (bA : Int) := oa_
     have qE : bA < (l0_1.length : Int) := oa_
     obtain ⟨oC, tD, uD, aK, pC, qC, rC, sC, tC, uC, vC⟩ := at_T78 vE.out bA pE qE
     cases aK
     replace pC := pc_ HB.out pC
     replace qC := pc_ HB.out qC
     replace rC := pc_ HB.out rC
     replace sC := pc_ HB.out sC
     replace tC := pc_ HB.out tC
     have fE := am_ vC
     have pH := am_ uC
     clear vC uC
     replace pE := eq_true pE
     replace qE := eq_true qE
     go_wp2_with (first | ((with_reducible refine gate_dst (N := 7) rfl ?_); refine bq_ (N := 7) #[.int .i64 0, .int .i64 0, .int .i64 0, .int .i64 0, .slice none 0 0] 78 ?_; intro tA hg pM pA hb; replace aA := sB_ aA hb; replace dA := am_ (Kd.S_below (Kd.S_elderB (ks_ dA.out) tA (Nat.le_of_eq hg.symm)) hb); have mB := ge3_ hg kA mA nA; replace HB := nc3_ kA mA nA hb; have iB := nl_ eA hg; have aD := ng_ eA hg; replace eA := bK_ eA hb; have jB := nl_ gA hg; have bD := ng_ gA hg; replace gA := bK_ gA hb; have kB := nl_ fA hg; have cD := ng_ fA hg; replace fA := bK_ fA hb; clear hb hg; have oL := aD.out; have pL := iB.out; have qL := bD.out; have rL := jB.out; have sL := cD.out; have tL := kB.out; obtain ⟨qH, rH, sH, tH, uH, vH, wH, xH, yH, zH⟩ := cf5_ pA.out) | ((with_reducible refine gate_dst (N := 37) rfl ?_); refine Kd.R_lit Kd.string _ 9 ?hg (N := 37) ?hd (xs := ([] : List ByteArray)) (inner := []) (ok := fun _ => True) (okp := fun _ => True) ?hr ?hp (fun _ hk => hk) trivial (Below.refl _ _) (Nat.le_refl _) (by simp) ?_; (case hd => rfl); (case hg => rfl); (case hr => first | (go_simp; done) | (go_simp; rfl)); (case hp => exact (Reps.none _ _)); intro bK qM dD hb hg_ hnew_; clear hg_ hnew_; (first | rw [← jE.out] at dD | (simp only [Int.reduceToNat] at dD; rw [← jE.out] at dD)); replace aA := am_ (Kd.S_below ((Kd.S_mono (sF_ (Kd.S_types aA.out pA.out (by decide))) (fun _ h_ => h_.1))) hb); replace dA := am_ (Kd.S_elder' ((Kd.S_mono (sF_ (Kd.S_mono dA.out (fun k_ hk => (⟨hk, hk.2⟩ : _ ∧ k_ ≠ tA)))) (fun _ h_ => h_.1))) (Kd.R_base dD) hb); have oB := am_ (Kd.R_lower dD (below_size (hs4_ kA.out mA.out nA.out mB.out))); replace eA := am_ (blk_below (g := bB) (o := .cells #[.slice A0_0 l0_0.length c0_0, .slice (some oC) l0_1.length c0_1, .int .i64 a0_2] 33 (0, 0)) (uf_ eA iB.out) hb); replace gA := am_ (blk_below (g := xA) (o := .cells #[.slice none 0 0, .slice none 0 0, .int .i64 0] 33 (0, 0)) (uf_ gA jB.out) hb); replace fA := am_ (blk_below (g := vA) (o := .cells #[jA, qA, .int .i64 a0_2] 33 (0, 0)) (uf_ fA kB.out) hb); replace pA := am_ (blk_below (g := tA) (o := .cells #[.int .i64 ((rd_T78 l0_1 bA).f0), .int .i64 ((rd_T78 l0_1 bA).f1), .int .i64 ((rd_T78 l0_1 bA).f2), .int .i64 ((rd_T78 l0_1 bA).f3), .slice tD ((rd_T78 l0_1 bA).f4).length uD] 78 (0, 0)) (up_ pA) hb); replace HB := nc4_ kA mA nA mB hb; clear hb dD; obtain ⟨aI, bI, cI, dI, eI, fI, gI, hI, iI, jI⟩ := cf5_ pA.out) | ((with_reducible refine gate_builtin (b := .append) (xs := #[.tmp 37, .tmp 39]) rfl ?_); at_builtin; refine Kd.R_append_rows Kd.string (w0 := w) w.heap.size rfl (.tmp 37) (.tmp 39) 27 9 (.string ⟨#[]⟩) 16 rfl Try.underlying27 info9 rfl (by decide) (by omega) bK eE ((rd_T78 l0_1 bA).f4) _ _ _ (fun _ => True) (fun _ => False) rfl rfl ?aO ?aR (fun _ _ h => h) (fun _ h => h.elim) ?aF ?aB ?aS ?aL ?_; (case aR => exact cs_ ((Kd.C_below fE.out HB.out))); (case aB => exact (hs4_ kA.out mA.out nA.out mB.out)); (case aF => exact (fun _ _ => trivial)); (case aO => exact (kr_ oB.out)); (case aS => exact (below_size (hs4_ kA.out mA.out nA.out mB.out))); (case aL => have := fF.out; omega); intro jM kM ho hb hg hat; rw [← gF.out] at ho; replace aA := am_ (Kd.S_over' (ks_ aA.out) (Kd.R_typed (kr_ oB.out)) (by decide) hg); replace dA := am_ (Kd.S_after (ok := (fun k_ => k_ ≠ tA)) (sF_ (Kd.S_mono dA.out (fun _ hk => ⟨hk.1.2, hk.2⟩))) hg hat); replace eA := am_ (blk_grown (g := bB) (o := .cells #[.slice A0_0 l0_0.length c0_0, .slice (some oC) l0_1.length c0_1, .int .i64 a0_2] 33 (0, 0)) (kb_ eA.out) hg (Kd.R_ne oB.out eA.out (by decide))); replace gA := am_ (blk_grown (g := xA) (o := .cells #[.slice none 0 0, .slice none 0 0, .int .i64 0] 33 (0, 0)) (kb_ gA.out) hg (Kd.R_ne oB.out gA.out (by decide))); replace fA := am_ (blk_grown (g := vA) (o := .cells #[jA, qA, .int .i64 a0_2] 33 (0, 0)) (kb_ fA.out) hg (Kd.R_ne oB.out fA.out (by decide))); replace pA := am_ (blk_grown (g := tA) (o := .cells #[.int .i64 ((rd_T78 l0_1 bA).f0), .int .i64 ((rd_T78 l0_1 bA).f1), .int .i64 ((rd_T78 l0_1 bA).f2), .int .i64 ((rd_T78 l0_1 bA).f3), .slice tD ((rd_T78 l0_1 bA).f4).length uD] 78 (0, 0)) (kb_ pA.out) hg (Kd.R_ne oB.out pA.out (by decide))); replace HB := am_ (hb); have pB := am_ (ho); clear oB; clear ho hb hg hat; obtain ⟨qB, rB, cK⟩ := Kd.R_slice pB.out; subst cK; obtain ⟨kI, lI, mI, nI, oI, pI, qI, rI, sI, tI⟩ := cf5_ pA.out) | ((with_reducible refine gate_store (t := 27) (p := 41) rfl ?_); refine store_event (t := 27) (p := 41) (v := ?vo_w54) (w1 := (kM.setCell ⟨tA, 4, none⟩ (.slice qB zA.length rB))) ?hg ?ho ?hn ?hr ?_; (case ho => rfl); (case hg => rfl); (case hn => rfl); (case hr => first | (go_simp; done) | (go_simp; rfl)); intro kE hw; have n0_ : Aside0 (Kd.S k81 81 kE w.heap.size (fun _ => True) jA iA) := ⟨(by rw [hw]; exact (sF_ (Kd.S_mono (Kd.S_far (p := ⟨tA, 4, none⟩) (Kd.S_types aA.out pA.out (by decide)) (fun _ hk => hk.2) (.slice qB zA.length rB)) (fun _ hk => trivial))))⟩; have n1_ : Aside0 (Kd.S k78 78 kE w.heap.size (fun k_ => some k_ ≠ (.slice qB zA.length rB : Value).ownBlock ∧ k_ ≠ tA) qA lA) := ⟨(by rw [hw]; exact (sF_ (Kd.S_mono (Kd.S_far (p := ⟨tA, 4, none⟩) (Kd.S_mono dA.out (fun k_ hk => (⟨hk, hk.1⟩ : _ ∧ k_ ≠ tA))) (fun _ hk => hk.2) (.slice qB zA.length rB)) (fun _ hk => ⟨hk.1.2, hk.1.1⟩))))⟩; have n2_ : Aside0 (Kd.R Kd.string 9 kE w.heap.size (fun _ => True) (.slice qB zA.length rB) zA) := ⟨(by rw [hw]; exact (rF_ (Kd.R_mono (Kd.R_far (p := ⟨tA, 4, none⟩) (Kd.R_types pB.out pA.out (by decide)) (fun _ hk => hk.2) (.slice qB zA.length rB)) (fun _ hk => trivial))))⟩; have n3_ : Aside0 (kE.heap[bB]? = some (.cells #[.slice A0_0 l0_0.length c0_0, .slice (some oC) l0_1.length c0_1, .int .i64 a0_2] 33 (0, 0))) := ⟨(by rw [hw]; exact (uf_ eA iB.out))⟩; have n4_ : Aside0 (kE.heap[xA]? = some (.cells #[.slice none 0 0, .slice none 0 0, .int .i64 0] 33 (0, 0))) := ⟨(by rw [hw]; exact (uf_ gA jB.out))⟩; have n5_ : Aside0 (kE.heap[vA]? = some (.cells #[jA, qA, .int .i64 a0_2] 33 (0, 0))) := ⟨(by rw [hw]; exact (uf_ fA kB.out))⟩; have n6_ : Aside0 (kE.heap[tA]? = some (.cells #[.int .i64 ((rd_T78 l0_1 bA).f0), .int .i64 ((rd_T78 l0_1 bA).f1), .int .i64 ((rd_T78 l0_1 bA).f2), .int .i64 ((rd_T78 l0_1 bA).f3), .slice qB zA.length rB] 78 (0, 0))) := ⟨(by rw [hw]; exact (up_ pA))⟩; have n7_ : Aside0 (Below w.heap.size w kE) := ⟨(by rw [hw]; exact (hs4_ kA.out mA.out nA.out mB.out))⟩; clear hw; clear aA; clear dA; clear pB; clear eA; clear gA; clear fA; clear pA; clear HB; have aA := n0_; have dA := n1_; have pB := n2_; have eA := n3_; have gA := n4_; have fA := n5_; have pA := n6_; have HB := n7_; clear n0_ n1_ n2_ n3_ n4_ n5_ n6_ n7_; have uL := wA.out; have vL := oA.out; have wL := yA.out; have xL := sA.out; obtain ⟨uI, vI, wI, xI, yI, zI⟩ := cf3_ fA.out; obtain ⟨aJ, bJ, cJ, dJ, eJ, fJ, gJ, hJ, iJ, jJ⟩ := cf5_ pA.out) | ((with_reducible refine gate_builtin (b := .append) (xs := #[.tmp 43, .tmp 45]) rfl ?_); at_builtin; refine Kd.S_append k78 (w0 := w) w.heap.size rfl (.tmp 43) (.tmp 45) 31 78 (.agg #[(.int .i64 0), (.int .i64 0), (.int .i64 0), (.int .i64 0), (.slice none 0 0)]) 56 rfl Try.underlying31 info78 rfl (by decide) (by omega) qA lA (⟨(rd_T78 l0_1 bA).f0, (rd_T78 l0_1 bA).f1, (rd_T78 l0_1 bA).f2, (rd_T78 l0_1 bA).f3, zA⟩ : S78) [.int .i64 ((rd_T78 l0_1 bA).f0), .int .i64 ((rd_T78 l0_1 bA).f1), .int .i64 ((rd_T78 l0_1 bA).f2), .int .i64 ((rd_T78 l0_1 bA).f3), .slice qB zA.length rB] (fun k_ => k_ ≠ tA) (fun k_ => some k_ = (.slice qB zA.length rB : Value).ownBlock) rfl rfl ?aP (fun k_ hk_ => ((Kd.R_mono (ok' := fun k_ => ((fun k_ => k_ ≠ tA)) k_ ∧ some k_ ≠ (qA : Value).ownBlock) (Kd.R_types (Kd.R_apart' (pB.out) (Kd.S_typed dA.out) (by decide)) pA.out (by decide)) (fun k_ hk => ⟨hk.2, hk.1.2⟩))).1 k_ hk_.symm) ?aF ?aO ?aB ?aS ?aL ?_; (case aP => exact k78_mkM _ _ _ (⟨(rd_T78 l0_1 bA).f0, (rd_T78 l0_1 bA).f1, (rd_T78 l0_1 bA).f2, (rd_T78 l0_1 bA).f3, zA⟩ : S78) (Kd.R_mono (Kd.R_tight rfl (Kd.R_mono (ok' := fun k_ => ((fun k_ => k_ ≠ tA)) k_ ∧ some k_ ≠ (qA : Value).ownBlock) (Kd.R_types (Kd.R_apart' (pB.out) (Kd.S_typed dA.out) (by decide)) pA.out (by decide)) (fun k_ hk => ⟨hk.2, hk.1.2⟩))) (fun _ h_ => h_))); (case aB => exact (hs4_ kA.out mA.out nA.out mB.out)); (case aF => exact (fun k_ hk => Kd.freshB (g := tA) (o := .cells #[.int .i64 ((rd_T78 l0_1 bA).f0), .int .i64 ((rd_T78 l0_1 bA).f1), .int .i64 ((rd_T78 l0_1 bA).f2), .int .i64 ((rd_T78 l0_1 bA).f3), .slice qB zA.length rB] 78 (0, 0)) (kb_ pA.out) k_ hk)); (case aO => exact (sF_ (Kd.S_mono dA.out (fun k_ hk => ⟨hk.2, fun e_ => hk.1 e_⟩)))); (case aS => exact (below_size (hs4_ kA.out mA.out nA.out mB.out))); (case aL => have := hF.out; omega); intro lM rM ho hb hg hat; rw [← iF.out] at ho; replace aA := am_ (Kd.S_over' (ks_ aA.out) (Kd.S_typed (ks_ dA.out)) (by decide) hg); replace eA := am_ (blk_grown (g := bB) (o := .cells #[.slice A0_0 l0_0.length c0_0, .slice (some oC) l0_1.length c0_1, .int .i64 a0_2] 33 (0, 0)) (kb_ eA.out) hg (Kd.S_ne dA.out eA.out (by decide))); replace gA := am_ (blk_grown (g := xA) (o := .cells #[.slice none 0 0, .slice none 0 0, .int .i64 0] 33 (0, 0)) (kb_ gA.out) hg (Kd.S_ne dA.out gA.out (by decide))); replace fA := am_ (blk_grown (g := vA) (o := .cells #[jA, qA, .int .i64 a0_2] 33 (0, 0)) (kb_ fA.out) hg (Kd.S_ne dA.out fA.out (by decide))); replace pA := am_ (blk_grown (g := tA) (o := .cells #[.int .i64 ((rd_T78 l0_1 bA).f0), .int .i64 ((rd_T78 l0_1 bA).f1), .int .i64 ((rd_T78 l0_1 bA).f2), .int .i64 ((rd_T78 l0_1 bA).f3), .slice qB zA.length rB] 78 (0, 0)) (kb_ pA.out) hg (Kd.S_away dA.out (fun _ hk => hk.2))); replace HB := am_ (hb); have lE := am_ (ho); clear dA pB; clear ho hb hg hat; obtain ⟨rE, sE, dK⟩ := Kd.S_slice lE.out; subst dK; obtain ⟨kJ, lJ, mJ, nJ, oJ, pJ⟩ := cf3_ fA.out))
     go_roundg k2
     case measure => have := jF.out; have := bL.out; omega
     case rel => exact ⟨(wrap64 (bA + 1)), (sD), (.slice rE sD.length sE), sr_, H', ⟨by have := jF.out; have := bL.out; omega⟩, ⟨sF_ (Kd.S_mono (Kd.S_far (p := ⟨vA, 1, none⟩) (Kd.S_types aA.out fA.out (by decide)) (fun _ hk => hk.2) (.slice rE sD.length sE)) (fun _ hk => trivial))⟩, ⟨sF_ (Kd.S_mono (Kd.S_far (p := ⟨vA, 1, none⟩) (Kd.S_types lE.out fA.out (by decide)) (fun _ hk => hk.2) (.slice rE sD.length sE)) (fun _ hk => trivial))⟩, ⟨uf_ eA oA.out⟩, ⟨uf_ gA sA.out⟩, ⟨up_ fA⟩, ⟨hs4_ kA.out mA.out nA.out mB.out⟩⟩

/-! ### spec_AskPart: function 30 -/
def spec_AskPart.j0 : Nat → Bool → List (S81) → List (S78) → Int → Int → Int → Int → List ByteArray → Option ((List (S81)) × (List (S78)) × Int × Int × Int × Bool)
 | 0, _, _, _, _, _, _, _, _ => none
 | k + 1, x20, x310000, x310001, x310002, x311000, x311001, x311002, x311003 => if x20 = true then (some (([] : List (S81)), ([] : List (S78)), 0, 0, 0, false)) else ((spec_l5Ask.f k x310000 x310001 x310002 x311000 x311001 x311002 x311003).bind fun bt321 => ((spec_l5Own.f k bt321.1 bt321.2.1 bt321.2.2.1).bind fun bt331 => (some (bt331.1, bt331.2.1, bt331.2.2, bt321.2.2.2.1, bt321.2.2.2.2, true))))
def spec_AskPart.f (k : Nat) (l0_0 : List (S81)) (l0_1 : List (S78)) (a0_2 : Int) (a1_0 : Int) (a1_1 : Int) (a1_2 : Int) (l1_3 : List ByteArray) : Option ((List (S81)) × (List (S78)) × Int × Int × Int × Bool) := (spec_GoodPart.f k l0_0 l0_1 a0_2).bind fun t312 => (if t312 = true then ((spec_l5Batch.f 0 0 0 0 ([] : List ByteArray) a1_0 a1_1 a1_2 l1_3).bind fun bt313 => ((spec_GoodBatch.f k bt313.1 bt313.2.1 bt313.2.2.1 bt313.2.2.2.1 bt313.2.2.2.2).bind fun t320 => (spec_AskPart.j0 k (!t320) l0_0 l0_1 a0_2 a1_0 a1_1 a1_2 l1_3))) else (spec_AskPart.j0 k true l0_0 l0_1 a0_2 a1_0 a1_1 a1_2 l1_3))
theorem spec_AskPart.mono_l : ∀ k, (∀ y0 y1 y2 y3 y4 y5 y6 y7, LeO (spec_AskPart.j0 k y0 y1 y2 y3 y4 y5 y6 y7) (spec_AskPart.j0 (k + 1) y0 y1 y2 y3 y4 y5 y6 y7))
 | 0 => fun _ _ _ _ _ _ _ _ r h => by simp [spec_AskPart.j0] at h
 | k + 1 => by
  have ih0 := spec_AskPart.mono_l k
  ·intro y0 y1 y2 y3 y4 y5 y6 y7
   unfold spec_AskPart.j0
   repeat' first
   | (with_reducible first | apply ih0 | apply spec_GoodBatch.mono | apply spec_GoodPart.mono | apply spec_l5Ask.mono | apply spec_l5Own.mono | exact LeO.refl _ | exact LeO.none _ | refine LeO.ite ?_ ?_ | refine LeO.bind ?_ (fun _ => ?_))
theorem spec_AskPart.mono : ∀ a0 a1 a2 a3 a4 a5 a6 k, LeO (spec_AskPart.f k a0 a1 a2 a3 a4 a5 a6) (spec_AskPart.f (k + 1) a0 a1 a2 a3 a4 a5 a6) := by
 intro a0 a1 a2 a3 a4 a5 a6 k
 have ih0 := spec_AskPart.mono_l k
 unfold spec_AskPart.f
 repeat' first
   | (with_reducible first | apply ih0 | apply spec_GoodBatch.mono | apply spec_GoodPart.mono | apply spec_l5Ask.mono | apply spec_l5Own.mono | exact LeO.refl _ | exact LeO.none _ | refine LeO.ite ?_ ?_ | refine LeO.bind ?_ (fun _ => ?_))
set_option maxHeartbeats 8000000 in
set_option maxRecDepth 100000 in
theorem spec_AskPart.calls (k : Nat) (A0_0 : Option Addr) (c0_0 : Nat) (l0_0 : List (S81)) (A0_1 : Option Addr) (c0_1 : Nat) (l0_1 : List (S78)) (a0_2 : Int) (a1_0 : Int) (a1_1 : Int) (a1_2 : Int) (A1_3 : Option Addr) (c1_3 : Nat) (l1_3 : List ByteArray) (r1 : List (S81)) (r2 : List (S78)) (r3 : Int) (r4 : Int) (r5 : Int) (r6 : Bool) (w : World) (hr0_0 : Kd.C k81 w A0_0 l0_0.length l0_0) (hc0_0 : l0_0.length ≤ c0_0) (hr0_1 : Kd.C k78 w A0_1 l0_1.length l0_1) (hc0_1 : l0_1.length ≤ c0_1) (hr1_3 : Kd.C Kd.string w A1_3 l1_3.length l1_3) (hc1_3 : l1_3.length ≤ c1_3) (h : spec_AskPart.f k l0_0 l0_1 a0_2 a1_0 a1_1 a1_2 l1_3 = some (r1, r2, r3, r4, r5, r6)) :
  Calls Try.prog 30 #[.agg #[.slice A0_0 l0_0.length c0_0, .slice A0_1 l0_1.length c0_1, .int .i64 a0_2], .agg #[.int .i64 a1_0, .int .i64 a1_1, .int .i64 a1_2, .slice A1_3 l1_3.length c1_3]] w fun e w' => ∃ v0_ v1_ : Value, e = .returned (.tuple #[.agg #[v0_, v1_, .int .i64 r3], .int .i64 r4, .int .i64 r5, .bool r6]) ∧ Kd.S k81 81 w' w.heap.size (fun _ => True) v0_ r1 ∧ Kd.S k78 78 w' w.heap.size (fun _ => True) v1_ r2 ∧ Below w.heap.size w w' := by
 have hu33 := Try.underlying33
 have hu57 := Try.underlying57
 have hu78 := Try.underlying78
 have gB := am_ hr0_0
 have hB := am_ hc0_0
 clear hr0_0 hc0_0
 have iB := am_ hr0_1
 have jB := am_ hc0_1
 clear hr0_1 hc0_1
 have rB := am_ hr1_3
 have sB := am_ hc1_3
 clear hr1_3 hc1_3
 have HB := am_ (Below.refl w.heap.size w)
 have H : ((spec_GoodPart.f k l0_0 l0_1 a0_2).bind fun yB => (if yB = true then ((spec_l5Batch.f 0 0 0 0 ([] : List ByteArray) a1_0 a1_1 a1_2 l1_3).bind fun wA => ((spec_GoodBatch.f k wA.1 wA.2.1 wA.2.2.1 wA.2.2.2.1 wA.2.2.2.2).bind fun pB => (spec_AskPart.j0 k (!pB) l0_0 l0_1 a0_2 a1_0 a1_1 a1_2 l1_3))) else (spec_AskPart.j0 k true l0_0 l0_1 a0_2 a1_0 a1_1 a1_2 l1_3))) = some (r1, r2, r3, r4, r5, r6) := h
 clear h
 have jE := am_ H
 clear H
 go_enter Try.func30, Try.ntmps30
 go_upto_region 1 with (first | ((with_reducible refine gate_dst (N := 2) rfl ?_); refine bq_ (N := 2) #[.slice A0_0 l0_0.length c0_0, .slice A0_1 l0_1.length c0_1, .int .i64 a0_2] 33 ?_; intro pA hg w4 aA hb; have yA := ge_ hg; have dA := ge_ hg; replace HB := nb_ hb; clear hb hg) | ((with_reducible refine gate_dst (N := 3) rfl ?_); refine bq_ (N := 3) #[.int .i64 a1_0, .int .i64 a1_1, .int .i64 a1_2, .slice A1_3 l1_3.length c1_3] 57 ?_; intro qA hg w5 bA hb; have zA := ge1_ hg dA; have eA := ge1_ hg dA; replace HB := nc_ dA hb; have lA := nl_ aA hg; have mA := ng_ aA hg; replace aA := bK_ aA hb; clear hb hg) | ((with_reducible refine gate_dst (N := 4) rfl ?_); refine bq_ (N := 4) #[.slice none 0 0, .slice none 0 0, .int .i64 0] 33 ?_; intro jA hg w6 cA hb; have bB := ge2_ hg dA eA; have fA := ge2_ hg dA eA; replace HB := nc2_ dA eA hb; have gA := nl_ aA hg; have iA := ng_ aA hg; replace aA := bK_ aA hb; have nA := nl_ bA hg; have oA := ng_ bA hg; replace bA := bK_ bA hb; clear hb hg))
 (try simp only [Act.put, List.setIfInBounds_toArray, List.set_cons_zero, List.set_cons_succ])
 go_cut [20] (fun wF wc => ∃ (kq : Nat) (kB : Bool), wF = .bool kB ∧ Aside0 (spec_AskPart.j0 kq kB l0_0 l0_1 a0_2 a1_0 a1_1 a1_2 l1_3 = some (r1, r2, r3, r4, r5, r6)) ∧ Aside0 (kq ≤ k) ∧ Aside0 (wc.heap[pA]? = some (.cells #[(.slice A0_0 l0_0.length c0_0), (.slice A0_1 l0_1.length c0_1), .int .i64 a0_2] 33 (0, 0))) ∧ Aside0 (wc.heap[qA]? = some (.cells #[.int .i64 a1_0, .int .i64 a1_1, .int .i64 a1_2, (.slice A1_3 l1_3.length c1_3)] 57 (0, 0))) ∧ Aside0 (wc.heap[jA]? = some (.cells #[(.slice none 0 0), (.slice none 0 0), .int .i64 0] 33 (0, 0))) ∧ Aside0 (Below w.heap.size w wc))
 case first =>
  have H := jE.out
  clear jE
  replace H := bnd_ H
  obtain ⟨yB, A7, H⟩ := H
  replace H := ifb_ H
  obtain ⟨rfl, H⟩ | ⟨rfl, H⟩ := H
  rotate_left
  ·have H' := am_ H
   clear H
   have vE := lA.out
   have wE := mA.out
   have xE := gA.out
   have yE := iA.out
   obtain ⟨jC, kC, lC, mC, nC, oC⟩ := cf3_ aA.out
   go_wp2_with (first | ((with_reducible refine gate_callee (f := 37) rfl ?_); refine gl_ 12 Try.func37 #[.agg #[.slice A0_0 l0_0.length c0_0, .slice A0_1 l0_1.length c0_1, .int .i64 a0_2]] rfl ma_ ?_; (with_reducible refine (spec_GoodPart.calls k _ _ l0_0 _ _ l0_1 a0_2 false _ ?side1 ?side2 ?side3 ?side4 A7.out).mono ?_); (case side1 => exact cs_ ((Kd.C_below gB.out HB.out))); (case side2 => exact hB.out); (case side3 => exact cs_ ((Kd.C_below iB.out HB.out))); (case side4 => exact jB.out); rintro e hG ⟨rfl, hb⟩; refine ⟨_, rfl, ?_⟩; replace aA := bK_ aA hb; replace bA := bK_ bA hb; replace cA := bK_ cA hb; replace HB := nc3_ dA eA fA hb; (try clear hb); (try clear hb2); (try clear hk); (try clear hi)))
   go_meet
   case rel => exact ⟨_, (true), sr_, H', ⟨by first | omega | exact Nat.le_refl _⟩, ⟨kb_ aA.out⟩, ⟨kb_ bA.out⟩, ⟨kb_ cA.out⟩, ⟨hs3_ dA.out eA.out fA.out⟩⟩
  replace H := bnd_ H
  obtain ⟨⟨zB, aC, bC, cC, dC⟩, A9, H⟩ := H
  replace H := red_ H
  replace H := bnd_ H
  obtain ⟨pB, xF, H⟩ := H
  have H' := am_ H
  clear H
  have zE := lA.out
  have bF := mA.out
  have cF := gA.out
  have dF := iA.out
  obtain ⟨pC, qC, rC, sC, tC, uC⟩ := cf3_ aA.out
  go_wp2_with (first | ((with_reducible refine gate_callee (f := 37) rfl ?_); refine gl_ 12 Try.func37 #[.agg #[.slice A0_0 l0_0.length c0_0, .slice A0_1 l0_1.length c0_1, .int .i64 a0_2]] rfl ma_ ?_; (with_reducible refine (spec_GoodPart.calls k _ _ l0_0 _ _ l0_1 a0_2 true _ ?side1 ?side2 ?side3 ?side4 A7.out).mono ?_); (case side1 => exact cs_ ((Kd.C_below gB.out HB.out))); (case side2 => exact hB.out); (case side3 => exact cs_ ((Kd.C_below iB.out HB.out))); (case side4 => exact jB.out); rintro e iG ⟨rfl, hb⟩; refine ⟨_, rfl, ?_⟩; replace aA := bK_ aA hb; replace bA := bK_ bA hb; replace cA := bK_ cA hb; replace HB := nc3_ dA eA fA hb; (try clear hb); (try clear hb2); (try clear hk); (try clear hi); have eF := nA.out; have fF := oA.out; obtain ⟨vC, wC, xC, yC, zC, aD, bD, cD⟩ := cf4_ bA.out) | (go_at_call 56; (refine (spec_l5Batch.calls 0 0 0 0 _ _ ([] : List ByteArray) a1_0 a1_1 a1_2 _ _ l1_3 zB aC bC cC dC _ ?side1 ?side2 ?side3 ?side4 A9.out).mono ?_); (case side1 => exact Kd.C_nil _ _); (case side2 => exact Nat.le_refl _); (case side3 => exact cs_ ((Kd.C_below rB.out HB.out))); (case side4 => exact sB.out); rintro e jG ⟨yF, rfl, oB, hb⟩; have xA := am_ (Kd.R_lower oB (below_size (hs3_ dA.out eA.out fA.out))); replace aA := bK_ aA hb; replace bA := bK_ bA hb; replace cA := bK_ cA hb; replace HB := nc3_ dA eA fA hb; (try clear hb); (try clear hb2); (try clear hk); (try clear hi); (try clear oB); obtain ⟨zF, aG, kE⟩ := Kd.R_slice xA.out; subst kE) | (go_at_call 55; (with_reducible refine (spec_GoodBatch.calls k zB aC bC cC _ _ dC pB _ ?side1 ?side2 xF.out).mono ?_); (case side1 => exact cs_ ((Kd.R_reads' xA.out).2.2)); (case side2 => exact (Kd.R_reads' xA.out).2.1); rintro e kG ⟨rfl, hb⟩; replace xA := rB_ xA hb; replace aA := bK_ aA hb; replace bA := bK_ bA hb; replace cA := bK_ cA hb; replace HB := nc3_ dA eA fA hb; (try clear hb); (try clear hb2); (try clear hk); (try clear hi)))
  go_meet
  case rel => exact ⟨_, (!pB), sr_, H', ⟨by first | omega | exact Nat.le_refl _⟩, ⟨kb_ aA.out⟩, ⟨kb_ bA.out⟩, ⟨kb_ cA.out⟩, ⟨hs3_ dA.out eA.out fA.out⟩⟩
 case rest =>
  clear jE
  obtain ⟨kq, kB, rfl, HA, lG, aA, bA, cA, HB⟩ := hcut
  cases kq with
  | zero => exact absurd HA.out (by simp [spec_AskPart.j0])
  | succ kj2 =>
   have H := HA.out
   clear HA
   simp only [spec_AskPart.j0] at H
   replace H := ifb_ H
   obtain ⟨rfl, H⟩ | ⟨rfl, H⟩ := H
   ·simp only [Option.some.injEq, Prod.mk.injEq] at H
    obtain ⟨rfl, rfl, rfl, rfl, rfl, rfl⟩ := H
    have gF := iA.out
    have hF := gA.out
    have iF := oA.out
    have jF := nA.out
    obtain ⟨dD, eD, fD, gD, hD, iD⟩ := cf3_ cA.out
    go_wp2
    refine bodyPost_ret (results_list (rs := [.cell 4 33, .tmp 5, .tmp 6, .tmp 7]) rfl (by simp) (.cell jA 33 #[.slice none 0 0, .slice none 0 0, .int .i64 0] (0, 0) _ rfl (up_ cA) Try.underlying33 rfl (by kernel_rfl) (.tmp (.tmp (.tmp .nil))))) rfl ?_
    exact ⟨_, _, er_, by first | exact Kd.S_nil _ _ _ _ _ | exact Kd.N_nil _ _ _ _ _ | exact Kd.V_nil _ _ _ _ _ | exact Kd.Q_nil _ _ _ _ _ | exact Kd.R_nil _ _ _ _ _, by first | exact Kd.S_nil _ _ _ _ _ | exact Kd.N_nil _ _ _ _ _ | exact Kd.V_nil _ _ _ _ _ | exact Kd.Q_nil _ _ _ _ _ | exact Kd.R_nil _ _ _ _ _, hs3_ dA.out eA.out fA.out⟩
   replace H := bnd_ H
   obtain ⟨⟨lB, mB, qB, lE, mE⟩, bG, H⟩ := H
   replace H := red_ H
   replace H := bnd_ H
   obtain ⟨⟨eC, fC, gC⟩, cG, H⟩ := H
   replace H := red_ H
   simp only [Option.some.injEq, Prod.mk.injEq] at H
   obtain ⟨rfl, rfl, rfl, rfl, rfl, rfl⟩ := H
   have kF := lA.out
   have lF := mA.out
   have mF := gA.out
   have nF := iA.out
   obtain ⟨jD, kD, lD, mD, nD, oD⟩ := cf3_ aA.out
   have oF := nA.out
   have pF := oA.out
   obtain ⟨pD, qD, rD, sD, tD, uD, vD, wD⟩ := cf4_ bA.out
   go_wp2_with (first | ((with_reducible refine gate_callee (f := 57) rfl ?_); refine gl_ 25 Try.func57 #[.agg #[.slice A0_0 l0_0.length c0_0, .slice A0_1 l0_1.length c0_1, .int .i64 a0_2], .agg #[.int .i64 a1_0, .int .i64 a1_1, .int .i64 a1_2, .slice A1_3 l1_3.length c1_3]] rfl ma_ ?_; (with_reducible refine (spec_l5Ask.calls kj2 (fun k_ => k_ < w.heap.size) _ _ l0_0 (fun k_ => k_ < w.heap.size) _ _ l0_1 a0_2 a1_0 a1_1 a1_2 _ _ l1_3 lB mB qB lE mE _ ?side1 ?side2 ?side3 ?side4 bG.out).mono ?_); (case side1 => exact Kd.V_mk hB.out (Kd.F_below (Kd.C_F k81_heap gB.out) (hs3_ dA.out eA.out fA.out))); (case side2 => exact Kd.V_mk jB.out (Kd.F_below (Kd.C_F k78_heap iB.out) (hs3_ dA.out eA.out fA.out))); (case side3 => exact cs_ ((Kd.C_below rB.out HB.out))); (case side4 => exact sB.out); rintro e mG ⟨dG, eG, rfl, oB, vB, hb⟩; refine ⟨_, rfl, ?_⟩; have rA := am_ (Kd.V_lower (Kd.V_mono (ok' := fun k_ => k_ ≠ pA ∧ k_ ≠ qA ∧ k_ ≠ jA) oB (fun k_ hk_ => ⟨Or.elim hk_ (fun hs_ => Or.elim hs_ (fun hs_ => fun e_ => Nat.not_le.2 hs_ (by rw [e_]; exact yA.out)) (fun hs_ => fun e_ => Nat.not_le.2 hs_ (by rw [e_]; exact yA.out))) (fun hn_ => (Kd.freshB (g := pA) (o := .cells #[.slice A0_0 l0_0.length c0_0, .slice A0_1 l0_1.length c0_1, .int .i64 a0_2] 33 (0, 0)) (kb_ aA.out) k_ hn_)), Or.elim hk_ (fun hs_ => Or.elim hs_ (fun hs_ => fun e_ => Nat.not_le.2 hs_ (by rw [e_]; exact zA.out)) (fun hs_ => fun e_ => Nat.not_le.2 hs_ (by rw [e_]; exact zA.out))) (fun hn_ => (Kd.freshB (g := qA) (o := .cells #[.int .i64 a1_0, .int .i64 a1_1, .int .i64 a1_2, .slice A1_3 l1_3.length c1_3] 57 (0, 0)) (kb_ bA.out) k_ hn_)), Or.elim hk_ (fun hs_ => Or.elim hs_ (fun hs_ => fun e_ => Nat.not_le.2 hs_ (by rw [e_]; exact bB.out)) (fun hs_ => fun e_ => Nat.not_le.2 hs_ (by rw [e_]; exact bB.out))) (fun hn_ => (Kd.freshB (g := jA) (o := .cells #[.slice none 0 0, .slice none 0 0, .int .i64 0] 33 (0, 0)) (kb_ cA.out) k_ hn_))⟩)) (below_size (hs3_ dA.out eA.out fA.out))); have sA := am_ (Kd.V_lower (Kd.V_mono (ok' := fun k_ => k_ ≠ pA ∧ k_ ≠ qA ∧ k_ ≠ jA) vB (fun k_ hk_ => ⟨Or.elim hk_ (fun hs_ => Or.elim hs_ (fun hs_ => fun e_ => Nat.not_le.2 hs_ (by rw [e_]; exact yA.out)) (fun hs_ => fun e_ => Nat.not_le.2 hs_ (by rw [e_]; exact yA.out))) (fun hn_ => (Kd.freshB (g := pA) (o := .cells #[.slice A0_0 l0_0.length c0_0, .slice A0_1 l0_1.length c0_1, .int .i64 a0_2] 33 (0, 0)) (kb_ aA.out) k_ hn_)), Or.elim hk_ (fun hs_ => Or.elim hs_ (fun hs_ => fun e_ => Nat.not_le.2 hs_ (by rw [e_]; exact zA.out)) (fun hs_ => fun e_ => Nat.not_le.2 hs_ (by rw [e_]; exact zA.out))) (fun hn_ => (Kd.freshB (g := qA) (o := .cells #[.int .i64 a1_0, .int .i64 a1_1, .int .i64 a1_2, .slice A1_3 l1_3.length c1_3] 57 (0, 0)) (kb_ bA.out) k_ hn_)), Or.elim hk_ (fun hs_ => Or.elim hs_ (fun hs_ => fun e_ => Nat.not_le.2 hs_ (by rw [e_]; exact bB.out)) (fun hs_ => fun e_ => Nat.not_le.2 hs_ (by rw [e_]; exact bB.out))) (fun hn_ => (Kd.freshB (g := jA) (o := .cells #[.slice none 0 0, .slice none 0 0, .int .i64 0] 33 (0, 0)) (kb_ cA.out) k_ hn_))⟩)) (below_size (hs3_ dA.out eA.out fA.out))); replace aA := bK_ aA hb; replace bA := bK_ bA hb; replace cA := bK_ cA hb; replace HB := nc3_ dA eA fA hb; (try clear hb); (try clear hb2); (try clear hk); (try clear hi); (try clear oB); (try clear vB)) | ((with_reducible refine gate_dst (N := 8) rfl ?_); refine bq_ (N := 8) #[.slice none 0 0, .slice none 0 0, .int .i64 0] 33 ?_; intro kA hg nG nB hb; replace rA := am_ (Kd.V_below (Kd.V_elderB (vF_ rA.out) kA (Nat.le_of_eq hg.symm)) hb); replace sA := am_ (Kd.V_below (Kd.V_elderB (vF_ sA.out) kA (Nat.le_of_eq hg.symm)) hb); have cB := ge3_ hg dA eA fA; replace HB := nc3_ dA eA fA hb; have tA := nl_ aA hg; have dB := ng_ aA hg; replace aA := bK_ aA hb; have uA := nl_ bA hg; have eB := ng_ bA hg; replace bA := bK_ bA hb; have vA := nl_ cA hg; have fB := ng_ cA hg; replace cA := bK_ cA hb; clear hb hg; obtain ⟨hC, wB, nE⟩ := Kd.V_slice rA.out; subst nE; have qF := dB.out; have rF := tA.out; have sF := eB.out; have tF := uA.out; have uF := fB.out; have vF := vA.out; obtain ⟨xD, yD, zD, aE, bE, cE⟩ := cf3_ nB.out; obtain ⟨iC, xB, oE⟩ := Kd.V_slice sA.out; subst oE) | ((with_reducible refine gate_callee (f := 58) rfl ?_); refine gl_ 30 Try.func58 #[.agg #[.slice hC lB.length wB, .slice iC mB.length xB, .int .i64 qB]] rfl ma_ ?_; (with_reducible refine (spec_l5Own.calls kj2 _ _ lB _ _ mB qB eC fC gC _ ?side1 ?side2 ?side3 ?side4 cG.out).mono ?_); (case side1 => refine (Kd.V_reads' (e := 81) (base := w.heap.size) (ok := fun k_ => ((k_ ≠ pA ∧ (k_ ≠ qA ∧ k_ ≠ jA)) ∧ k_ ≠ kA)) (n := lB.length) (c := wB) ?_).2.2; exact ((Kd.V_mono (vF_ (Kd.V_mono rA.out (fun k_ hk => (⟨hk, hk.2⟩ : _ ∧ k_ ≠ kA)))) (fun _ h_ => h_.1)))); (case side2 => exact (Kd.V_reads' rA.out).2.1); (case side3 => refine (Kd.V_reads' (e := 78) (base := w.heap.size) (ok := fun k_ => ((k_ ≠ pA ∧ (k_ ≠ qA ∧ k_ ≠ jA)) ∧ k_ ≠ kA)) (n := mB.length) (c := xB) ?_).2.2; exact ((Kd.V_mono (vF_ (Kd.V_mono sA.out (fun k_ hk => (⟨hk, hk.2⟩ : _ ∧ k_ ≠ kA)))) (fun _ h_ => h_.1)))); (case side4 => exact (Kd.V_reads' sA.out).2.1); rintro e oG ⟨fG, gG, rfl, oB, vB, hb⟩; refine ⟨_, rfl, ?_⟩; replace rA := am_ (Kd.V_mono (Kd.V_told (Kd.V_told (Kd.V_old ((Kd.V_mono (vF_ (Kd.V_mono rA.out (fun k_ hk => (⟨hk, hk.2⟩ : _ ∧ k_ ≠ kA)))) (fun _ h_ => h_.1))) hb) (Kd.S_base oB)) (Kd.S_base vB)) (fun _ h_ => h_.1)); replace sA := am_ (Kd.V_mono (Kd.V_told (Kd.V_told (Kd.V_old ((Kd.V_mono (vF_ (Kd.V_mono sA.out (fun k_ hk => (⟨hk, hk.2⟩ : _ ∧ k_ ≠ kA)))) (fun _ h_ => h_.1))) hb) (Kd.S_base oB)) (Kd.S_base vB)) (fun _ h_ => h_.1)); have tB := am_ (Kd.S_lower oB (below_size (hs4_ dA.out eA.out fA.out cB.out))); have uB := am_ (Kd.S_lower vB (below_size (hs4_ dA.out eA.out fA.out cB.out))); replace aA := am_ (blk_below (g := pA) (o := .cells #[.slice A0_0 l0_0.length c0_0, .slice A0_1 l0_1.length c0_1, .int .i64 a0_2] 33 (0, 0)) (uf_ aA tA.out) hb); replace bA := am_ (blk_below (g := qA) (o := .cells #[.int .i64 a1_0, .int .i64 a1_1, .int .i64 a1_2, .slice A1_3 l1_3.length c1_3] 57 (0, 0)) (uf_ bA uA.out) hb); replace cA := am_ (blk_below (g := jA) (o := .cells #[.slice none 0 0, .slice none 0 0, .int .i64 0] 33 (0, 0)) (uf_ cA vA.out) hb); replace nB := am_ (blk_below (g := kA) (o := .cells #[.slice hC lB.length wB, .slice iC mB.length xB, .int .i64 qB] 33 (0, 0)) (up_ nB) hb); replace HB := nc4_ dA eA fA cB hb; (try clear hb); (try clear hb2); (try clear hk); (try clear hi); (try clear oB); (try clear vB); obtain ⟨pE, qE, rE⟩ := Kd.S_slice tB.out; subst rE; obtain ⟨dE, eE, fE, gE, hE, iE⟩ := cf3_ cA.out; obtain ⟨sE, tE, uE⟩ := Kd.S_slice uB.out; subst uE))
   refine bodyPost_ret (results_list (rs := [.cell 4 33, .tmp 5, .tmp 6, .tmp 7]) rfl (by simp) (.cell jA 33 #[.slice pE eC.length qE, .slice sE fC.length tE, .int .i64 gC] (0, 0) _ rfl (up_ cA) Try.underlying33 rfl (by kernel_rfl) (.tmp (.tmp (.tmp .nil))))) rfl ?_
   exact ⟨_, _, er_, Kd.S_mono (sF_ (Kd.S_types tB.out cA.out (by decide))) (fun _ hk => trivial), Kd.S_mono (sF_ (Kd.S_types uB.out cA.out (by decide))) (fun _ hk => trivial), hs4_ dA.out eA.out fA.out cB.out⟩

/-! ### laws_toAsk: function 31 -/
def laws_toAsk.f (k : Nat) (a0_0 : Int) (a0_1 : Int) (a0_2 : Int) (l0_3 : List ByteArray) : Option (Int × Int × Int × List ByteArray) := (laws_toStringS.f k l0_3).bind fun t341 => (some (a0_0, a0_1, a0_2, t341))
theorem laws_toAsk.mono : ∀ a0 a1 a2 a3 k, LeO (laws_toAsk.f k a0 a1 a2 a3) (laws_toAsk.f (k + 1) a0 a1 a2 a3) := by
 intro a0 a1 a2 a3 k
 unfold laws_toAsk.f
 repeat' first
   | (with_reducible first | apply laws_toStringS.mono | exact LeO.refl _ | exact LeO.none _ | refine LeO.ite ?_ ?_ | refine LeO.bind ?_ (fun _ => ?_))
set_option maxHeartbeats 8000000 in
set_option maxRecDepth 100000 in
theorem laws_toAsk.calls (k : Nat) (a0_0 : Int) (a0_1 : Int) (a0_2 : Int) (A0_3 : Option Addr) (c0_3 : Nat) (l0_3 : List ByteArray) (r1 : Int) (r2 : Int) (r3 : Int) (r4 : List ByteArray) (w : World) (hr0_3 : Kd.C Kd.string w A0_3 l0_3.length l0_3) (hc0_3 : l0_3.length ≤ c0_3) (h : laws_toAsk.f k a0_0 a0_1 a0_2 l0_3 = some (r1, r2, r3, r4)) :
  Calls Try.prog 31 #[.agg #[.int .i64 a0_0, .int .i64 a0_1, .int .i64 a0_2, .slice A0_3 l0_3.length c0_3]] w fun e w' => ∃ v3_ : Value, e = .returned (.agg #[.int .i64 r1, .int .i64 r2, .int .i64 r3, v3_]) ∧ Kd.R Kd.string 9 w' w.heap.size (fun _ => True) v3_ r4 ∧ Below w.heap.size w w' := by
 have hu53 := Try.underlying53
 have hu57 := Try.underlying57
 have rA := am_ hr0_3
 have sA := am_ hc0_3
 clear hr0_3 hc0_3
 have HB := am_ (Below.refl w.heap.size w)
 have H : ((laws_toStringS.f k l0_3).bind fun nA => (some (a0_0, a0_1, a0_2, nA))) = some (r1, r2, r3, r4) := h
 clear h
 replace H := bnd_ H
 obtain ⟨nA, A2, H⟩ := H
 simp only [Option.some.injEq, Prod.mk.injEq] at H
 obtain ⟨rfl, rfl, rfl, rfl⟩ := H
 go_enter Try.func31, Try.ntmps31
 go_wp2_with (first | ((with_reducible refine gate_dst (N := 1) rfl ?_); refine bq_ (N := 1) #[.int .i64 a0_0, .int .i64 a0_1, .int .i64 a0_2, .slice A0_3 l0_3.length c0_3] 53 ?_; intro tA hg w3 aA hb; have dA := ge_ hg; replace HB := nb_ hb; clear hb hg) | ((with_reducible refine gate_dst (N := 2) rfl ?_); refine bq_ (N := 2) #[.int .i64 0, .int .i64 0, .int .i64 0, .slice none 0 0] 57 ?_; intro oA hg w4 bA hb; have eA := ge1_ hg dA; replace HB := nc_ dA hb; have jA := nl_ aA hg; have kA := ng_ aA hg; replace aA := bK_ aA hb; clear hb hg) | ((with_reducible refine gate_dst (N := 3) rfl ?_); refine bq_ (N := 3) #[.int .i64 0, .int .i64 0, .int .i64 0, .slice none 0 0] 57 ?_; intro pA hg w5 gA hb; have iA := ge2_ hg dA eA; replace HB := nc2_ dA eA hb; have fA := nl_ aA hg; have lA := ng_ aA hg; replace aA := bK_ aA hb; have cA := nl_ bA hg; have mA := ng_ bA hg; replace bA := bK_ bA hb; clear hb hg; have fC := jA.out; have gC := kA.out; have hC := fA.out; have iC := lA.out; obtain ⟨vB, wB, xB, yB, zB, aC, bC, cC⟩ := cf4_ aA.out; have jC := mA.out; have kC := cA.out; obtain ⟨wA, xA, yA, zA, bB, cB, dB, eB⟩ := cf4_ gA.out) | ((with_reducible refine gate_callee (f := 62) rfl ?_); refine gl_ 15 Try.func62 #[.slice A0_3 l0_3.length c0_3] rfl ma_ ?_; (with_reducible refine (laws_toStringS.calls k _ _ l0_3 nA _ ?side1 ?side2 A2.out).mono ?_); (case side1 => exact Kd.C_below rA.out (hs3_ dA.out eA.out iA.out)); (case side2 => exact sA.out); rintro e mC ⟨lC, rfl, eC, hb⟩; refine ⟨_, rfl, ?_⟩; have qA := am_ (Kd.R_lower eC (below_size (hs3_ dA.out eA.out iA.out))); replace aA := am_ (blk_below (g := tA) (o := .cells #[.int .i64 a0_0, .int .i64 a0_1, .int .i64 a0_2, .slice A0_3 l0_3.length c0_3] 53 (0, 0)) (uf_ aA fA.out) hb); replace bA := am_ (blk_below (g := oA) (o := .cells #[.int .i64 0, .int .i64 0, .int .i64 0, .slice none 0 0] 57 (0, 0)) (uf_ bA cA.out) hb); replace gA := am_ (blk_below (g := pA) (o := .cells #[.int .i64 a0_0, .int .i64 a0_1, .int .i64 a0_2, .slice none 0 0] 57 (0, 0)) (up_ gA) hb); replace HB := nc3_ dA eA iA hb; (try clear hb); (try clear hb2); (try clear hk); (try clear hi); (try clear eC); obtain ⟨uA, vA, dC⟩ := Kd.R_slice qA.out; subst dC; obtain ⟨fB, gB, hB, iB, jB, kB, lB, mB⟩ := cf4_ gA.out; obtain ⟨nB, oB, pB, qB, rB, sB, tB, uB⟩ := cf4_ bA.out))
 refine bodyPost_ret (results_cell_row rfl _ _ oA 57 #[.int .i64 a0_0, .int .i64 a0_1, .int .i64 a0_2, .slice uA nA.length vA] (0, 0) _ rfl (by (with_reducible repeat (first | refine blk_drewN ?_ _ | refine blk_drew ?_ | refine blk_alloc ?_ _)); refine blk_put (cs := #[.int .i64 a0_0, .int .i64 a0_1, .int .i64 a0_2, .slice none 0 0]) ?_ 3 _ rfl; (with_reducible repeat (first | refine blk_drewN ?_ _ | refine blk_drew ?_ | refine blk_alloc ?_ _)); refine blk_put (cs := #[.int .i64 a0_0, .int .i64 a0_1, .int .i64 0, .slice none 0 0]) ?_ 2 _ rfl; (with_reducible repeat (first | refine blk_drewN ?_ _ | refine blk_drew ?_ | refine blk_alloc ?_ _)); refine blk_put (cs := #[.int .i64 a0_0, .int .i64 0, .int .i64 0, .slice none 0 0]) ?_ 1 _ rfl; (with_reducible repeat (first | refine blk_drewN ?_ _ | refine blk_drew ?_ | refine blk_alloc ?_ _)); refine blk_put (cs := #[.int .i64 0, .int .i64 0, .int .i64 0, .slice none 0 0]) ?_ 0 _ rfl; (with_reducible repeat (first | refine blk_drewN ?_ _ | refine blk_drew ?_ | refine blk_alloc ?_ _)); refine blk_far ?_ cA.out _; (with_reducible repeat (first | refine blk_drewN ?_ _ | refine blk_drew ?_ | refine blk_alloc ?_ _)); exact bA.out) Try.underlying57 rfl (by kernel_rfl)) rfl ?_
 exact ⟨_, er_, Kd.R_mono (rF_ (Kd.R_far (p := ⟨pA, 3, none⟩) (Kd.R_types (Kd.R_types qA.out gA.out (by decide)) bA.out (by decide)) (fun _ hk => hk.1.2) (.slice uA nA.length vA))) (fun _ hk => trivial), hs3_ dA.out eA.out iA.out⟩

-- NOT PRINTED: function 75 (slices_IndexFunc_Producer)

/-! ### impl_Part_producerAt: function 50 -/
/-- The first place, from i on, where p holds; -1 for none. -/
def pa_ix {α : Type} (p : α → Bool) : Nat → List α → Int
 | _, [] => -1
 | i, x :: r => if p x = true then (i : Int) else pa_ix p (i + 1) r
set_option maxHeartbeats 8000000 in
set_option maxRecDepth 100000 in
theorem pa_lit (x : S81) (A3 : Option Addr) (c3 : Nat) (id : Int) (g : Nat) (w : World) (hc : w.cell? ⟨g, 0, none⟩ = some (.int .i64 id)) (hg : g < w.heap.size) :
  Calls Try.prog 76 (#[.agg #[.int .i64 x.f0, .int .i64 x.f1, .int .i64 x.f2, .slice A3 x.f3.length c3]] ++ #[.pointer (some ⟨g, 0, none⟩)]) w fun e w' => e = .returned (.bool (decide (x.f0 = id))) ∧ Below w.heap.size w w' := by
 have hu_ := Try.underlying81
 have hne : ¬ w.heap.size = g := by omega
 have aA : (w.alloc (.cells #[.int .i64 x.f0, .int .i64 x.f1, .int .i64 x.f2, .slice A3 x.f3.length c3] 81)).cell? ⟨g, 0, none⟩ = some (.int .i64 id) := pw_cell_below (below_alloc (Below.refl w.heap.size w) _) hc
 go_enter Try.func76, Try.ntmps76
 go_wp2_with fail
 go_ret
 exact ⟨by first | rfl | simp, by repeat (first | exact Below.refl _ _ | apply below_alloc | apply pw_below_drewN)⟩
set_option maxHeartbeats 8000000 in
set_option maxRecDepth 100000 in
theorem pa_idx (p : S81 → Bool) (l : List S81) (A : Option Addr) (c : Nat) (g : Nat) (lb : Array Value) (eg : ∀ args w, (callFunc g args).run Try.prog w = .ok (.enter g args) w) (w : World) (hr : Kd.C k81 w A l.length l)
  (hp : ∀ (W : World) (x : S81) (A3 : Option Addr) (c3 : Nat), Below w.heap.size w W → Calls Try.prog g (#[.agg #[.int .i64 x.f0, .int .i64 x.f1, .int .i64 x.f2, .slice A3 x.f3.length c3]] ++ lb) W fun e w' => e = .returned (.bool (p x)) ∧ Below W.heap.size W w') :
  Calls Try.prog 75 #[.slice A l.length c, .func (.func g) #[] lb] w fun e w' => e = .returned (.int .i64 (pa_ix p 0 l)) ∧ Below w.heap.size w w' := by
 have hbig : l.length ≤ 9223372036854775807 := hr.2.1
 have hu_ := Try.underlying81
 have HR := am_ hr
 have HP := am_ hp
 clear hr hp
 go_enter Try.func75, Try.ntmps75
 go_wp2
 go_loopg [5, 8] l.length (fun gg _ s8 wr => ∃ kk : Nat, kk ≤ l.length ∧ l.length - kk ≤ gg ∧ s8 = .int .i64 kk ∧ Aside (Below w.heap.size w wr) ∧ Aside (pa_ix p 0 l = pa_ix p kk (l.drop kk)))
 case atStart => exact ⟨0, Nat.zero_le _, by omega, rfl, Below.refl _ w, rfl⟩
 case round =>
  obtain ⟨kk, hkk, hg, rfl, BW, AA⟩ := hrel
  by_cases hlt : kk < l.length
  ·have hltz : (kk : Int) < (l.length : Int) := by omega
   obtain ⟨ad, A3, c3, rfl, hcell0, hcell1, hcell2, hcell3, cA, dA⟩ := at_T81 (Kd.C_below HR.out BW.out) (kk : Int) (by omega) hltz
   clear cA dA
   have e1 : rd_T81 l (kk : Int) = l[kk] := by unfold rd_T81; rw [Int.toNat_natCast, List.getD_eq_getElem?_getD, List.getElem?_eq_getElem hlt]; rfl
   rw [e1] at hcell0 hcell1 hcell2 hcell3
   have hA := AA.out
   rw [List.drop_eq_getElem_cons hlt, pa_ix] at hA
   clear AA
   generalize hx : l[kk] = x at hcell0 hcell1 hcell2 hcell3 hA e1
   rw [Int.toNat_natCast] at hcell0 hcell1 hcell2 hcell3
   have HC := am_ (HP.out wr x A3 c3 BW.out)
   clear e1 hx
   cases hq : p x with
   | true =>
    rw [hq, if_pos rfl] at hA
    have H2 := am_ hA
    have HQ := am_ hq
    clear hA hq
    go_wp2_with fail
    refine HC.out.mono ?_
    rw [HQ.out]
    clear HC
    rintro e w2 ⟨rfl, aA⟩
    have bA := am_ (below_step BW.out aA)
    clear aA
    go_wp2_with fail
    go_ret
    exact ⟨by rw [H2.out]; rfl, bA.out⟩
   | false =>
    rw [hq, if_neg (by decide)] at hA
    have H2 := am_ hA
    have HQ := am_ hq
    clear hA hq
    go_wp2_with fail
    refine HC.out.mono ?_
    rw [HQ.out]
    clear HC
    rintro e w2 ⟨rfl, aA⟩
    have bA := am_ (below_step BW.out aA)
    clear aA
    go_wp2_with fail
    go_roundg (l.length - (kk + 1))
    case measure => omega
    case rel => exact ⟨kk + 1, by omega, by omega, by go_num, bA.out, (show Aside _ from H2.out)⟩
  ·have hltz : ¬ (kk : Int) < (l.length : Int) := by omega
   have hkl : kk = l.length := by omega
   subst hkl
   have hA := AA.out
   rw [List.drop_length, pa_ix] at hA
   have H2 := am_ hA
   clear hA AA
   go_wp2
   go_ret
   exact ⟨by rw [H2.out]; rfl, BW.out⟩
def impl_Part_producerAt.f (l0_0 : List S81) (l0_1 : List S78) (a0_2 : Int) (a1 : Int) : Option Int := some (pa_ix (fun x => decide (x.f0 = a1)) 0 l0_0)
set_option maxHeartbeats 8000000 in
set_option maxRecDepth 100000 in
theorem impl_Part_producerAt.calls (A0_0 : Option Addr) (c0_0 : Nat) (l0_0 : List S81) (A0_1 : Option Addr) (c0_1 : Nat) (l0_1 : List S78) (a0_2 : Int) (a1 : Int) (r : Int) (w : World) (hr0_0 : Kd.C k81 w A0_0 l0_0.length l0_0) (hc0_0 : l0_0.length ≤ c0_0) (hr0_1 : Kd.C k78 w A0_1 l0_1.length l0_1) (hc0_1 : l0_1.length ≤ c0_1) (h : impl_Part_producerAt.f l0_0 l0_1 a0_2 a1 = some r) :
  Calls Try.prog 50 #[.agg #[.slice A0_0 l0_0.length c0_0, .slice A0_1 l0_1.length c0_1, .int .i64 a0_2], .int .i64 a1] w fun e w' => e = .returned (.int .i64 r) ∧ Below w.heap.size w w' := by
 have hu_ := Try.underlying33
 have HR := am_ hr0_0
 have H4 := am_ (Option.some.inj h)
 clear hr0_0 hr0_1 hc0_0 hc0_1 h
 have hbb : Below w.heap.size w ((w.alloc (.cells #[.slice A0_0 l0_0.length c0_0, .slice A0_1 l0_1.length c0_1, .int .i64 a0_2] 33)).alloc (.cells #[.int .i64 a1] 3)) := below_alloc (below_alloc (Below.refl _ _) _) _
 have hsz : ((w.alloc (.cells #[.slice A0_0 l0_0.length c0_0, .slice A0_1 l0_1.length c0_1, .int .i64 a0_2] 33)).alloc (.cells #[.int .i64 a1] 3)).heap.size = w.heap.size + 2 := by
  show ((w.heap.push _).push _).size = _
  rw [Array.size_push, Array.size_push]
 have hcid : ((w.alloc (.cells #[.slice A0_0 l0_0.length c0_0, .slice A0_1 l0_1.length c0_1, .int .i64 a0_2] 33)).alloc (.cells #[.int .i64 a1] 3)).cell? ⟨w.heap.size + 1, 0, none⟩ = some (.int .i64 a1) := (blk_cell (w := (w.alloc (.cells #[.slice A0_0 l0_0.length c0_0, .slice A0_1 l0_1.length c0_1, .int .i64 a0_2] 33)).alloc (.cells #[.int .i64 a1] 3)) (g := w.heap.size + 1) (cs := #[.int .i64 a1]) (t := 3) (by
  show ((w.heap.push _).push _)[w.heap.size + 1]? = _
  rw [← Array.size_push (xs := w.heap), Array.getElem?_push_size]) 0).trans rfl
 have HC := am_ (pa_idx (fun x => decide (x.f0 = a1)) l0_0 A0_0 c0_0 76 #[.pointer (some ⟨w.heap.size + 1, 0, none⟩)] (fun args w => by first | rfl | kernel_rfl) _ (Kd.C_below HR.out hbb)
  (fun W x A3 c3 hb => pa_lit x A3 c3 a1 (w.heap.size + 1) W ((hb.cell (p := ⟨w.heap.size + 1, 0, none⟩) (by rw [hsz]; exact Nat.lt_succ_self _)).trans hcid) (by have := hb.size; omega)))
 have HBB := am_ hbb
 clear hbb hsz hcid
 go_enter Try.func50, Try.ntmps50
 go_wp2_with fail
 refine HC.out.mono ?_
 clear HC
 rintro e w2 ⟨rfl, aA⟩
 have bA := am_ (below_step HBB.out aA)
 clear aA
 go_wp2_with fail
 go_ret
 exact ⟨by rw [H4.out]; rfl, bA.out⟩



/-! ### impl_in: function 63 -/
def impl_in.f (a0 : Int) (a1 : Int) (a2 : Int) : Option (Bool) := if a0 ≥ a1 then (some (decide (a0 ≤ a2))) else (some false)
set_option maxHeartbeats 8000000 in
set_option maxRecDepth 100000 in
theorem impl_in.calls (a0 : Int) (a1 : Int) (a2 : Int) (r : Bool) (w : World) (h : impl_in.f a0 a1 a2 = some r) :
  Calls Try.prog 63 #[.int .i64 a0, .int .i64 a1, .int .i64 a2] w fun e w' => e = .returned (.bool r) ∧ Drawn0 w w' := by
 have H : (if a0 ≥ a1 then (some (decide (a0 ≤ a2))) else (some false)) = some r := h
 clear h
 replace H := ite_ H
 obtain ⟨c4, H⟩ | ⟨c4, H⟩ := H
 rotate_left
 ·have aA := dne_ c4
  clear c4
  obtain rfl := Option.some.inj H
  go_enter Try.func63, Try.ntmps63
  go_wp2
  go_ret
  exact ⟨by first | rfl | (simp; done) | (simp [*]; done), dr_⟩
 have aA := dge_ c4
 clear c4
 obtain rfl := Option.some.inj H
 go_enter Try.func63, Try.ntmps63
 go_wp2
 go_ret
 exact ⟨by first | rfl | (simp; done) | (simp [*]; done), dr_⟩

-- NOT PRINTED: function 95 (slices_IndexFunc_string)

-- NOT PRINTED: function 86 (slices_ContainsFunc_string)
end Go.Proofs.Ytojdaolclcmalaa.QFnExactAskPart
