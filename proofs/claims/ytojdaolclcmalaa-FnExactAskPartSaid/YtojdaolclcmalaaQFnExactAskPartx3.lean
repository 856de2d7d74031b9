/- Functions that one statement reaches: of each a plain function, and the proof that calls come to it. Conditions: those that each contract names. Written by a program of this repository. -/
import Derived.Test.YtojdaolclcmalaaVAskParta
import Derived.Test.YtojdaolclcmalaaQFnExactAskPartx1
import Derived.Test.YtojdaolclcmalaaQFnExactAskPartx2
namespace Go.Proofs.Ytojdaolclcmalaa.QFnExactAskPart
open Go.RowKit Go.Proofs.YtojdaolclcmalaaW.PrintWords Go.Proofs.YtojdaolclcmalaaW.PrintLast Go.Proofs.YtojdaolclcmalaaW.PrintMore
attribute [local go_sem] max2_int min2_int max_two min_two max_three min_three max_four min_four Go.Proofs.YtojdaolclcmalaaW.PrintMore2.isSome_setCell   -- for this text's walks alone
set_option linter.unusedVariables false
set_option linter.unusedSimpArgs false

/-! ### laws_toBatchS: function 43 -/
def laws_toBatchS.l0 : Nat → List (S99) → List (S78) → Int → Option ((List (S78)))
 | 0, _, _, _ => none
 | k + 1, x0, x3, x4 => if x4 < (x0.length : Int) then (if 0 ≤ x4 then ((laws_toBatch.f k ((rd_T99 x0 x4).f0) ((rd_T99 x0 x4).f1) ((rd_T99 x0 x4).f2) ((rd_T99 x0 x4).f3) ((rd_T99 x0 x4).f4)).bind fun bt128 => (if x4 < (x3.length : Int) then (laws_toBatchS.l0 k x0 (x3.set (x4 : Int).toNat (⟨bt128.1, bt128.2.1, bt128.2.2.1, bt128.2.2.2.1, bt128.2.2.2.2⟩ : S78)) (wrap64 (x4 + 1))) else (none))) else (none)) else (some x3)
def laws_toBatchS.f (k : Nat) (l0 : List (S99)) : Option ((List (S78))) := if 0 ≤ (l0.length : Int) then (if ((l0.length : Int) : Int).toNat ≤ 5026338869833 then (laws_toBatchS.l0 k l0 (List.replicate ((l0.length : Int) : Int).toNat z78) 0) else (none)) else (none)
theorem laws_toBatchS.mono_l : ∀ k, (∀ y0 y1 y2, LeO (laws_toBatchS.l0 k y0 y1 y2) (laws_toBatchS.l0 (k + 1) y0 y1 y2))
 | 0 => fun _ _ _ r h => by simp [laws_toBatchS.l0] at h
 | k + 1 => by
  have ih0 := laws_toBatchS.mono_l k
  ·intro y0 y1 y2
   unfold laws_toBatchS.l0
   repeat' first
   | (with_reducible first | apply ih0 | apply laws_toBatch.mono | exact LeO.refl _ | exact LeO.none _ | refine LeO.ite ?_ ?_ | refine LeO.bind ?_ (fun _ => ?_))
theorem laws_toBatchS.mono : ∀ a0 k, LeO (laws_toBatchS.f k a0) (laws_toBatchS.f (k + 1) a0) := by
 intro a0 k
 have ih0 := laws_toBatchS.mono_l k
 unfold laws_toBatchS.f
 repeat' first
   | (with_reducible first | apply ih0 | apply laws_toBatch.mono | exact LeO.refl _ | exact LeO.none _ | refine LeO.ite ?_ ?_ | refine LeO.bind ?_ (fun _ => ?_))
set_option maxHeartbeats 8000000 in
set_option maxRecDepth 100000 in
theorem laws_toBatchS.calls (k : Nat) (A0 : Option Addr) (c0 : Nat) (l0 : List (S99)) (r : List (S78)) (w : World) (hr0 : Kd.C k99 w A0 l0.length l0) (hc0 : l0.length ≤ c0) (h : laws_toBatchS.f k l0 = some r) :
  Calls Try.prog 43 #[.slice A0 l0.length c0] w fun e w' => ∃ v0_ : Value, e = .returned (v0_) ∧ Kd.S k78 78 w' w.heap.size (fun _ => True) v0_ r ∧ Below w.heap.size w w' := by
 have hu99 := Try.underlying99
 have hu78 := Try.underlying78
 have rC := am_ hr0
 have vC := am_ hc0
 clear hr0 hc0
 have HB := am_ (Below.refl w.heap.size w)
 have H : (if 0 ≤ (l0.length : Int) then (if ((l0.length : Int) : Int).toNat ≤ 5026338869833 then (laws_toBatchS.l0 k l0 (List.replicate ((l0.length : Int) : Int).toNat z78) 0) else (none)) else (none)) = some r := h
 clear h
 replace H := ifs_ H
 obtain ⟨c2, H⟩ := H
 have xB := eq_true c2
 have yB := decide_eq_true c2
 clear c2
 replace H := ifs_ H
 obtain ⟨c3, H⟩ := H
 have zB := eq_true c3
 have aC := decide_eq_true c3
 clear c3
 obtain ⟨nB, hA⟩ : ∃ y_ : List (S78), y_ = (List.replicate ((l0.length : Int) : Int).toNat z78) := ⟨_, rfl⟩
 replace H : (laws_toBatchS.l0 k l0 nB 0) = some r := by first | (rw [hA]; with_reducible exact H) | (have H2_ := (Option.bind_some _ _).symm.trans H; rw [hA]; with_reducible exact H2_) | (have H2_ := (Option.bind_some _ _).symm.trans H; with_reducible exact H2_) | with_reducible exact H | (rw [hA]; exact H) | exact H
 have bB := am_ hA
 clear hA
 have H' := am_ H
 clear H
 go_enter Try.func43, Try.ntmps43
 go_wp2_with (first | ((with_reducible refine gate_dst (N := 7) rfl ?_); refine Kd.S_make k78 _ 78 rfl (N := 7) rfl 31 _ _ rfl (l0.length : Int) rfl rfl Try.underlying31 (.agg #[(.int .i64 0), (.int .i64 0), (.int .i64 0), (.int .i64 0), (.slice none 0 0)]) 56 info78 rfl (by decide) (by omega) z78 (ok := fun _ => True) (okp := fun _ => True) (k78_mkM _ _ _ z78 (Kd.R_nil _ _ _ _ _)) (fun _ hk => hk) trivial (oa_) (Nat.le_trans (Nat.mul_le_mul_right _ (oa_ : (l0.length : Int).toNat ≤ 5026338869833)) (by omega)) (Below.refl _ _) (Nat.le_refl _) ?_; intro bC w4 oB hb hg_ hnew_; clear hg_ hnew_; (first | rw [← bB.out] at oB | (simp only [Int.reduceToNat] at oB; rw [← bB.out] at oB)); have pB := am_ (Kd.S_lower oB (below_size (hb_))); replace HB := nb_ hb; clear hb oB))
 go_loopg [4] k (fun kq v4 w' => ∃ (cA : List (S78)) (aA : Int), v4 = .int .i64 aA ∧ Aside0 (laws_toBatchS.l0 kq l0 cA aA = some r) ∧ Aside0 (kq ≤ k) ∧ Aside0 (Kd.S k78 78 w' w.heap.size (fun _ => True) bC cA) ∧ Aside0 (Below w.heap.size w w'))
 case atStart => exact ⟨(nB), (0), sr_, H', ⟨Nat.le_refl _⟩, ⟨ks_ pB.out⟩, ⟨hb_⟩⟩
 case round =>
  clear H'
  try clear c2
  try clear xB
  try clear yB
  try clear c3
  try clear zB
  try clear aC
  obtain ⟨cA, aA, rfl, HA, pC, bA, HB⟩ := hrel
  cases gk with
  | zero => exact absurd HA.out (by simp [laws_toBatchS.l0])
  | succ k1 =>
   have H := HA.out
   clear HA
   simp only [laws_toBatchS.l0] at H
   replace H := ite_ H
   obtain ⟨c6, H⟩ | ⟨c6, H⟩ := H
   rotate_left
   ·have cC := decide_eq_false c6
    clear c6
    obtain rfl := Option.some.inj H
    go_wp2
    go_ret
    exact ⟨_, er_, ks_ bA.out, hb_⟩
   have cC := decide_eq_true c6
   clear c6
   replace H := ifs_ H
   obtain ⟨c7, H⟩ := H
   have sC := decide_eq_true c7
   clear c7
   replace H := bnd_ H
   obtain ⟨⟨sA, tA, uA, vA, iA⟩, A8, H⟩ := H
   replace H := red_ H
   replace H := ifs_ H
   obtain ⟨c9, H⟩ := H
   have tC := decide_eq_true c9
   clear c9
   obtain ⟨cB, jA⟩ : ∃ y_ : List (S78), y_ = (cA.set (aA : Int).toNat (⟨sA, tA, uA, vA, iA⟩ : S78)) := ⟨_, rfl⟩
   replace H : (laws_toBatchS.l0 k1 l0 cB (wrap64 (aA + 1))) = some r := by first | (rw [jA]; with_reducible exact H) | (have H2_ := (Option.bind_some _ _).symm.trans H; rw [jA]; with_reducible exact H2_) | (have H2_ := (Option.bind_some _ _).symm.trans H; with_reducible exact H2_) | with_reducible exact H | (rw [jA]; exact H) | exact H
   have qB := am_ jA
   clear jA
   have H' := am_ H
   clear H
   have dB : 0 ≤ (aA : Int) := oa_
   have eB : aA < (l0.length : Int) := oa_
   obtain ⟨qC, fB, gB, dC, kA, lA, mA, nA, oA, pA, qA⟩ := at_T99 rC.out aA dB eB
   cases dC
   replace kA := pc_ HB.out kA
   replace lA := pc_ HB.out lA
   replace mA := pc_ HB.out mA
   replace nA := pc_ HB.out nA
   replace oA := pc_ HB.out oA
   have xA := am_ qA
   have yA := am_ pA
   clear qA pA
   replace dB := eq_true dB
   replace eB := eq_true eB
   go_wp2_with (first | ((with_reducible refine gate_callee (f := 71) rfl ?_); refine gl_ 20 Try.func71 #[.agg #[.int .i64 ((rd_T99 l0 aA).f0), .int .i64 ((rd_T99 l0 aA).f1), .int .i64 ((rd_T99 l0 aA).f2), .int .i64 ((rd_T99 l0 aA).f3), .slice fB ((rd_T99 l0 aA).f4).length gB]] rfl ma_ ?_; (with_reducible refine (laws_toBatch.calls k1 ((rd_T99 l0 aA).f0) ((rd_T99 l0 aA).f1) ((rd_T99 l0 aA).f2) ((rd_T99 l0 aA).f3) _ _ ((rd_T99 l0 aA).f4) sA tA uA vA iA _ ?side1 ?side2 A8.out).mono ?_); (case side1 => exact cs_ ((Kd.C_below xA.out HB.out))); (case side2 => exact yA.out); rintro e wA ⟨uC, rfl, eC, hb⟩; refine ⟨_, rfl, ?_⟩; replace bA := am_ (Kd.S_elder' (ks_ bA.out) (Kd.R_base eC) hb); have rA := am_ (Kd.R_lower eC (below_size (hb_))); replace HB := nb_ hb; (try clear hb); (try clear hb2); (try clear hk); (try clear hi); (try clear eC); have fC : 0 ≤ (aA : Int) := oa_; have gC : (aA : Int) < ((cA.length : Int) : Int) := oa_; obtain ⟨go10, rB, sB, tB, gl10, cl10, uB⟩ := Kd.S_form bA.out (by omega); (first | cases sB | (injection sB with ea_ en_ ec_; (first | subst ea_ | (injection ea_ with ea_; subst ea_)); subst ec_; clear en_)); have GB10 := am_ tB; have GG10 := am_ uB; clear tB gl10 uB; obtain ⟨_, ce10, vB, hM10, dA, eA, _, _⟩ := Kd.S_elem bA.out z78 (aA : Int) fC gC; obtain ⟨ve10_4, rfl, ge10_4⟩ := k78_openM hM10; have hC : wA.cell? ⟨go10, (aA : Int).toNat * 5, none⟩ = some (.int .i64 ((rd_T78 cA aA).f0)) := dA 0 _ rfl; have iC : wA.cell? ⟨go10, (aA : Int).toNat * 5 + 1, none⟩ = some (.int .i64 ((rd_T78 cA aA).f1)) := dA 1 _ rfl; have jC : wA.cell? ⟨go10, (aA : Int).toNat * 5 + 2, none⟩ = some (.int .i64 ((rd_T78 cA aA).f2)) := dA 2 _ rfl; have kC : wA.cell? ⟨go10, (aA : Int).toNat * 5 + 3, none⟩ = some (.int .i64 ((rd_T78 cA aA).f3)) := dA 3 _ rfl; have lC : wA.cell? ⟨go10, (aA : Int).toNat * 5 + 4, none⟩ = some (ve10_4) := dA 4 _ rfl; have hf10_0 : wA.frozen? ⟨go10, (aA : Int).toNat * 5, none⟩ = false := eA 0; have hf10_1 : wA.frozen? ⟨go10, (aA : Int).toNat * 5 + 1, none⟩ = false := eA 1; have hf10_2 : wA.frozen? ⟨go10, (aA : Int).toNat * 5 + 2, none⟩ = false := eA 2; have hf10_3 : wA.frozen? ⟨go10, (aA : Int).toNat * 5 + 3, none⟩ = false := eA 3; have hf10_4 : wA.frozen? ⟨go10, (aA : Int).toNat * 5 + 4, none⟩ = false := eA 4; clear vB dA eA; (try clear hM10); replace fC := eq_true fC; replace gC := eq_true gC; obtain ⟨zA, aB, mC⟩ := Kd.R_slice rA.out; subst mC; have n_ := am_ (Kd.S_mono (ok' := (fun k_ => some k_ ≠ (.slice zA iA.length aB : Value).ownBlock)) bA.out (fun k_ hk => hk.2)); clear bA; have bA := n_; clear n_; have nC := am_ (show Kd.S k78 78 wA w.heap.size (fun k_ => ((fun _ => True)) k_ ∧ ¬ ((fun k_ => some k_ = (.slice zA iA.length aB : Value).ownBlock)) k_) (.slice (some ⟨go10, 0, none⟩) cA.length rB) cA from (sF_ (Kd.S_mono bA.out (fun k_ hk => ⟨trivial, fun e_ => hk e_⟩)))); obtain ⟨oki12, ce12, wB, hM12, fA, gA, hoki12, hH12⟩ := Kd.S_elem nC.out z78 (aA : Int) (oa_) (by have h_ : (aA : Int) < ((cA.length : Int) : Int) := oa_; first | exact h_ | (have e_ := (Kd.S_reads' bA.out).1; omega) | simpa using h_); obtain ⟨ve12_4, rfl, ge12_4⟩ := k78_openM hM12; have hB := Kd.S_seg hH12 (oa_) (by have h_ : (aA : Int) < ((cA.length : Int) : Int) := oa_; first | exact h_ | (have e_ := (Kd.S_reads' bA.out).1; omega) | simpa using h_) (seg := [.int .i64 sA, .int .i64 tA, .int .i64 uA, .int .i64 vA, .slice zA iA.length aB]) (j := 0) (show 5 ≤ 5 from by decide) (x' := (⟨sA, tA, uA, vA, iA⟩ : S78)) (k78_mkM _ _ _ (⟨sA, tA, uA, vA, iA⟩ : S78) (Kd.R_mono (Kd.R_tight rfl (Kd.R_mono (ok' := fun k_ => ((fun _ => True)) k_ ∧ k_ ≠ go10) (Kd.R_apart' (rA.out) (Kd.S_typed bA.out) (by decide)) (fun k_ hk => ⟨trivial, fun e_ => (hk.2) (by rw [e_]; rfl)⟩))) (fun _ h_ => Or.inr (h_)))) (fun _ hk => hk) (fun k_ hk_ => ((Kd.R_mono (ok' := fun k_ => ((fun _ => True)) k_ ∧ k_ ≠ go10) (Kd.R_apart' (rA.out) (Kd.S_typed bA.out) (by decide)) (fun k_ hk => ⟨trivial, fun e_ => (hk.2) (by rw [e_]; rfl)⟩))).1 k_ hk_.symm); have iB := fA 0 _ rfl; (try simp only [show (k78).sz = 5 from rfl, Nat.mul_one, Nat.add_zero] at iB); have hf12_0 := gA 0; (try simp only [show (k78).sz = 5 from rfl, Nat.mul_one, Nat.add_zero] at hf12_0); have jB := fA 1 _ rfl; (try simp only [show (k78).sz = 5 from rfl, Nat.mul_one, Nat.add_zero] at jB); have hf12_1 := gA 1; (try simp only [show (k78).sz = 5 from rfl, Nat.mul_one, Nat.add_zero] at hf12_1); have kB := fA 2 _ rfl; (try simp only [show (k78).sz = 5 from rfl, Nat.mul_one, Nat.add_zero] at kB); have hf12_2 := gA 2; (try simp only [show (k78).sz = 5 from rfl, Nat.mul_one, Nat.add_zero] at hf12_2); have lB := fA 3 _ rfl; (try simp only [show (k78).sz = 5 from rfl, Nat.mul_one, Nat.add_zero] at lB); have hf12_3 := gA 3; (try simp only [show (k78).sz = 5 from rfl, Nat.mul_one, Nat.add_zero] at hf12_3); have mB := fA 4 _ rfl; (try simp only [show (k78).sz = 5 from rfl, Nat.mul_one, Nat.add_zero] at mB); have hf12_4 := gA 4; (try simp only [show (k78).sz = 5 from rfl, Nat.mul_one, Nat.add_zero] at hf12_4); clear wB fA gA hoki12 hH12; (try clear hM12)) | ((with_reducible refine gate_store (t := 78) (p := 21) rfl ?_); refine store_event (t := 78) (p := 21) (v := ?vo_w13) (w1 := (((((wA.setCell ⟨go10, (aA : Int).toNat * 5, none⟩ (.int .i64 sA)).setCell ⟨go10, (aA : Int).toNat * 5 + 1, none⟩ (.int .i64 tA)).setCell ⟨go10, (aA : Int).toNat * 5 + 2, none⟩ (.int .i64 uA)).setCell ⟨go10, (aA : Int).toNat * 5 + 3, none⟩ (.int .i64 vA)).setCell ⟨go10, (aA : Int).toNat * 5 + 4, none⟩ (.slice zA iA.length aB))) ?hg ?ho ?hn ?hr ?_; (case ho => rfl); (case hg => rfl); (case hn => rfl); (case hr => first | (go_simp; done) | (go_simp; rfl)); intro oC hw; have hg : wA.grownBy oC (some go10) := (by rw [hw]; exact hB.2); have hp_ : Kd.S k78 78 oC w.heap.size (fun _ => True) (.slice (some ⟨go10, 0, none⟩) cA.length rB) cB := (by rw [hw, qB.out]; exact hB.1); clear hB; replace bA := am_ (hp_); replace HB := am_ ((by rw [hw]; exact below_set (below_set (below_set (below_set (below_set (HB.out) GB10.out) GB10.out) GB10.out) GB10.out) GB10.out : Below w.heap.size w oC)); clear rA; clear hg hw hp_))
   go_roundg k1
   case measure => have := pC.out; omega
   case rel => exact ⟨(cB), (wrap64 (aA + 1)), sr_, H', ⟨by have := pC.out; omega⟩, ⟨ks_ bA.out⟩, ⟨hb_⟩⟩

/-! ### laws_toDone: function 98 -/
def laws_toDone.f (a0_0 : Int) (a0_1 : Int) (a0_2 : Int) : Option (Int × Int × Int) := some (a0_0, a0_1, a0_2)
set_option maxHeartbeats 8000000 in
set_option maxRecDepth 100000 in
theorem laws_toDone.calls (a0_0 : Int) (a0_1 : Int) (a0_2 : Int) (r1 : Int) (r2 : Int) (r3 : Int) (w : World) (h : laws_toDone.f a0_0 a0_1 a0_2 = some (r1, r2, r3)) :
  Calls Try.prog 98 #[.agg #[.int .i64 a0_0, .int .i64 a0_1, .int .i64 a0_2]] w fun e w' => e = .returned (.agg #[.int .i64 r1, .int .i64 r2, .int .i64 r3]) ∧ Below w.heap.size w w' := by
 have hu128 := Try.underlying128
 have hu112 := Try.underlying112
 have HB := am_ (Below.refl w.heap.size w)
 have H : (some (a0_0, a0_1, a0_2)) = some (r1, r2, r3) := h
 clear h
 simp only [Option.some.injEq, Prod.mk.injEq] at H
 obtain ⟨rfl, rfl, rfl⟩ := H
 go_enter Try.func98, Try.ntmps98
 go_wp2_with (first | ((with_reducible refine gate_dst (N := 1) rfl ?_); refine bq_ (N := 1) #[.int .i64 a0_0, .int .i64 a0_1, .int .i64 a0_2] 128 ?_; intro fB hg w2 bA hb; have dA := ge_ hg; replace HB := nb_ hb; clear hb hg) | ((with_reducible refine gate_dst (N := 2) rfl ?_); refine bq_ (N := 2) #[.int .i64 0, .int .i64 0, .int .i64 0] 112 ?_; intro kA hg w3 cA hb; have jA := ge1_ hg dA; replace HB := nc_ dA hb; have eA := nl_ bA hg; have fA := ng_ bA hg; replace bA := bK_ bA hb; clear hb hg) | ((with_reducible refine gate_dst (N := 3) rfl ?_); refine bq_ (N := 3) #[.int .i64 0, .int .i64 0, .int .i64 0] 112 ?_; intro gB hg w4 lA hb; have mA := ge2_ hg dA jA; replace HB := nc2_ dA jA hb; have gA := nl_ bA hg; have hA := ng_ bA hg; replace bA := bK_ bA hb; have aA := nl_ cA hg; have iA := ng_ cA hg; replace cA := bK_ cA hb; clear hb hg; have hB := eA.out; have iB := fA.out; have jB := gA.out; have kB := hA.out; obtain ⟨tA, uA, vA, wA, xA, yA⟩ := cf3_ bA.out; have lB := iA.out; have mB := aA.out; obtain ⟨zA, aB, bB, cB, dB, eB⟩ := cf3_ lA.out; obtain ⟨nA, oA, pA, qA, rA, sA⟩ := cf3_ cA.out))
 refine bodyPost_ret (results_cell_row rfl _ _ kA 112 #[.int .i64 a0_0, .int .i64 a0_1, .int .i64 a0_2] (0, 0) _ rfl (by (with_reducible repeat (first | refine blk_drewN ?_ _ | refine blk_drew ?_ | refine blk_alloc ?_ _)); refine blk_put (cs := #[.int .i64 a0_0, .int .i64 a0_1, .int .i64 0]) ?_ 2 _ rfl; (with_reducible repeat (first | refine blk_drewN ?_ _ | refine blk_drew ?_ | refine blk_alloc ?_ _)); refine blk_put (cs := #[.int .i64 a0_0, .int .i64 0, .int .i64 0]) ?_ 1 _ rfl; (with_reducible repeat (first | refine blk_drewN ?_ _ | refine blk_drew ?_ | refine blk_alloc ?_ _)); refine blk_put (cs := #[.int .i64 0, .int .i64 0, .int .i64 0]) ?_ 0 _ rfl; (with_reducible repeat (first | refine blk_drewN ?_ _ | refine blk_drew ?_ | refine blk_alloc ?_ _)); refine blk_far ?_ aA.out _; (with_reducible repeat (first | refine blk_drewN ?_ _ | refine blk_drew ?_ | refine blk_alloc ?_ _)); refine blk_far ?_ aA.out _; (with_reducible repeat (first | refine blk_drewN ?_ _ | refine blk_drew ?_ | refine blk_alloc ?_ _)); refine blk_far ?_ aA.out _; (with_reducible repeat (first | refine blk_drewN ?_ _ | refine blk_drew ?_ | refine blk_alloc ?_ _)); exact cA.out) Try.underlying112 rfl (by kernel_rfl)) rfl ?_
 exact ⟨er_, hs3_ dA.out jA.out mA.out⟩

/-! ### laws_toDoneS: function 93 -/
def laws_toDoneS.l0 : Nat → List (S128) → List (S112) → Int → Option ((List (S112)))
 | 0, _, _, _ => none
 | k + 1, x0, x3, x4 => if x4 < (x0.length : Int) then (if 0 ≤ x4 then ((laws_toDone.f ((rd_T128 x0 x4).f0) ((rd_T128 x0 x4).f1) ((rd_T128 x0 x4).f2)).bind fun bt143 => (if x4 < (x3.length : Int) then (laws_toDoneS.l0 k x0 (x3.set (x4 : Int).toNat (⟨bt143.1, bt143.2.1, bt143.2.2⟩ : S112)) (wrap64 (x4 + 1))) else (none))) else (none)) else (some x3)
def laws_toDoneS.f (k : Nat) (l0 : List (S128)) : Option ((List (S112))) := if 0 ≤ (l0.length : Int) then (if ((l0.length : Int) : Int).toNat ≤ 11728124029610 then (laws_toDoneS.l0 k l0 (List.replicate ((l0.length : Int) : Int).toNat z112) 0) else (none)) else (none)
theorem laws_toDoneS.mono_l : ∀ k, (∀ y0 y1 y2, LeO (laws_toDoneS.l0 k y0 y1 y2) (laws_toDoneS.l0 (k + 1) y0 y1 y2))
 | 0 => fun _ _ _ r h => by simp [laws_toDoneS.l0] at h
 | k + 1 => by
  have ih0 := laws_toDoneS.mono_l k
  ·intro y0 y1 y2
   unfold laws_toDoneS.l0
   repeat' first
   | (with_reducible first | apply ih0 | exact LeO.refl _ | exact LeO.none _ | refine LeO.ite ?_ ?_ | refine LeO.bind ?_ (fun _ => ?_))
theorem laws_toDoneS.mono : ∀ a0 k, LeO (laws_toDoneS.f k a0) (laws_toDoneS.f (k + 1) a0) := by
 intro a0 k
 have ih0 := laws_toDoneS.mono_l k
 unfold laws_toDoneS.f
 repeat' first
   | (with_reducible first | apply ih0 | exact LeO.refl _ | exact LeO.none _ | refine LeO.ite ?_ ?_ | refine LeO.bind ?_ (fun _ => ?_))
set_option maxHeartbeats 8000000 in
set_option maxRecDepth 100000 in
theorem laws_toDoneS.calls (k : Nat) (A0 : Option Addr) (c0 : Nat) (l0 : List (S128)) (r : List (S112)) (w : World) (hr0 : Kd.C k128 w A0 l0.length l0) (hc0 : l0.length ≤ c0) (h : laws_toDoneS.f k l0 = some r) :
  Calls Try.prog 93 #[.slice A0 l0.length c0] w fun e w' => ∃ v0_ : Value, e = .returned (v0_) ∧ Kd.R k112 112 w' w.heap.size (fun _ => True) v0_ r ∧ Below w.heap.size w w' := by
 have hu128 := Try.underlying128
 have hu112 := Try.underlying112
 have yB := am_ hr0
 have bC := am_ hc0
 clear hr0 hc0
 have HB := am_ (Below.refl w.heap.size w)
 have H : (if 0 ≤ (l0.length : Int) then (if ((l0.length : Int) : Int).toNat ≤ 11728124029610 then (laws_toDoneS.l0 k l0 (List.replicate ((l0.length : Int) : Int).toNat z112) 0) else (none)) else (none)) = some r := h
 clear h
 replace H := ifs_ H
 obtain ⟨c2, H⟩ := H
 have jB := eq_true c2
 have kB := decide_eq_true c2
 clear c2
 replace H := ifs_ H
 obtain ⟨c3, H⟩ := H
 have lB := eq_true c3
 have mB := decide_eq_true c3
 clear c3
 obtain ⟨zA, dA⟩ : ∃ y_ : List (S112), y_ = (List.replicate ((l0.length : Int) : Int).toNat z112) := ⟨_, rfl⟩
 replace H : (laws_toDoneS.l0 k l0 zA 0) = some r := by first | (rw [dA]; with_reducible exact H) | (have H2_ := (Option.bind_some _ _).symm.trans H; rw [dA]; with_reducible exact H2_) | (have H2_ := (Option.bind_some _ _).symm.trans H; with_reducible exact H2_) | with_reducible exact H | (rw [dA]; exact H) | exact H
 have qA := am_ dA
 clear dA
 have H' := am_ H
 clear H
 go_enter Try.func93, Try.ntmps93
 go_wp2_with (first | ((with_reducible refine gate_dst (N := 7) rfl ?_); refine Kd.R_make k112 _ 112 rfl (N := 7) rfl 79 _ _ rfl (l0.length : Int) rfl rfl Try.underlying79 (.agg #[(.int .i64 0), (.int .i64 0), (.int .i64 0)]) 24 info112 rfl (by decide) (by omega) z112 (ok := fun _ => True) (okp := fun _ => True) (k112_mkM _ _ _ z112 ) (fun _ hk => hk) trivial (oa_) (Nat.le_trans (Nat.mul_le_mul_right _ (oa_ : (l0.length : Int).toNat ≤ 11728124029610)) (by omega)) (Below.refl _ _) (Nat.le_refl _) ?_; intro nB w4 aB hb hg_ hnew_; clear hg_ hnew_; (first | rw [← qA.out] at aB | (simp only [Int.reduceToNat] at aB; rw [← qA.out] at aB)); have bB := am_ (Kd.R_lower aB (below_size (hb_))); replace HB := nb_ hb; clear hb aB))
 go_loopg [4] k (fun kq v4 w' => ∃ (bA : List (S112)) (aA : Int), v4 = .int .i64 aA ∧ Aside0 (laws_toDoneS.l0 kq l0 bA aA = some r) ∧ Aside0 (kq ≤ k) ∧ Aside0 (Kd.R k112 112 w' w.heap.size (fun _ => True) nB bA) ∧ Aside0 (Below w.heap.size w w'))
 case atStart => exact ⟨(zA), (0), sr_, H', ⟨Nat.le_refl _⟩, ⟨kr_ bB.out⟩, ⟨hb_⟩⟩
 case round =>
  clear H'
  try clear c2
  try clear jB
  try clear kB
  try clear c3
  try clear lB
  try clear mB
  obtain ⟨bA, aA, rfl, HA, wB, cA, HB⟩ := hrel
  cases gk with
  | zero => exact absurd HA.out (by simp [laws_toDoneS.l0])
  | succ k1 =>
   have H := HA.out
   clear HA
   simp only [laws_toDoneS.l0] at H
   replace H := ite_ H
   obtain ⟨c6, H⟩ | ⟨c6, H⟩ := H
   rotate_left
   ·have oB := decide_eq_false c6
    clear c6
    obtain rfl := Option.some.inj H
    go_wp2
    go_ret
    exact ⟨_, er_, kr_ cA.out, hb_⟩
   have oB := decide_eq_true c6
   clear c6
   replace H := ifs_ H
   obtain ⟨c7, H⟩ := H
   have zB := decide_eq_true c7
   clear c7
   replace H := bnd_ H
   obtain ⟨⟨mA, nA, oA⟩, A8, H⟩ := H
   replace H := red_ H
   replace H := ifs_ H
   obtain ⟨c9, H⟩ := H
   have aC := decide_eq_true c9
   clear c9
   obtain ⟨sA, eA⟩ : ∃ y_ : List (S112), y_ = (bA.set (aA : Int).toNat (⟨mA, nA, oA⟩ : S112)) := ⟨_, rfl⟩
   replace H : (laws_toDoneS.l0 k1 l0 sA (wrap64 (aA + 1))) = some r := by first | (rw [eA]; with_reducible exact H) | (have H2_ := (Option.bind_some _ _).symm.trans H; rw [eA]; with_reducible exact H2_) | (have H2_ := (Option.bind_some _ _).symm.trans H; with_reducible exact H2_) | with_reducible exact H | (rw [eA]; exact H) | exact H
   have cB := am_ eA
   clear eA
   have H' := am_ H
   clear H
   have tA : 0 ≤ (aA : Int) := oa_
   have uA : aA < (l0.length : Int) := oa_
   obtain ⟨xB, pB, gA, hA, iA⟩ := at_T128 yB.out aA tA uA
   cases pB
   replace gA := pc_ HB.out gA
   replace hA := pc_ HB.out hA
   replace iA := pc_ HB.out iA
   replace tA := eq_true tA
   replace uA := eq_true uA
   go_wp2_with (first | ((with_reducible refine gate_callee (f := 98) rfl ?_); refine gl_ 20 Try.func98 #[.agg #[.int .i64 ((rd_T128 l0 aA).f0), .int .i64 ((rd_T128 l0 aA).f1), .int .i64 ((rd_T128 l0 aA).f2)]] rfl ma_ ?_; (with_reducible refine (laws_toDone.calls ((rd_T128 l0 aA).f0) ((rd_T128 l0 aA).f1) ((rd_T128 l0 aA).f2) mA nA oA _ A8.out).mono ?_); rintro e pA ⟨rfl, hb⟩; refine ⟨_, rfl, ?_⟩; replace cA := rB_ cA hb; replace HB := nb_ hb; (try clear hb); (try clear hb2); (try clear hk); (try clear hi); have qB : 0 ≤ (aA : Int) := oa_; have rB : (aA : Int) < ((bA.length : Int) : Int) := oa_; obtain ⟨go10, dB, eB, fB, gl10, cl10, gB⟩ := Kd.R_form cA.out (by omega); (first | cases eB | (injection eB with ea_ en_ ec_; (first | subst ea_ | (injection ea_ with ea_; subst ea_)); subst ec_; clear en_)); have GB10 := am_ fB; have GG10 := am_ gB; clear fB gl10 gB; obtain ⟨ce10, hB, hM10, jA, kA⟩ := Kd.R_elem cA.out z112 (aA : Int) qB rB; obtain rfl := k112_openM hM10; have sB : pA.cell? ⟨go10, (aA : Int).toNat * 3, none⟩ = some (.int .i64 ((rd_T112 bA aA).f0)) := jA 0 _ rfl; have tB : pA.cell? ⟨go10, (aA : Int).toNat * 3 + 1, none⟩ = some (.int .i64 ((rd_T112 bA aA).f1)) := jA 1 _ rfl; have uB : pA.cell? ⟨go10, (aA : Int).toNat * 3 + 2, none⟩ = some (.int .i64 ((rd_T112 bA aA).f2)) := jA 2 _ rfl; have hf10_0 : pA.frozen? ⟨go10, (aA : Int).toNat * 3, none⟩ = false := kA 0; have hf10_1 : pA.frozen? ⟨go10, (aA : Int).toNat * 3 + 1, none⟩ = false := kA 1; have hf10_2 : pA.frozen? ⟨go10, (aA : Int).toNat * 3 + 2, none⟩ = false := kA 2; clear hB jA kA; (try clear hM10); replace qB := eq_true qB; replace rB := eq_true rB; have iB := am_ (show Kd.R k112 112 pA w.heap.size (fun _ => True) (.slice (some ⟨go10, 0, none⟩) bA.length dB) bA from (kr_ cA.out)); obtain ⟨ce12, rA, hM12, fA, lA⟩ := Kd.R_elem iB.out z112 (aA : Int) (oa_) (by have h_ : (aA : Int) < ((bA.length : Int) : Int) := oa_; first | exact h_ | (have e_ := (Kd.R_reads' cA.out).1; omega) | simpa using h_); obtain rfl := k112_openM hM12; have vA := Kd.R_seg iB.out (aA : Int) (oa_) (by have h_ : (aA : Int) < ((bA.length : Int) : Int) := oa_; first | exact h_ | (have e_ := (Kd.R_reads' cA.out).1; omega) | simpa using h_) (seg := [.int .i64 mA, .int .i64 nA, .int .i64 oA]) (j := 0) rA fA (show 3 ≤ 3 from by decide) (x' := (⟨mA, nA, oA⟩ : S112)) (k112_mkM _ _ _ (⟨mA, nA, oA⟩ : S112) ) (fun _ hk => hk); have wA := fA 0 _ rfl; (try simp only [show (k112).sz = 3 from rfl, Nat.mul_one, Nat.add_zero] at wA); have hf12_0 := lA 0; (try simp only [show (k112).sz = 3 from rfl, Nat.mul_one, Nat.add_zero] at hf12_0); have xA := fA 1 _ rfl; (try simp only [show (k112).sz = 3 from rfl, Nat.mul_one, Nat.add_zero] at xA); have hf12_1 := lA 1; (try simp only [show (k112).sz = 3 from rfl, Nat.mul_one, Nat.add_zero] at hf12_1); have yA := fA 2 _ rfl; (try simp only [show (k112).sz = 3 from rfl, Nat.mul_one, Nat.add_zero] at yA); have hf12_2 := lA 2; (try simp only [show (k112).sz = 3 from rfl, Nat.mul_one, Nat.add_zero] at hf12_2); clear rA fA lA; (try clear hM12)) | ((with_reducible refine gate_store (t := 112) (p := 21) rfl ?_); refine store_event (t := 112) (p := 21) (v := ?vo_w13) (w1 := (((pA.setCell ⟨go10, (aA : Int).toNat * 3, none⟩ (.int .i64 mA)).setCell ⟨go10, (aA : Int).toNat * 3 + 1, none⟩ (.int .i64 nA)).setCell ⟨go10, (aA : Int).toNat * 3 + 2, none⟩ (.int .i64 oA))) ?hg ?ho ?hn ?hr ?_; (case ho => rfl); (case hg => rfl); (case hn => rfl); (case hr => first | (go_simp; done) | (go_simp; rfl)); intro vB hw; have hg : pA.grownBy vB (some go10) := (by rw [hw]; exact vA.2); have hp_ : Kd.R k112 112 vB w.heap.size (fun _ => True) (.slice (some ⟨go10, 0, none⟩) bA.length dB) sA := (by rw [hw, cB.out]; exact vA.1); clear vA; replace cA := am_ (hp_); replace HB := am_ ((by rw [hw]; exact below_set (below_set (below_set (HB.out) GB10.out) GB10.out) GB10.out : Below w.heap.size w vB)); clear hg hw hp_))
   go_roundg k1
   case measure => have := wB.out; omega
   case rel => exact ⟨(sA), (wrap64 (aA + 1)), sr_, H', ⟨by have := wB.out; omega⟩, ⟨kr_ cA.out⟩, ⟨hb_⟩⟩

/-! ### laws_toProducer: function 74 -/
def laws_toProducer.f (k : Nat) (a0_0 : Int) (a0_1 : Int) (a0_2 : Int) (l0_3 : List (S128)) : Option (Int × Int × Int × (List (S112))) := (laws_toDoneS.f k l0_3).bind fun t150 => (some (a0_0, a0_1, a0_2, t150))
theorem laws_toProducer.mono : ∀ a0 a1 a2 a3 k, LeO (laws_toProducer.f k a0 a1 a2 a3) (laws_toProducer.f (k + 1) a0 a1 a2 a3) := by
 intro a0 a1 a2 a3 k
 unfold laws_toProducer.f
 repeat' first
   | (with_reducible first | apply laws_toDoneS.mono | exact LeO.refl _ | exact LeO.none _ | refine LeO.ite ?_ ?_ | refine LeO.bind ?_ (fun _ => ?_))
set_option maxHeartbeats 8000000 in
set_option maxRecDepth 100000 in
theorem laws_toProducer.calls (k : Nat) (a0_0 : Int) (a0_1 : Int) (a0_2 : Int) (A0_3 : Option Addr) (c0_3 : Nat) (l0_3 : List (S128)) (r1 : Int) (r2 : Int) (r3 : Int) (r4 : List (S112)) (w : World) (hr0_3 : Kd.C k128 w A0_3 l0_3.length l0_3) (hc0_3 : l0_3.length ≤ c0_3) (h : laws_toProducer.f k a0_0 a0_1 a0_2 l0_3 = some (r1, r2, r3, r4)) :
  Calls Try.prog 74 #[.agg #[.int .i64 a0_0, .int .i64 a0_1, .int .i64 a0_2, .slice A0_3 l0_3.length c0_3]] w fun e w' => ∃ v3_ : Value, e = .returned (.agg #[.int .i64 r1, .int .i64 r2, .int .i64 r3, v3_]) ∧ Kd.R k112 112 w' w.heap.size (fun _ => True) v3_ r4 ∧ Below w.heap.size w w' := by
 have hu105 := Try.underlying105
 have hu81 := Try.underlying81
 have qA := am_ hr0_3
 have rA := am_ hc0_3
 clear hr0_3 hc0_3
 have HB := am_ (Below.refl w.heap.size w)
 have H : ((laws_toDoneS.f k l0_3).bind fun mA => (some (a0_0, a0_1, a0_2, mA))) = some (r1, r2, r3, r4) := h
 clear h
 replace H := bnd_ H
 obtain ⟨mA, A2, H⟩ := H
 simp only [Option.some.injEq, Prod.mk.injEq] at H
 obtain ⟨rfl, rfl, rfl, rfl⟩ := H
 go_enter Try.func74, Try.ntmps74
 go_wp2_with (first | ((with_reducible refine gate_dst (N := 1) rfl ?_); refine bq_ (N := 1) #[.int .i64 a0_0, .int .i64 a0_1, .int .i64 a0_2, .slice A0_3 l0_3.length c0_3] 105 ?_; intro sA hg w3 aA hb; have dA := ge_ hg; replace HB := nb_ hb; clear hb hg) | ((with_reducible refine gate_dst (N := 2) rfl ?_); refine bq_ (N := 2) #[.int .i64 0, .int .i64 0, .int .i64 0, .slice none 0 0] 81 ?_; intro nA hg w4 bA hb; have eA := ge1_ hg dA; replace HB := nc_ dA hb; have iA := nl_ aA hg; have jA := ng_ aA hg; replace aA := bK_ aA hb; clear hb hg) | ((with_reducible refine gate_dst (N := 3) rfl ?_); refine bq_ (N := 3) #[.int .i64 0, .int .i64 0, .int .i64 0, .slice none 0 0] 81 ?_; intro oA hg w5 gA hb; have hA := ge2_ hg dA eA; replace HB := nc2_ dA eA hb; have fA := nl_ aA hg; have kA := ng_ aA hg; replace aA := bK_ aA hb; have cA := nl_ bA hg; have lA := ng_ bA hg; replace bA := bK_ bA hb; clear hb hg; have dC := iA.out; have eC := jA.out; have fC := fA.out; have gC := kA.out; obtain ⟨tB, uB, vB, wB, xB, yB, zB, aC⟩ := cf4_ aA.out; have hC := lA.out; have iC := cA.out; obtain ⟨vA, wA, xA, yA, zA, aB, bB, cB⟩ := cf4_ gA.out) | ((with_reducible refine gate_callee (f := 93) rfl ?_); refine gl_ 15 Try.func93 #[.slice A0_3 l0_3.length c0_3] rfl ma_ ?_; (with_reducible refine (laws_toDoneS.calls k _ _ l0_3 mA _ ?side1 ?side2 A2.out).mono ?_); (case side1 => exact Kd.C_below qA.out (hs3_ dA.out eA.out hA.out)); (case side2 => exact rA.out); rintro e kC ⟨jC, rfl, cC, hb⟩; refine ⟨_, rfl, ?_⟩; have pA := am_ (Kd.R_lower cC (below_size (hs3_ dA.out eA.out hA.out))); replace aA := am_ (blk_below (g := sA) (o := .cells #[.int .i64 a0_0, .int .i64 a0_1, .int .i64 a0_2, .slice A0_3 l0_3.length c0_3] 105 (0, 0)) (uf_ aA fA.out) hb); replace bA := am_ (blk_below (g := nA) (o := .cells #[.int .i64 0, .int .i64 0, .int .i64 0, .slice none 0 0] 81 (0, 0)) (uf_ bA cA.out) hb); replace gA := am_ (blk_below (g := oA) (o := .cells #[.int .i64 a0_0, .int .i64 a0_1, .int .i64 a0_2, .slice none 0 0] 81 (0, 0)) (up_ gA) hb); replace HB := nc3_ dA eA hA hb; (try clear hb); (try clear hb2); (try clear hk); (try clear hi); (try clear cC); obtain ⟨tA, uA, bC⟩ := Kd.R_slice pA.out; subst bC; obtain ⟨dB, eB, fB, gB, hB, iB, jB, kB⟩ := cf4_ gA.out; obtain ⟨lB, mB, nB, oB, pB, qB, rB, sB⟩ := cf4_ bA.out))
 refine bodyPost_ret (results_cell_row rfl _ _ nA 81 #[.int .i64 a0_0, .int .i64 a0_1, .int .i64 a0_2, .slice tA mA.length uA] (0, 0) _ rfl (by (with_reducible repeat (first | refine blk_drewN ?_ _ | refine blk_drew ?_ | refine blk_alloc ?_ _)); refine blk_put (cs := #[.int .i64 a0_0, .int .i64 a0_1, .int .i64 a0_2, .slice none 0 0]) ?_ 3 _ rfl; (with_reducible repeat (first | refine blk_drewN ?_ _ | refine blk_drew ?_ | refine blk_alloc ?_ _)); refine blk_put (cs := #[.int .i64 a0_0, .int .i64 a0_1, .int .i64 0, .slice none 0 0]) ?_ 2 _ rfl; (with_reducible repeat (first | refine blk_drewN ?_ _ | refine blk_drew ?_ | refine blk_alloc ?_ _)); refine blk_put (cs := #[.int .i64 a0_0, .int .i64 0, .int .i64 0, .slice none 0 0]) ?_ 1 _ rfl; (with_reducible repeat (first | refine blk_drewN ?_ _ | refine blk_drew ?_ | refine blk_alloc ?_ _)); refine blk_put (cs := #[.int .i64 0, .int .i64 0, .int .i64 0, .slice none 0 0]) ?_ 0 _ rfl; (with_reducible repeat (first | refine blk_drewN ?_ _ | refine blk_drew ?_ | refine blk_alloc ?_ _)); refine blk_far ?_ cA.out _; (with_reducible repeat (first | refine blk_drewN ?_ _ | refine blk_drew ?_ | refine blk_alloc ?_ _)); exact bA.out) Try.underlying81 rfl (by kernel_rfl)) rfl ?_
 exact ⟨_, er_, Kd.R_mono (rF_ (Kd.R_far (p := ⟨oA, 3, none⟩) (Kd.R_types (Kd.R_types pA.out gA.out (by decide)) bA.out (by decide)) (fun _ hk => hk.1.2) (.slice tA mA.length uA))) (fun _ hk => trivial), hs3_ dA.out eA.out hA.out⟩

/-! ### laws_toProducerS: function 49 -/
def laws_toProducerS.l0 : Nat → List (S105) → List (S81) → Int → Option ((List (S81)))
 | 0, _, _, _ => none
 | k + 1, x0, x3, x4 => if x4 < (x0.length : Int) then (if 0 ≤ x4 then ((laws_toProducer.f k ((rd_T105 x0 x4).f0) ((rd_T105 x0 x4).f1) ((rd_T105 x0 x4).f2) ((rd_T105 x0 x4).f3)).bind fun bt157 => (if x4 < (x3.length : Int) then (laws_toProducerS.l0 k x0 (x3.set (x4 : Int).toNat (⟨bt157.1, bt157.2.1, bt157.2.2.1, bt157.2.2.2⟩ : S81)) (wrap64 (x4 + 1))) else (none))) else (none)) else (some x3)
def laws_toProducerS.f (k : Nat) (l0 : List (S105)) : Option ((List (S81))) := if 0 ≤ (l0.length : Int) then (if ((l0.length : Int) : Int).toNat ≤ 5864062014805 then (laws_toProducerS.l0 k l0 (List.replicate ((l0.length : Int) : Int).toNat z81) 0) else (none)) else (none)
theorem laws_toProducerS.mono_l : ∀ k, (∀ y0 y1 y2, LeO (laws_toProducerS.l0 k y0 y1 y2) (laws_toProducerS.l0 (k + 1) y0 y1 y2))
 | 0 => fun _ _ _ r h => by simp [laws_toProducerS.l0] at h
 | k + 1 => by
  have ih0 := laws_toProducerS.mono_l k
  ·intro y0 y1 y2
   unfold laws_toProducerS.l0
   repeat' first
   | (with_reducible first | apply ih0 | apply laws_toProducer.mono | exact LeO.refl _ | exact LeO.none _ | refine LeO.ite ?_ ?_ | refine LeO.bind ?_ (fun _ => ?_))
theorem laws_toProducerS.mono : ∀ a0 k, LeO (laws_toProducerS.f k a0) (laws_toProducerS.f (k + 1) a0) := by
 intro a0 k
 have ih0 := laws_toProducerS.mono_l k
 unfold laws_toProducerS.f
 repeat' first
   | (with_reducible first | apply ih0 | apply laws_toProducer.mono | exact LeO.refl _ | exact LeO.none _ | refine LeO.ite ?_ ?_ | refine LeO.bind ?_ (fun _ => ?_))
set_option maxHeartbeats 8000000 in
set_option maxRecDepth 100000 in
theorem laws_toProducerS.calls (k : Nat) (A0 : Option Addr) (c0 : Nat) (l0 : List (S105)) (r : List (S81)) (w : World) (hr0 : Kd.C k105 w A0 l0.length l0) (hc0 : l0.length ≤ c0) (h : laws_toProducerS.f k l0 = some r) :
  Calls Try.prog 49 #[.slice A0 l0.length c0] w fun e w' => ∃ v0_ : Value, e = .returned (v0_) ∧ Kd.S k81 81 w' w.heap.size (fun _ => True) v0_ r ∧ Below w.heap.size w w' := by
 have hu105 := Try.underlying105
 have hu81 := Try.underlying81
 have nC := am_ hr0
 have rC := am_ hc0
 clear hr0 hc0
 have HB := am_ (Below.refl w.heap.size w)
 have H : (if 0 ≤ (l0.length : Int) then (if ((l0.length : Int) : Int).toNat ≤ 5864062014805 then (laws_toProducerS.l0 k l0 (List.replicate ((l0.length : Int) : Int).toNat z81) 0) else (none)) else (none)) = some r := h
 clear h
 replace H := ifs_ H
 obtain ⟨c2, H⟩ := H
 have uB := eq_true c2
 have vB := decide_eq_true c2
 clear c2
 replace H := ifs_ H
 obtain ⟨c3, H⟩ := H
 have wB := eq_true c3
 have xB := decide_eq_true c3
 clear c3
 obtain ⟨kB, dA⟩ : ∃ y_ : List (S81), y_ = (List.replicate ((l0.length : Int) : Int).toNat z81) := ⟨_, rfl⟩
 replace H : (laws_toProducerS.l0 k l0 kB 0) = some r := by first | (rw [dA]; with_reducible exact H) | (have H2_ := (Option.bind_some _ _).symm.trans H; rw [dA]; with_reducible exact H2_) | (have H2_ := (Option.bind_some _ _).symm.trans H; with_reducible exact H2_) | with_reducible exact H | (rw [dA]; exact H) | exact H
 have zA := am_ dA
 clear dA
 have H' := am_ H
 clear H
 go_enter Try.func49, Try.ntmps49
 go_wp2_with (first | ((with_reducible refine gate_dst (N := 7) rfl ?_); refine Kd.S_make k81 _ 81 rfl (N := 7) rfl 30 _ _ rfl (l0.length : Int) rfl rfl Try.underlying30 (.agg #[(.int .i64 0), (.int .i64 0), (.int .i64 0), (.slice none 0 0)]) 48 info81 rfl (by decide) (by omega) z81 (ok := fun _ => True) (okp := fun _ => True) (k81_mkM _ _ _ z81 (Kd.R_nil _ _ _ _ _)) (fun _ hk => hk) trivial (oa_) (Nat.le_trans (Nat.mul_le_mul_right _ (oa_ : (l0.length : Int).toNat ≤ 5864062014805)) (by omega)) (Below.refl _ _) (Nat.le_refl _) ?_; intro yB w4 lB hb hg_ hnew_; clear hg_ hnew_; (first | rw [← zA.out] at lB | (simp only [Int.reduceToNat] at lB; rw [← zA.out] at lB)); have mB := am_ (Kd.S_lower lB (below_size (hb_))); replace HB := nb_ hb; clear hb lB))
 go_loopg [4] k (fun kq v4 w' => ∃ (cA : List (S81)) (aA : Int), v4 = .int .i64 aA ∧ Aside0 (laws_toProducerS.l0 kq l0 cA aA = some r) ∧ Aside0 (kq ≤ k) ∧ Aside0 (Kd.S k81 81 w' w.heap.size (fun _ => True) yB cA) ∧ Aside0 (Below w.heap.size w w'))
 case atStart => exact ⟨(kB), (0), sr_, H', ⟨Nat.le_refl _⟩, ⟨ks_ mB.out⟩, ⟨hb_⟩⟩
 case round =>
  clear H'
  try clear c2
  try clear uB
  try clear vB
  try clear c3
  try clear wB
  try clear xB
  obtain ⟨cA, aA, rfl, HA, lC, bA, HB⟩ := hrel
  cases gk with
  | zero => exact absurd HA.out (by simp [laws_toProducerS.l0])
  | succ k1 =>
   have H := HA.out
   clear HA
   simp only [laws_toProducerS.l0] at H
   replace H := ite_ H
   obtain ⟨c6, H⟩ | ⟨c6, H⟩ := H
   rotate_left
   ·have zB := decide_eq_false c6
    clear c6
    obtain rfl := Option.some.inj H
    go_wp2
    go_ret
    exact ⟨_, er_, ks_ bA.out, hb_⟩
   have zB := decide_eq_true c6
   clear c6
   replace H := ifs_ H
   obtain ⟨c7, H⟩ := H
   have oC := decide_eq_true c7
   clear c7
   replace H := bnd_ H
   obtain ⟨⟨rA, sA, tA, eA⟩, A8, H⟩ := H
   replace H := red_ H
   replace H := ifs_ H
   obtain ⟨c9, H⟩ := H
   have pC := decide_eq_true c9
   clear c9
   obtain ⟨aB, fA⟩ : ∃ y_ : List (S81), y_ = (cA.set (aA : Int).toNat (⟨rA, sA, tA, eA⟩ : S81)) := ⟨_, rfl⟩
   replace H : (laws_toProducerS.l0 k1 l0 aB (wrap64 (aA + 1))) = some r := by first | (rw [fA]; with_reducible exact H) | (have H2_ := (Option.bind_some _ _).symm.trans H; rw [fA]; with_reducible exact H2_) | (have H2_ := (Option.bind_some _ _).symm.trans H; with_reducible exact H2_) | with_reducible exact H | (rw [fA]; exact H) | exact H
   have nB := am_ fA
   clear fA
   have H' := am_ H
   clear H
   have bB : 0 ≤ (aA : Int) := oa_
   have cB : aA < (l0.length : Int) := oa_
   obtain ⟨mC, dB, eB, aC, kA, lA, mA, nA, oA, pA⟩ := at_T105 nC.out aA bB cB
   cases aC
   replace kA := pc_ HB.out kA
   replace lA := pc_ HB.out lA
   replace mA := pc_ HB.out mA
   replace nA := pc_ HB.out nA
   have vA := am_ pA
   have wA := am_ oA
   clear pA oA
   replace bB := eq_true bB
   replace cB := eq_true cB
   go_wp2_with (first | ((with_reducible refine gate_callee (f := 74) rfl ?_); refine gl_ 20 Try.func74 #[.agg #[.int .i64 ((rd_T105 l0 aA).f0), .int .i64 ((rd_T105 l0 aA).f1), .int .i64 ((rd_T105 l0 aA).f2), .slice dB ((rd_T105 l0 aA).f3).length eB]] rfl ma_ ?_; (with_reducible refine (laws_toProducer.calls k1 ((rd_T105 l0 aA).f0) ((rd_T105 l0 aA).f1) ((rd_T105 l0 aA).f2) _ _ ((rd_T105 l0 aA).f3) rA sA tA eA _ ?side1 ?side2 A8.out).mono ?_); (case side1 => exact cs_ ((Kd.C_below vA.out HB.out))); (case side2 => exact wA.out); rintro e uA ⟨qC, rfl, bC, hb⟩; refine ⟨_, rfl, ?_⟩; replace bA := am_ (Kd.S_elder' (ks_ bA.out) (Kd.R_base bC) hb); have qA := am_ (Kd.R_lower bC (below_size (hb_))); replace HB := nb_ hb; (try clear hb); (try clear hb2); (try clear hk); (try clear hi); (try clear bC); have cC : 0 ≤ (aA : Int) := oa_; have dC : (aA : Int) < ((cA.length : Int) : Int) := oa_; obtain ⟨go10, oB, pB, qB, gl10, cl10, rB⟩ := Kd.S_form bA.out (by omega); (first | cases pB | (injection pB with ea_ en_ ec_; (first | subst ea_ | (injection ea_ with ea_; subst ea_)); subst ec_; clear en_)); have GB10 := am_ qB; have GG10 := am_ rB; clear qB gl10 rB; obtain ⟨_, ce10, sB, hM10, gA, hA, _, _⟩ := Kd.S_elem bA.out z81 (aA : Int) cC dC; obtain ⟨ve10_3, rfl, ge10_3⟩ := k81_openM hM10; have eC : uA.cell? ⟨go10, (aA : Int).toNat * 4, none⟩ = some (.int .i64 ((rd_T81 cA aA).f0)) := gA 0 _ rfl; have fC : uA.cell? ⟨go10, (aA : Int).toNat * 4 + 1, none⟩ = some (.int .i64 ((rd_T81 cA aA).f1)) := gA 1 _ rfl; have gC : uA.cell? ⟨go10, (aA : Int).toNat * 4 + 2, none⟩ = some (.int .i64 ((rd_T81 cA aA).f2)) := gA 2 _ rfl; have hC : uA.cell? ⟨go10, (aA : Int).toNat * 4 + 3, none⟩ = some (ve10_3) := gA 3 _ rfl; have hf10_0 : uA.frozen? ⟨go10, (aA : Int).toNat * 4, none⟩ = false := hA 0; have hf10_1 : uA.frozen? ⟨go10, (aA : Int).toNat * 4 + 1, none⟩ = false := hA 1; have hf10_2 : uA.frozen? ⟨go10, (aA : Int).toNat * 4 + 2, none⟩ = false := hA 2; have hf10_3 : uA.frozen? ⟨go10, (aA : Int).toNat * 4 + 3, none⟩ = false := hA 3; clear sB gA hA; (try clear hM10); replace cC := eq_true cC; replace dC := eq_true dC; obtain ⟨xA, yA, iC⟩ := Kd.R_slice qA.out; subst iC; have n_ := am_ (Kd.S_mono (ok' := (fun k_ => some k_ ≠ (.slice xA eA.length yA : Value).ownBlock)) bA.out (fun k_ hk => hk.2)); clear bA; have bA := n_; clear n_; have jC := am_ (show Kd.S k81 81 uA w.heap.size (fun k_ => ((fun _ => True)) k_ ∧ ¬ ((fun k_ => some k_ = (.slice xA eA.length yA : Value).ownBlock)) k_) (.slice (some ⟨go10, 0, none⟩) cA.length oB) cA from (sF_ (Kd.S_mono bA.out (fun k_ hk => ⟨trivial, fun e_ => hk e_⟩)))); obtain ⟨oki12, ce12, tB, hM12, iA, jA, hoki12, hH12⟩ := Kd.S_elem jC.out z81 (aA : Int) (oa_) (by have h_ : (aA : Int) < ((cA.length : Int) : Int) := oa_; first | exact h_ | (have e_ := (Kd.S_reads' bA.out).1; omega) | simpa using h_); obtain ⟨ve12_3, rfl, ge12_3⟩ := k81_openM hM12; have fB := Kd.S_seg hH12 (oa_) (by have h_ : (aA : Int) < ((cA.length : Int) : Int) := oa_; first | exact h_ | (have e_ := (Kd.S_reads' bA.out).1; omega) | simpa using h_) (seg := [.int .i64 rA, .int .i64 sA, .int .i64 tA, .slice xA eA.length yA]) (j := 0) (show 4 ≤ 4 from by decide) (x' := (⟨rA, sA, tA, eA⟩ : S81)) (k81_mkM _ _ _ (⟨rA, sA, tA, eA⟩ : S81) (Kd.R_mono (Kd.R_tight rfl (Kd.R_mono (ok' := fun k_ => ((fun _ => True)) k_ ∧ k_ ≠ go10) (Kd.R_apart' (qA.out) (Kd.S_typed bA.out) (by decide)) (fun k_ hk => ⟨trivial, fun e_ => (hk.2) (by rw [e_]; rfl)⟩))) (fun _ h_ => Or.inr (h_)))) (fun _ hk => hk) (fun k_ hk_ => ((Kd.R_mono (ok' := fun k_ => ((fun _ => True)) k_ ∧ k_ ≠ go10) (Kd.R_apart' (qA.out) (Kd.S_typed bA.out) (by decide)) (fun k_ hk => ⟨trivial, fun e_ => (hk.2) (by rw [e_]; rfl)⟩))).1 k_ hk_.symm); have gB := iA 0 _ rfl; (try simp only [show (k81).sz = 4 from rfl, Nat.mul_one, Nat.add_zero] at gB); have hf12_0 := jA 0; (try simp only [show (k81).sz = 4 from rfl, Nat.mul_one, Nat.add_zero] at hf12_0); have hB := iA 1 _ rfl; (try simp only [show (k81).sz = 4 from rfl, Nat.mul_one, Nat.add_zero] at hB); have hf12_1 := jA 1; (try simp only [show (k81).sz = 4 from rfl, Nat.mul_one, Nat.add_zero] at hf12_1); have iB := iA 2 _ rfl; (try simp only [show (k81).sz = 4 from rfl, Nat.mul_one, Nat.add_zero] at iB); have hf12_2 := jA 2; (try simp only [show (k81).sz = 4 from rfl, Nat.mul_one, Nat.add_zero] at hf12_2); have jB := iA 3 _ rfl; (try simp only [show (k81).sz = 4 from rfl, Nat.mul_one, Nat.add_zero] at jB); have hf12_3 := jA 3; (try simp only [show (k81).sz = 4 from rfl, Nat.mul_one, Nat.add_zero] at hf12_3); clear tB iA jA hoki12 hH12; (try clear hM12)) | ((with_reducible refine gate_store (t := 81) (p := 21) rfl ?_); refine store_event (t := 81) (p := 21) (v := ?vo_w13) (w1 := ((((uA.setCell ⟨go10, (aA : Int).toNat * 4, none⟩ (.int .i64 rA)).setCell ⟨go10, (aA : Int).toNat * 4 + 1, none⟩ (.int .i64 sA)).setCell ⟨go10, (aA : Int).toNat * 4 + 2, none⟩ (.int .i64 tA)).setCell ⟨go10, (aA : Int).toNat * 4 + 3, none⟩ (.slice xA eA.length yA))) ?hg ?ho ?hn ?hr ?_; (case ho => rfl); (case hg => rfl); (case hn => rfl); (case hr => first | (go_simp; done) | (go_simp; rfl)); intro kC hw; have hg : uA.grownBy kC (some go10) := (by rw [hw]; exact fB.2); have hp_ : Kd.S k81 81 kC w.heap.size (fun _ => True) (.slice (some ⟨go10, 0, none⟩) cA.length oB) aB := (by rw [hw, nB.out]; exact fB.1); clear fB; replace bA := am_ (hp_); replace HB := am_ ((by rw [hw]; exact below_set (below_set (below_set (below_set (HB.out) GB10.out) GB10.out) GB10.out) GB10.out : Below w.heap.size w kC)); clear qA; clear hg hw hp_))
   go_roundg k1
   case measure => have := lC.out; omega
   case rel => exact ⟨(aB), (wrap64 (aA + 1)), sr_, H', ⟨by have := lC.out; omega⟩, ⟨ks_ bA.out⟩, ⟨hb_⟩⟩

/-! ### laws_toPart: function 12 -/
def laws_toPart.f (k : Nat) (l0_0 : List (S105)) (l0_1 : List (S99)) (a0_2 : Int) : Option ((List (S81)) × (List (S78)) × Int) := (laws_toProducerS.f k l0_0).bind fun t167 => ((laws_toBatchS.f k l0_1).bind fun t170 => (some (t167, t170, a0_2)))
theorem laws_toPart.mono : ∀ a0 a1 a2 k, LeO (laws_toPart.f k a0 a1 a2) (laws_toPart.f (k + 1) a0 a1 a2) := by
 intro a0 a1 a2 k
 unfold laws_toPart.f
 repeat' first
   | (with_reducible first | apply laws_toBatchS.mono | apply laws_toProducerS.mono | exact LeO.refl _ | exact LeO.none _ | refine LeO.ite ?_ ?_ | refine LeO.bind ?_ (fun _ => ?_))
set_option maxHeartbeats 8000000 in
set_option maxRecDepth 100000 in
theorem laws_toPart.calls (k : Nat) (A0_0 : Option Addr) (c0_0 : Nat) (l0_0 : List (S105)) (A0_1 : Option Addr) (c0_1 : Nat) (l0_1 : List (S99)) (a0_2 : Int) (r1 : List (S81)) (r2 : List (S78)) (r3 : Int) (w : World) (hr0_0 : Kd.C k105 w A0_0 l0_0.length l0_0) (hc0_0 : l0_0.length ≤ c0_0) (hr0_1 : Kd.C k99 w A0_1 l0_1.length l0_1) (hc0_1 : l0_1.length ≤ c0_1) (h : laws_toPart.f k l0_0 l0_1 a0_2 = some (r1, r2, r3)) :
  Calls Try.prog 12 #[.agg #[.slice A0_0 l0_0.length c0_0, .slice A0_1 l0_1.length c0_1, .int .i64 a0_2]] w fun e w' => ∃ v0_ v1_ : Value, e = .returned (.agg #[v0_, v1_, .int .i64 r3]) ∧ Kd.S k81 81 w' w.heap.size (fun _ => True) v0_ r1 ∧ Kd.S k78 78 w' w.heap.size (fun _ => True) v1_ r2 ∧ Below w.heap.size w w' := by
 have hu25 := Try.underlying25
 have hu33 := Try.underlying33
 have wA := am_ hr0_0
 have xA := am_ hc0_0
 clear hr0_0 hc0_0
 have yA := am_ hr0_1
 have zA := am_ hc0_1
 clear hr0_1 hc0_1
 have HB := am_ (Below.refl w.heap.size w)
 have H : ((laws_toProducerS.f k l0_0).bind fun jA => ((laws_toBatchS.f k l0_1).bind fun kA => (some (jA, kA, a0_2)))) = some (r1, r2, r3) := h
 clear h
 replace H := bnd_ H
 obtain ⟨jA, A2, H⟩ := H
 replace H := bnd_ H
 obtain ⟨kA, A3, H⟩ := H
 simp only [Option.some.injEq, Prod.mk.injEq] at H
 obtain ⟨rfl, rfl, rfl⟩ := H
 go_enter Try.func12, Try.ntmps12
 go_wp2_with (first | ((with_reducible refine gate_dst (N := 1) rfl ?_); refine bq_ (N := 1) #[.slice A0_0 l0_0.length c0_0, .slice A0_1 l0_1.length c0_1, .int .i64 a0_2] 25 ?_; intro aB hg w4 aA hb; have dA := ge_ hg; replace HB := nb_ hb; clear hb hg) | ((with_reducible refine gate_dst (N := 2) rfl ?_); refine bq_ (N := 2) #[.slice none 0 0, .slice none 0 0, .int .i64 0] 33 ?_; intro uA hg w5 bA hb; have fA := ge1_ hg dA; replace HB := nc_ dA hb; have mA := nl_ aA hg; have nA := ng_ aA hg; replace aA := bK_ aA hb; clear hb hg) | ((with_reducible refine gate_dst (N := 3) rfl ?_); refine bq_ (N := 3) #[.slice none 0 0, .slice none 0 0, .int .i64 0] 33 ?_; intro gA hg w6 eA hb; have hA := ge2_ hg dA fA; replace HB := nc2_ dA fA hb; have iA := nl_ aA hg; have oA := ng_ aA hg; replace aA := bK_ aA hb; have cA := nl_ bA hg; have pA := ng_ bA hg; replace bA := bK_ bA hb; clear hb hg; have qC := mA.out; have rC := nA.out; have sC := iA.out; have tC := oA.out; obtain ⟨gC, hC, iC, jC, kC, lC⟩ := cf3_ aA.out) | ((with_reducible refine gate_callee (f := 49) rfl ?_); refine gl_ 6 Try.func49 #[.slice A0_0 l0_0.length c0_0] rfl ma_ ?_; (with_reducible refine (laws_toProducerS.calls k _ _ l0_0 jA _ ?side1 ?side2 A2.out).mono ?_); (case side1 => exact cs_ ((Kd.C_below wA.out HB.out))); (case side2 => exact xA.out); rintro e wC ⟨uC, rfl, bB, hb⟩; refine ⟨_, rfl, ?_⟩; have lA := am_ (Kd.S_lower bB (below_size (hs3_ dA.out fA.out hA.out))); replace aA := bK_ aA hb; replace bA := bK_ bA hb; replace eA := bK_ eA hb; replace HB := nc3_ dA fA hA hb; (try clear hb); (try clear hb2); (try clear hk); (try clear hi); (try clear bB); obtain ⟨qA, rA, mC⟩ := Kd.S_slice lA.out; subst mC; have oC := pA.out; have pC := cA.out; obtain ⟨cB, dB, eB, fB, gB, hB⟩ := cf3_ eA.out; obtain ⟨iB, jB, kB, lB, mB, nB⟩ := cf3_ aA.out) | ((with_reducible refine gate_callee (f := 43) rfl ?_); refine gl_ 10 Try.func43 #[.slice A0_1 l0_1.length c0_1] rfl ma_ ?_; (with_reducible refine (laws_toBatchS.calls k _ _ l0_1 kA _ ?side1 ?side2 A3.out).mono ?_); (case side1 => exact Kd.C_below yA.out (hs3_ dA.out fA.out hA.out)); (case side2 => exact zA.out); rintro e xC ⟨vC, rfl, bB, hb⟩; refine ⟨_, rfl, ?_⟩; replace lA := am_ (Kd.S_below (sF_ (Kd.S_mono (Kd.S_far (p := ⟨gA, 0, none⟩) (Kd.S_types lA.out eA.out (by decide)) (fun _ hk => hk.2) (.slice qA jA.length rA)) (fun _ h_ => h_.1))) hb); have vA := am_ (Kd.S_lower bB (below_size (hs3_ dA.out fA.out hA.out))); replace aA := am_ (blk_below (g := aB) (o := .cells #[.slice A0_0 l0_0.length c0_0, .slice A0_1 l0_1.length c0_1, .int .i64 a0_2] 25 (0, 0)) (uf_ aA iA.out) hb); replace bA := am_ (blk_below (g := uA) (o := .cells #[.slice none 0 0, .slice none 0 0, .int .i64 0] 33 (0, 0)) (uf_ bA cA.out) hb); replace eA := am_ (blk_below (g := gA) (o := .cells #[.slice qA jA.length rA, .slice none 0 0, .int .i64 0] 33 (0, 0)) (up_ eA) hb); replace HB := nc3_ dA fA hA hb; (try clear hb); (try clear hb2); (try clear hk); (try clear hi); (try clear bB); obtain ⟨sA, tA, nC⟩ := Kd.S_slice vA.out; subst nC; obtain ⟨oB, pB, qB, rB, sB, tB⟩ := cf3_ eA.out; obtain ⟨uB, vB, wB, xB, yB, zB⟩ := cf3_ aA.out; obtain ⟨aC, bC, cC, dC, eC, fC⟩ := cf3_ bA.out))
 refine bodyPost_ret (results_cell_row rfl _ _ uA 33 #[.slice qA jA.length rA, .slice sA kA.length tA, .int .i64 a0_2] (0, 0) _ rfl (by (with_reducible repeat (first | refine blk_drewN ?_ _ | refine blk_drew ?_ | refine blk_alloc ?_ _)); refine blk_put (cs := #[.slice qA jA.length rA, .slice sA kA.length tA, .int .i64 0]) ?_ 2 _ rfl; (with_reducible repeat (first | refine blk_drewN ?_ _ | refine blk_drew ?_ | refine blk_alloc ?_ _)); refine blk_put (cs := #[.slice qA jA.length rA, .slice none 0 0, .int .i64 0]) ?_ 1 _ rfl; (with_reducible repeat (first | refine blk_drewN ?_ _ | refine blk_drew ?_ | refine blk_alloc ?_ _)); refine blk_put (cs := #[.slice none 0 0, .slice none 0 0, .int .i64 0]) ?_ 0 _ rfl; (with_reducible repeat (first | refine blk_drewN ?_ _ | refine blk_drew ?_ | refine blk_alloc ?_ _)); refine blk_far ?_ cA.out _; (with_reducible repeat (first | refine blk_drewN ?_ _ | refine blk_drew ?_ | refine blk_alloc ?_ _)); refine blk_far ?_ cA.out _; (with_reducible repeat (first | refine blk_drewN ?_ _ | refine blk_drew ?_ | refine blk_alloc ?_ _)); exact bA.out) Try.underlying33 rfl (by kernel_rfl)) rfl ?_
 exact ⟨_, _, er_, Kd.S_mono (sF_ (Kd.S_far (p := ⟨gA, 2, none⟩) (Kd.S_far (p := ⟨gA, 1, none⟩) (Kd.S_types (Kd.S_types lA.out eA.out (by decide)) bA.out (by decide)) (fun _ hk => hk.1.2) (.slice sA kA.length tA)) (fun _ hk => hk.1.2) (.int .i64 a0_2))) (fun _ hk => trivial), Kd.S_mono (sF_ (Kd.S_far (p := ⟨gA, 2, none⟩) (Kd.S_far (p := ⟨gA, 1, none⟩) (Kd.S_types (Kd.S_types vA.out eA.out (by decide)) bA.out (by decide)) (fun _ hk => hk.1.2) (.slice sA kA.length tA)) (fun _ hk => hk.1.2) (.int .i64 a0_2))) (fun _ hk => trivial), hs3_ dA.out fA.out hA.out⟩

/-! ### laws_eqStringS: function 14 -/
def laws_eqStringS.l0 : Nat → List ByteArray → List ByteArray → Int → Option (Bool)
 | 0, _, _, _ => none
 | k + 1, x0, x1, x5 => if x5 < (x0.length : Int) then (if 0 ≤ x5 then (if x5 < (x1.length : Int) then (if (rdOf ByteArray.empty x0 x5).toList = (rdOf ByteArray.empty x1 x5).toList then (laws_eqStringS.l0 k x0 x1 (wrap64 (x5 + 1))) else (some false)) else (none)) else (none)) else (some true)
def laws_eqStringS.f (k : Nat) (l0 : List ByteArray) (l1 : List ByteArray) : Option (Bool) := if (l0.length : Int) = (l1.length : Int) then (laws_eqStringS.l0 k l0 l1 0) else (some false)
theorem laws_eqStringS.mono_l : ∀ k, (∀ y0 y1 y2, LeO (laws_eqStringS.l0 k y0 y1 y2) (laws_eqStringS.l0 (k + 1) y0 y1 y2))
 | 0 => fun _ _ _ r h => by simp [laws_eqStringS.l0] at h
 | k + 1 => by
  have ih0 := laws_eqStringS.mono_l k
  ·intro y0 y1 y2
   unfold laws_eqStringS.l0
   repeat' first
   | (with_reducible first | apply ih0 | exact LeO.refl _ | exact LeO.none _ | refine LeO.ite ?_ ?_ | refine LeO.bind ?_ (fun _ => ?_))
theorem laws_eqStringS.mono : ∀ a0 a1 k, LeO (laws_eqStringS.f k a0 a1) (laws_eqStringS.f (k + 1) a0 a1) := by
 intro a0 a1 k
 have ih0 := laws_eqStringS.mono_l k
 unfold laws_eqStringS.f
 repeat' first
   | (with_reducible first | apply ih0 | exact LeO.refl _ | exact LeO.none _ | refine LeO.ite ?_ ?_ | refine LeO.bind ?_ (fun _ => ?_))
set_option maxHeartbeats 8000000 in
set_option maxRecDepth 100000 in
theorem laws_eqStringS.calls (k : Nat) (A0 : Option Addr) (c0 : Nat) (l0 : List ByteArray) (A1 : Option Addr) (c1 : Nat) (l1 : List ByteArray) (r : Bool) (w : World) (hr0 : Kd.C Kd.string w A0 l0.length l0) (hc0 : l0.length ≤ c0) (hr1 : Kd.C Kd.string w A1 l1.length l1) (hc1 : l1.length ≤ c1) (h : laws_eqStringS.f k l0 l1 = some r) :
  Calls Try.prog 14 #[.slice A0 l0.length c0, .slice A1 l1.length c1] w fun e w' => e = .returned (.bool r) ∧ Drawn0 w w' := by
 have rA := am_ hr0
 have wA := am_ hc0
 clear hr0 hc0
 have sA := am_ hr1
 have xA := am_ hc1
 clear hr1 hc1
 have H : (if (l0.length : Int) = (l1.length : Int) then (laws_eqStringS.l0 k l0 l1 0) else (some false)) = some r := h
 clear h
 replace H := ite_ H
 obtain ⟨c3, H⟩ | ⟨c3, H⟩ := H
 rotate_left
 ·have jA : ((l0.length : Int) == (l1.length : Int)) = false := beq_eq_false_iff_ne.mpr c3
  have kA : ((l0.length : Int) != (l1.length : Int)) = true := bne_iff_ne.mpr c3
  have lA : (l0.length == l1.length) = false := by first | simpa using c3 | (simp at c3 ⊢; omega)
  obtain rfl := Option.some.inj H
  go_enter Try.func14, Try.ntmps14
  go_wp2
  repeat (go_quiet (fail); try go_wp2)
  go_ret
  exact ⟨by first | rfl | (simp; done) | (simp [*]; done), dr_⟩
 have jA : ((l0.length : Int) == (l1.length : Int)) = true := beq_iff_eq.mpr c3
 have kA : ((l0.length : Int) != (l1.length : Int)) = false := bne_eq_false_iff_eq.mpr c3
 have lA : (l0.length == l1.length) = true := by first | simpa using c3 | (simp at c3 ⊢; omega)
 clear c3
 have H' := am_ H
 clear H
 go_enter Try.func14, Try.ntmps14
 go_wp2
 repeat (go_quiet (fail); try go_wp2)
 go_loopg [5] k (fun kq v5 w' => ∃ (aA : Int), v5 = .int .i64 aA ∧ Aside0 (laws_eqStringS.l0 kq l0 l1 aA = some r) ∧ Aside0 (kq ≤ k) ∧ Drawn0 w w')
 case atStart => exact ⟨(0), sr_, H', ⟨Nat.le_refl _⟩, dr_⟩
 case round =>
  clear H'
  try clear c1
  try clear c3
  try clear jA
  try clear kA
  try clear lA
  obtain ⟨aA, rfl, HA, tA, ⟨m1, rfl⟩⟩ := hrel
  cases gk with
  | zero => exact absurd HA.out (by simp [laws_eqStringS.l0])
  | succ k1 =>
   have H := HA.out
   clear HA
   simp only [laws_eqStringS.l0] at H
   replace H := ite_ H
   obtain ⟨c4, H⟩ | ⟨c4, H⟩ := H
   rotate_left
   ·have oA := decide_eq_false c4
    clear c4
    obtain rfl := Option.some.inj H
    go_wp2
    repeat (go_quiet (fail); try go_wp2)
    go_ret
    exact ⟨by first | rfl | (simp; done) | (simp [*]; done), dr_⟩
   have oA := decide_eq_true c4
   clear c4
   replace H := ifs_ H
   obtain ⟨c5, H⟩ := H
   have uA := decide_eq_true c5
   clear c5
   replace H := ifs_ H
   obtain ⟨c6, H⟩ := H
   have vA := decide_eq_true c6
   clear c6
   replace H := ite_ H
   obtain ⟨c7, H⟩ | ⟨c7, H⟩ := H
   rotate_left
   ·have pA : ((rdOf ByteArray.empty l0 aA).toList == (rdOf ByteArray.empty l1 aA).toList) = false := beq_eq_false_iff_ne.mpr c7
    have qA : ((rdOf ByteArray.empty l0 aA).toList != (rdOf ByteArray.empty l1 aA).toList) = true := bne_iff_ne.mpr c7
    obtain rfl := Option.some.inj H
    have bA : 0 ≤ (aA : Int) := oa_
    have cA : aA < (l0.length : Int) := oa_
    obtain ⟨mA, hA, fA⟩ := Kd.at_string rA.out aA bA cA
    cases hA
    replace bA := eq_true bA
    replace cA := eq_true cA
    have dA : 0 ≤ (aA : Int) := oa_
    have eA : aA < (l1.length : Int) := oa_
    obtain ⟨nA, iA, gA⟩ := Kd.at_string sA.out aA dA eA
    cases iA
    replace dA := eq_true dA
    replace eA := eq_true eA
    go_wp2
    repeat (go_quiet (fail); try go_wp2)
    go_ret
    exact ⟨by first | rfl | (simp; done) | (simp [*]; done), dr_⟩
   have pA : ((rdOf ByteArray.empty l0 aA).toList == (rdOf ByteArray.empty l1 aA).toList) = true := beq_iff_eq.mpr c7
   have qA : ((rdOf ByteArray.empty l0 aA).toList != (rdOf ByteArray.empty l1 aA).toList) = false := bne_eq_false_iff_eq.mpr c7
   clear c7
   have H' := am_ H
   clear H
   have bA : 0 ≤ (aA : Int) := oa_
   have cA : aA < (l0.length : Int) := oa_
   obtain ⟨mA, hA, fA⟩ := Kd.at_string rA.out aA bA cA
   cases hA
   replace bA := eq_true bA
   replace cA := eq_true cA
   have dA : 0 ≤ (aA : Int) := oa_
   have eA : aA < (l1.length : Int) := oa_
   obtain ⟨nA, iA, gA⟩ := Kd.at_string sA.out aA dA eA
   cases iA
   replace dA := eq_true dA
   replace eA := eq_true eA
   go_wp2
   repeat (go_quiet (fail); try go_wp2)
   go_roundg k1
   case measure => have := tA.out; omega
   case rel => exact ⟨(wrap64 (aA + 1)), sr_, H', ⟨by have := tA.out; omega⟩, dr_⟩

/-! ### laws_eqBatch: function 72 -/
def laws_eqBatch.f (k : Nat) (a0_0 : Int) (a0_1 : Int) (a0_2 : Int) (a0_3 : Int) (l0_4 : List ByteArray) (a1_0 : Int) (a1_1 : Int) (a1_2 : Int) (a1_3 : Int) (l1_4 : List ByteArray) : Option (Bool) := if a0_0 = a1_0 then (if a0_1 = a1_1 then (if a0_2 = a1_2 then (if a0_3 = a1_3 then ((laws_eqStringS.f k l0_4 l1_4).bind fun t177 => (if t177 = true then (some true) else (some false))) else (some false)) else (some false)) else (some false)) else (some false)
theorem laws_eqBatch.mono : ∀ a0 a1 a2 a3 a4 a5 a6 a7 a8 a9 k, LeO (laws_eqBatch.f k a0 a1 a2 a3 a4 a5 a6 a7 a8 a9) (laws_eqBatch.f (k + 1) a0 a1 a2 a3 a4 a5 a6 a7 a8 a9) := by
 intro a0 a1 a2 a3 a4 a5 a6 a7 a8 a9 k
 unfold laws_eqBatch.f
 repeat' first
   | (with_reducible first | apply laws_eqStringS.mono | exact LeO.refl _ | exact LeO.none _ | refine LeO.ite ?_ ?_ | refine LeO.bind ?_ (fun _ => ?_))
set_option maxHeartbeats 8000000 in
set_option maxRecDepth 100000 in
theorem laws_eqBatch.calls (k : Nat) (a0_0 : Int) (a0_1 : Int) (a0_2 : Int) (a0_3 : Int) (A0_4 : Option Addr) (c0_4 : Nat) (l0_4 : List ByteArray) (a1_0 : Int) (a1_1 : Int) (a1_2 : Int) (a1_3 : Int) (A1_4 : Option Addr) (c1_4 : Nat) (l1_4 : List ByteArray) (r : Bool) (w : World) (hr0_4 : Kd.C Kd.string w A0_4 l0_4.length l0_4) (hc0_4 : l0_4.length ≤ c0_4) (hr1_4 : Kd.C Kd.string w A1_4 l1_4.length l1_4) (hc1_4 : l1_4.length ≤ c1_4) (h : laws_eqBatch.f k a0_0 a0_1 a0_2 a0_3 l0_4 a1_0 a1_1 a1_2 a1_3 l1_4 = some r) :
  Calls Try.prog 72 #[.agg #[.int .i64 a0_0, .int .i64 a0_1, .int .i64 a0_2, .int .i64 a0_3, .slice A0_4 l0_4.length c0_4], .agg #[.int .i64 a1_0, .int .i64 a1_1, .int .i64 a1_2, .int .i64 a1_3, .slice A1_4 l1_4.length c1_4]] w fun e w' => e = .returned (.bool r) ∧ Below w.heap.size w w' := by
 have hu78 := Try.underlying78
 have iA := am_ hr0_4
 have jA := am_ hc0_4
 clear hr0_4 hc0_4
 have kA := am_ hr1_4
 have lA := am_ hc1_4
 clear hr1_4 hc1_4
 have HB := am_ (Below.refl w.heap.size w)
 have H : (if a0_0 = a1_0 then (if a0_1 = a1_1 then (if a0_2 = a1_2 then (if a0_3 = a1_3 then ((laws_eqStringS.f k l0_4 l1_4).bind fun mA => (if mA = true then (some true) else (some false))) else (some false)) else (some false)) else (some false)) else (some false)) = some r := h
 clear h
 replace H := ite_ H
 obtain ⟨c3, H⟩ | ⟨c3, H⟩ := H
 rotate_left
 ·have dF : (a0_0 == a1_0) = false := beq_eq_false_iff_ne.mpr c3
  have eF : (a0_0 != a1_0) = true := bne_iff_ne.mpr c3
  obtain rfl := Option.some.inj H
  go_enter Try.func72, Try.ntmps72
  go_wp2_with (first | ((with_reducible refine gate_dst (N := 2) rfl ?_); refine bq_ (N := 2) #[.int .i64 a0_0, .int .i64 a0_1, .int .i64 a0_2, .int .i64 a0_3, .slice A0_4 l0_4.length c0_4] 78 ?_; intro gA hg xF aA hb; have dA := ge_ hg; replace HB := nb_ hb; clear hb hg) | ((with_reducible refine gate_dst (N := 3) rfl ?_); refine bq_ (N := 3) #[.int .i64 a1_0, .int .i64 a1_1, .int .i64 a1_2, .int .i64 a1_3, .slice A1_4 l1_4.length c1_4] 78 ?_; intro hA hg yF eA hb; have fA := ge1_ hg dA; replace HB := nc_ dA hb; have bA := nl_ aA hg; have cA := ng_ aA hg; replace aA := bK_ aA hb; clear hb hg; have lF := bA.out; have mF := cA.out; obtain ⟨nA, oA, pA, qA, rA, sA, tA, uA, vA, wA⟩ := cf5_ aA.out; obtain ⟨xA, yA, zA, aB, bB, cB, dB, eB, fB, gB⟩ := cf5_ eA.out))
  go_ret
  exact ⟨er_, hs2_ dA.out fA.out⟩
 have dF : (a0_0 == a1_0) = true := beq_iff_eq.mpr c3
 have eF : (a0_0 != a1_0) = false := bne_eq_false_iff_eq.mpr c3
 clear c3
 replace H := ite_ H
 obtain ⟨c4, H⟩ | ⟨c4, H⟩ := H
 rotate_left
 ·have fF : (a0_1 == a1_1) = false := beq_eq_false_iff_ne.mpr c4
  have gF : (a0_1 != a1_1) = true := bne_iff_ne.mpr c4
  obtain rfl := Option.some.inj H
  go_enter Try.func72, Try.ntmps72
  go_wp2_with (first | ((with_reducible refine gate_dst (N := 2) rfl ?_); refine bq_ (N := 2) #[.int .i64 a0_0, .int .i64 a0_1, .int .i64 a0_2, .int .i64 a0_3, .slice A0_4 l0_4.length c0_4] 78 ?_; intro gA hg zF aA hb; have dA := ge_ hg; replace HB := nb_ hb; clear hb hg) | ((with_reducible refine gate_dst (N := 3) rfl ?_); refine bq_ (N := 3) #[.int .i64 a1_0, .int .i64 a1_1, .int .i64 a1_2, .int .i64 a1_3, .slice A1_4 l1_4.length c1_4] 78 ?_; intro hA hg aG eA hb; have fA := ge1_ hg dA; replace HB := nc_ dA hb; have bA := nl_ aA hg; have cA := ng_ aA hg; replace aA := bK_ aA hb; clear hb hg; have nF := bA.out; have oF := cA.out; obtain ⟨hB, iB, jB, kB, lB, mB, nB, oB, pB, qB⟩ := cf5_ aA.out; obtain ⟨rB, sB, tB, uB, vB, wB, xB, yB, zB, aC⟩ := cf5_ eA.out))
  go_ret
  exact ⟨er_, hs2_ dA.out fA.out⟩
 have fF : (a0_1 == a1_1) = true := beq_iff_eq.mpr c4
 have gF : (a0_1 != a1_1) = false := bne_eq_false_iff_eq.mpr c4
 clear c4
 replace H := ite_ H
 obtain ⟨c5, H⟩ | ⟨c5, H⟩ := H
 rotate_left
 ·have hF : (a0_2 == a1_2) = false := beq_eq_false_iff_ne.mpr c5
  have iF : (a0_2 != a1_2) = true := bne_iff_ne.mpr c5
  obtain rfl := Option.some.inj H
  go_enter Try.func72, Try.ntmps72
  go_wp2_with (first | ((with_reducible refine gate_dst (N := 2) rfl ?_); refine bq_ (N := 2) #[.int .i64 a0_0, .int .i64 a0_1, .int .i64 a0_2, .int .i64 a0_3, .slice A0_4 l0_4.length c0_4] 78 ?_; intro gA hg bG aA hb; have dA := ge_ hg; replace HB := nb_ hb; clear hb hg) | ((with_reducible refine gate_dst (N := 3) rfl ?_); refine bq_ (N := 3) #[.int .i64 a1_0, .int .i64 a1_1, .int .i64 a1_2, .int .i64 a1_3, .slice A1_4 l1_4.length c1_4] 78 ?_; intro hA hg cG eA hb; have fA := ge1_ hg dA; replace HB := nc_ dA hb; have bA := nl_ aA hg; have cA := ng_ aA hg; replace aA := bK_ aA hb; clear hb hg; have pF := bA.out; have qF := cA.out; obtain ⟨bC, cC, dC, eC, fC, gC, hC, iC, jC, kC⟩ := cf5_ aA.out; obtain ⟨lC, mC, nC, oC, pC, qC, rC, sC, tC, uC⟩ := cf5_ eA.out))
  go_ret
  exact ⟨er_, hs2_ dA.out fA.out⟩
 have hF : (a0_2 == a1_2) = true := beq_iff_eq.mpr c5
 have iF : (a0_2 != a1_2) = false := bne_eq_false_iff_eq.mpr c5
 clear c5
 replace H := ite_ H
 obtain ⟨c6, H⟩ | ⟨c6, H⟩ := H
 rotate_left
 ·have jF : (a0_3 == a1_3) = false := beq_eq_false_iff_ne.mpr c6
  have kF : (a0_3 != a1_3) = true := bne_iff_ne.mpr c6
  obtain rfl := Option.some.inj H
  go_enter Try.func72, Try.ntmps72
  go_wp2_with (first | ((with_reducible refine gate_dst (N := 2) rfl ?_); refine bq_ (N := 2) #[.int .i64 a0_0, .int .i64 a0_1, .int .i64 a0_2, .int .i64 a0_3, .slice A0_4 l0_4.length c0_4] 78 ?_; intro gA hg dG aA hb; have dA := ge_ hg; replace HB := nb_ hb; clear hb hg) | ((with_reducible refine gate_dst (N := 3) rfl ?_); refine bq_ (N := 3) #[.int .i64 a1_0, .int .i64 a1_1, .int .i64 a1_2, .int .i64 a1_3, .slice A1_4 l1_4.length c1_4] 78 ?_; intro hA hg eG eA hb; have fA := ge1_ hg dA; replace HB := nc_ dA hb; have bA := nl_ aA hg; have cA := ng_ aA hg; replace aA := bK_ aA hb; clear hb hg; have rF := bA.out; have sF := cA.out; obtain ⟨vC, wC, xC, yC, zC, aD, bD, cD, dD, eD⟩ := cf5_ aA.out; obtain ⟨fD, gD, hD, iD, jD, kD, lD, mD, nD, oD⟩ := cf5_ eA.out))
  go_ret
  exact ⟨er_, hs2_ dA.out fA.out⟩
 have jF : (a0_3 == a1_3) = true := beq_iff_eq.mpr c6
 have kF : (a0_3 != a1_3) = false := bne_eq_false_iff_eq.mpr c6
 clear c6
 replace H := bnd_ H
 obtain ⟨mA, A7, H⟩ := H
 replace H := ifb_ H
 obtain ⟨rfl, H⟩ | ⟨rfl, H⟩ := H
 ·obtain rfl := Option.some.inj H
  go_enter Try.func72, Try.ntmps72
  go_wp2_with (first | ((with_reducible refine gate_dst (N := 2) rfl ?_); refine bq_ (N := 2) #[.int .i64 a0_0, .int .i64 a0_1, .int .i64 a0_2, .int .i64 a0_3, .slice A0_4 l0_4.length c0_4] 78 ?_; intro gA hg w9 aA hb; have dA := ge_ hg; replace HB := nb_ hb; clear hb hg) | ((with_reducible refine gate_dst (N := 3) rfl ?_); refine bq_ (N := 3) #[.int .i64 a1_0, .int .i64 a1_1, .int .i64 a1_2, .int .i64 a1_3, .slice A1_4 l1_4.length c1_4] 78 ?_; intro hA hg fG eA hb; have fA := ge1_ hg dA; replace HB := nc_ dA hb; have bA := nl_ aA hg; have cA := ng_ aA hg; replace aA := bK_ aA hb; clear hb hg; have tF := bA.out; have uF := cA.out; obtain ⟨pD, qD, rD, sD, tD, uD, vD, wD, xD, yD⟩ := cf5_ aA.out; obtain ⟨zD, aE, bE, cE, dE, eE, fE, gE, hE, iE⟩ := cf5_ eA.out) | ((with_reducible refine gate_callee (f := 14) rfl ?_); refine gl_ 29 Try.func14 #[.slice A0_4 l0_4.length c0_4, .slice A1_4 l1_4.length c1_4] rfl ma_ ?_; (with_reducible refine (laws_eqStringS.calls k _ _ l0_4 _ _ l1_4 true _ ?side1 ?side2 ?side3 ?side4 A7.out).mono ?_); (case side1 => exact cs_ ((Kd.C_below iA.out HB.out))); (case side2 => exact jA.out); (case side3 => exact cs_ ((Kd.C_below kA.out HB.out))); (case side4 => exact lA.out); rintro e w' ⟨rfl, ⟨nd, rfl⟩⟩; refine ⟨_, rfl, ?_⟩))
  go_ret
  exact ⟨er_, hs2_ dA.out fA.out⟩
 obtain rfl := Option.some.inj H
 go_enter Try.func72, Try.ntmps72
 go_wp2_with (first | ((with_reducible refine gate_dst (N := 2) rfl ?_); refine bq_ (N := 2) #[.int .i64 a0_0, .int .i64 a0_1, .int .i64 a0_2, .int .i64 a0_3, .slice A0_4 l0_4.length c0_4] 78 ?_; intro gA hg gG aA hb; have dA := ge_ hg; replace HB := nb_ hb; clear hb hg) | ((with_reducible refine gate_dst (N := 3) rfl ?_); refine bq_ (N := 3) #[.int .i64 a1_0, .int .i64 a1_1, .int .i64 a1_2, .int .i64 a1_3, .slice A1_4 l1_4.length c1_4] 78 ?_; intro hA hg hG eA hb; have fA := ge1_ hg dA; replace HB := nc_ dA hb; have bA := nl_ aA hg; have cA := ng_ aA hg; replace aA := bK_ aA hb; clear hb hg; have vF := bA.out; have wF := cA.out; obtain ⟨jE, kE, lE, mE, nE, oE, pE, qE, rE, sE⟩ := cf5_ aA.out; obtain ⟨tE, uE, vE, wE, xE, yE, zE, aF, bF, cF⟩ := cf5_ eA.out) | ((with_reducible refine gate_callee (f := 14) rfl ?_); refine gl_ 29 Try.func14 #[.slice A0_4 l0_4.length c0_4, .slice A1_4 l1_4.length c1_4] rfl ma_ ?_; (with_reducible refine (laws_eqStringS.calls k _ _ l0_4 _ _ l1_4 false _ ?side1 ?side2 ?side3 ?side4 A7.out).mono ?_); (case side1 => exact cs_ ((Kd.C_below iA.out HB.out))); (case side2 => exact jA.out); (case side3 => exact cs_ ((Kd.C_below kA.out HB.out))); (case side4 => exact lA.out); rintro e w' ⟨rfl, ⟨nd, rfl⟩⟩; refine ⟨_, rfl, ?_⟩))
 go_ret
 exact ⟨er_, hs2_ dA.out fA.out⟩
end Go.Proofs.Ytojdaolclcmalaa.QFnExactAskPart
