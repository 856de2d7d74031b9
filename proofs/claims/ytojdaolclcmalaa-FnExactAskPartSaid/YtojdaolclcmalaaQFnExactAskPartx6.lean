/- Functions that one statement reaches: of each a plain function, and the proof that calls come to it. Conditions: those that each contract names. Written by a program of this repository. -/
import Derived.Test.YtojdaolclcmalaaVAskParta
import Derived.Test.YtojdaolclcmalaaQFnExactAskPartx1
import Derived.Test.YtojdaolclcmalaaQFnExactAskPartx5
namespace Go.Proofs.Ytojdaolclcmalaa.QFnExactAskPart
open Go.RowKit Go.Proofs.YtojdaolclcmalaaW.PrintWords Go.Proofs.YtojdaolclcmalaaW.PrintLast Go.Proofs.YtojdaolclcmalaaW.PrintMore
attribute [local go_sem] max2_int min2_int max_two min_two max_three min_three max_four min_four Go.Proofs.YtojdaolclcmalaaW.PrintMore2.isSome_setCell   -- for this text's walks alone
set_option linter.unusedVariables false
set_option linter.unusedSimpArgs false

/-! ### laws_markBatchS: function 46 -/
def laws_markBatchS.l0 : Nat → List S78 → Int → Nat → Option (Int × List S78)
 | 0, _, _, _ => none
 | k + 1, x, m, i => if i < x.length then (laws_markStringS.f k (x.getD i z78).f4 (wrap64 ((wrap64 ((wrap64 ((wrap64 (m + 1)) + 1)) + 1)) + 1))).bind fun t => laws_markBatchS.l0 k (x.set i ⟨m, (wrap64 (m + 1)), (wrap64 ((wrap64 (m + 1)) + 1)), (wrap64 ((wrap64 ((wrap64 (m + 1)) + 1)) + 1)), t.2⟩) t.1 (i + 1) else some (m, x)
def laws_markBatchS.f (k : Nat) (l0 : List S78) (a1 : Int) : Option (Int × List S78) := laws_markBatchS.l0 k l0 a1 0
theorem laws_markBatchS.mono_l : ∀ k x m i, LeO (laws_markBatchS.l0 k x m i) (laws_markBatchS.l0 (k + 1) x m i)
 | 0, _, _, _ => fun r h => by simp [laws_markBatchS.l0] at h
 | k + 1, x, m, i => by
  rw [laws_markBatchS.l0, laws_markBatchS.l0]
  exact LeO.ite (LeO.bind (laws_markStringS.mono _ _ _) (fun _ => laws_markBatchS.mono_l k _ _ _)) (LeO.refl _)
theorem laws_markBatchS.mono : ∀ a0 a1 k, LeO (laws_markBatchS.f k a0 a1) (laws_markBatchS.f (k + 1) a0 a1) := fun a0 a1 k => laws_markBatchS.mono_l k a0 a1 0
theorem laws_markBatchS.put {e base g n cap : Nat} {ok oki : Nat → Prop} {W : World} {xs : List S78} {i : Nat} {c : List Value} (h : Kd.H k78 e W base ok (.slice (some ⟨g, 0, none⟩) n cap) xs (i : Int) oki c) (h1 : (i : Int) < n) (j : Nat) (hj : j < 5) (u : Value) (hu : u.oneCell' = true) :
  Kd.H k78 e (W.setCell ⟨g, i * 5 + j, none⟩ u) base ok (.slice (some ⟨g, 0, none⟩) n cap) xs (i : Int) oki (c.take j ++ [u] ++ c.drop (j + 1)) ∧ W.grownBy (W.setCell ⟨g, i * 5 + j, none⟩ u) (some g) :=
 Kd.H_seg h (by omega) h1 (seg := [u]) (j := j) (show j + 1 ≤ 5 from hj) (fun q hq => by rw [List.mem_singleton.1 hq]; exact hu)
set_option maxHeartbeats 8000000 in
set_option maxRecDepth 100000 in
theorem laws_markBatchS.calls (k : Nat) (P0_ : Nat → Prop) (u : Value) (l0 : List S78) (a1 : Int) (r1 : Int) (r2 : List S78) (w0 w : World) (hB : Below w0.heap.size w0 w) (ho0 : Kd.S k78 78 w w0.heap.size P0_ u l0) (h : laws_markBatchS.f k l0 a1 = some (r1, r2)) :
  Calls Try.prog 46 #[u, .int .i64 a1] w fun e w' => e = .returned (.int .i64 r1) ∧ Kd.S k78 78 w' w0.heap.size P0_ u r2 ∧ Below w0.heap.size w0 w' ∧ Kept w w' P0_ := by
 obtain ⟨A, c, rfl, hc0, hC0⟩ := Kd.S_reads ho0
 have hbig : l0.length ≤ 9223372036854775807 := hC0.2.1
 clear hC0
 have HO := am_ ho0
 have HB := am_ hB
 have HH := am_ h
 clear ho0 hB h
 go_enter Try.func46, Try.ntmps46
 go_wp2
 go_loopg [1, 5] k (fun kq v1 v5 wr => ∃ (x : List S78) (m : Int) (i : Nat), v1 = .int .i64 m ∧ v5 = .int .i64 i ∧ i ≤ l0.length ∧ Aside0 (x.length = l0.length) ∧ Aside0 (laws_markBatchS.l0 kq x m i = some (r1, r2)) ∧ Aside0 (kq ≤ k) ∧ Aside0 (Kd.S k78 78 wr w0.heap.size P0_ (.slice A l0.length c) x) ∧ Aside0 (Kept w wr P0_) ∧ Aside0 (Below w0.heap.size w0 wr))
 case atStart => exact ⟨l0, a1, 0, rfl, rfl, Nat.zero_le _, ⟨rfl⟩, HH, ⟨Nat.le_refl _⟩, HO, ⟨Kept.refl _ _⟩, HB⟩
 case round =>
  clear HO HB HH
  obtain ⟨x, m, i, rfl, rfl, hi, HL, HA, HK, HO, HP, HB⟩ := hrel
  cases gk with
  | zero => exact absurd HA.out (by simp [laws_markBatchS.l0])
  | succ k1 =>
   have hA := HA.out
   clear HA
   rw [laws_markBatchS.l0] at hA
   by_cases hlt : i < l0.length
   ·have hltz : (i : Int) < (l0.length : Int) := by omega
    rw [if_pos (by rw [HL.out]; exact hlt)] at hA
    obtain ⟨t, h1, h2⟩ := Option.bind_eq_some_iff.1 hA
    have H1 := am_ h1
    have H2 := am_ h2
    clear hA h1 h2
    obtain ⟨g, cap, eg, hgb, _⟩ := Kd.S_form HO.out (by rw [HL.out]; omega)
    injection eg with eg1 eg2 eg3
    subst eg1
    clear eg2 eg3
    have HGB := am_ hgb
    have HPG := am_ ((Kd.S_R HO.out).1 g (by simp [Value.ownBlock]))
    clear hgb
    obtain ⟨oki, cs, _, hM, hcc, hfr, hoki, hH⟩ := Kd.S_elem HO.out z78 (i : Int) (by omega) hltz
    rw [Int.toNat_natCast] at hM
    obtain ⟨ve, rfl, ge⟩ := k78_openM hM
    clear hM
    obtain ⟨Ai, ci, rfl⟩ := Kd.R_slice ge
    have hci : ∀ j u_, j < 5 → [.int .i64 (x.getD i z78).f0, .int .i64 (x.getD i z78).f1, .int .i64 (x.getD i z78).f2, .int .i64 (x.getD i z78).f3, .slice Ai (x.getD i z78).f4.length ci][j]? = some u_ → wr.cell? ⟨g, i * 5 + j, none⟩ = some u_ := fun j u_ _ hu => hcc j u_ hu
    have hfi : ∀ j, wr.frozen? ⟨g, i * 5 + j, none⟩ = false := fun j => hfr (i * 5 + j) |> fun h_ => by first | exact h_ | exact hfr j
    have GE := am_ ge
    have HI := am_ hH
    have HQ := am_ hoki
    clear hcc hfr hH ge hoki
    have hc0 : wr.cell? ⟨g, i * 5, none⟩ = some (.int .i64 (x.getD i z78).f0) := hci 0 _ (by decide) rfl
    have hf0 : wr.frozen? ⟨g, i * 5, none⟩ = false := hfi 0
    have hc1 : wr.cell? ⟨g, i * 5 + 1, none⟩ = some (.int .i64 (x.getD i z78).f1) := hci 1 _ (by decide) rfl
    have hf1 : wr.frozen? ⟨g, i * 5 + 1, none⟩ = false := hfi 1
    have hc2 : wr.cell? ⟨g, i * 5 + 2, none⟩ = some (.int .i64 (x.getD i z78).f2) := hci 2 _ (by decide) rfl
    have hf2 : wr.frozen? ⟨g, i * 5 + 2, none⟩ = false := hfi 2
    have hc3 : wr.cell? ⟨g, i * 5 + 3, none⟩ = some (.int .i64 (x.getD i z78).f3) := hci 3 _ (by decide) rfl
    have hf3 : wr.frozen? ⟨g, i * 5 + 3, none⟩ = false := hfi 3
    have hc4 : wr.cell? ⟨g, i * 5 + 4, none⟩ = some (.slice Ai (x.getD i z78).f4.length ci) := hci 4 _ (by decide) rfl
    clear hci hfi
    go_wp2_with fail
    have P0 := laws_markBatchS.put HI.out hltz 0 (by decide) (.int .i64 m) rfl
    have P1 := laws_markBatchS.put P0.1 hltz 1 (by decide) (.int .i64 (wrap64 (m + 1))) rfl
    have P2 := laws_markBatchS.put P1.1 hltz 2 (by decide) (.int .i64 (wrap64 ((wrap64 (m + 1)) + 1))) rfl
    have P3 := laws_markBatchS.put P2.1 hltz 3 (by decide) (.int .i64 (wrap64 ((wrap64 ((wrap64 (m + 1)) + 1)) + 1))) rfl
    have HG := am_ (show wr.grownBy _ (some g) from (World.grownBy.trans (World.grownBy.trans (World.grownBy.trans P0.2 P1.2) P2.2) P3.2))
    have aA := am_ P3.1
    clear P0 P1 P2 P3
    refine (laws_markStringS.calls k1 oki (.slice Ai (x.getD i z78).f4.length ci) (x.getD i z78).f4 (wrap64 ((wrap64 ((wrap64 ((wrap64 (m + 1)) + 1)) + 1)) + 1)) t.1 t.2 w0 _ (pw_below_grown HB.out (some g) HB.out.size HG.out (fun k_ e_ => by obtain rfl := Option.some.inj e_; exact HGB.out)) (Kd.R_grown GE.out HG.out (fun k_ hk_ e_ => (HQ.out k_ hk_).2 (Option.some.inj e_))) H1.out).mono ?_
    rintro e w2 ⟨rfl, hy, bA, hkp⟩
    have HY := am_ hy
    have cA := am_ bA
    have HKP := am_ hkp
    clear hy bA hkp
    have HS := am_ (Kd.H_back (Kd.H_step aA.out (fun k_ _ hn hlt_ => HKP.out.2 k_ hlt_ hn)) (x' := ⟨m, (wrap64 (m + 1)), (wrap64 ((wrap64 (m + 1)) + 1)), (wrap64 ((wrap64 ((wrap64 (m + 1)) + 1)) + 1)), t.2⟩) (okp := oki) (k78_mkM w2 w0.heap.size oki ⟨m, (wrap64 (m + 1)), (wrap64 ((wrap64 (m + 1)) + 1)), (wrap64 ((wrap64 ((wrap64 (m + 1)) + 1)) + 1)), t.2⟩ (Kd.R_reok rfl HY.out (fun k_ e_ => GE.out.1 k_ e_))) (fun _ h_ => h_))
    have dA := am_ (Kept.then_ (Kept.of_grown HG.out HP.out (fun k_ e_ => .inl (by obtain rfl := Option.some.inj e_; exact HPG.out))) HKP.out (fun k_ h_ => .inl (HQ.out k_ h_).1))
    clear HI aA HY HKP GE HP HB HO HQ HG HPG HGB
    go_wp2_with fail
    go_roundg k1
    case measure => have := HK.out; omega
    case rel => exact ⟨x.set i ⟨m, (wrap64 (m + 1)), (wrap64 ((wrap64 (m + 1)) + 1)), (wrap64 ((wrap64 ((wrap64 (m + 1)) + 1)) + 1)), t.2⟩, t.1, i + 1, rfl, by go_num, by omega, ⟨by rw [List.length_set]; exact HL.out⟩, H2, ⟨by have := HK.out; omega⟩, HS, dA, cA⟩
   ·have hltz : ¬ (i : Int) < (l0.length : Int) := by omega
    have hil : i = l0.length := by omega
    subst hil
    rw [if_neg (by rw [HL.out]; omega)] at hA
    have H2 := am_ (Prod.mk.inj (Option.some.inj hA))
    clear hA
    go_wp2
    go_ret
    exact ⟨by rw [H2.out.1]; rfl, by rw [← H2.out.2]; exact HO.out, HB.out, HP.out⟩



/-! ### laws_markDoneS: function 81 -/
def laws_markDoneS.l0 : Nat → List (S112) → Int → Int → Option (Int × (List (S112)))
 | 0, _, _, _ => none
 | k + 1, x0, x1, x5 => if x5 < (x0.length : Int) then (if 0 ≤ x5 then ((some (x0.set (x5 : Int).toNat (⟨x1, (rd_T112 x0 x5).f1, (rd_T112 x0 x5).f2⟩ : S112) : List (S112))).bind fun y201 => ((some (y201.set (x5 : Int).toNat (⟨(rd_T112 y201 x5).f0, wrap64 (x1 + 1), (rd_T112 y201 x5).f2⟩ : S112) : List (S112))).bind fun y202 => (laws_markDoneS.l0 k (y202.set (x5 : Int).toNat (⟨(rd_T112 y202 x5).f0, (rd_T112 y202 x5).f1, wrap64 ((wrap64 (x1 + 1)) + 1)⟩ : S112)) (wrap64 ((wrap64 ((wrap64 (x1 + 1)) + 1)) + 1)) (wrap64 (x5 + 1))))) else (none)) else (some (x1, x0))
def laws_markDoneS.f (k : Nat) (l0 : List (S112)) (a1 : Int) : Option (Int × (List (S112))) := laws_markDoneS.l0 k l0 a1 0
theorem laws_markDoneS.mono_l : ∀ k, (∀ y0 y1 y2, LeO (laws_markDoneS.l0 k y0 y1 y2) (laws_markDoneS.l0 (k + 1) y0 y1 y2))
 | 0 => fun _ _ _ r h => by simp [laws_markDoneS.l0] at h
 | k + 1 => by
  have ih0 := laws_markDoneS.mono_l k
  ·intro y0 y1 y2
   unfold laws_markDoneS.l0
   repeat' first
   | (with_reducible first | apply ih0 | exact LeO.refl _ | exact LeO.none _ | refine LeO.ite ?_ ?_ | refine LeO.bind ?_ (fun _ => ?_))
theorem laws_markDoneS.mono : ∀ a0 a1 k, LeO (laws_markDoneS.f k a0 a1) (laws_markDoneS.f (k + 1) a0 a1) := by
 intro a0 a1 k
 have ih0 := laws_markDoneS.mono_l k
 unfold laws_markDoneS.f
 repeat' first
   | (with_reducible first | apply ih0 | exact LeO.refl _ | exact LeO.none _ | refine LeO.ite ?_ ?_ | refine LeO.bind ?_ (fun _ => ?_))
set_option maxHeartbeats 8000000 in
set_option maxRecDepth 100000 in
theorem laws_markDoneS.calls (k : Nat) (P0_ : Nat → Prop) (u9000_ : Value) (l0 : List (S112)) (a1 : Int) (r1 : Int) (r2 : List (S112)) (w0 w : World) (hB : Below w0.heap.size w0 w) (ho0 : Kd.R k112 112 w w0.heap.size P0_ u9000_ l0) (h : laws_markDoneS.f k l0 a1 = some (r1, r2)) :
  Calls Try.prog 81 #[u9000_, .int .i64 a1] w fun e w' => e = .returned (.int .i64 r1) ∧ Kd.R k112 112 w' w0.heap.size (fun k_ => (P0_ k_ ∨ w.heap.size ≤ k_)) u9000_ r2 ∧ Below w0.heap.size w0 w' ∧ Kept w w' (fun k_ => P0_ k_) := by
 have jC := am_ (show Kd.R k112 112 w w0.heap.size (fun k_ => (P0_ k_ ∨ w.heap.size ≤ k_)) u9000_ l0 from Kd.R_mono ho0 (fun k_ hk => (.inl hk)))
 have HK := am_ (Kept.refl w (fun k_ => P0_ k_))
 have oC := am_ hB.size
 have HB := am_ hB
 clear hB
 have H : (laws_markDoneS.l0 k l0 a1 0) = some (r1, r2) := h
 clear h
 have H' := am_ H
 clear H
 go_enter Try.func81, Try.ntmps81
 go_wp2
 go_loopg [1, 5] k (fun kq v1 v5 w' => ∃ (bA : List (S112)) (cA : Int) (aA : Int), v1 = .int .i64 cA ∧ v5 = .int .i64 aA ∧ Aside0 (laws_markDoneS.l0 kq bA cA aA = some (r1, r2)) ∧ Aside0 (kq ≤ k) ∧ Aside0 (Kd.R k112 112 w' w0.heap.size (fun k_ => (P0_ k_ ∨ w.heap.size ≤ k_)) u9000_ bA) ∧ Aside0 (Kept w w' (fun k_ => P0_ k_)) ∧ Aside0 (Below w0.heap.size w0 w'))
 case atStart => exact ⟨(l0), (a1), (0), sr_, sr_, H', ⟨Nat.le_refl _⟩, ⟨kr_ jC.out⟩, ⟨by repeat (first | (with_reducible first | exact HK.out | apply Kept.alloc | apply Kept.drewN | apply Kept.drew) | exact HK.out)⟩, ⟨hb_⟩⟩
 case round =>
  clear H'
  obtain ⟨bA, cA, aA, rfl, rfl, HA, vB, dA, HK, HB⟩ := hrel
  cases gk with
  | zero => exact absurd HA.out (by simp [laws_markDoneS.l0])
  | succ k1 =>
   have H := HA.out
   clear HA
   simp only [laws_markDoneS.l0] at H
   replace H := ite_ H
   obtain ⟨c3, H⟩ | ⟨c3, H⟩ := H
   rotate_left
   ·have oB := decide_eq_false c3
    clear c3
    simp only [Option.some.injEq, Prod.mk.injEq] at H
    obtain ⟨rfl, rfl⟩ := H
    obtain ⟨kC, lC, pB⟩ := Kd.R_slice dA.out
    subst pB
    go_wp2
    go_ret
    exact ⟨er_, kr_ dA.out, hb_, by repeat (first | (with_reducible first | exact HK.out | apply Kept.alloc | apply Kept.drewN | apply Kept.drew) | exact HK.out)⟩
   have oB := decide_eq_true c3
   clear c3
   replace H := ifs_ H
   obtain ⟨c4, H⟩ := H
   have mC := decide_eq_true c4
   clear c4
   obtain ⟨fA, gA⟩ : ∃ y_ : List (S112), y_ = (bA.set (aA : Int).toNat (⟨cA, (rd_T112 bA aA).f1, (rd_T112 bA aA).f2⟩ : S112)) := ⟨_, rfl⟩
   replace H : ((some (fA.set (aA : Int).toNat (⟨(rd_T112 fA aA).f0, wrap64 (cA + 1), (rd_T112 fA aA).f2⟩ : S112) : List (S112))).bind fun eA => (laws_markDoneS.l0 k1 (eA.set (aA : Int).toNat (⟨(rd_T112 eA aA).f0, (rd_T112 eA aA).f1, wrap64 ((wrap64 (cA + 1)) + 1)⟩ : S112)) (wrap64 ((wrap64 ((wrap64 (cA + 1)) + 1)) + 1)) (wrap64 (aA + 1)))) = some (r1, r2) := by first | (rw [gA]; with_reducible exact H) | (have H2_ := (Option.bind_some _ _).symm.trans H; rw [gA]; with_reducible exact H2_) | (have H2_ := (Option.bind_some _ _).symm.trans H; with_reducible exact H2_) | with_reducible exact H | (rw [gA]; exact H) | exact H
   have fB := am_ gA
   clear gA
   obtain ⟨eA, iA⟩ : ∃ y_ : List (S112), y_ = (fA.set (aA : Int).toNat (⟨(rd_T112 fA aA).f0, wrap64 (cA + 1), (rd_T112 fA aA).f2⟩ : S112)) := ⟨_, rfl⟩
   replace H : (laws_markDoneS.l0 k1 (eA.set (aA : Int).toNat (⟨(rd_T112 eA aA).f0, (rd_T112 eA aA).f1, wrap64 ((wrap64 (cA + 1)) + 1)⟩ : S112)) (wrap64 ((wrap64 ((wrap64 (cA + 1)) + 1)) + 1)) (wrap64 (aA + 1))) = some (r1, r2) := by first | (rw [iA]; with_reducible exact H) | (have H2_ := (Option.bind_some _ _).symm.trans H; rw [iA]; with_reducible exact H2_) | (have H2_ := (Option.bind_some _ _).symm.trans H; with_reducible exact H2_) | with_reducible exact H | (rw [iA]; exact H) | exact H
   have gB := am_ iA
   clear iA
   obtain ⟨yA, jA⟩ : ∃ y_ : List (S112), y_ = (eA.set (aA : Int).toNat (⟨(rd_T112 eA aA).f0, (rd_T112 eA aA).f1, wrap64 ((wrap64 (cA + 1)) + 1)⟩ : S112)) := ⟨_, rfl⟩
   replace H : (laws_markDoneS.l0 k1 yA (wrap64 ((wrap64 ((wrap64 (cA + 1)) + 1)) + 1)) (wrap64 (aA + 1))) = some (r1, r2) := by first | (rw [jA]; with_reducible exact H) | (have H2_ := (Option.bind_some _ _).symm.trans H; rw [jA]; with_reducible exact H2_) | (have H2_ := (Option.bind_some _ _).symm.trans H; with_reducible exact H2_) | with_reducible exact H | (rw [jA]; exact H) | exact H
   have iB := am_ jA
   clear jA
   have H' := am_ H
   clear H
   obtain ⟨pC, eB, nC⟩ := Kd.R_slice dA.out
   subst nC
   have p5 : 0 ≤ (aA : Int) := oa_
   have q5 : (aA : Int) < ((bA.length : Int) : Int) := oa_
   obtain ⟨go5, qC, wB, xB, gl5, cl5, yB⟩ := Kd.R_form dA.out (by omega)
   (first | cases wB | (injection wB with ea_ en_ ec_; (first | subst ea_ | (injection ea_ with ea_; subst ea_)); subst ec_; clear en_))
   have GB5 := am_ xB
   have GG5 := am_ yB
   clear xB gl5 yB
   have HMgo5 := am_ (show (P0_ go5 ∨ w.heap.size ≤ go5) from (dA.out.1 _ rfl))
   obtain ⟨ce5, qB, hM5, oA, pA⟩ := Kd.R_elem dA.out z112 (aA : Int) p5 q5
   obtain rfl := k112_openM hM5
   have zB : wr.cell? ⟨go5, (aA : Int).toNat * 3, none⟩ = some (.int .i64 ((rd_T112 bA aA).f0)) := oA 0 _ rfl
   have aC : wr.cell? ⟨go5, (aA : Int).toNat * 3 + 1, none⟩ = some (.int .i64 ((rd_T112 bA aA).f1)) := oA 1 _ rfl
   have bC : wr.cell? ⟨go5, (aA : Int).toNat * 3 + 2, none⟩ = some (.int .i64 ((rd_T112 bA aA).f2)) := oA 2 _ rfl
   have hf5_0 : wr.frozen? ⟨go5, (aA : Int).toNat * 3, none⟩ = false := pA 0
   have hf5_1 : wr.frozen? ⟨go5, (aA : Int).toNat * 3 + 1, none⟩ = false := pA 1
   have hf5_2 : wr.frozen? ⟨go5, (aA : Int).toNat * 3 + 2, none⟩ = false := pA 2
   clear qB oA pA; (try clear hM5)
   replace p5 := eq_true p5
   replace q5 := eq_true q5
   have cC := am_ (show Kd.R k112 112 wr w0.heap.size (fun k_ => (P0_ k_ ∨ w.heap.size ≤ k_)) (.slice (some ⟨go5, 0, none⟩) bA.length eB) bA from (kr_ dA.out))
   obtain ⟨ce9, jB, hM9, zA, kB⟩ := Kd.R_elem cC.out z112 (aA : Int) (oa_) (by have h_ : (aA : Int) < ((bA.length : Int) : Int) := oa_; first | exact h_ | (have e_ := (Kd.R_reads' dA.out).1; omega) | simpa using h_)
   obtain rfl := k112_openM hM9
   have rB := Kd.R_seg cC.out (aA : Int) (oa_) (by have h_ : (aA : Int) < ((bA.length : Int) : Int) := oa_; first | exact h_ | (have e_ := (Kd.R_reads' dA.out).1; omega) | simpa using h_) (seg := [.int .i64 cA]) (j := 0) jB zA (show 1 ≤ 3 from by decide) (x' := (⟨cA, (rd_T112 bA aA).f1, (rd_T112 bA aA).f2⟩ : S112)) (k112_mkM _ _ _ (⟨cA, (rd_T112 bA aA).f1, (rd_T112 bA aA).f2⟩ : S112) ) (fun _ hk => hk)
   have lB := zA 0 _ rfl
   (try simp only [show (k112).sz = 3 from rfl, Nat.mul_one, Nat.add_zero] at lB)
   have hf9_0 := kB 0
   (try simp only [show (k112).sz = 3 from rfl, Nat.mul_one, Nat.add_zero] at hf9_0)
   clear jB zA kB; (try clear hM9)
   go_wp2_with (first | ((with_reducible refine gate_store (t := 3) (p := 16) rfl ?_); refine store_event (t := 3) (p := 16) (v := ?vo_w10) (w1 := (wr.setCell ⟨go5, (aA : Int).toNat * 3, none⟩ (.int .i64 cA))) ?hg ?ho ?hn ?hr ?_; (case ho => rfl); (case hg => rfl); (case hn => rfl); (case hr => first | (go_simp; done) | (go_simp; rfl)); intro kA hw; have hg : wr.grownBy kA (some go5) := (by rw [hw]; exact rB.2); have hp_ : Kd.R k112 112 kA w0.heap.size (fun k_ => (P0_ k_ ∨ w.heap.size ≤ k_)) (.slice (some ⟨go5, 0, none⟩) bA.length eB) fA := (by rw [hw, fB.out]; exact rB.1); clear rB; replace HB := am_ ((by rw [hw]; exact below_set (HB.out) GB5.out : Below w0.heap.size w0 kA)); replace HK := am_ (Kept.of_grown (S := (fun k_ => P0_ k_)) hg (by repeat (first | (with_reducible first | exact HK.out | apply Kept.alloc | apply Kept.drewN | apply Kept.drew) | exact HK.out)) (fun k_ e_ => (dA.out.1 k_ e_))); replace dA := am_ (hp_); clear hg hw hp_; have p6 : 0 ≤ (aA : Int) := oa_; have q6 : (aA : Int) < ((bA.length : Int) : Int) := oa_; obtain ⟨ce6, sB, hM6, qA, rA⟩ := Kd.R_elem dA.out z112 (aA : Int) p6 q6; obtain rfl := k112_openM hM6; have dC : kA.cell? ⟨go5, (aA : Int).toNat * 3, none⟩ = some (.int .i64 ((rd_T112 fA aA).f0)) := qA 0 _ rfl; have eC : kA.cell? ⟨go5, (aA : Int).toNat * 3 + 1, none⟩ = some (.int .i64 ((rd_T112 fA aA).f1)) := qA 1 _ rfl; have fC : kA.cell? ⟨go5, (aA : Int).toNat * 3 + 2, none⟩ = some (.int .i64 ((rd_T112 fA aA).f2)) := qA 2 _ rfl; have hf6_0 : kA.frozen? ⟨go5, (aA : Int).toNat * 3, none⟩ = false := rA 0; have hf6_1 : kA.frozen? ⟨go5, (aA : Int).toNat * 3 + 1, none⟩ = false := rA 1; have hf6_2 : kA.frozen? ⟨go5, (aA : Int).toNat * 3 + 2, none⟩ = false := rA 2; clear sB qA rA; (try clear hM6); replace p6 := eq_true p6; replace q6 := eq_true q6; have mB := am_ (show Kd.R k112 112 kA w0.heap.size (fun k_ => (P0_ k_ ∨ w.heap.size ≤ k_)) (.slice (some ⟨go5, 0, none⟩) bA.length eB) fA from (kr_ dA.out)); obtain ⟨ce11, uA, hM11, mA, vA⟩ := Kd.R_elem mB.out z112 (aA : Int) (oa_) (by have h_ : (aA : Int) < ((bA.length : Int) : Int) := oa_; first | exact h_ | (have e_ := (Kd.R_reads' dA.out).1; omega) | simpa using h_); obtain rfl := k112_openM hM11; have aB := Kd.R_seg mB.out (aA : Int) (oa_) (by have h_ : (aA : Int) < ((bA.length : Int) : Int) := oa_; first | exact h_ | (have e_ := (Kd.R_reads' dA.out).1; omega) | simpa using h_) (seg := [.int .i64 (wrap64 (cA + 1))]) (j := 1) uA mA (show 2 ≤ 3 from by decide) (x' := (⟨(rd_T112 fA aA).f0, wrap64 (cA + 1), (rd_T112 fA aA).f2⟩ : S112)) (k112_mkM _ _ _ (⟨(rd_T112 fA aA).f0, wrap64 (cA + 1), (rd_T112 fA aA).f2⟩ : S112) ) (fun _ hk => hk); have bB := mA 1 _ rfl; (try simp only [show (k112).sz = 3 from rfl, Nat.mul_one, Nat.add_zero] at bB); have hf11_1 := vA 1; (try simp only [show (k112).sz = 3 from rfl, Nat.mul_one, Nat.add_zero] at hf11_1); clear uA mA vA; (try clear hM11)) | ((with_reducible refine gate_store (t := 3) (p := 23) rfl ?_); refine store_event (t := 3) (p := 23) (v := ?vo_w12) (w1 := (kA.setCell ⟨go5, (aA : Int).toNat * 3 + 1, none⟩ (.int .i64 (wrap64 (cA + 1))))) ?hg ?ho ?hn ?hr ?_; (case ho => rfl); (case hg => rfl); (case hn => rfl); (case hr => first | (go_simp; done) | (go_simp; rfl)); intro lA hw; have hg : kA.grownBy lA (some go5) := (by rw [hw]; exact aB.2); have hp_ : Kd.R k112 112 lA w0.heap.size (fun k_ => (P0_ k_ ∨ w.heap.size ≤ k_)) (.slice (some ⟨go5, 0, none⟩) bA.length eB) eA := (by rw [hw, gB.out]; exact aB.1); clear aB; replace HB := am_ ((by rw [hw]; exact below_set (HB.out) GB5.out : Below w0.heap.size w0 lA)); replace HK := am_ (Kept.of_grown (S := (fun k_ => P0_ k_)) hg (by repeat (first | (with_reducible first | exact HK.out | apply Kept.alloc | apply Kept.drewN | apply Kept.drew) | exact HK.out)) (fun k_ e_ => (dA.out.1 k_ e_))); replace dA := am_ (hp_); clear hg hw hp_; have p7 : 0 ≤ (aA : Int) := oa_; have q7 : (aA : Int) < ((bA.length : Int) : Int) := oa_; obtain ⟨ce7, tB, hM7, sA, tA⟩ := Kd.R_elem dA.out z112 (aA : Int) p7 q7; obtain rfl := k112_openM hM7; have gC : lA.cell? ⟨go5, (aA : Int).toNat * 3, none⟩ = some (.int .i64 ((rd_T112 eA aA).f0)) := sA 0 _ rfl; have hC : lA.cell? ⟨go5, (aA : Int).toNat * 3 + 1, none⟩ = some (.int .i64 ((rd_T112 eA aA).f1)) := sA 1 _ rfl; have iC : lA.cell? ⟨go5, (aA : Int).toNat * 3 + 2, none⟩ = some (.int .i64 ((rd_T112 eA aA).f2)) := sA 2 _ rfl; have hf7_0 : lA.frozen? ⟨go5, (aA : Int).toNat * 3, none⟩ = false := tA 0; have hf7_1 : lA.frozen? ⟨go5, (aA : Int).toNat * 3 + 1, none⟩ = false := tA 1; have hf7_2 : lA.frozen? ⟨go5, (aA : Int).toNat * 3 + 2, none⟩ = false := tA 2; clear tB sA tA; (try clear hM7); replace p7 := eq_true p7; replace q7 := eq_true q7; have nB := am_ (show Kd.R k112 112 lA w0.heap.size (fun k_ => (P0_ k_ ∨ w.heap.size ≤ k_)) (.slice (some ⟨go5, 0, none⟩) bA.length eB) eA from (kr_ dA.out)); obtain ⟨ce13, wA, hM13, nA, xA⟩ := Kd.R_elem nB.out z112 (aA : Int) (oa_) (by have h_ : (aA : Int) < ((bA.length : Int) : Int) := oa_; first | exact h_ | (have e_ := (Kd.R_reads' dA.out).1; omega) | simpa using h_); obtain rfl := k112_openM hM13; have cB := Kd.R_seg nB.out (aA : Int) (oa_) (by have h_ : (aA : Int) < ((bA.length : Int) : Int) := oa_; first | exact h_ | (have e_ := (Kd.R_reads' dA.out).1; omega) | simpa using h_) (seg := [.int .i64 (wrap64 ((wrap64 (cA + 1)) + 1))]) (j := 2) wA nA (show 3 ≤ 3 from by decide) (x' := (⟨(rd_T112 eA aA).f0, (rd_T112 eA aA).f1, wrap64 ((wrap64 (cA + 1)) + 1)⟩ : S112)) (k112_mkM _ _ _ (⟨(rd_T112 eA aA).f0, (rd_T112 eA aA).f1, wrap64 ((wrap64 (cA + 1)) + 1)⟩ : S112) ) (fun _ hk => hk); have dB := nA 2 _ rfl; (try simp only [show (k112).sz = 3 from rfl, Nat.mul_one, Nat.add_zero] at dB); have hf13_2 := xA 2; (try simp only [show (k112).sz = 3 from rfl, Nat.mul_one, Nat.add_zero] at hf13_2); clear wA nA xA; (try clear hM13)) | ((with_reducible refine gate_store (t := 3) (p := 30) rfl ?_); refine store_event (t := 3) (p := 30) (v := ?vo_w14) (w1 := (lA.setCell ⟨go5, (aA : Int).toNat * 3 + 2, none⟩ (.int .i64 (wrap64 ((wrap64 (cA + 1)) + 1))))) ?hg ?ho ?hn ?hr ?_; (case ho => rfl); (case hg => rfl); (case hn => rfl); (case hr => first | (go_simp; done) | (go_simp; rfl)); intro uB hw; have hg : lA.grownBy uB (some go5) := (by rw [hw]; exact cB.2); have hp_ : Kd.R k112 112 uB w0.heap.size (fun k_ => (P0_ k_ ∨ w.heap.size ≤ k_)) (.slice (some ⟨go5, 0, none⟩) bA.length eB) yA := (by rw [hw, iB.out]; exact cB.1); clear cB; replace HB := am_ ((by rw [hw]; exact below_set (HB.out) GB5.out : Below w0.heap.size w0 uB)); replace HK := am_ (Kept.of_grown (S := (fun k_ => P0_ k_)) hg (by repeat (first | (with_reducible first | exact HK.out | apply Kept.alloc | apply Kept.drewN | apply Kept.drew) | exact HK.out)) (fun k_ e_ => (dA.out.1 k_ e_))); replace dA := am_ (hp_); clear hg hw hp_))
   go_roundg k1
   case measure => have := vB.out; omega
   case rel => exact ⟨(yA), (wrap64 ((wrap64 ((wrap64 (cA + 1)) + 1)) + 1)), (wrap64 (aA + 1)), sr_, sr_, H', ⟨by have := vB.out; omega⟩, ⟨kr_ dA.out⟩, ⟨by repeat (first | (with_reducible first | exact HK.out | apply Kept.alloc | apply Kept.drewN | apply Kept.drew) | exact HK.out)⟩, ⟨hb_⟩⟩

/-! ### laws_markProducerS: function 53 -/
def laws_markProducerS.l0 : Nat → List S81 → Int → Nat → Option (Int × List S81)
 | 0, _, _, _ => none
 | k + 1, x, m, i => if i < x.length then (laws_markDoneS.f k (x.getD i z81).f3 (wrap64 ((wrap64 ((wrap64 (m + 1)) + 1)) + 1))).bind fun t => laws_markProducerS.l0 k (x.set i ⟨m, (wrap64 (m + 1)), (wrap64 ((wrap64 (m + 1)) + 1)), t.2⟩) t.1 (i + 1) else some (m, x)
def laws_markProducerS.f (k : Nat) (l0 : List S81) (a1 : Int) : Option (Int × List S81) := laws_markProducerS.l0 k l0 a1 0
theorem laws_markProducerS.mono_l : ∀ k x m i, LeO (laws_markProducerS.l0 k x m i) (laws_markProducerS.l0 (k + 1) x m i)
 | 0, _, _, _ => fun r h => by simp [laws_markProducerS.l0] at h
 | k + 1, x, m, i => by
  rw [laws_markProducerS.l0, laws_markProducerS.l0]
  exact LeO.ite (LeO.bind (laws_markDoneS.mono _ _ _) (fun _ => laws_markProducerS.mono_l k _ _ _)) (LeO.refl _)
theorem laws_markProducerS.mono : ∀ a0 a1 k, LeO (laws_markProducerS.f k a0 a1) (laws_markProducerS.f (k + 1) a0 a1) := fun a0 a1 k => laws_markProducerS.mono_l k a0 a1 0
theorem laws_markProducerS.put {e base g n cap : Nat} {ok oki : Nat → Prop} {W : World} {xs : List S81} {i : Nat} {c : List Value} (h : Kd.H k81 e W base ok (.slice (some ⟨g, 0, none⟩) n cap) xs (i : Int) oki c) (h1 : (i : Int) < n) (j : Nat) (hj : j < 4) (u : Value) (hu : u.oneCell' = true) :
  Kd.H k81 e (W.setCell ⟨g, i * 4 + j, none⟩ u) base ok (.slice (some ⟨g, 0, none⟩) n cap) xs (i : Int) oki (c.take j ++ [u] ++ c.drop (j + 1)) ∧ W.grownBy (W.setCell ⟨g, i * 4 + j, none⟩ u) (some g) :=
 Kd.H_seg h (by omega) h1 (seg := [u]) (j := j) (show j + 1 ≤ 4 from hj) (fun q hq => by rw [List.mem_singleton.1 hq]; exact hu)
set_option maxHeartbeats 8000000 in
set_option maxRecDepth 100000 in
theorem laws_markProducerS.calls (k : Nat) (P0_ : Nat → Prop) (u : Value) (l0 : List S81) (a1 : Int) (r1 : Int) (r2 : List S81) (w0 w : World) (hB : Below w0.heap.size w0 w) (ho0 : Kd.S k81 81 w w0.heap.size P0_ u l0) (h : laws_markProducerS.f k l0 a1 = some (r1, r2)) :
  Calls Try.prog 53 #[u, .int .i64 a1] w fun e w' => e = .returned (.int .i64 r1) ∧ Kd.S k81 81 w' w0.heap.size P0_ u r2 ∧ Below w0.heap.size w0 w' ∧ Kept w w' P0_ := by
 obtain ⟨A, c, rfl, hc0, hC0⟩ := Kd.S_reads ho0
 have hbig : l0.length ≤ 9223372036854775807 := hC0.2.1
 clear hC0
 have HO := am_ ho0
 have HB := am_ hB
 have HH := am_ h
 clear ho0 hB h
 go_enter Try.func53, Try.ntmps53
 go_wp2
 go_loopg [1, 5] k (fun kq v1 v5 wr => ∃ (x : List S81) (m : Int) (i : Nat), v1 = .int .i64 m ∧ v5 = .int .i64 i ∧ i ≤ l0.length ∧ Aside0 (x.length = l0.length) ∧ Aside0 (laws_markProducerS.l0 kq x m i = some (r1, r2)) ∧ Aside0 (kq ≤ k) ∧ Aside0 (Kd.S k81 81 wr w0.heap.size P0_ (.slice A l0.length c) x) ∧ Aside0 (Kept w wr P0_) ∧ Aside0 (Below w0.heap.size w0 wr))
 case atStart => exact ⟨l0, a1, 0, rfl, rfl, Nat.zero_le _, ⟨rfl⟩, HH, ⟨Nat.le_refl _⟩, HO, ⟨Kept.refl _ _⟩, HB⟩
 case round =>
  clear HO HB HH
  obtain ⟨x, m, i, rfl, rfl, hi, HL, HA, HK, HO, HP, HB⟩ := hrel
  cases gk with
  | zero => exact absurd HA.out (by simp [laws_markProducerS.l0])
  | succ k1 =>
   have hA := HA.out
   clear HA
   rw [laws_markProducerS.l0] at hA
   by_cases hlt : i < l0.length
   ·have hltz : (i : Int) < (l0.length : Int) := by omega
    rw [if_pos (by rw [HL.out]; exact hlt)] at hA
    obtain ⟨t, h1, h2⟩ := Option.bind_eq_some_iff.1 hA
    have H1 := am_ h1
    have H2 := am_ h2
    clear hA h1 h2
    obtain ⟨g, cap, eg, hgb, _⟩ := Kd.S_form HO.out (by rw [HL.out]; omega)
    injection eg with eg1 eg2 eg3
    subst eg1
    clear eg2 eg3
    have HGB := am_ hgb
    have HPG := am_ ((Kd.S_R HO.out).1 g (by simp [Value.ownBlock]))
    clear hgb
    obtain ⟨oki, cs, _, hM, hcc, hfr, hoki, hH⟩ := Kd.S_elem HO.out z81 (i : Int) (by omega) hltz
    rw [Int.toNat_natCast] at hM
    obtain ⟨ve, rfl, ge⟩ := k81_openM hM
    clear hM
    obtain ⟨Ai, ci, rfl⟩ := Kd.R_slice ge
    have hci : ∀ j u_, j < 4 → [.int .i64 (x.getD i z81).f0, .int .i64 (x.getD i z81).f1, .int .i64 (x.getD i z81).f2, .slice Ai (x.getD i z81).f3.length ci][j]? = some u_ → wr.cell? ⟨g, i * 4 + j, none⟩ = some u_ := fun j u_ _ hu => hcc j u_ hu
    have hfi : ∀ j, wr.frozen? ⟨g, i * 4 + j, none⟩ = false := fun j => hfr (i * 4 + j) |> fun h_ => by first | exact h_ | exact hfr j
    have GE := am_ ge
    have HI := am_ hH
    have HQ := am_ hoki
    clear hcc hfr hH ge hoki
    have hc0 : wr.cell? ⟨g, i * 4, none⟩ = some (.int .i64 (x.getD i z81).f0) := hci 0 _ (by decide) rfl
    have hf0 : wr.frozen? ⟨g, i * 4, none⟩ = false := hfi 0
    have hc1 : wr.cell? ⟨g, i * 4 + 1, none⟩ = some (.int .i64 (x.getD i z81).f1) := hci 1 _ (by decide) rfl
    have hf1 : wr.frozen? ⟨g, i * 4 + 1, none⟩ = false := hfi 1
    have hc2 : wr.cell? ⟨g, i * 4 + 2, none⟩ = some (.int .i64 (x.getD i z81).f2) := hci 2 _ (by decide) rfl
    have hf2 : wr.frozen? ⟨g, i * 4 + 2, none⟩ = false := hfi 2
    have hc3 : wr.cell? ⟨g, i * 4 + 3, none⟩ = some (.slice Ai (x.getD i z81).f3.length ci) := hci 3 _ (by decide) rfl
    clear hci hfi
    go_wp2_with fail
    have P0 := laws_markProducerS.put HI.out hltz 0 (by decide) (.int .i64 m) rfl
    have P1 := laws_markProducerS.put P0.1 hltz 1 (by decide) (.int .i64 (wrap64 (m + 1))) rfl
    have P2 := laws_markProducerS.put P1.1 hltz 2 (by decide) (.int .i64 (wrap64 ((wrap64 (m + 1)) + 1))) rfl
    have HG := am_ (show wr.grownBy _ (some g) from (World.grownBy.trans (World.grownBy.trans P0.2 P1.2) P2.2))
    have aA := am_ P2.1
    clear P0 P1 P2
    refine (laws_markDoneS.calls k1 oki (.slice Ai (x.getD i z81).f3.length ci) (x.getD i z81).f3 (wrap64 ((wrap64 ((wrap64 (m + 1)) + 1)) + 1)) t.1 t.2 w0 _ (pw_below_grown HB.out (some g) HB.out.size HG.out (fun k_ e_ => by obtain rfl := Option.some.inj e_; exact HGB.out)) (Kd.R_grown GE.out HG.out (fun k_ hk_ e_ => (HQ.out k_ hk_).2 (Option.some.inj e_))) H1.out).mono ?_
    rintro e w2 ⟨rfl, hy, bA, hkp⟩
    have HY := am_ hy
    have cA := am_ bA
    have HKP := am_ hkp
    clear hy bA hkp
    have HS := am_ (Kd.H_back (Kd.H_step aA.out (fun k_ _ hn hlt_ => HKP.out.2 k_ hlt_ hn)) (x' := ⟨m, (wrap64 (m + 1)), (wrap64 ((wrap64 (m + 1)) + 1)), t.2⟩) (okp := oki) (k81_mkM w2 w0.heap.size oki ⟨m, (wrap64 (m + 1)), (wrap64 ((wrap64 (m + 1)) + 1)), t.2⟩ (Kd.R_reok rfl HY.out (fun k_ e_ => GE.out.1 k_ e_))) (fun _ h_ => h_))
    have dA := am_ (Kept.then_ (Kept.of_grown HG.out HP.out (fun k_ e_ => .inl (by obtain rfl := Option.some.inj e_; exact HPG.out))) HKP.out (fun k_ h_ => .inl (HQ.out k_ h_).1))
    clear HI aA HY HKP GE HP HB HO HQ HG HPG HGB
    go_wp2_with fail
    go_roundg k1
    case measure => have := HK.out; omega
    case rel => exact ⟨x.set i ⟨m, (wrap64 (m + 1)), (wrap64 ((wrap64 (m + 1)) + 1)), t.2⟩, t.1, i + 1, rfl, by go_num, by omega, ⟨by rw [List.length_set]; exact HL.out⟩, H2, ⟨by have := HK.out; omega⟩, HS, dA, cA⟩
   ·have hltz : ¬ (i : Int) < (l0.length : Int) := by omega
    have hil : i = l0.length := by omega
    subst hil
    rw [if_neg (by rw [HL.out]; omega)] at hA
    have H2 := am_ (Prod.mk.inj (Option.some.inj hA))
    clear hA
    go_wp2
    go_ret
    exact ⟨by rw [H2.out.1]; rfl, by rw [← H2.out.2]; exact HO.out, HB.out, HP.out⟩



/-! ### laws_markPart: function 16 -/
def laws_markPart.f (k : Nat) (l0_0 : List S81) (l0_1 : List S78) (a0_2 : Int) (a1 : Int) : Option (Int × List S81 × List S78) := (laws_markProducerS.f k l0_0 a1).bind fun t => (laws_markBatchS.f k l0_1 t.1).bind fun u => some (u.1, t.2, u.2)
theorem laws_markPart.mono : ∀ a0 a1 a2 a3 k, LeO (laws_markPart.f k a0 a1 a2 a3) (laws_markPart.f (k + 1) a0 a1 a2 a3) := fun _ _ _ _ k => LeO.bind (laws_markProducerS.mono _ _ k) (fun _ => LeO.bind (laws_markBatchS.mono _ _ k) (fun _ => LeO.refl _))
set_option maxHeartbeats 8000000 in
set_option maxRecDepth 100000 in
theorem laws_markPart.calls (k : Nat) (P0_ : Nat → Prop) (u : Value) (l0_0 : List S81) (P1_ : Nat → Prop) (v : Value) (l0_1 : List S78) (a0_2 : Int) (a1 : Int) (r1 : Int) (r2 : List S81) (r3 : List S78) (w0 w : World) (hB : Below w0.heap.size w0 w) (ho0 : Kd.S k81 81 w w0.heap.size P0_ u l0_0) (ho1 : Kd.S k78 78 w w0.heap.size P1_ v l0_1) (hap : ∀ k_, P0_ k_ → P1_ k_ → False) (h : laws_markPart.f k l0_0 l0_1 a0_2 a1 = some (r1, r2, r3)) :
  Calls Try.prog 16 #[.agg #[u, v, .int .i64 a0_2], .int .i64 a1] w fun e w' => e = .returned (.int .i64 r1) ∧ Kd.S k81 81 w' w0.heap.size P0_ u r2 ∧ Kd.S k78 78 w' w0.heap.size P1_ v r3 ∧ Below w0.heap.size w0 w' ∧ Kept w w' (fun k_ => P0_ k_ ∨ P1_ k_) := by
 obtain ⟨A, c, rfl, _, _⟩ := Kd.S_reads ho0
 obtain ⟨B, d, rfl, _, _⟩ := Kd.S_reads ho1
 obtain ⟨⟨t1, t2⟩, h1, h2⟩ := Option.bind_eq_some_iff.1 h
 obtain ⟨⟨u1, u2⟩, h3, h4⟩ := Option.bind_eq_some_iff.1 h2
 have hE := Option.some.inj h4
 have aA := (Kd.S_bound ho0)
 have HO := am_ (Kd.S_mono (ok' := fun k_ => P0_ k_ ∧ k_ < w.heap.size) aA (fun k_ hk => ⟨hk.1, hk.2.2.1⟩))
 have bA := am_ (Kd.S_mono (ok' := fun k_ => P1_ k_ ∧ k_ < w.heap.size) (Kd.S_bound ho1) (fun k_ hk => ⟨hk.1, hk.2.2.1⟩))
 have HB := am_ hB
 have H1 := am_ h1
 have H3 := am_ h3
 have HE := am_ hE
 have HA := am_ hap
 clear ho0 ho1 hB h h1 h2 h3 h4 hE hap aA
 obtain ⟨gb, hgb⟩ : ∃ gb, gb = w.heap.size := ⟨_, rfl⟩
 have hbk : (w.alloc (.cells #[.slice A l0_0.length c, .slice B l0_1.length d, .int .i64 a0_2] 33)).heap[gb]? = some (.cells #[.slice A l0_0.length c, .slice B l0_1.length d, .int .i64 a0_2] 33 (0, 0)) := by rw [hgb, World.alloc]; exact Array.getElem?_push_size
 have HBK := am_ hbk
 have HGB := am_ hgb
 clear hbk hgb
 go_enter Try.func16, Try.ntmps16
 go_wp2_with fail
 refine (laws_markProducerS.calls k (fun k_ => P0_ k_ ∧ k_ < w.heap.size) _ l0_0 a1 t1 t2 w0 _ (below_alloc HB.out _) (Kd.S_alloc HO.out _) H1.out).mono ?_
 rintro e w2 ⟨rfl, ho, hb, hk⟩
 have HO1' := am_ (Kd.S_kept (Kd.S_alloc bA.out (.cells #[.slice A l0_0.length c, .slice B l0_1.length d, .int .i64 a0_2] 33)) hk (fun k_ h1_ h2_ => HA.out k_ h2_.1 h1_.1))
 have hbk2 := blk_kept HBK.out hk (fun h_ => by have := h_.2; rw [HGB.out] at this; exact absurd this (Nat.lt_irrefl _))
 rw [HGB.out] at hbk2
 have kA : w2.cell? ⟨w.heap.size, 0, none⟩ = some (.slice A l0_0.length c) := (blk_cell hbk2 0).trans rfl
 have lA : w2.cell? ⟨w.heap.size, 1, none⟩ = some (.slice B l0_1.length d) := (blk_cell hbk2 1).trans rfl
 have cA := am_ ho
 have dA := am_ hb
 have eA := am_ (Kept.then_ ((Kept.refl w (fun k_ => P0_ k_ ∨ P1_ k_)).alloc _) hk (fun _ h_ => .inl (.inl h_.1)))
 clear ho hb hk HO HB bA hbk2
 go_wp2_with fail
 refine (laws_markBatchS.calls k (fun k_ => P1_ k_ ∧ k_ < w.heap.size) _ l0_1 t1 u1 u2 w0 _ dA.out HO1'.out H3.out).mono ?_
 rintro e w3 ⟨rfl, ho, hb, hk⟩
 have fA := am_ (Kd.S_mono (Kd.S_kept cA.out hk (fun k_ h1_ h2_ => HA.out k_ h1_.1 h2_.1)) (fun _ h_ => h_.1))
 have gA := am_ (Kd.S_mono ho (fun _ h_ => h_.1))
 have iA := am_ hb
 have jA := am_ (Kept.then_ eA.out hk (fun _ h_ => .inl (.inr h_.1)))
 clear ho hb hk cA HO1' dA eA
 go_wp2_with fail
 go_ret
 obtain ⟨e1, e2, e3⟩ : u1 = r1 ∧ t2 = r2 ∧ u2 = r3 := by have := HE.out; simpa using this
 subst e1 e2 e3
 exact ⟨rfl, fA.out, gA.out, iA.out, jA.out⟩



/-! ### laws_heldDoneS: function 85 -/
def laws_heldDoneS.l0 : Nat → List (S112) → Int → Int → Option (Int)
 | 0, _, _, _ => none
 | k + 1, x0, x1, x5 => if x5 < (x0.length : Int) then (if 0 ≤ x5 then (if ((rd_T112 x0 x5).f0) = x1 then (if ((rd_T112 x0 x5).f1) = (wrap64 (x1 + 1)) then (if ((rd_T112 x0 x5).f2) = (wrap64 ((wrap64 (x1 + 1)) + 1)) then (laws_heldDoneS.l0 k x0 (wrap64 ((wrap64 ((wrap64 (x1 + 1)) + 1)) + 1)) (wrap64 (x5 + 1))) else (some (-1))) else (some (-1))) else (some (-1))) else (none)) else (some x1)
def laws_heldDoneS.f (k : Nat) (l0 : List (S112)) (a1 : Int) : Option (Int) := laws_heldDoneS.l0 k l0 a1 0
theorem laws_heldDoneS.mono_l : ∀ k, (∀ y0 y1 y2, LeO (laws_heldDoneS.l0 k y0 y1 y2) (laws_heldDoneS.l0 (k + 1) y0 y1 y2))
 | 0 => fun _ _ _ r h => by simp [laws_heldDoneS.l0] at h
 | k + 1 => by
  have ih0 := laws_heldDoneS.mono_l k
  ·intro y0 y1 y2
   unfold laws_heldDoneS.l0
   repeat' first
   | (with_reducible first | apply ih0 | exact LeO.refl _ | exact LeO.none _ | refine LeO.ite ?_ ?_ | refine LeO.bind ?_ (fun _ => ?_))
theorem laws_heldDoneS.mono : ∀ a0 a1 k, LeO (laws_heldDoneS.f k a0 a1) (laws_heldDoneS.f (k + 1) a0 a1) := by
 intro a0 a1 k
 have ih0 := laws_heldDoneS.mono_l k
 unfold laws_heldDoneS.f
 repeat' first
   | (with_reducible first | apply ih0 | exact LeO.refl _ | exact LeO.none _ | refine LeO.ite ?_ ?_ | refine LeO.bind ?_ (fun _ => ?_))
set_option maxHeartbeats 8000000 in
set_option maxRecDepth 100000 in
theorem laws_heldDoneS.calls (k : Nat) (A0 : Option Addr) (c0 : Nat) (l0 : List (S112)) (a1 : Int) (r : Int) (w : World) (hr0 : Kd.C k112 w A0 l0.length l0) (hc0 : l0.length ≤ c0) (h : laws_heldDoneS.f k l0 a1 = some r) :
  Calls Try.prog 85 #[.slice A0 l0.length c0, .int .i64 a1] w fun e w' => e = .returned (.int .i64 r) ∧ Drawn0 w w' := by
 have uA := am_ hr0
 have jB := am_ hc0
 clear hr0 hc0
 have H : (laws_heldDoneS.l0 k l0 a1 0) = some r := h
 clear h
 have H' := am_ H
 clear H
 go_enter Try.func85, Try.ntmps85
 go_wp2
 go_loopg [1, 5] k (fun kq v1 v5 w' => ∃ (bA : Int) (aA : Int), v1 = .int .i64 bA ∧ v5 = .int .i64 aA ∧ Aside0 (laws_heldDoneS.l0 kq l0 bA aA = some r) ∧ Aside0 (kq ≤ k) ∧ Drawn0 w w')
 case atStart => exact ⟨(a1), (0), sr_, sr_, H', ⟨Nat.le_refl _⟩, dr_⟩
 case round =>
  clear H'
  obtain ⟨bA, aA, rfl, rfl, HA, gB, ⟨m1, rfl⟩⟩ := hrel
  cases gk with
  | zero => exact absurd HA.out (by simp [laws_heldDoneS.l0])
  | succ k1 =>
   have H := HA.out
   clear HA
   simp only [laws_heldDoneS.l0] at H
   replace H := ite_ H
   obtain ⟨c3, H⟩ | ⟨c3, H⟩ := H
   rotate_left
   ·have zA := decide_eq_false c3
    clear c3
    obtain rfl := Option.some.inj H
    go_wp2
    go_ret
    exact ⟨by first | rfl | (simp; done) | (simp [*]; done), dr_⟩
   have zA := decide_eq_true c3
   clear c3
   replace H := ifs_ H
   obtain ⟨c4, H⟩ := H
   have iB := decide_eq_true c4
   clear c4
   replace H := ite_ H
   obtain ⟨c5, H⟩ | ⟨c5, H⟩ := H
   rotate_left
   ·have aB : (((rd_T112 l0 aA).f0) == bA) = false := beq_eq_false_iff_ne.mpr c5
    have bB : (((rd_T112 l0 aA).f0) != bA) = true := bne_iff_ne.mpr c5
    obtain rfl := Option.some.inj H
    have cA : 0 ≤ (aA : Int) := oa_
    have dA : aA < (l0.length : Int) := oa_
    obtain ⟨eA, mA, iA, jA, kA⟩ := at_T112 uA.out aA cA dA
    cases mA
    replace cA := eq_true cA
    replace dA := eq_true dA
    go_wp2
    go_ret
    exact ⟨by first | rfl | (simp; done) | (simp [*]; done), dr_⟩
   have aB : (((rd_T112 l0 aA).f0) == bA) = true := beq_iff_eq.mpr c5
   have bB : (((rd_T112 l0 aA).f0) != bA) = false := bne_eq_false_iff_eq.mpr c5
   clear c5
   replace H := ite_ H
   obtain ⟨c6, H⟩ | ⟨c6, H⟩ := H
   rotate_left
   ·have cB : (((rd_T112 l0 aA).f1) == (wrap64 (bA + 1))) = false := beq_eq_false_iff_ne.mpr c6
    have dB : (((rd_T112 l0 aA).f1) != (wrap64 (bA + 1))) = true := bne_iff_ne.mpr c6
    obtain rfl := Option.some.inj H
    have cA : 0 ≤ (aA : Int) := oa_
    have dA : aA < (l0.length : Int) := oa_
    obtain ⟨eA, mA, iA, jA, kA⟩ := at_T112 uA.out aA cA dA
    cases mA
    replace cA := eq_true cA
    replace dA := eq_true dA
    have fA : 0 ≤ (aA : Int) := oa_
    have gA : aA < (l0.length : Int) := oa_
    obtain ⟨lA, sA, pA, qA, rA⟩ := at_T112 uA.out aA fA gA
    obtain rfl : eA = lA := (by injection sA)
    replace fA := eq_true fA
    replace gA := eq_true gA
    go_wp2
    go_ret
    exact ⟨by first | rfl | (simp; done) | (simp [*]; done), dr_⟩
   have cB : (((rd_T112 l0 aA).f1) == (wrap64 (bA + 1))) = true := beq_iff_eq.mpr c6
   have dB : (((rd_T112 l0 aA).f1) != (wrap64 (bA + 1))) = false := bne_eq_false_iff_eq.mpr c6
   clear c6
   replace H := ite_ H
   obtain ⟨c7, H⟩ | ⟨c7, H⟩ := H
   rotate_left
   ·have eB : (((rd_T112 l0 aA).f2) == (wrap64 ((wrap64 (bA + 1)) + 1))) = false := beq_eq_false_iff_ne.mpr c7
    have fB : (((rd_T112 l0 aA).f2) != (wrap64 ((wrap64 (bA + 1)) + 1))) = true := bne_iff_ne.mpr c7
    obtain rfl := Option.some.inj H
    have cA : 0 ≤ (aA : Int) := oa_
    have dA : aA < (l0.length : Int) := oa_
    obtain ⟨eA, mA, iA, jA, kA⟩ := at_T112 uA.out aA cA dA
    cases mA
    replace cA := eq_true cA
    replace dA := eq_true dA
    have fA : 0 ≤ (aA : Int) := oa_
    have gA : aA < (l0.length : Int) := oa_
    obtain ⟨lA, sA, pA, qA, rA⟩ := at_T112 uA.out aA fA gA
    obtain rfl : eA = lA := (by injection sA)
    replace fA := eq_true fA
    replace gA := eq_true gA
    have nA : 0 ≤ (aA : Int) := oa_
    have oA : aA < (l0.length : Int) := oa_
    obtain ⟨tA, yA, vA, wA, xA⟩ := at_T112 uA.out aA nA oA
    obtain rfl : eA = tA := (by injection yA)
    replace nA := eq_true nA
    replace oA := eq_true oA
    go_wp2
    go_ret
    exact ⟨by first | rfl | (simp; done) | (simp [*]; done), dr_⟩
   have eB : (((rd_T112 l0 aA).f2) == (wrap64 ((wrap64 (bA + 1)) + 1))) = true := beq_iff_eq.mpr c7
   have fB : (((rd_T112 l0 aA).f2) != (wrap64 ((wrap64 (bA + 1)) + 1))) = false := bne_eq_false_iff_eq.mpr c7
   clear c7
   have H' := am_ H
   clear H
   have cA : 0 ≤ (aA : Int) := oa_
   have dA : aA < (l0.length : Int) := oa_
   obtain ⟨eA, mA, iA, jA, kA⟩ := at_T112 uA.out aA cA dA
   cases mA
   replace cA := eq_true cA
   replace dA := eq_true dA
   have fA : 0 ≤ (aA : Int) := oa_
   have gA : aA < (l0.length : Int) := oa_
   obtain ⟨lA, sA, pA, qA, rA⟩ := at_T112 uA.out aA fA gA
   obtain rfl : eA = lA := (by injection sA)
   replace fA := eq_true fA
   replace gA := eq_true gA
   have nA : 0 ≤ (aA : Int) := oa_
   have oA : aA < (l0.length : Int) := oa_
   obtain ⟨tA, yA, vA, wA, xA⟩ := at_T112 uA.out aA nA oA
   obtain rfl : eA = tA := (by injection yA)
   replace nA := eq_true nA
   replace oA := eq_true oA
   go_wp2
   go_roundg k1
   case measure => have := gB.out; omega
   case rel => exact ⟨(wrap64 ((wrap64 ((wrap64 (bA + 1)) + 1)) + 1)), (wrap64 (aA + 1)), sr_, sr_, H', ⟨by have := gB.out; omega⟩, dr_⟩

/-! ### laws_heldProducerS: function 59 -/
def laws_heldProducerS.l0 : Nat → List (S81) → Int → Int → Option (Int)
 | 0, _, _, _ => none
 | k + 1, x0, x1, x5 => if x5 < (x0.length : Int) then (if 0 ≤ x5 then (if ((rd_T81 x0 x5).f0) = x1 then (if ((rd_T81 x0 x5).f1) = (wrap64 (x1 + 1)) then (if ((rd_T81 x0 x5).f2) = (wrap64 ((wrap64 (x1 + 1)) + 1)) then ((laws_heldDoneS.f k ((rd_T81 x0 x5).f3) (wrap64 ((wrap64 ((wrap64 (x1 + 1)) + 1)) + 1))).bind fun t211 => (if t211 < 0 then (some (-1)) else (laws_heldProducerS.l0 k x0 t211 (wrap64 (x5 + 1))))) else (some (-1))) else (some (-1))) else (some (-1))) else (none)) else (some x1)
def laws_heldProducerS.f (k : Nat) (l0 : List (S81)) (a1 : Int) : Option (Int) := laws_heldProducerS.l0 k l0 a1 0
theorem laws_heldProducerS.mono_l : ∀ k, (∀ y0 y1 y2, LeO (laws_heldProducerS.l0 k y0 y1 y2) (laws_heldProducerS.l0 (k + 1) y0 y1 y2))
 | 0 => fun _ _ _ r h => by simp [laws_heldProducerS.l0] at h
 | k + 1 => by
  have ih0 := laws_heldProducerS.mono_l k
  ·intro y0 y1 y2
   unfold laws_heldProducerS.l0
   repeat' first
   | (with_reducible first | apply ih0 | apply laws_heldDoneS.mono | exact LeO.refl _ | exact LeO.none _ | refine LeO.ite ?_ ?_ | refine LeO.bind ?_ (fun _ => ?_))
theorem laws_heldProducerS.mono : ∀ a0 a1 k, LeO (laws_heldProducerS.f k a0 a1) (laws_heldProducerS.f (k + 1) a0 a1) := by
 intro a0 a1 k
 have ih0 := laws_heldProducerS.mono_l k
 unfold laws_heldProducerS.f
 repeat' first
   | (with_reducible first | apply ih0 | apply laws_heldDoneS.mono | exact LeO.refl _ | exact LeO.none _ | refine LeO.ite ?_ ?_ | refine LeO.bind ?_ (fun _ => ?_))
set_option maxHeartbeats 8000000 in
set_option maxRecDepth 100000 in
theorem laws_heldProducerS.calls (k : Nat) (A0 : Option Addr) (c0 : Nat) (l0 : List (S81)) (a1 : Int) (r : Int) (w : World) (hr0 : Kd.C k81 w A0 l0.length l0) (hc0 : l0.length ≤ c0) (h : laws_heldProducerS.f k l0 a1 = some r) :
  Calls Try.prog 59 #[.slice A0 l0.length c0, .int .i64 a1] w fun e w' => e = .returned (.int .i64 r) ∧ Drawn0 w w' := by
 have tB := am_ hr0
 have uC := am_ hc0
 clear hr0 hc0
 have H : (laws_heldProducerS.l0 k l0 a1 0) = some r := h
 clear h
 have H' := am_ H
 clear H
 go_enter Try.func59, Try.ntmps59
 go_wp2
 go_loopg [1, 5] k (fun kq v1 v5 w' => ∃ (kA : Int) (aA : Int), v1 = .int .i64 kA ∧ v5 = .int .i64 aA ∧ Aside0 (laws_heldProducerS.l0 kq l0 kA aA = some r) ∧ Aside0 (kq ≤ k) ∧ Drawn0 w w')
 case atStart => exact ⟨(a1), (0), sr_, sr_, H', ⟨Nat.le_refl _⟩, dr_⟩
 case round =>
  clear H'
  obtain ⟨kA, aA, rfl, rfl, HA, sC, ⟨m1, rfl⟩⟩ := hrel
  cases gk with
  | zero => exact absurd HA.out (by simp [laws_heldProducerS.l0])
  | succ k1 =>
   have H := HA.out
   clear HA
   simp only [laws_heldProducerS.l0] at H
   replace H := ite_ H
   obtain ⟨c3, H⟩ | ⟨c3, H⟩ := H
   rotate_left
   ·have kC := decide_eq_false c3
    clear c3
    obtain rfl := Option.some.inj H
    go_wp2
    go_ret
    exact ⟨by first | rfl | (simp; done) | (simp [*]; done), dr_⟩
   have kC := decide_eq_true c3
   clear c3
   replace H := ifs_ H
   obtain ⟨c4, H⟩ := H
   have tC := decide_eq_true c4
   clear c4
   replace H := ite_ H
   obtain ⟨c5, H⟩ | ⟨c5, H⟩ := H
   rotate_left
   ·have lC : (((rd_T81 l0 aA).f0) == kA) = false := beq_eq_false_iff_ne.mpr c5
    have mC : (((rd_T81 l0 aA).f0) != kA) = true := bne_iff_ne.mpr c5
    obtain rfl := Option.some.inj H
    have lA : 0 ≤ (aA : Int) := oa_
    have mA : aA < (l0.length : Int) := oa_
    obtain ⟨jA, tA, uA, dB, vA, wA, xA, dA, bA, cA⟩ := at_T81 tB.out aA lA mA
    cases dB
    have yA := am_ cA
    have zA := am_ bA
    clear cA bA
    replace lA := eq_true lA
    replace mA := eq_true mA
    go_wp2
    go_ret
    exact ⟨by first | rfl | (simp; done) | (simp [*]; done), dr_⟩
   have lC : (((rd_T81 l0 aA).f0) == kA) = true := beq_iff_eq.mpr c5
   have mC : (((rd_T81 l0 aA).f0) != kA) = false := bne_eq_false_iff_eq.mpr c5
   clear c5
   replace H := ite_ H
   obtain ⟨c6, H⟩ | ⟨c6, H⟩ := H
   rotate_left
   ·have nC : (((rd_T81 l0 aA).f1) == (wrap64 (kA + 1))) = false := beq_eq_false_iff_ne.mpr c6
    have oC : (((rd_T81 l0 aA).f1) != (wrap64 (kA + 1))) = true := bne_iff_ne.mpr c6
    obtain rfl := Option.some.inj H
    have lA : 0 ≤ (aA : Int) := oa_
    have mA : aA < (l0.length : Int) := oa_
    obtain ⟨jA, tA, uA, dB, vA, wA, xA, dA, bA, cA⟩ := at_T81 tB.out aA lA mA
    cases dB
    have yA := am_ cA
    have zA := am_ bA
    clear cA bA
    replace lA := eq_true lA
    replace mA := eq_true mA
    have oA : 0 ≤ (aA : Int) := oa_
    have pA : aA < (l0.length : Int) := oa_
    obtain ⟨aB, oB, pB, qB, eB, fB, gB, nA, eA, fA⟩ := at_T81 tB.out aA oA pA
    obtain rfl : jA = aB := (by injection qB)
    have iB := am_ fA
    have jB := am_ eA
    clear fA eA
    replace oA := eq_true oA
    replace pA := eq_true pA
    have ea_ := Option.some.inj (dA.symm.trans nA)
    injection ea_ with ea_ en_ ec_
    subst ea_
    subst ec_
    clear en_
    go_wp2
    go_ret
    exact ⟨by first | rfl | (simp; done) | (simp [*]; done), dr_⟩
   have nC : (((rd_T81 l0 aA).f1) == (wrap64 (kA + 1))) = true := beq_iff_eq.mpr c6
   have oC : (((rd_T81 l0 aA).f1) != (wrap64 (kA + 1))) = false := bne_eq_false_iff_eq.mpr c6
   clear c6
   replace H := ite_ H
   obtain ⟨c7, H⟩ | ⟨c7, H⟩ := H
   rotate_left
   ·have pC : (((rd_T81 l0 aA).f2) == (wrap64 ((wrap64 (kA + 1)) + 1))) = false := beq_eq_false_iff_ne.mpr c7
    have qC : (((rd_T81 l0 aA).f2) != (wrap64 ((wrap64 (kA + 1)) + 1))) = true := bne_iff_ne.mpr c7
    obtain rfl := Option.some.inj H
    have lA : 0 ≤ (aA : Int) := oa_
    have mA : aA < (l0.length : Int) := oa_
    obtain ⟨jA, tA, uA, dB, vA, wA, xA, dA, bA, cA⟩ := at_T81 tB.out aA lA mA
    cases dB
    have yA := am_ cA
    have zA := am_ bA
    clear cA bA
    replace lA := eq_true lA
    replace mA := eq_true mA
    have oA : 0 ≤ (aA : Int) := oa_
    have pA : aA < (l0.length : Int) := oa_
    obtain ⟨aB, oB, pB, qB, eB, fB, gB, nA, eA, fA⟩ := at_T81 tB.out aA oA pA
    obtain rfl : jA = aB := (by injection qB)
    have iB := am_ fA
    have jB := am_ eA
    clear fA eA
    replace oA := eq_true oA
    replace pA := eq_true pA
    have ea_ := Option.some.inj (dA.symm.trans nA)
    injection ea_ with ea_ en_ ec_
    subst ea_
    subst ec_
    clear en_
    have bB : 0 ≤ (aA : Int) := oa_
    have cB : aA < (l0.length : Int) := oa_
    obtain ⟨nB, zB, aC, bC, uB, vB, wB, qA, gA, iA⟩ := at_T81 tB.out aA bB cB
    obtain rfl : jA = nB := (by injection bC)
    have xB := am_ iA
    have yB := am_ gA
    clear iA gA
    replace bB := eq_true bB
    replace cB := eq_true cB
    have ea_ := Option.some.inj (dA.symm.trans qA)
    injection ea_ with ea_ en_ ec_
    subst ea_
    subst ec_
    clear en_
    go_wp2
    go_ret
    exact ⟨by first | rfl | (simp; done) | (simp [*]; done), dr_⟩
   have pC : (((rd_T81 l0 aA).f2) == (wrap64 ((wrap64 (kA + 1)) + 1))) = true := beq_iff_eq.mpr c7
   have qC : (((rd_T81 l0 aA).f2) != (wrap64 ((wrap64 (kA + 1)) + 1))) = false := bne_eq_false_iff_eq.mpr c7
   clear c7
   replace H := bnd_ H
   obtain ⟨gC, A8, H⟩ := H
   replace H := ite_ H
   obtain ⟨c9, H⟩ | ⟨c9, H⟩ := H
   ·have rC := decide_eq_true c9
    clear c9
    obtain rfl := Option.some.inj H
    have lA : 0 ≤ (aA : Int) := oa_
    have mA : aA < (l0.length : Int) := oa_
    obtain ⟨jA, tA, uA, dB, vA, wA, xA, dA, bA, cA⟩ := at_T81 tB.out aA lA mA
    cases dB
    have yA := am_ cA
    have zA := am_ bA
    clear cA bA
    replace lA := eq_true lA
    replace mA := eq_true mA
    have oA : 0 ≤ (aA : Int) := oa_
    have pA : aA < (l0.length : Int) := oa_
    obtain ⟨aB, oB, pB, qB, eB, fB, gB, nA, eA, fA⟩ := at_T81 tB.out aA oA pA
    obtain rfl : jA = aB := (by injection qB)
    have iB := am_ fA
    have jB := am_ eA
    clear fA eA
    replace oA := eq_true oA
    replace pA := eq_true pA
    have ea_ := Option.some.inj (dA.symm.trans nA)
    injection ea_ with ea_ en_ ec_
    subst ea_
    subst ec_
    clear en_
    have bB : 0 ≤ (aA : Int) := oa_
    have cB : aA < (l0.length : Int) := oa_
    obtain ⟨nB, zB, aC, bC, uB, vB, wB, qA, gA, iA⟩ := at_T81 tB.out aA bB cB
    obtain rfl : jA = nB := (by injection bC)
    have xB := am_ iA
    have yB := am_ gA
    clear iA gA
    replace bB := eq_true bB
    replace cB := eq_true cB
    have ea_ := Option.some.inj (dA.symm.trans qA)
    injection ea_ with ea_ en_ ec_
    subst ea_
    subst ec_
    clear en_
    have rB : 0 ≤ (aA : Int) := oa_
    have sB : aA < (l0.length : Int) := oa_
    obtain ⟨cC, hC, iC, jC, dC, eC, fC, kB, rA, sA⟩ := at_T81 tB.out aA rB sB
    obtain rfl : jA = cC := (by injection jC)
    have lB := am_ sA
    have mB := am_ rA
    clear sA rA
    replace rB := eq_true rB
    replace sB := eq_true sB
    have ea_ := Option.some.inj (dA.symm.trans kB)
    injection ea_ with ea_ en_ ec_
    subst ea_
    subst ec_
    clear en_
    go_wp2_with (first | ((with_reducible refine gate_callee (f := 85) rfl ?_); refine gl_ 45 Try.func85 #[.slice tA ((rd_T81 l0 aA).f3).length uA, .int .i64 (wrap64 ((wrap64 ((wrap64 (kA + 1)) + 1)) + 1))] rfl ma_ ?_; (with_reducible refine (laws_heldDoneS.calls k1 _ _ ((rd_T81 l0 aA).f3) (wrap64 ((wrap64 ((wrap64 (kA + 1)) + 1)) + 1)) gC _ ?side1 ?side2 A8.out).mono ?_); (case side1 => exact cs_ (lB.out)); (case side2 => exact mB.out); rintro e w' ⟨rfl, ⟨nd, rfl⟩⟩; refine ⟨_, rfl, ?_⟩))
    go_ret
    exact ⟨by first | rfl | (simp; done) | (simp [*]; done), dr_⟩
   have rC := decide_eq_false c9
   clear c9
   have H' := am_ H
   clear H
   have lA : 0 ≤ (aA : Int) := oa_
   have mA : aA < (l0.length : Int) := oa_
   obtain ⟨jA, tA, uA, dB, vA, wA, xA, dA, bA, cA⟩ := at_T81 tB.out aA lA mA
   cases dB
   have yA := am_ cA
   have zA := am_ bA
   clear cA bA
   replace lA := eq_true lA
   replace mA := eq_true mA
   have oA : 0 ≤ (aA : Int) := oa_
   have pA : aA < (l0.length : Int) := oa_
   obtain ⟨aB, oB, pB, qB, eB, fB, gB, nA, eA, fA⟩ := at_T81 tB.out aA oA pA
   obtain rfl : jA = aB := (by injection qB)
   have iB := am_ fA
   have jB := am_ eA
   clear fA eA
   replace oA := eq_true oA
   replace pA := eq_true pA
   have ea_ := Option.some.inj (dA.symm.trans nA)
   injection ea_ with ea_ en_ ec_
   subst ea_
   subst ec_
   clear en_
   have bB : 0 ≤ (aA : Int) := oa_
   have cB : aA < (l0.length : Int) := oa_
   obtain ⟨nB, zB, aC, bC, uB, vB, wB, qA, gA, iA⟩ := at_T81 tB.out aA bB cB
   obtain rfl : jA = nB := (by injection bC)
   have xB := am_ iA
   have yB := am_ gA
   clear iA gA
   replace bB := eq_true bB
   replace cB := eq_true cB
   have ea_ := Option.some.inj (dA.symm.trans qA)
   injection ea_ with ea_ en_ ec_
   subst ea_
   subst ec_
   clear en_
   have rB : 0 ≤ (aA : Int) := oa_
   have sB : aA < (l0.length : Int) := oa_
   obtain ⟨cC, hC, iC, jC, dC, eC, fC, kB, rA, sA⟩ := at_T81 tB.out aA rB sB
   obtain rfl : jA = cC := (by injection jC)
   have lB := am_ sA
   have mB := am_ rA
   clear sA rA
   replace rB := eq_true rB
   replace sB := eq_true sB
   have ea_ := Option.some.inj (dA.symm.trans kB)
   injection ea_ with ea_ en_ ec_
   subst ea_
   subst ec_
   clear en_
   go_wp2_with (first | ((with_reducible refine gate_callee (f := 85) rfl ?_); refine gl_ 45 Try.func85 #[.slice tA ((rd_T81 l0 aA).f3).length uA, .int .i64 (wrap64 ((wrap64 ((wrap64 (kA + 1)) + 1)) + 1))] rfl ma_ ?_; (with_reducible refine (laws_heldDoneS.calls k1 _ _ ((rd_T81 l0 aA).f3) (wrap64 ((wrap64 ((wrap64 (kA + 1)) + 1)) + 1)) gC _ ?side1 ?side2 A8.out).mono ?_); (case side1 => exact cs_ (lB.out)); (case side2 => exact mB.out); rintro e w' ⟨rfl, ⟨nd, rfl⟩⟩; refine ⟨_, rfl, ?_⟩))
   go_roundg k1
   case measure => have := sC.out; omega
   case rel => exact ⟨(gC), (wrap64 (aA + 1)), sr_, sr_, H', ⟨by have := sC.out; omega⟩, dr_⟩
end Go.Proofs.Ytojdaolclcmalaa.QFnExactAskPart
