/- Functions that one statement reaches: of each a plain function, and the proof that calls come to it. Conditions: those that each contract names. Written by a program of this repository. -/
import Derived.Test.YtojdaolclcmalaaVRecordsOfa
import Derived.Test.YtojdaolclcmalaaQFnExactRecordsOfx0
import Derived.Test.YtojdaolclcmalaaQFnExactRecordsOfx16
namespace Go.Proofs.Ytojdaolclcmalaa.QFnExactRecordsOf
open Go.RowKit Go.Proofs.YtojdaolclcmalaaW.PrintWords Go.Proofs.YtojdaolclcmalaaW.PrintLast Go.Proofs.YtojdaolclcmalaaW.PrintMore
attribute [local go_sem] max2_int min2_int max_two min_two max_three min_three max_four min_four Go.Proofs.YtojdaolclcmalaaW.PrintMore2.isSome_setCell   -- for this text's walks alone
set_option linter.unusedVariables false
set_option linter.unusedSimpArgs false

/-! ### laws_markDoneS: function 81 -/
def laws_markDoneS.l0 : Nat → List (S112) → Int → Int → Option (Int × (List (S112)))
 | 0, _, _, _ => none
 | k + 1, x0, x1, x5 => if x5 < (x0.length : Int) then (if 0 ≤ x5 then ((some (x0.set (x5 : Int).toNat (⟨x1, (rd_T112 x0 x5).f1, (rd_T112 x0 x5).f2⟩ : S112) : List (S112))).bind fun y318 => ((some (y318.set (x5 : Int).toNat (⟨(rd_T112 y318 x5).f0, wrap64 (x1 + 1), (rd_T112 y318 x5).f2⟩ : S112) : List (S112))).bind fun y319 => (laws_markDoneS.l0 k (y319.set (x5 : Int).toNat (⟨(rd_T112 y319 x5).f0, (rd_T112 y319 x5).f1, wrap64 ((wrap64 (x1 + 1)) + 1)⟩ : S112)) (wrap64 ((wrap64 ((wrap64 (x1 + 1)) + 1)) + 1)) (wrap64 (x5 + 1))))) else (none)) else (some (x1, x0))
def laws_markDoneS.f (k : Nat) (l0 : List (S112)) (a1 : Int) : Option (Int × (List (S112))) := laws_markDoneS.l0 k l0 a1 0
theorem laws_markDoneS.mono_l : ∀ k, (∀ y0 y1 y2, LeO (laws_markDoneS.l0 k y0 y1 y2) (laws_markDoneS.l0 (k + 1) y0 y1 y2))
 | 0 => fun _ _ _ r h => by simp [laws_markDoneS.l0] at h
 | k + 1 => by
  have ih0 := laws_markDoneS.mono_l k
  ·intro y0 y1 y2
   unfold laws_markDoneS.l0
   repeat' first
   | (with_reducible first | apply ih0 | exact LeO.refl _ | exact LeO.none _ | refine LeO.ite ?_ ?_ | refine LeO.bind ?_ (fun _ => ?_))
theorem laws_markDoneS.mono : ∀ a0 a1 k, LeO (laws_markDoneS.f k a0 a1) (laws_markDoneS.f (k + 1) a0 a1) := by
 intro a0 a1 k
 have ih0 := laws_markDoneS.mono_l k
 unfold laws_markDoneS.f
 repeat' first
   | (with_reducible first | apply ih0 | exact LeO.refl _ | exact LeO.none _ | refine LeO.ite ?_ ?_ | refine LeO.bind ?_ (fun _ => ?_))
set_option maxHeartbeats 8000000 in
set_option maxRecDepth 100000 in
theorem laws_markDoneS.calls (k : Nat) (P0_ : Nat → Prop) (u9000_ : Value) (l0 : List (S112)) (a1 : Int) (r1 : Int) (r2 : List (S112)) (w0 w : World) (hB : Below w0.heap.size w0 w) (ho0 : Kd.R k112 112 w w0.heap.size P0_ u9000_ l0) (h : laws_markDoneS.f k l0 a1 = some (r1, r2)) :
  Calls Try.prog 81 #[u9000_, .int .i64 a1] w fun e w' => e = .returned (.int .i64 r1) ∧ Kd.R k112 112 w' w0.heap.size (fun k_ => (P0_ k_ ∨ w.heap.size ≤ k_)) u9000_ r2 ∧ Below w0.heap.size w0 w' ∧ Kept w w' (fun k_ => P0_ k_) := by
 have HO0 := am_ (show Kd.R k112 112 w w0.heap.size (fun k_ => (P0_ k_ ∨ w.heap.size ≤ k_)) u9000_ l0 from Kd.R_mono ho0 (fun k_ hk => (.inl hk)))
 have HK := am_ (Kept.refl w (fun k_ => P0_ k_))
 have HW0 := am_ hB.size
 have HB := am_ hB
 clear hB
 have H : (laws_markDoneS.l0 k l0 a1 0) = some (r1, r2) := h
 clear h
 have H' := am_ H
 clear H
 go_enter Try.func81, Try.ntmps81
 go_wp2
 go_loopg [1, 5] k (fun kq v1 v5 w' => ∃ (x0_1 : List (S112)) (x1_1 : Int) (x5_1 : Int), v1 = .int .i64 x1_1 ∧ v5 = .int .i64 x5_1 ∧ Aside0 (laws_markDoneS.l0 kq x0_1 x1_1 x5_1 = some (r1, r2)) ∧ Aside0 (kq ≤ k) ∧ Aside0 (Kd.R k112 112 w' w0.heap.size (fun k_ => (P0_ k_ ∨ w.heap.size ≤ k_)) u9000_ x0_1) ∧ Aside0 (Kept w w' (fun k_ => P0_ k_)) ∧ Aside0 (Below w0.heap.size w0 w'))
 case atStart => exact ⟨(l0), (a1), (0), sr_, sr_, H', ⟨Nat.le_refl _⟩, ⟨kr_ HO0.out⟩, ⟨by repeat (first | (with_reducible first | exact HK.out | apply Kept.alloc | apply Kept.drewN | apply Kept.drew) | exact HK.out)⟩, ⟨hb_⟩⟩
 case round =>
  clear H'
  obtain ⟨x0_1, x1_1, x5_1, rfl, rfl, HA, HK1, HO_0, HK, HB⟩ := hrel
  cases gk with
  | zero => exact absurd HA.out (by simp [laws_markDoneS.l0])
  | succ k1 =>
   have H := HA.out
   clear HA
   simp only [laws_markDoneS.l0] at H
   replace H := ite_ H
   obtain ⟨c3, H⟩ | ⟨c3, H⟩ := H
   rotate_left
   ·have c3b0 := decide_eq_false c3
    clear c3
    simp only [Option.some.injEq, Prod.mk.injEq] at H
    obtain ⟨rfl, rfl⟩ := H
    obtain ⟨Ao15, co15, eo15⟩ := Kd.R_slice HO_0.out
    subst eo15
    go_wp2
    go_ret
    exact ⟨er_, kr_ HO_0.out, hb_, by repeat (first | (with_reducible first | exact HK.out | apply Kept.alloc | apply Kept.drewN | apply Kept.drew) | exact HK.out)⟩
   have c3b0 := decide_eq_true c3
   clear c3
   replace H := ifs_ H
   obtain ⟨c4, H⟩ := H
   have c4b0 := decide_eq_true c4
   clear c4
   obtain ⟨y318, hy318⟩ : ∃ y_ : List (S112), y_ = (x0_1.set (x5_1 : Int).toNat (⟨x1_1, (rd_T112 x0_1 x5_1).f1, (rd_T112 x0_1 x5_1).f2⟩ : S112)) := ⟨_, rfl⟩
   replace H : ((some (y318.set (x5_1 : Int).toNat (⟨(rd_T112 y318 x5_1).f0, wrap64 (x1_1 + 1), (rd_T112 y318 x5_1).f2⟩ : S112) : List (S112))).bind fun y319 => (laws_markDoneS.l0 k1 (y319.set (x5_1 : Int).toNat (⟨(rd_T112 y319 x5_1).f0, (rd_T112 y319 x5_1).f1, wrap64 ((wrap64 (x1_1 + 1)) + 1)⟩ : S112)) (wrap64 ((wrap64 ((wrap64 (x1_1 + 1)) + 1)) + 1)) (wrap64 (x5_1 + 1)))) = some (r1, r2) := by first | (rw [hy318]; with_reducible exact H) | (have H2_ := (Option.bind_some _ _).symm.trans H; rw [hy318]; with_reducible exact H2_) | (have H2_ := (Option.bind_some _ _).symm.trans H; with_reducible exact H2_) | with_reducible exact H | (rw [hy318]; exact H) | exact H
   have Ny318 := am_ hy318
   clear hy318
   obtain ⟨y319, hy319⟩ : ∃ y_ : List (S112), y_ = (y318.set (x5_1 : Int).toNat (⟨(rd_T112 y318 x5_1).f0, wrap64 (x1_1 + 1), (rd_T112 y318 x5_1).f2⟩ : S112)) := ⟨_, rfl⟩
   replace H : (laws_markDoneS.l0 k1 (y319.set (x5_1 : Int).toNat (⟨(rd_T112 y319 x5_1).f0, (rd_T112 y319 x5_1).f1, wrap64 ((wrap64 (x1_1 + 1)) + 1)⟩ : S112)) (wrap64 ((wrap64 ((wrap64 (x1_1 + 1)) + 1)) + 1)) (wrap64 (x5_1 + 1))) = some (r1, r2) := by first | (rw [hy319]; with_reducible exact H) | (have H2_ := (Option.bind_some _ _).symm.trans H; rw [hy319]; with_reducible exact H2_) | (have H2_ := (Option.bind_some _ _).symm.trans H; with_reducible exact H2_) | with_reducible exact H | (rw [hy319]; exact H) | exact H
   have Ny319 := am_ hy319
   clear hy319
   obtain ⟨y320, hy320⟩ : ∃ y_ : List (S112), y_ = (y319.set (x5_1 : Int).toNat (⟨(rd_T112 y319 x5_1).f0, (rd_T112 y319 x5_1).f1, wrap64 ((wrap64 (x1_1 + 1)) + 1)⟩ : S112)) := ⟨_, rfl⟩
   replace H : (laws_markDoneS.l0 k1 y320 (wrap64 ((wrap64 ((wrap64 (x1_1 + 1)) + 1)) + 1)) (wrap64 (x5_1 + 1))) = some (r1, r2) := by first | (rw [hy320]; with_reducible exact H) | (have H2_ := (Option.bind_some _ _).symm.trans H; rw [hy320]; with_reducible exact H2_) | (have H2_ := (Option.bind_some _ _).symm.trans H; with_reducible exact H2_) | with_reducible exact H | (rw [hy320]; exact H) | exact H
   have Ny320 := am_ hy320
   clear hy320
   have H' := am_ H
   clear H
   obtain ⟨Ao8, co8, eo8⟩ := Kd.R_slice HO_0.out
   subst eo8
   have p5 : 0 ≤ (x5_1 : Int) := oa_
   have q5 : (x5_1 : Int) < ((x0_1.length : Int) : Int) := oa_
   obtain ⟨go5, co5, eo5, gb5, gl5, cl5, HG5⟩ := Kd.R_form HO_0.out (by omega)
   (first | cases eo5 | (injection eo5 with ea_ en_ ec_; (first | subst ea_ | (injection ea_ with ea_; subst ea_)); subst ec_; clear en_))
   have GB5 := am_ gb5
   have GG5 := am_ HG5
   clear gb5 gl5 HG5
   have HMgo5 := am_ (show (P0_ go5 ∨ w.heap.size ≤ go5) from (HO_0.out.1 _ rfl))
   obtain ⟨ce5, hcl5, hM5, hcc5, hfr5⟩ := Kd.R_elem HO_0.out z112 (x5_1 : Int) p5 q5
   obtain rfl := k112_openM hM5
   have hx5_0 : wr.cell? ⟨go5, (x5_1 : Int).toNat * 3, none⟩ = some (.int .i64 ((rd_T112 x0_1 x5_1).f0)) := hcc5 0 _ rfl
   have hx5_1 : wr.cell? ⟨go5, (x5_1 : Int).toNat * 3 + 1, none⟩ = some (.int .i64 ((rd_T112 x0_1 x5_1).f1)) := hcc5 1 _ rfl
   have hx5_2 : wr.cell? ⟨go5, (x5_1 : Int).toNat * 3 + 2, none⟩ = some (.int .i64 ((rd_T112 x0_1 x5_1).f2)) := hcc5 2 _ rfl
   have hf5_0 : wr.frozen? ⟨go5, (x5_1 : Int).toNat * 3, none⟩ = false := hfr5 0
   have hf5_1 : wr.frozen? ⟨go5, (x5_1 : Int).toNat * 3 + 1, none⟩ = false := hfr5 1
   have hf5_2 : wr.frozen? ⟨go5, (x5_1 : Int).toNat * 3 + 2, none⟩ = false := hfr5 2
   clear hcl5 hcc5 hfr5; (try clear hM5)
   replace p5 := eq_true p5
   replace q5 := eq_true q5
   have HX9 := am_ (show Kd.R k112 112 wr w0.heap.size (fun k_ => (P0_ k_ ∨ w.heap.size ≤ k_)) (.slice (some ⟨go5, 0, none⟩) x0_1.length co8) x0_1 from (kr_ HO_0.out))
   obtain ⟨ce9, hcl9, hM9, hcc9, hfr9⟩ := Kd.R_elem HX9.out z112 (x5_1 : Int) (oa_) (by have h_ : (x5_1 : Int) < ((x0_1.length : Int) : Int) := oa_; first | exact h_ | (have e_ := (Kd.R_reads' HO_0.out).1; omega) | simpa using h_)
   obtain rfl := k112_openM hM9
   have HP9 := Kd.R_seg HX9.out (x5_1 : Int) (oa_) (by have h_ : (x5_1 : Int) < ((x0_1.length : Int) : Int) := oa_; first | exact h_ | (have e_ := (Kd.R_reads' HO_0.out).1; omega) | simpa using h_) (seg := [.int .i64 x1_1]) (j := 0) hcl9 hcc9 (show 1 ≤ 3 from by decide) (x' := (⟨x1_1, (rd_T112 x0_1 x5_1).f1, (rd_T112 x0_1 x5_1).f2⟩ : S112)) (k112_mkM _ _ _ (⟨x1_1, (rd_T112 x0_1 x5_1).f1, (rd_T112 x0_1 x5_1).f2⟩ : S112) ) (fun _ hk => hk)
   have hx9_0 := hcc9 0 _ rfl
   (try simp only [show (k112).sz = 3 from rfl, Nat.mul_one, Nat.add_zero] at hx9_0)
   have hf9_0 := hfr9 0
   (try simp only [show (k112).sz = 3 from rfl, Nat.mul_one, Nat.add_zero] at hf9_0)
   clear hcl9 hcc9 hfr9; (try clear hM9)
   go_wp2_with (first | ((with_reducible refine gate_store (t := 3) (p := 16) rfl ?_); refine store_event (t := 3) (p := 16) (v := ?vo_w10) (w1 := (wr.setCell ⟨go5, (x5_1 : Int).toNat * 3, none⟩ (.int .i64 x1_1))) ?hg ?ho ?hn ?hr ?_; (case ho => rfl); (case hg => rfl); (case hn => rfl); (case hr => first | (go_simp; done) | (go_simp; rfl)); intro w10 hw; have hg : wr.grownBy w10 (some go5) := (by rw [hw]; exact HP9.2); have hp_ : Kd.R k112 112 w10 w0.heap.size (fun k_ => (P0_ k_ ∨ w.heap.size ≤ k_)) (.slice (some ⟨go5, 0, none⟩) x0_1.length co8) y318 := (by rw [hw, Ny318.out]; exact HP9.1); clear HP9; replace HB := am_ ((by rw [hw]; exact below_set (HB.out) GB5.out : Below w0.heap.size w0 w10)); replace HK := am_ (Kept.of_grown (S := (fun k_ => P0_ k_)) hg (by repeat (first | (with_reducible first | exact HK.out | apply Kept.alloc | apply Kept.drewN | apply Kept.drew) | exact HK.out)) (fun k_ e_ => (HO_0.out.1 k_ e_))); replace HO_0 := am_ (hp_); clear hg hw hp_; have p6 : 0 ≤ (x5_1 : Int) := oa_; have q6 : (x5_1 : Int) < ((x0_1.length : Int) : Int) := oa_; obtain ⟨ce6, hcl6, hM6, hcc6, hfr6⟩ := Kd.R_elem HO_0.out z112 (x5_1 : Int) p6 q6; obtain rfl := k112_openM hM6; have hx6_0 : w10.cell? ⟨go5, (x5_1 : Int).toNat * 3, none⟩ = some (.int .i64 ((rd_T112 y318 x5_1).f0)) := hcc6 0 _ rfl; have hx6_1 : w10.cell? ⟨go5, (x5_1 : Int).toNat * 3 + 1, none⟩ = some (.int .i64 ((rd_T112 y318 x5_1).f1)) := hcc6 1 _ rfl; have hx6_2 : w10.cell? ⟨go5, (x5_1 : Int).toNat * 3 + 2, none⟩ = some (.int .i64 ((rd_T112 y318 x5_1).f2)) := hcc6 2 _ rfl; have hf6_0 : w10.frozen? ⟨go5, (x5_1 : Int).toNat * 3, none⟩ = false := hfr6 0; have hf6_1 : w10.frozen? ⟨go5, (x5_1 : Int).toNat * 3 + 1, none⟩ = false := hfr6 1; have hf6_2 : w10.frozen? ⟨go5, (x5_1 : Int).toNat * 3 + 2, none⟩ = false := hfr6 2; clear hcl6 hcc6 hfr6; (try clear hM6); replace p6 := eq_true p6; replace q6 := eq_true q6; have HX11 := am_ (show Kd.R k112 112 w10 w0.heap.size (fun k_ => (P0_ k_ ∨ w.heap.size ≤ k_)) (.slice (some ⟨go5, 0, none⟩) x0_1.length co8) y318 from (kr_ HO_0.out)); obtain ⟨ce11, hcl11, hM11, hcc11, hfr11⟩ := Kd.R_elem HX11.out z112 (x5_1 : Int) (oa_) (by have h_ : (x5_1 : Int) < ((x0_1.length : Int) : Int) := oa_; first | exact h_ | (have e_ := (Kd.R_reads' HO_0.out).1; omega) | simpa using h_); obtain rfl := k112_openM hM11; have HP11 := Kd.R_seg HX11.out (x5_1 : Int) (oa_) (by have h_ : (x5_1 : Int) < ((x0_1.length : Int) : Int) := oa_; first | exact h_ | (have e_ := (Kd.R_reads' HO_0.out).1; omega) | simpa using h_) (seg := [.int .i64 (wrap64 (x1_1 + 1))]) (j := 1) hcl11 hcc11 (show 2 ≤ 3 from by decide) (x' := (⟨(rd_T112 y318 x5_1).f0, wrap64 (x1_1 + 1), (rd_T112 y318 x5_1).f2⟩ : S112)) (k112_mkM _ _ _ (⟨(rd_T112 y318 x5_1).f0, wrap64 (x1_1 + 1), (rd_T112 y318 x5_1).f2⟩ : S112) ) (fun _ hk => hk); have hx11_1 := hcc11 1 _ rfl; (try simp only [show (k112).sz = 3 from rfl, Nat.mul_one, Nat.add_zero] at hx11_1); have hf11_1 := hfr11 1; (try simp only [show (k112).sz = 3 from rfl, Nat.mul_one, Nat.add_zero] at hf11_1); clear hcl11 hcc11 hfr11; (try clear hM11)) | ((with_reducible refine gate_store (t := 3) (p := 23) rfl ?_); refine store_event (t := 3) (p := 23) (v := ?vo_w12) (w1 := (w10.setCell ⟨go5, (x5_1 : Int).toNat * 3 + 1, none⟩ (.int .i64 (wrap64 (x1_1 + 1))))) ?hg ?ho ?hn ?hr ?_; (case ho => rfl); (case hg => rfl); (case hn => rfl); (case hr => first | (go_simp; done) | (go_simp; rfl)); intro w12 hw; have hg : w10.grownBy w12 (some go5) := (by rw [hw]; exact HP11.2); have hp_ : Kd.R k112 112 w12 w0.heap.size (fun k_ => (P0_ k_ ∨ w.heap.size ≤ k_)) (.slice (some ⟨go5, 0, none⟩) x0_1.length co8) y319 := (by rw [hw, Ny319.out]; exact HP11.1); clear HP11; replace HB := am_ ((by rw [hw]; exact below_set (HB.out) GB5.out : Below w0.heap.size w0 w12)); replace HK := am_ (Kept.of_grown (S := (fun k_ => P0_ k_)) hg (by repeat (first | (with_reducible first | exact HK.out | apply Kept.alloc | apply Kept.drewN | apply Kept.drew) | exact HK.out)) (fun k_ e_ => (HO_0.out.1 k_ e_))); replace HO_0 := am_ (hp_); clear hg hw hp_; have p7 : 0 ≤ (x5_1 : Int) := oa_; have q7 : (x5_1 : Int) < ((x0_1.length : Int) : Int) := oa_; obtain ⟨ce7, hcl7, hM7, hcc7, hfr7⟩ := Kd.R_elem HO_0.out z112 (x5_1 : Int) p7 q7; obtain rfl := k112_openM hM7; have hx7_0 : w12.cell? ⟨go5, (x5_1 : Int).toNat * 3, none⟩ = some (.int .i64 ((rd_T112 y319 x5_1).f0)) := hcc7 0 _ rfl; have hx7_1 : w12.cell? ⟨go5, (x5_1 : Int).toNat * 3 + 1, none⟩ = some (.int .i64 ((rd_T112 y319 x5_1).f1)) := hcc7 1 _ rfl; have hx7_2 : w12.cell? ⟨go5, (x5_1 : Int).toNat * 3 + 2, none⟩ = some (.int .i64 ((rd_T112 y319 x5_1).f2)) := hcc7 2 _ rfl; have hf7_0 : w12.frozen? ⟨go5, (x5_1 : Int).toNat * 3, none⟩ = false := hfr7 0; have hf7_1 : w12.frozen? ⟨go5, (x5_1 : Int).toNat * 3 + 1, none⟩ = false := hfr7 1; have hf7_2 : w12.frozen? ⟨go5, (x5_1 : Int).toNat * 3 + 2, none⟩ = false := hfr7 2; clear hcl7 hcc7 hfr7; (try clear hM7); replace p7 := eq_true p7; replace q7 := eq_true q7; have HX13 := am_ (show Kd.R k112 112 w12 w0.heap.size (fun k_ => (P0_ k_ ∨ w.heap.size ≤ k_)) (.slice (some ⟨go5, 0, none⟩) x0_1.length co8) y319 from (kr_ HO_0.out)); obtain ⟨ce13, hcl13, hM13, hcc13, hfr13⟩ := Kd.R_elem HX13.out z112 (x5_1 : Int) (oa_) (by have h_ : (x5_1 : Int) < ((x0_1.length : Int) : Int) := oa_; first | exact h_ | (have e_ := (Kd.R_reads' HO_0.out).1; omega) | simpa using h_); obtain rfl := k112_openM hM13; have HP13 := Kd.R_seg HX13.out (x5_1 : Int) (oa_) (by have h_ : (x5_1 : Int) < ((x0_1.length : Int) : Int) := oa_; first | exact h_ | (have e_ := (Kd.R_reads' HO_0.out).1; omega) | simpa using h_) (seg := [.int .i64 (wrap64 ((wrap64 (x1_1 + 1)) + 1))]) (j := 2) hcl13 hcc13 (show 3 ≤ 3 from by decide) (x' := (⟨(rd_T112 y319 x5_1).f0, (rd_T112 y319 x5_1).f1, wrap64 ((wrap64 (x1_1 + 1)) + 1)⟩ : S112)) (k112_mkM _ _ _ (⟨(rd_T112 y319 x5_1).f0, (rd_T112 y319 x5_1).f1, wrap64 ((wrap64 (x1_1 + 1)) + 1)⟩ : S112) ) (fun _ hk => hk); have hx13_2 := hcc13 2 _ rfl; (try simp only [show (k112).sz = 3 from rfl, Nat.mul_one, Nat.add_zero] at hx13_2); have hf13_2 := hfr13 2; (try simp only [show (k112).sz = 3 from rfl, Nat.mul_one, Nat.add_zero] at hf13_2); clear hcl13 hcc13 hfr13; (try clear hM13)) | ((with_reducible refine gate_store (t := 3) (p := 30) rfl ?_); refine store_event (t := 3) (p := 30) (v := ?vo_w14) (w1 := (w12.setCell ⟨go5, (x5_1 : Int).toNat * 3 + 2, none⟩ (.int .i64 (wrap64 ((wrap64 (x1_1 + 1)) + 1))))) ?hg ?ho ?hn ?hr ?_; (case ho => rfl); (case hg => rfl); (case hn => rfl); (case hr => first | (go_simp; done) | (go_simp; rfl)); intro w14 hw; have hg : w12.grownBy w14 (some go5) := (by rw [hw]; exact HP13.2); have hp_ : Kd.R k112 112 w14 w0.heap.size (fun k_ => (P0_ k_ ∨ w.heap.size ≤ k_)) (.slice (some ⟨go5, 0, none⟩) x0_1.length co8) y320 := (by rw [hw, Ny320.out]; exact HP13.1); clear HP13; replace HB := am_ ((by rw [hw]; exact below_set (HB.out) GB5.out : Below w0.heap.size w0 w14)); replace HK := am_ (Kept.of_grown (S := (fun k_ => P0_ k_)) hg (by repeat (first | (with_reducible first | exact HK.out | apply Kept.alloc | apply Kept.drewN | apply Kept.drew) | exact HK.out)) (fun k_ e_ => (HO_0.out.1 k_ e_))); replace HO_0 := am_ (hp_); clear hg hw hp_))
   go_roundg k1
   case measure => have := HK1.out; omega
   case rel => exact ⟨(y320), (wrap64 ((wrap64 ((wrap64 (x1_1 + 1)) + 1)) + 1)), (wrap64 (x5_1 + 1)), sr_, sr_, H', ⟨by have := HK1.out; omega⟩, ⟨kr_ HO_0.out⟩, ⟨by repeat (first | (with_reducible first | exact HK.out | apply Kept.alloc | apply Kept.drewN | apply Kept.drew) | exact HK.out)⟩, ⟨hb_⟩⟩

/-! ### laws_markProducerS: function 53 -/
def laws_markProducerS.l0 : Nat → List S81 → Int → Nat → Option (Int × List S81)
 | 0, _, _, _ => none
 | k + 1, x, m, i => if i < x.length then (laws_markDoneS.f k (x.getD i z81).f3 (wrap64 ((wrap64 ((wrap64 (m + 1)) + 1)) + 1))).bind fun t => laws_markProducerS.l0 k (x.set i ⟨m, (wrap64 (m + 1)), (wrap64 ((wrap64 (m + 1)) + 1)), t.2⟩) t.1 (i + 1) else some (m, x)
def laws_markProducerS.f (k : Nat) (l0 : List S81) (a1 : Int) : Option (Int × List S81) := laws_markProducerS.l0 k l0 a1 0
theorem laws_markProducerS.mono_l : ∀ k x m i, LeO (laws_markProducerS.l0 k x m i) (laws_markProducerS.l0 (k + 1) x m i)
 | 0, _, _, _ => fun r h => by simp [laws_markProducerS.l0] at h
 | k + 1, x, m, i => by
  rw [laws_markProducerS.l0, laws_markProducerS.l0]
  exact LeO.ite (LeO.bind (laws_markDoneS.mono _ _ _) (fun _ => laws_markProducerS.mono_l k _ _ _)) (LeO.refl _)
theorem laws_markProducerS.mono : ∀ a0 a1 k, LeO (laws_markProducerS.f k a0 a1) (laws_markProducerS.f (k + 1) a0 a1) := fun a0 a1 k => laws_markProducerS.mono_l k a0 a1 0
theorem laws_markProducerS.put {e base g n cap : Nat} {ok oki : Nat → Prop} {W : World} {xs : List S81} {i : Nat} {c : List Value} (h : Kd.H k81 e W base ok (.slice (some ⟨g, 0, none⟩) n cap) xs (i : Int) oki c) (h1 : (i : Int) < n) (j : Nat) (hj : j < 4) (u : Value) (hu : u.oneCell' = true) :
  Kd.H k81 e (W.setCell ⟨g, i * 4 + j, none⟩ u) base ok (.slice (some ⟨g, 0, none⟩) n cap) xs (i : Int) oki (c.take j ++ [u] ++ c.drop (j + 1)) ∧ W.grownBy (W.setCell ⟨g, i * 4 + j, none⟩ u) (some g) :=
 Kd.H_seg h (by omega) h1 (seg := [u]) (j := j) (show j + 1 ≤ 4 from hj) (fun q hq => by rw [List.mem_singleton.1 hq]; exact hu)
set_option maxHeartbeats 8000000 in
set_option maxRecDepth 100000 in
theorem laws_markProducerS.calls (k : Nat) (P0_ : Nat → Prop) (u : Value) (l0 : List S81) (a1 : Int) (r1 : Int) (r2 : List S81) (w0 w : World) (hB : Below w0.heap.size w0 w) (ho0 : Kd.S k81 81 w w0.heap.size P0_ u l0) (h : laws_markProducerS.f k l0 a1 = some (r1, r2)) :
  Calls Try.prog 53 #[u, .int .i64 a1] w fun e w' => e = .returned (.int .i64 r1) ∧ Kd.S k81 81 w' w0.heap.size P0_ u r2 ∧ Below w0.heap.size w0 w' ∧ Kept w w' P0_ := by
 obtain ⟨A, c, rfl, hc0, hC0⟩ := Kd.S_reads ho0
 have hbig : l0.length ≤ 9223372036854775807 := hC0.2.1
 clear hC0
 have HO := am_ ho0
 have HB := am_ hB
 have HH := am_ h
 clear ho0 hB h
 go_enter Try.func53, Try.ntmps53
 go_wp2
 go_loopg [1, 5] k (fun kq v1 v5 wr => ∃ (x : List S81) (m : Int) (i : Nat), v1 = .int .i64 m ∧ v5 = .int .i64 i ∧ i ≤ l0.length ∧ Aside0 (x.length = l0.length) ∧ Aside0 (laws_markProducerS.l0 kq x m i = some (r1, r2)) ∧ Aside0 (kq ≤ k) ∧ Aside0 (Kd.S k81 81 wr w0.heap.size P0_ (.slice A l0.length c) x) ∧ Aside0 (Kept w wr P0_) ∧ Aside0 (Below w0.heap.size w0 wr))
 case atStart => exact ⟨l0, a1, 0, rfl, rfl, Nat.zero_le _, ⟨rfl⟩, HH, ⟨Nat.le_refl _⟩, HO, ⟨Kept.refl _ _⟩, HB⟩
 case round =>
  clear HO HB HH
  obtain ⟨x, m, i, rfl, rfl, hi, HL, HA, HK, HO, HP, HB⟩ := hrel
  cases gk with
  | zero => exact absurd HA.out (by simp [laws_markProducerS.l0])
  | succ k1 =>
   have hA := HA.out
   clear HA
   rw [laws_markProducerS.l0] at hA
   by_cases hlt : i < l0.length
   ·have hltz : (i : Int) < (l0.length : Int) := by omega
    rw [if_pos (by rw [HL.out]; exact hlt)] at hA
    obtain ⟨t, h1, h2⟩ := Option.bind_eq_some_iff.1 hA
    have H1 := am_ h1
    have H2 := am_ h2
    clear hA h1 h2
    obtain ⟨g, cap, eg, hgb, _⟩ := Kd.S_form HO.out (by rw [HL.out]; omega)
    injection eg with eg1 eg2 eg3
    subst eg1
    clear eg2 eg3
    have HGB := am_ hgb
    have HPG := am_ ((Kd.S_R HO.out).1 g (by simp [Value.ownBlock]))
    clear hgb
    obtain ⟨oki, cs, _, hM, hcc, hfr, hoki, hH⟩ := Kd.S_elem HO.out z81 (i : Int) (by omega) hltz
    rw [Int.toNat_natCast] at hM
    obtain ⟨ve, rfl, ge⟩ := k81_openM hM
    clear hM
    obtain ⟨Ai, ci, rfl⟩ := Kd.R_slice ge
    have hci : ∀ j u_, j < 4 → [.int .i64 (x.getD i z81).f0, .int .i64 (x.getD i z81).f1, .int .i64 (x.getD i z81).f2, .slice Ai (x.getD i z81).f3.length ci][j]? = some u_ → wr.cell? ⟨g, i * 4 + j, none⟩ = some u_ := fun j u_ _ hu => hcc j u_ hu
    have hfi : ∀ j, wr.frozen? ⟨g, i * 4 + j, none⟩ = false := fun j => hfr (i * 4 + j) |> fun h_ => by first | exact h_ | exact hfr j
    have GE := am_ ge
    have HI := am_ hH
    have HQ := am_ hoki
    clear hcc hfr hH ge hoki
    have hc0 : wr.cell? ⟨g, i * 4, none⟩ = some (.int .i64 (x.getD i z81).f0) := hci 0 _ (by decide) rfl
    have hf0 : wr.frozen? ⟨g, i * 4, none⟩ = false := hfi 0
    have hc1 : wr.cell? ⟨g, i * 4 + 1, none⟩ = some (.int .i64 (x.getD i z81).f1) := hci 1 _ (by decide) rfl
    have hf1 : wr.frozen? ⟨g, i * 4 + 1, none⟩ = false := hfi 1
    have hc2 : wr.cell? ⟨g, i * 4 + 2, none⟩ = some (.int .i64 (x.getD i z81).f2) := hci 2 _ (by decide) rfl
    have hf2 : wr.frozen? ⟨g, i * 4 + 2, none⟩ = false := hfi 2
    have hc3 : wr.cell? ⟨g, i * 4 + 3, none⟩ = some (.slice Ai (x.getD i z81).f3.length ci) := hci 3 _ (by decide) rfl
    clear hci hfi
    go_wp2_with fail
    have P0 := laws_markProducerS.put HI.out hltz 0 (by decide) (.int .i64 m) rfl
    have P1 := laws_markProducerS.put P0.1 hltz 1 (by decide) (.int .i64 (wrap64 (m + 1))) rfl
    have P2 := laws_markProducerS.put P1.1 hltz 2 (by decide) (.int .i64 (wrap64 ((wrap64 (m + 1)) + 1))) rfl
    have HG := am_ (show wr.grownBy _ (some g) from (World.grownBy.trans (World.grownBy.trans P0.2 P1.2) P2.2))
    have HI2 := am_ P2.1
    clear P0 P1 P2
    refine (laws_markDoneS.calls k1 oki (.slice Ai (x.getD i z81).f3.length ci) (x.getD i z81).f3 (wrap64 ((wrap64 ((wrap64 (m + 1)) + 1)) + 1)) t.1 t.2 w0 _ (pw_below_grown HB.out (some g) HB.out.size HG.out (fun k_ e_ => by obtain rfl := Option.some.inj e_; exact HGB.out)) (Kd.R_grown GE.out HG.out (fun k_ hk_ e_ => (HQ.out k_ hk_).2 (Option.some.inj e_))) H1.out).mono ?_
    rintro e w2 ⟨rfl, hy, hb2, hkp⟩
    have HY := am_ hy
    have HB2 := am_ hb2
    have HKP := am_ hkp
    clear hy hb2 hkp
    have HS := am_ (Kd.H_back (Kd.H_step HI2.out (fun k_ _ hn hlt_ => HKP.out.2 k_ hlt_ hn)) (x' := ⟨m, (wrap64 (m + 1)), (wrap64 ((wrap64 (m + 1)) + 1)), t.2⟩) (okp := oki) (k81_mkM w2 w0.heap.size oki ⟨m, (wrap64 (m + 1)), (wrap64 ((wrap64 (m + 1)) + 1)), t.2⟩ (Kd.R_reok rfl HY.out (fun k_ e_ => GE.out.1 k_ e_))) (fun _ h_ => h_))
    have HP2 := am_ (Kept.then_ (Kept.of_grown HG.out HP.out (fun k_ e_ => .inl (by obtain rfl := Option.some.inj e_; exact HPG.out))) HKP.out (fun k_ h_ => .inl (HQ.out k_ h_).1))
    clear HI HI2 HY HKP GE HP HB HO HQ HG HPG HGB
    go_wp2_with fail
    go_roundg k1
    case measure => have := HK.out; omega
    case rel => exact ⟨x.set i ⟨m, (wrap64 (m + 1)), (wrap64 ((wrap64 (m + 1)) + 1)), t.2⟩, t.1, i + 1, rfl, by go_num, by omega, ⟨by rw [List.length_set]; exact HL.out⟩, H2, ⟨by have := HK.out; omega⟩, HS, HP2, HB2⟩
   ·have hltz : ¬ (i : Int) < (l0.length : Int) := by omega
    have hil : i = l0.length := by omega
    subst hil
    rw [if_neg (by rw [HL.out]; omega)] at hA
    have H2 := am_ (Prod.mk.inj (Option.some.inj hA))
    clear hA
    go_wp2
    go_ret
    exact ⟨by rw [H2.out.1]; rfl, by rw [← H2.out.2]; exact HO.out, HB.out, HP.out⟩



/-! ### laws_markPart: function 16 -/
def laws_markPart.f (k : Nat) (l0_0 : List S81) (l0_1 : List S78) (a0_2 : Int) (a1 : Int) : Option (Int × List S81 × List S78) := (laws_markProducerS.f k l0_0 a1).bind fun t => (laws_markBatchS.f k l0_1 t.1).bind fun u => some (u.1, t.2, u.2)
theorem laws_markPart.mono : ∀ a0 a1 a2 a3 k, LeO (laws_markPart.f k a0 a1 a2 a3) (laws_markPart.f (k + 1) a0 a1 a2 a3) := fun _ _ _ _ k => LeO.bind (laws_markProducerS.mono _ _ k) (fun _ => LeO.bind (laws_markBatchS.mono _ _ k) (fun _ => LeO.refl _))
set_option maxHeartbeats 8000000 in
set_option maxRecDepth 100000 in
theorem laws_markPart.calls (k : Nat) (P0_ : Nat → Prop) (u : Value) (l0_0 : List S81) (P1_ : Nat → Prop) (v : Value) (l0_1 : List S78) (a0_2 : Int) (a1 : Int) (r1 : Int) (r2 : List S81) (r3 : List S78) (w0 w : World) (hB : Below w0.heap.size w0 w) (ho0 : Kd.S k81 81 w w0.heap.size P0_ u l0_0) (ho1 : Kd.S k78 78 w w0.heap.size P1_ v l0_1) (hap : ∀ k_, P0_ k_ → P1_ k_ → False) (h : laws_markPart.f k l0_0 l0_1 a0_2 a1 = some (r1, r2, r3)) :
  Calls Try.prog 16 #[.agg #[u, v, .int .i64 a0_2], .int .i64 a1] w fun e w' => e = .returned (.int .i64 r1) ∧ Kd.S k81 81 w' w0.heap.size P0_ u r2 ∧ Kd.S k78 78 w' w0.heap.size P1_ v r3 ∧ Below w0.heap.size w0 w' ∧ Kept w w' (fun k_ => P0_ k_ ∨ P1_ k_) := by
 obtain ⟨A, c, rfl, _, _⟩ := Kd.S_reads ho0
 obtain ⟨B, d, rfl, _, _⟩ := Kd.S_reads ho1
 obtain ⟨⟨t1, t2⟩, h1, h2⟩ := Option.bind_eq_some_iff.1 h
 obtain ⟨⟨u1, u2⟩, h3, h4⟩ := Option.bind_eq_some_iff.1 h2
 have hE := Option.some.inj h4
 have HL0 := (Kd.S_bound ho0)
 have HO := am_ (Kd.S_mono (ok' := fun k_ => P0_ k_ ∧ k_ < w.heap.size) HL0 (fun k_ hk => ⟨hk.1, hk.2.2.1⟩))
 have HO1 := am_ (Kd.S_mono (ok' := fun k_ => P1_ k_ ∧ k_ < w.heap.size) (Kd.S_bound ho1) (fun k_ hk => ⟨hk.1, hk.2.2.1⟩))
 have HB := am_ hB
 have H1 := am_ h1
 have H3 := am_ h3
 have HE := am_ hE
 have HA := am_ hap
 clear ho0 ho1 hB h h1 h2 h3 h4 hE hap HL0
 obtain ⟨gb, hgb⟩ : ∃ gb, gb = w.heap.size := ⟨_, rfl⟩
 have hbk : (w.alloc (.cells #[.slice A l0_0.length c, .slice B l0_1.length d, .int .i64 a0_2] 33)).heap[gb]? = some (.cells #[.slice A l0_0.length c, .slice B l0_1.length d, .int .i64 a0_2] 33 (0, 0)) := by rw [hgb, World.alloc]; exact Array.getElem?_push_size
 have HBK := am_ hbk
 have HGB := am_ hgb
 clear hbk hgb
 go_enter Try.func16, Try.ntmps16
 go_wp2_with fail
 refine (laws_markProducerS.calls k (fun k_ => P0_ k_ ∧ k_ < w.heap.size) _ l0_0 a1 t1 t2 w0 _ (below_alloc HB.out _) (Kd.S_alloc HO.out _) H1.out).mono ?_
 rintro e w2 ⟨rfl, ho, hb, hk⟩
 have HO1' := am_ (Kd.S_kept (Kd.S_alloc HO1.out (.cells #[.slice A l0_0.length c, .slice B l0_1.length d, .int .i64 a0_2] 33)) hk (fun k_ h1_ h2_ => HA.out k_ h2_.1 h1_.1))
 have hbk2 := blk_kept HBK.out hk (fun h_ => by have := h_.2; rw [HGB.out] at this; exact absurd this (Nat.lt_irrefl _))
 rw [HGB.out] at hbk2
 have hx0 : w2.cell? ⟨w.heap.size, 0, none⟩ = some (.slice A l0_0.length c) := (blk_cell hbk2 0).trans rfl
 have hx1 : w2.cell? ⟨w.heap.size, 1, none⟩ = some (.slice B l0_1.length d) := (blk_cell hbk2 1).trans rfl
 have HO2 := am_ ho
 have HB2 := am_ hb
 have HK2 := am_ (Kept.then_ ((Kept.refl w (fun k_ => P0_ k_ ∨ P1_ k_)).alloc _) hk (fun _ h_ => .inl (.inl h_.1)))
 clear ho hb hk HO HB HO1 hbk2
 go_wp2_with fail
 refine (laws_markBatchS.calls k (fun k_ => P1_ k_ ∧ k_ < w.heap.size) _ l0_1 t1 u1 u2 w0 _ HB2.out HO1'.out H3.out).mono ?_
 rintro e w3 ⟨rfl, ho, hb, hk⟩
 have HO3 := am_ (Kd.S_mono (Kd.S_kept HO2.out hk (fun k_ h1_ h2_ => HA.out k_ h1_.1 h2_.1)) (fun _ h_ => h_.1))
 have HO4 := am_ (Kd.S_mono ho (fun _ h_ => h_.1))
 have HB3 := am_ hb
 have HK3 := am_ (Kept.then_ HK2.out hk (fun _ h_ => .inl (.inr h_.1)))
 clear ho hb hk HO2 HO1' HB2 HK2
 go_wp2_with fail
 go_ret
 obtain ⟨e1, e2, e3⟩ : u1 = r1 ∧ t2 = r2 ∧ u2 = r3 := by have := HE.out; simpa using this
 subst e1 e2 e3
 exact ⟨rfl, HO3.out, HO4.out, HB3.out, HK3.out⟩



/-! ### laws_heldStringS: function 18 -/
def laws_heldStringS.l0 : Nat → List ByteArray → Int → Int → Option (Int)
 | 0, _, _, _ => none
 | k + 1, x0, x1, x5 => if x5 < (x0.length : Int) then (if 0 ≤ x5 then ((laws_markText.f k x1).bind fun t322 => (if (rdOf ByteArray.empty x0 x5).toList = t322.toList then (laws_heldStringS.l0 k x0 (wrap64 (x1 + 1)) (wrap64 (x5 + 1))) else (some (-1)))) else (none)) else (some x1)
def laws_heldStringS.f (k : Nat) (l0 : List ByteArray) (a1 : Int) : Option (Int) := laws_heldStringS.l0 k l0 a1 0
theorem laws_heldStringS.mono_l : ∀ k, (∀ y0 y1 y2, LeO (laws_heldStringS.l0 k y0 y1 y2) (laws_heldStringS.l0 (k + 1) y0 y1 y2))
 | 0 => fun _ _ _ r h => by simp [laws_heldStringS.l0] at h
 | k + 1 => by
  have ih0 := laws_heldStringS.mono_l k
  ·intro y0 y1 y2
   unfold laws_heldStringS.l0
   repeat' first
   | (with_reducible first | apply ih0 | apply laws_markText.mono | exact LeO.refl _ | exact LeO.none _ | refine LeO.ite ?_ ?_ | refine LeO.bind ?_ (fun _ => ?_))
theorem laws_heldStringS.mono : ∀ a0 a1 k, LeO (laws_heldStringS.f k a0 a1) (laws_heldStringS.f (k + 1) a0 a1) := by
 intro a0 a1 k
 have ih0 := laws_heldStringS.mono_l k
 unfold laws_heldStringS.f
 repeat' first
   | (with_reducible first | apply ih0 | apply laws_markText.mono | exact LeO.refl _ | exact LeO.none _ | refine LeO.ite ?_ ?_ | refine LeO.bind ?_ (fun _ => ?_))
set_option maxHeartbeats 8000000 in
set_option maxRecDepth 100000 in
theorem laws_heldStringS.calls (k : Nat) (A0 : Option Addr) (c0 : Nat) (l0 : List ByteArray) (a1 : Int) (r : Int) (w : World) (hr0 : Kd.C Kd.string w A0 l0.length l0) (hc0 : l0.length ≤ c0) (h : laws_heldStringS.f k l0 a1 = some r) :
  Calls Try.prog 18 #[.slice A0 l0.length c0, .int .i64 a1] w fun e w' => e = .returned (.int .i64 r) ∧ Below w.heap.size w w' := by
 have HR0 := am_ hr0
 have HC0 := am_ hc0
 clear hr0 hc0
 have HB := am_ (Below.refl w.heap.size w)
 have H : (laws_heldStringS.l0 k l0 a1 0) = some r := h
 clear h
 have H' := am_ H
 clear H
 go_enter Try.func18, Try.ntmps18
 go_wp2
 go_loopg [1, 5] k (fun kq v1 v5 w' => ∃ (x1_1 : Int) (x5_1 : Int), v1 = .int .i64 x1_1 ∧ v5 = .int .i64 x5_1 ∧ Aside0 (laws_heldStringS.l0 kq l0 x1_1 x5_1 = some r) ∧ Aside0 (kq ≤ k) ∧ Aside0 (Below w.heap.size w w'))
 case atStart => exact ⟨(a1), (0), sr_, sr_, H', ⟨Nat.le_refl _⟩, ⟨hb_⟩⟩
 case round =>
  clear H'
  obtain ⟨x1_1, x5_1, rfl, rfl, HA, HK1, HB⟩ := hrel
  cases gk with
  | zero => exact absurd HA.out (by simp [laws_heldStringS.l0])
  | succ k1 =>
   have H := HA.out
   clear HA
   simp only [laws_heldStringS.l0] at H
   replace H := ite_ H
   obtain ⟨c3, H⟩ | ⟨c3, H⟩ := H
   rotate_left
   ·have c3b0 := decide_eq_false c3
    clear c3
    obtain rfl := Option.some.inj H
    go_wp2
    go_ret
    exact ⟨er_, hb_⟩
   have c3b0 := decide_eq_true c3
   clear c3
   replace H := ifs_ H
   obtain ⟨c4, H⟩ := H
   have c4b0 := decide_eq_true c4
   clear c4
   replace H := bnd_ H
   obtain ⟨t322, A5, H⟩ := H
   replace H := ite_ H
   obtain ⟨c6, H⟩ | ⟨c6, H⟩ := H
   rotate_left
   ·have c6b0 : ((rdOf ByteArray.empty l0 x5_1).toList == t322.toList) = false := beq_eq_false_iff_ne.mpr c6
    have c6b1 : ((rdOf ByteArray.empty l0 x5_1).toList != t322.toList) = true := bne_iff_ne.mpr c6
    obtain rfl := Option.some.inj H
    try go_wp2
    replace HB := qH_ HB
    have p321 : 0 ≤ (x5_1 : Int) := oa_
    have q321 : x5_1 < (l0.length : Int) := oa_
    obtain ⟨ad321, e321, hx321_0⟩ := Kd.at_string HR0.out x5_1 p321 q321
    have hw321_0 := hx321_0
    cases e321
    replace hx321_0 := pc_ HB.out hx321_0
    replace p321 := eq_true p321
    replace q321 := eq_true q321
    refine start_ (n := 7) (S := fun w' => w'.cell? (ad321.add (x5_1).toNat) = some (.string (rdOf ByteArray.empty l0 x5_1))) (ds := []) #[false, false, false, false, false, false, false] (by kernel_rfl) rfl rfl ((pc_ HB.out hw321_0)) (fun hHeld => ?_)
    generalize wr.drew = w9 at HB hx321_0 hHeld ⊢
    refine px_ 0 12 ?_
    refine px_ 1 13 ?_
    refine px_ 2 14 ?_
    refine px_ 4 16 ?_
    refine tx_ 3 15 ?_
    refine ox_ 5 17 fun K hK => ?_
    refine gs_ Try.func54 #[.int .i64 x1_1] rfl ma_ ?_
    with_reducible refine (laws_markText.calls k1 x1_1 t322 _ A5.out).mono ?_
    rintro e w10 ⟨rfl, hb⟩
    refine ⟨_, rfl, ?_⟩
    replace HB := nb_ hb
    (try clear hb)
    (try clear hb2)
    (try clear hk)
    (try clear hi)
    refine hK.out _ _ ((pc_ HB.out hw321_0)) (fun hHeld => ?_)
    clear hK K
    refine no_ ?_
    refine px_ 6 18 ?_
    refine done_ (by kernel_rfl) ?_
    try go_wp2
    go_ret
    exact ⟨er_, hb_⟩
   have c6b0 : ((rdOf ByteArray.empty l0 x5_1).toList == t322.toList) = true := beq_iff_eq.mpr c6
   have c6b1 : ((rdOf ByteArray.empty l0 x5_1).toList != t322.toList) = false := bne_eq_false_iff_eq.mpr c6
   clear c6
   have H' := am_ H
   clear H
   try go_wp2
   replace HB := qH_ HB
   have p321 : 0 ≤ (x5_1 : Int) := oa_
   have q321 : x5_1 < (l0.length : Int) := oa_
   obtain ⟨ad321, e321, hx321_0⟩ := Kd.at_string HR0.out x5_1 p321 q321
   have hw321_0 := hx321_0
   cases e321
   replace hx321_0 := pc_ HB.out hx321_0
   replace p321 := eq_true p321
   replace q321 := eq_true q321
   refine start_ (n := 7) (S := fun w' => w'.cell? (ad321.add (x5_1).toNat) = some (.string (rdOf ByteArray.empty l0 x5_1))) (ds := []) #[false, false, false, false, false, false, false] (by kernel_rfl) rfl rfl ((pc_ HB.out hw321_0)) (fun hHeld => ?_)
   generalize wr.drew = w7 at HB hx321_0 hHeld ⊢
   refine px_ 0 12 ?_
   refine px_ 1 13 ?_
   refine px_ 2 14 ?_
   refine px_ 4 16 ?_
   refine tx_ 3 15 ?_
   refine ox_ 5 17 fun K hK => ?_
   refine gs_ Try.func54 #[.int .i64 x1_1] rfl ma_ ?_
   with_reducible refine (laws_markText.calls k1 x1_1 t322 _ A5.out).mono ?_
   rintro e w8 ⟨rfl, hb⟩
   refine ⟨_, rfl, ?_⟩
   replace HB := nb_ hb
   (try clear hb)
   (try clear hb2)
   (try clear hk)
   (try clear hi)
   refine hK.out _ _ ((pc_ HB.out hw321_0)) (fun hHeld => ?_)
   clear hK K
   refine no_ ?_
   refine px_ 6 18 ?_
   refine done_ (by kernel_rfl) ?_
   try go_wp2
   go_roundg k1
   case measure => have := HK1.out; omega
   case rel => exact ⟨(wrap64 (x1_1 + 1)), (wrap64 (x5_1 + 1)), sr_, sr_, H', ⟨by have := HK1.out; omega⟩, ⟨hb_⟩⟩

end Go.Proofs.Ytojdaolclcmalaa.QFnExactRecordsOf
