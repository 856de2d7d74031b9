/- Functions that one statement reaches: of each a plain function, and the proof that calls come to it. Conditions: those that each contract names. Written by a program of this repository. -/
import Derived.Test.YtojdaolclcmalaaVPlayAsksa
import Derived.Test.YtojdaolclcmalaaQFnExactPlayAsksx2
import Derived.Test.YtojdaolclcmalaaQFnExactPlayAsksx4
namespace Go.Proofs.Ytojdaolclcmalaa.QFnExactPlayAsks
open Go.RowKit Go.Proofs.YtojdaolclcmalaaW.PrintWords Go.Proofs.YtojdaolclcmalaaW.PrintLast Go.Proofs.YtojdaolclcmalaaW.PrintMore
attribute [local go_sem] max2_int min2_int max_two min_two max_three min_three max_four min_four Go.Proofs.YtojdaolclcmalaaW.PrintMore2.isSome_setCell   -- for this text's walks alone
set_option linter.unusedVariables false
set_option linter.unusedSimpArgs false

/-! ### laws_markDoneS: function 81 -/
def laws_markDoneS.l0 : Nat → List (S112) → Int → Int → Option (Int × (List (S112)))
 | 0, _, _, _ => none
 | k + 1, x0, x1, x5 => if x5 < (x0.length : Int) then (if 0 ≤ x5 then ((some (x0.set (x5 : Int).toNat (⟨x1, (rd_T112 x0 x5).f1, (rd_T112 x0 x5).f2⟩ : S112) : List (S112))).bind fun y129 => ((some (y129.set (x5 : Int).toNat (⟨(rd_T112 y129 x5).f0, wrap64 (x1 + 1), (rd_T112 y129 x5).f2⟩ : S112) : List (S112))).bind fun y130 => (laws_markDoneS.l0 k (y130.set (x5 : Int).toNat (⟨(rd_T112 y130 x5).f0, (rd_T112 y130 x5).f1, wrap64 ((wrap64 (x1 + 1)) + 1)⟩ : S112)) (wrap64 ((wrap64 ((wrap64 (x1 + 1)) + 1)) + 1)) (wrap64 (x5 + 1))))) else (none)) else (some (x1, x0))
def laws_markDoneS.f (k : Nat) (l0 : List (S112)) (a1 : Int) : Option (Int × (List (S112))) := laws_markDoneS.l0 k l0 a1 0
theorem laws_markDoneS.mono_l : ∀ k, (∀ y0 y1 y2, LeO (laws_markDoneS.l0 k y0 y1 y2) (laws_markDoneS.l0 (k + 1) y0 y1 y2))
 | 0 => fun _ _ _ r h => by simp [laws_markDoneS.l0] at h
 | k + 1 => by
  have ih0 := laws_markDoneS.mono_l k
  ·intro y0 y1 y2
   unfold laws_markDoneS.l0
   repeat' first
   | (with_reducible first | apply ih0 | exact LeO.refl _ | exact LeO.none _ | refine LeO.ite ?_ ?_ | refine LeO.bind ?_ (fun _ => ?_))
theorem laws_markDoneS.mono : ∀ a0 a1 k, LeO (laws_markDoneS.f k a0 a1) (laws_markDoneS.f (k + 1) a0 a1) := by
 intro a0 a1 k
 have ih0 := laws_markDoneS.mono_l k
 unfold laws_markDoneS.f
 repeat' first
   | (with_reducible first | apply ih0 | exact LeO.refl _ | exact LeO.none _ | refine LeO.ite ?_ ?_ | refine LeO.bind ?_ (fun _ => ?_))
set_option maxHeartbeats 8000000 in
set_option maxRecDepth 100000 in
theorem laws_markDoneS.calls (k : Nat) (P0_ : Nat → Prop) (u9000_ : Value) (l0 : List (S112)) (a1 : Int) (r1 : Int) (r2 : List (S112)) (w0 w : World) (hB : Below w0.heap.size w0 w) (ho0 : Kd.R k112 112 w w0.heap.size P0_ u9000_ l0) (h : laws_markDoneS.f k l0 a1 = some (r1, r2)) :
  Calls Try.prog 81 #[u9000_, .int .i64 a1] w fun e w' => e = .returned (.int .i64 r1) ∧ Kd.R k112 112 w' w0.heap.size (fun k_ => (P0_ k_ ∨ w.heap.size ≤ k_)) u9000_ r2 ∧ Below w0.heap.size w0 w' ∧ Kept w w' (fun k_ => P0_ k_) := by
 have HO0 := am_ (show Kd.R k112 112 w w0.heap.size (fun k_ => (P0_ k_ ∨ w.heap.size ≤ k_)) u9000_ l0 from Kd.R_mono ho0 (fun k_ hk => (.inl hk)))
 have HK := am_ (Kept.refl w (fun k_ => P0_ k_))
 have HW0 := am_ hB.size
 have HB := am_ hB
 clear hB
 have H : (laws_markDoneS.l0 k l0 a1 0) = some (r1, r2) := h
 clear h
 have H' := am_ H
 clear H
 go_enter Try.func81, Try.ntmps81
 go_wp2
 go_loopg [1, 5] k (fun kq v1 v5 w' => ∃ (x0_1 : List (S112)) (x1_1 : Int) (x5_1 : Int), v1 = .int .i64 x1_1 ∧ v5 = .int .i64 x5_1 ∧ Aside0 (laws_markDoneS.l0 kq x0_1 x1_1 x5_1 = some (r1, r2)) ∧ Aside0 (kq ≤ k) ∧ Aside0 (Kd.R k112 112 w' w0.heap.size (fun k_ => (P0_ k_ ∨ w.heap.size ≤ k_)) u9000_ x0_1) ∧ Aside0 (Kept w w' (fun k_ => P0_ k_)) ∧ Aside0 (Below w0.heap.size w0 w'))
 case atStart => exact ⟨(l0), (a1), (0), sr_, sr_, H', ⟨Nat.le_refl _⟩, ⟨kr_ HO0.out⟩, ⟨by repeat (first | (with_reducible first | exact HK.out | apply Kept.alloc | apply Kept.drewN | apply Kept.drew) | exact HK.out)⟩, ⟨hb_⟩⟩
 case round =>
  clear H'
  obtain ⟨x0_1, x1_1, x5_1, rfl, rfl, HA, HK1, HO_0, HK, HB⟩ := hrel
  cases gk with
  | zero => exact absurd HA.out (by simp [laws_markDoneS.l0])
  | succ k1 =>
   have H := HA.out
   clear HA
   simp only [laws_markDoneS.l0] at H
   replace H := ite_ H
   obtain ⟨c3, H⟩ | ⟨c3, H⟩ := H
   rotate_left
   ·have c3b0 := decide_eq_false c3
    clear c3
    simp only [Option.some.injEq, Prod.mk.injEq] at H
    obtain ⟨rfl, rfl⟩ := H
    obtain ⟨Ao15, co15, eo15⟩ := Kd.R_slice HO_0.out
    subst eo15
    go_wp2
    go_ret
    exact ⟨er_, kr_ HO_0.out, hb_, by repeat (first | (with_reducible first | exact HK.out | apply Kept.alloc | apply Kept.drewN | apply Kept.drew) | exact HK.out)⟩
   have c3b0 := decide_eq_true c3
   clear c3
   replace H := ifs_ H
   obtain ⟨c4, H⟩ := H
   have c4b0 := decide_eq_true c4
   clear c4
   obtain ⟨y129, hy129⟩ : ∃ y_ : List (S112), y_ = (x0_1.set (x5_1 : Int).toNat (⟨x1_1, (rd_T112 x0_1 x5_1).f1, (rd_T112 x0_1 x5_1).f2⟩ : S112)) := ⟨_, rfl⟩
   replace H : ((some (y129.set (x5_1 : Int).toNat (⟨(rd_T112 y129 x5_1).f0, wrap64 (x1_1 + 1), (rd_T112 y129 x5_1).f2⟩ : S112) : List (S112))).bind fun y130 => (laws_markDoneS.l0 k1 (y130.set (x5_1 : Int).toNat (⟨(rd_T112 y130 x5_1).f0, (rd_T112 y130 x5_1).f1, wrap64 ((wrap64 (x1_1 + 1)) + 1)⟩ : S112)) (wrap64 ((wrap64 ((wrap64 (x1_1 + 1)) + 1)) + 1)) (wrap64 (x5_1 + 1)))) = some (r1, r2) := by first | (rw [hy129]; with_reducible exact H) | (have H2_ := (Option.bind_some _ _).symm.trans H; rw [hy129]; with_reducible exact H2_) | (have H2_ := (Option.bind_some _ _).symm.trans H; with_reducible exact H2_) | with_reducible exact H | (rw [hy129]; exact H) | exact H
   have Ny129 := am_ hy129
   clear hy129
   obtain ⟨y130, hy130⟩ : ∃ y_ : List (S112), y_ = (y129.set (x5_1 : Int).toNat (⟨(rd_T112 y129 x5_1).f0, wrap64 (x1_1 + 1), (rd_T112 y129 x5_1).f2⟩ : S112)) := ⟨_, rfl⟩
   replace H : (laws_markDoneS.l0 k1 (y130.set (x5_1 : Int).toNat (⟨(rd_T112 y130 x5_1).f0, (rd_T112 y130 x5_1).f1, wrap64 ((wrap64 (x1_1 + 1)) + 1)⟩ : S112)) (wrap64 ((wrap64 ((wrap64 (x1_1 + 1)) + 1)) + 1)) (wrap64 (x5_1 + 1))) = some (r1, r2) := by first | (rw [hy130]; with_reducible exact H) | (have H2_ := (Option.bind_some _ _).symm.trans H; rw [hy130]; with_reducible exact H2_) | (have H2_ := (Option.bind_some _ _).symm.trans H; with_reducible exact H2_) | with_reducible exact H | (rw [hy130]; exact H) | exact H
   have Ny130 := am_ hy130
   clear hy130
   obtain ⟨y131, hy131⟩ : ∃ y_ : List (S112), y_ = (y130.set (x5_1 : Int).toNat (⟨(rd_T112 y130 x5_1).f0, (rd_T112 y130 x5_1).f1, wrap64 ((wrap64 (x1_1 + 1)) + 1)⟩ : S112)) := ⟨_, rfl⟩
   replace H : (laws_markDoneS.l0 k1 y131 (wrap64 ((wrap64 ((wrap64 (x1_1 + 1)) + 1)) + 1)) (wrap64 (x5_1 + 1))) = some (r1, r2) := by first | (rw [hy131]; with_reducible exact H) | (have H2_ := (Option.bind_some _ _).symm.trans H; rw [hy131]; with_reducible exact H2_) | (have H2_ := (Option.bind_some _ _).symm.trans H; with_reducible exact H2_) | with_reducible exact H | (rw [hy131]; exact H) | exact H
   have Ny131 := am_ hy131
   clear hy131
   have H' := am_ H
   clear H
   obtain ⟨Ao8, co8, eo8⟩ := Kd.R_slice HO_0.out
   subst eo8
   have p5 : 0 ≤ (x5_1 : Int) := oa_
   have q5 : (x5_1 : Int) < ((x0_1.length : Int) : Int) := oa_
   obtain ⟨go5, co5, eo5, gb5, gl5, cl5, HG5⟩ := Kd.R_form HO_0.out (by omega)
   (first | cases eo5 | (injection eo5 with ea_ en_ ec_; (first | subst ea_ | (injection ea_ with ea_; subst ea_)); subst ec_; clear en_))
   have GB5 := am_ gb5
   have GG5 := am_ HG5
   clear gb5 gl5 HG5
   have HMgo5 := am_ (show (P0_ go5 ∨ w.heap.size ≤ go5) from (HO_0.out.1 _ rfl))
   obtain ⟨ce5, hcl5, hM5, hcc5, hfr5⟩ := Kd.R_elem HO_0.out z112 (x5_1 : Int) p5 q5
   obtain rfl := k112_openM hM5
   have hx5_0 : wr.cell? ⟨go5, (x5_1 : Int).toNat * 3, none⟩ = some (.int .i64 ((rd_T112 x0_1 x5_1).f0)) := hcc5 0 _ rfl
   have hx5_1 : wr.cell? ⟨go5, (x5_1 : Int).toNat * 3 + 1, none⟩ = some (.int .i64 ((rd_T112 x0_1 x5_1).f1)) := hcc5 1 _ rfl
   have hx5_2 : wr.cell? ⟨go5, (x5_1 : Int).toNat * 3 + 2, none⟩ = some (.int .i64 ((rd_T112 x0_1 x5_1).f2)) := hcc5 2 _ rfl
   have hf5_0 : wr.frozen? ⟨go5, (x5_1 : Int).toNat * 3, none⟩ = false := hfr5 0
   have hf5_1 : wr.frozen? ⟨go5, (x5_1 : Int).toNat * 3 + 1, none⟩ = false := hfr5 1
   have hf5_2 : wr.frozen? ⟨go5, (x5_1 : Int).toNat * 3 + 2, none⟩ = false := hfr5 2
   clear hcl5 hcc5 hfr5; (try clear hM5)
   replace p5 := eq_true p5
   replace q5 := eq_true q5
   have HX9 := am_ (show Kd.R k112 112 wr w0.heap.size (fun k_ => (P0_ k_ ∨ w.heap.size ≤ k_)) (.slice (some ⟨go5, 0, none⟩) x0_1.length co8) x0_1 from (kr_ HO_0.out))
   obtain ⟨ce9, hcl9, hM9, hcc9, hfr9⟩ := Kd.R_elem HX9.out z112 (x5_1 : Int) (oa_) (by have h_ : (x5_1 : Int) < ((x0_1.length : Int) : Int) := oa_; first | exact h_ | (have e_ := (Kd.R_reads' HO_0.out).1; omega) | simpa using h_)
   obtain rfl := k112_openM hM9
   have HP9 := Kd.R_seg HX9.out (x5_1 : Int) (oa_) (by have h_ : (x5_1 : Int) < ((x0_1.length : Int) : Int) := oa_; first | exact h_ | (have e_ := (Kd.R_reads' HO_0.out).1; omega) | simpa using h_) (seg := [.int .i64 x1_1]) (j := 0) hcl9 hcc9 (show 1 ≤ 3 from by decide) (x' := (⟨x1_1, (rd_T112 x0_1 x5_1).f1, (rd_T112 x0_1 x5_1).f2⟩ : S112)) (k112_mkM _ _ _ (⟨x1_1, (rd_T112 x0_1 x5_1).f1, (rd_T112 x0_1 x5_1).f2⟩ : S112) ) (fun _ hk => hk)
   have hx9_0 := hcc9 0 _ rfl
   (try simp only [show (k112).sz = 3 from rfl, Nat.mul_one, Nat.add_zero] at hx9_0)
   have hf9_0 := hfr9 0
   (try simp only [show (k112).sz = 3 from rfl, Nat.mul_one, Nat.add_zero] at hf9_0)
   clear hcl9 hcc9 hfr9; (try clear hM9)
   go_wp2_with (first | ((with_reducible refine gate_store (t := 3) (p := 16) rfl ?_); refine store_event (t := 3) (p := 16) (v := ?vo_w10) (w1 := (wr.setCell ⟨go5, (x5_1 : Int).toNat * 3, none⟩ (.int .i64 x1_1))) ?hg ?ho ?hn ?hr ?_; (case ho => rfl); (case hg => rfl); (case hn => rfl); (case hr => first | (go_simp; done) | (go_simp; rfl)); intro w10 hw; have hg : wr.grownBy w10 (some go5) := (by rw [hw]; exact HP9.2); have hp_ : Kd.R k112 112 w10 w0.heap.size (fun k_ => (P0_ k_ ∨ w.heap.size ≤ k_)) (.slice (some ⟨go5, 0, none⟩) x0_1.length co8) y129 := (by rw [hw, Ny129.out]; exact HP9.1); clear HP9; replace HB := am_ ((by rw [hw]; exact below_set (HB.out) GB5.out : Below w0.heap.size w0 w10)); replace HK := am_ (Kept.of_grown (S := (fun k_ => P0_ k_)) hg (by repeat (first | (with_reducible first | exact HK.out | apply Kept.alloc | apply Kept.drewN | apply Kept.drew) | exact HK.out)) (fun k_ e_ => (HO_0.out.1 k_ e_))); replace HO_0 := am_ (hp_); clear hg hw hp_; have p6 : 0 ≤ (x5_1 : Int) := oa_; have q6 : (x5_1 : Int) < ((x0_1.length : Int) : Int) := oa_; obtain ⟨ce6, hcl6, hM6, hcc6, hfr6⟩ := Kd.R_elem HO_0.out z112 (x5_1 : Int) p6 q6; obtain rfl := k112_openM hM6; have hx6_0 : w10.cell? ⟨go5, (x5_1 : Int).toNat * 3, none⟩ = some (.int .i64 ((rd_T112 y129 x5_1).f0)) := hcc6 0 _ rfl; have hx6_1 : w10.cell? ⟨go5, (x5_1 : Int).toNat * 3 + 1, none⟩ = some (.int .i64 ((rd_T112 y129 x5_1).f1)) := hcc6 1 _ rfl; have hx6_2 : w10.cell? ⟨go5, (x5_1 : Int).toNat * 3 + 2, none⟩ = some (.int .i64 ((rd_T112 y129 x5_1).f2)) := hcc6 2 _ rfl; have hf6_0 : w10.frozen? ⟨go5, (x5_1 : Int).toNat * 3, none⟩ = false := hfr6 0; have hf6_1 : w10.frozen? ⟨go5, (x5_1 : Int).toNat * 3 + 1, none⟩ = false := hfr6 1; have hf6_2 : w10.frozen? ⟨go5, (x5_1 : Int).toNat * 3 + 2, none⟩ = false := hfr6 2; clear hcl6 hcc6 hfr6; (try clear hM6); replace p6 := eq_true p6; replace q6 := eq_true q6; have HX11 := am_ (show Kd.R k112 112 w10 w0.heap.size (fun k_ => (P0_ k_ ∨ w.heap.size ≤ k_)) (.slice (some ⟨go5, 0, none⟩) x0_1.length co8) y129 from (kr_ HO_0.out)); obtain ⟨ce11, hcl11, hM11, hcc11, hfr11⟩ := Kd.R_elem HX11.out z112 (x5_1 : Int) (oa_) (by have h_ : (x5_1 : Int) < ((x0_1.length : Int) : Int) := oa_; first | exact h_ | (have e_ := (Kd.R_reads' HO_0.out).1; omega) | simpa using h_); obtain rfl := k112_openM hM11; have HP11 := Kd.R_seg HX11.out (x5_1 : Int) (oa_) (by have h_ : (x5_1 : Int) < ((x0_1.length : Int) : Int) := oa_; first | exact h_ | (have e_ := (Kd.R_reads' HO_0.out).1; omega) | simpa using h_) (seg := [.int .i64 (wrap64 (x1_1 + 1))]) (j := 1) hcl11 hcc11 (show 2 ≤ 3 from by decide) (x' := (⟨(rd_T112 y129 x5_1).f0, wrap64 (x1_1 + 1), (rd_T112 y129 x5_1).f2⟩ : S112)) (k112_mkM _ _ _ (⟨(rd_T112 y129 x5_1).f0, wrap64 (x1_1 + 1), (rd_T112 y129 x5_1).f2⟩ : S112) ) (fun _ hk => hk); have hx11_1 := hcc11 1 _ rfl; (try simp only [show (k112).sz = 3 from rfl, Nat.mul_one, Nat.add_zero] at hx11_1); have hf11_1 := hfr11 1; (try simp only [show (k112).sz = 3 from rfl, Nat.mul_one, Nat.add_zero] at hf11_1); clear hcl11 hcc11 hfr11; (try clear hM11)) | ((with_reducible refine gate_store (t := 3) (p := 23) rfl ?_); refine store_event (t := 3) (p := 23) (v := ?vo_w12) (w1 := (w10.setCell ⟨go5, (x5_1 : Int).toNat * 3 + 1, none⟩ (.int .i64 (wrap64 (x1_1 + 1))))) ?hg ?ho ?hn ?hr ?_; (case ho => rfl); (case hg => rfl); (case hn => rfl); (case hr => first | (go_simp; done) | (go_simp; rfl)); intro w12 hw; have hg : w10.grownBy w12 (some go5) := (by rw [hw]; exact HP11.2); have hp_ : Kd.R k112 112 w12 w0.heap.size (fun k_ => (P0_ k_ ∨ w.heap.size ≤ k_)) (.slice (some ⟨go5, 0, none⟩) x0_1.length co8) y130 := (by rw [hw, Ny130.out]; exact HP11.1); clear HP11; replace HB := am_ ((by rw [hw]; exact below_set (HB.out) GB5.out : Below w0.heap.size w0 w12)); replace HK := am_ (Kept.of_grown (S := (fun k_ => P0_ k_)) hg (by repeat (first | (with_reducible first | exact HK.out | apply Kept.alloc | apply Kept.drewN | apply Kept.drew) | exact HK.out)) (fun k_ e_ => (HO_0.out.1 k_ e_))); replace HO_0 := am_ (hp_); clear hg hw hp_; have p7 : 0 ≤ (x5_1 : Int) := oa_; have q7 : (x5_1 : Int) < ((x0_1.length : Int) : Int) := oa_; obtain ⟨ce7, hcl7, hM7, hcc7, hfr7⟩ := Kd.R_elem HO_0.out z112 (x5_1 : Int) p7 q7; obtain rfl := k112_openM hM7; have hx7_0 : w12.cell? ⟨go5, (x5_1 : Int).toNat * 3, none⟩ = some (.int .i64 ((rd_T112 y130 x5_1).f0)) := hcc7 0 _ rfl; have hx7_1 : w12.cell? ⟨go5, (x5_1 : Int).toNat * 3 + 1, none⟩ = some (.int .i64 ((rd_T112 y130 x5_1).f1)) := hcc7 1 _ rfl; have hx7_2 : w12.cell? ⟨go5, (x5_1 : Int).toNat * 3 + 2, none⟩ = some (.int .i64 ((rd_T112 y130 x5_1).f2)) := hcc7 2 _ rfl; have hf7_0 : w12.frozen? ⟨go5, (x5_1 : Int).toNat * 3, none⟩ = false := hfr7 0; have hf7_1 : w12.frozen? ⟨go5, (x5_1 : Int).toNat * 3 + 1, none⟩ = false := hfr7 1; have hf7_2 : w12.frozen? ⟨go5, (x5_1 : Int).toNat * 3 + 2, none⟩ = false := hfr7 2; clear hcl7 hcc7 hfr7; (try clear hM7); replace p7 := eq_true p7; replace q7 := eq_true q7; have HX13 := am_ (show Kd.R k112 112 w12 w0.heap.size (fun k_ => (P0_ k_ ∨ w.heap.size ≤ k_)) (.slice (some ⟨go5, 0, none⟩) x0_1.length co8) y130 from (kr_ HO_0.out)); obtain ⟨ce13, hcl13, hM13, hcc13, hfr13⟩ := Kd.R_elem HX13.out z112 (x5_1 : Int) (oa_) (by have h_ : (x5_1 : Int) < ((x0_1.length : Int) : Int) := oa_; first | exact h_ | (have e_ := (Kd.R_reads' HO_0.out).1; omega) | simpa using h_); obtain rfl := k112_openM hM13; have HP13 := Kd.R_seg HX13.out (x5_1 : Int) (oa_) (by have h_ : (x5_1 : Int) < ((x0_1.length : Int) : Int) := oa_; first | exact h_ | (have e_ := (Kd.R_reads' HO_0.out).1; omega) | simpa using h_) (seg := [.int .i64 (wrap64 ((wrap64 (x1_1 + 1)) + 1))]) (j := 2) hcl13 hcc13 (show 3 ≤ 3 from by decide) (x' := (⟨(rd_T112 y130 x5_1).f0, (rd_T112 y130 x5_1).f1, wrap64 ((wrap64 (x1_1 + 1)) + 1)⟩ : S112)) (k112_mkM _ _ _ (⟨(rd_T112 y130 x5_1).f0, (rd_T112 y130 x5_1).f1, wrap64 ((wrap64 (x1_1 + 1)) + 1)⟩ : S112) ) (fun _ hk => hk); have hx13_2 := hcc13 2 _ rfl; (try simp only [show (k112).sz = 3 from rfl, Nat.mul_one, Nat.add_zero] at hx13_2); have hf13_2 := hfr13 2; (try simp only [show (k112).sz = 3 from rfl, Nat.mul_one, Nat.add_zero] at hf13_2); clear hcl13 hcc13 hfr13; (try clear hM13)) | ((with_reducible refine gate_store (t := 3) (p := 30) rfl ?_); refine store_event (t := 3) (p := 30) (v := ?vo_w14) (w1 := (w12.setCell ⟨go5, (x5_1 : Int).toNat * 3 + 2, none⟩ (.int .i64 (wrap64 ((wrap64 (x1_1 + 1)) + 1))))) ?hg ?ho ?hn ?hr ?_; (case ho => rfl); (case hg => rfl); (case hn => rfl); (case hr => first | (go_simp; done) | (go_simp; rfl)); intro w14 hw; have hg : w12.grownBy w14 (some go5) := (by rw [hw]; exact HP13.2); have hp_ : Kd.R k112 112 w14 w0.heap.size (fun k_ => (P0_ k_ ∨ w.heap.size ≤ k_)) (.slice (some ⟨go5, 0, none⟩) x0_1.length co8) y131 := (by rw [hw, Ny131.out]; exact HP13.1); clear HP13; replace HB := am_ ((by rw [hw]; exact below_set (HB.out) GB5.out : Below w0.heap.size w0 w14)); replace HK := am_ (Kept.of_grown (S := (fun k_ => P0_ k_)) hg (by repeat (first | (with_reducible first | exact HK.out | apply Kept.alloc | apply Kept.drewN | apply Kept.drew) | exact HK.out)) (fun k_ e_ => (HO_0.out.1 k_ e_))); replace HO_0 := am_ (hp_); clear hg hw hp_))
   go_roundg k1
   case measure => have := HK1.out; omega
   case rel => exact ⟨(y131), (wrap64 ((wrap64 ((wrap64 (x1_1 + 1)) + 1)) + 1)), (wrap64 (x5_1 + 1)), sr_, sr_, H', ⟨by have := HK1.out; omega⟩, ⟨kr_ HO_0.out⟩, ⟨by repeat (first | (with_reducible first | exact HK.out | apply Kept.alloc | apply Kept.drewN | apply Kept.drew) | exact HK.out)⟩, ⟨hb_⟩⟩

/-! ### laws_markProducerS: function 53 -/
def laws_markProducerS.l0 : Nat → List S81 → Int → Nat → Option (Int × List S81)
 | 0, _, _, _ => none
 | k + 1, x, m, i => if i < x.length then (laws_markDoneS.f k (x.getD i z81).f3 (wrap64 ((wrap64 ((wrap64 (m + 1)) + 1)) + 1))).bind fun t => laws_markProducerS.l0 k (x.set i ⟨m, (wrap64 (m + 1)), (wrap64 ((wrap64 (m + 1)) + 1)), t.2⟩) t.1 (i + 1) else some (m, x)
def laws_markProducerS.f (k : Nat) (l0 : List S81) (a1 : Int) : Option (Int × List S81) := laws_markProducerS.l0 k l0 a1 0
theorem laws_markProducerS.mono_l : ∀ k x m i, LeO (laws_markProducerS.l0 k x m i) (laws_markProducerS.l0 (k + 1) x m i)
 | 0, _, _, _ => fun r h => by simp [laws_markProducerS.l0] at h
 | k + 1, x, m, i => by
  rw [laws_markProducerS.l0, laws_markProducerS.l0]
  exact LeO.ite (LeO.bind (laws_markDoneS.mono _ _ _) (fun _ => laws_markProducerS.mono_l k _ _ _)) (LeO.refl _)
theorem laws_markProducerS.mono : ∀ a0 a1 k, LeO (laws_markProducerS.f k a0 a1) (laws_markProducerS.f (k + 1) a0 a1) := fun a0 a1 k => laws_markProducerS.mono_l k a0 a1 0
theorem laws_markProducerS.put {e base g n cap : Nat} {ok oki : Nat → Prop} {W : World} {xs : List S81} {i : Nat} {c : List Value} (h : Kd.H k81 e W base ok (.slice (some ⟨g, 0, none⟩) n cap) xs (i : Int) oki c) (h1 : (i : Int) < n) (j : Nat) (hj : j < 4) (u : Value) (hu : u.oneCell' = true) :
  Kd.H k81 e (W.setCell ⟨g, i * 4 + j, none⟩ u) base ok (.slice (some ⟨g, 0, none⟩) n cap) xs (i : Int) oki (c.take j ++ [u] ++ c.drop (j + 1)) ∧ W.grownBy (W.setCell ⟨g, i * 4 + j, none⟩ u) (some g) :=
 Kd.H_seg h (by omega) h1 (seg := [u]) (j := j) (show j + 1 ≤ 4 from hj) (fun q hq => by rw [List.mem_singleton.1 hq]; exact hu)
set_option maxHeartbeats 8000000 in
set_option maxRecDepth 100000 in
theorem laws_markProducerS.calls (k : Nat) (P0_ : Nat → Prop) (u : Value) (l0 : List S81) (a1 : Int) (r1 : Int) (r2 : List S81) (w0 w : World) (hB : Below w0.heap.size w0 w) (ho0 : Kd.S k81 81 w w0.heap.size P0_ u l0) (h : laws_markProducerS.f k l0 a1 = some (r1, r2)) :
  Calls Try.prog 53 #[u, .int .i64 a1] w fun e w' => e = .returned (.int .i64 r1) ∧ Kd.S k81 81 w' w0.heap.size P0_ u r2 ∧ Below w0.heap.size w0 w' ∧ Kept w w' P0_ := by
 obtain ⟨A, c, rfl, hc0, hC0⟩ := Kd.S_reads ho0
 have hbig : l0.length ≤ 9223372036854775807 := hC0.2.1
 clear hC0
 have HO := am_ ho0
 have HB := am_ hB
 have HH := am_ h
 clear ho0 hB h
 go_enter Try.func53, Try.ntmps53
 go_wp2
 go_loopg [1, 5] k (fun kq v1 v5 wr => ∃ (x : List S81) (m : Int) (i : Nat), v1 = .int .i64 m ∧ v5 = .int .i64 i ∧ i ≤ l0.length ∧ Aside0 (x.length = l0.length) ∧ Aside0 (laws_markProducerS.l0 kq x m i = some (r1, r2)) ∧ Aside0 (kq ≤ k) ∧ Aside0 (Kd.S k81 81 wr w0.heap.size P0_ (.slice A l0.length c) x) ∧ Aside0 (Kept w wr P0_) ∧ Aside0 (Below w0.heap.size w0 wr))
 case atStart => exact ⟨l0, a1, 0, rfl, rfl, Nat.zero_le _, ⟨rfl⟩, HH, ⟨Nat.le_refl _⟩, HO, ⟨Kept.refl _ _⟩, HB⟩
 case round =>
  clear HO HB HH
  obtain ⟨x, m, i, rfl, rfl, hi, HL, HA, HK, HO, HP, HB⟩ := hrel
  cases gk with
  | zero => exact absurd HA.out (by simp [laws_markProducerS.l0])
  | succ k1 =>
   have hA := HA.out
   clear HA
   rw [laws_markProducerS.l0] at hA
   by_cases hlt : i < l0.length
   ·have hltz : (i : Int) < (l0.length : Int) := by omega
    rw [if_pos (by rw [HL.out]; exact hlt)] at hA
    obtain ⟨t, h1, h2⟩ := Option.bind_eq_some_iff.1 hA
    have H1 := am_ h1
    have H2 := am_ h2
    clear hA h1 h2
    obtain ⟨g, cap, eg, hgb, _⟩ := Kd.S_form HO.out (by rw [HL.out]; omega)
    injection eg with eg1 eg2 eg3
    subst eg1
    clear eg2 eg3
    have HGB := am_ hgb
    have HPG := am_ ((Kd.S_R HO.out).1 g (by simp [Value.ownBlock]))
    clear hgb
    obtain ⟨oki, cs, _, hM, hcc, hfr, hoki, hH⟩ := Kd.S_elem HO.out z81 (i : Int) (by omega) hltz
    rw [Int.toNat_natCast] at hM
    obtain ⟨ve, rfl, ge⟩ := k81_openM hM
    clear hM
    obtain ⟨Ai, ci, rfl⟩ := Kd.R_slice ge
    have hci : ∀ j u_, j < 4 → [.int .i64 (x.getD i z81).f0, .int .i64 (x.getD i z81).f1, .int .i64 (x.getD i z81).f2, .slice Ai (x.getD i z81).f3.length ci][j]? = some u_ → wr.cell? ⟨g, i * 4 + j, none⟩ = some u_ := fun j u_ _ hu => hcc j u_ hu
    have hfi : ∀ j, wr.frozen? ⟨g, i * 4 + j, none⟩ = false := fun j => hfr (i * 4 + j) |> fun h_ => by first | exact h_ | exact hfr j
    have GE := am_ ge
    have HI := am_ hH
    have HQ := am_ hoki
    clear hcc hfr hH ge hoki
    have hc0 : wr.cell? ⟨g, i * 4, none⟩ = some (.int .i64 (x.getD i z81).f0) := hci 0 _ (by decide) rfl
    have hf0 : wr.frozen? ⟨g, i * 4, none⟩ = false := hfi 0
    have hc1 : wr.cell? ⟨g, i * 4 + 1, none⟩ = some (.int .i64 (x.getD i z81).f1) := hci 1 _ (by decide) rfl
    have hf1 : wr.frozen? ⟨g, i * 4 + 1, none⟩ = false := hfi 1
    have hc2 : wr.cell? ⟨g, i * 4 + 2, none⟩ = some (.int .i64 (x.getD i z81).f2) := hci 2 _ (by decide) rfl
    have hf2 : wr.frozen? ⟨g, i * 4 + 2, none⟩ = false := hfi 2
    have hc3 : wr.cell? ⟨g, i * 4 + 3, none⟩ = some (.slice Ai (x.getD i z81).f3.length ci) := hci 3 _ (by decide) rfl
    clear hci hfi
    go_wp2_with fail
    have P0 := laws_markProducerS.put HI.out hltz 0 (by decide) (.int .i64 m) rfl
    have P1 := laws_markProducerS.put P0.1 hltz 1 (by decide) (.int .i64 (wrap64 (m + 1))) rfl
    have P2 := laws_markProducerS.put P1.1 hltz 2 (by decide) (.int .i64 (wrap64 ((wrap64 (m + 1)) + 1))) rfl
    have HG := am_ (show wr.grownBy _ (some g) from (World.grownBy.trans (World.grownBy.trans P0.2 P1.2) P2.2))
    have HI2 := am_ P2.1
    clear P0 P1 P2
    refine (laws_markDoneS.calls k1 oki (.slice Ai (x.getD i z81).f3.length ci) (x.getD i z81).f3 (wrap64 ((wrap64 ((wrap64 (m + 1)) + 1)) + 1)) t.1 t.2 w0 _ (pw_below_grown HB.out (some g) HB.out.size HG.out (fun k_ e_ => by obtain rfl := Option.some.inj e_; exact HGB.out)) (Kd.R_grown GE.out HG.out (fun k_ hk_ e_ => (HQ.out k_ hk_).2 (Option.some.inj e_))) H1.out).mono ?_
    rintro e w2 ⟨rfl, hy, hb2, hkp⟩
    have HY := am_ hy
    have HB2 := am_ hb2
    have HKP := am_ hkp
    clear hy hb2 hkp
    have HS := am_ (Kd.H_back (Kd.H_step HI2.out (fun k_ _ hn hlt_ => HKP.out.2 k_ hlt_ hn)) (x' := ⟨m, (wrap64 (m + 1)), (wrap64 ((wrap64 (m + 1)) + 1)), t.2⟩) (okp := oki) (k81_mkM w2 w0.heap.size oki ⟨m, (wrap64 (m + 1)), (wrap64 ((wrap64 (m + 1)) + 1)), t.2⟩ (Kd.R_reok rfl HY.out (fun k_ e_ => GE.out.1 k_ e_))) (fun _ h_ => h_))
    have HP2 := am_ (Kept.then_ (Kept.of_grown HG.out HP.out (fun k_ e_ => .inl (by obtain rfl := Option.some.inj e_; exact HPG.out))) HKP.out (fun k_ h_ => .inl (HQ.out k_ h_).1))
    clear HI HI2 HY HKP GE HP HB HO HQ HG HPG HGB
    go_wp2_with fail
    go_roundg k1
    case measure => have := HK.out; omega
    case rel => exact ⟨x.set i ⟨m, (wrap64 (m + 1)), (wrap64 ((wrap64 (m + 1)) + 1)), t.2⟩, t.1, i + 1, rfl, by go_num, by omega, ⟨by rw [List.length_set]; exact HL.out⟩, H2, ⟨by have := HK.out; omega⟩, HS, HP2, HB2⟩
   ·have hltz : ¬ (i : Int) < (l0.length : Int) := by omega
    have hil : i = l0.length := by omega
    subst hil
    rw [if_neg (by rw [HL.out]; omega)] at hA
    have H2 := am_ (Prod.mk.inj (Option.some.inj hA))
    clear hA
    go_wp2
    go_ret
    exact ⟨by rw [H2.out.1]; rfl, by rw [← H2.out.2]; exact HO.out, HB.out, HP.out⟩



/-! ### laws_markPart: function 16 -/
def laws_markPart.f (k : Nat) (l0_0 : List S81) (l0_1 : List S78) (a0_2 : Int) (a1 : Int) : Option (Int × List S81 × List S78) := (laws_markProducerS.f k l0_0 a1).bind fun t => (laws_markBatchS.f k l0_1 t.1).bind fun u => some (u.1, t.2, u.2)
theorem laws_markPart.mono : ∀ a0 a1 a2 a3 k, LeO (laws_markPart.f k a0 a1 a2 a3) (laws_markPart.f (k + 1) a0 a1 a2 a3) := fun _ _ _ _ k => LeO.bind (laws_markProducerS.mono _ _ k) (fun _ => LeO.bind (laws_markBatchS.mono _ _ k) (fun _ => LeO.refl _))
set_option maxHeartbeats 8000000 in
set_option maxRecDepth 100000 in
theorem laws_markPart.calls (k : Nat) (P0_ : Nat → Prop) (u : Value) (l0_0 : List S81) (P1_ : Nat → Prop) (v : Value) (l0_1 : List S78) (a0_2 : Int) (a1 : Int) (r1 : Int) (r2 : List S81) (r3 : List S78) (w0 w : World) (hB : Below w0.heap.size w0 w) (ho0 : Kd.S k81 81 w w0.heap.size P0_ u l0_0) (ho1 : Kd.S k78 78 w w0.heap.size P1_ v l0_1) (hap : ∀ k_, P0_ k_ → P1_ k_ → False) (h : laws_markPart.f k l0_0 l0_1 a0_2 a1 = some (r1, r2, r3)) :
  Calls Try.prog 16 #[.agg #[u, v, .int .i64 a0_2], .int .i64 a1] w fun e w' => e = .returned (.int .i64 r1) ∧ Kd.S k81 81 w' w0.heap.size P0_ u r2 ∧ Kd.S k78 78 w' w0.heap.size P1_ v r3 ∧ Below w0.heap.size w0 w' ∧ Kept w w' (fun k_ => P0_ k_ ∨ P1_ k_) := by
 obtain ⟨A, c, rfl, _, _⟩ := Kd.S_reads ho0
 obtain ⟨B, d, rfl, _, _⟩ := Kd.S_reads ho1
 obtain ⟨⟨t1, t2⟩, h1, h2⟩ := Option.bind_eq_some_iff.1 h
 obtain ⟨⟨u1, u2⟩, h3, h4⟩ := Option.bind_eq_some_iff.1 h2
 have hE := Option.some.inj h4
 have HL0 := (Kd.S_bound ho0)
 have HO := am_ (Kd.S_mono (ok' := fun k_ => P0_ k_ ∧ k_ < w.heap.size) HL0 (fun k_ hk => ⟨hk.1, hk.2.2.1⟩))
 have HO1 := am_ (Kd.S_mono (ok' := fun k_ => P1_ k_ ∧ k_ < w.heap.size) (Kd.S_bound ho1) (fun k_ hk => ⟨hk.1, hk.2.2.1⟩))
 have HB := am_ hB
 have H1 := am_ h1
 have H3 := am_ h3
 have HE := am_ hE
 have HA := am_ hap
 clear ho0 ho1 hB h h1 h2 h3 h4 hE hap HL0
 obtain ⟨gb, hgb⟩ : ∃ gb, gb = w.heap.size := ⟨_, rfl⟩
 have hbk : (w.alloc (.cells #[.slice A l0_0.length c, .slice B l0_1.length d, .int .i64 a0_2] 33)).heap[gb]? = some (.cells #[.slice A l0_0.length c, .slice B l0_1.length d, .int .i64 a0_2] 33 (0, 0)) := by rw [hgb, World.alloc]; exact Array.getElem?_push_size
 have HBK := am_ hbk
 have HGB := am_ hgb
 clear hbk hgb
 go_enter Try.func16, Try.ntmps16
 go_wp2_with fail
 refine (laws_markProducerS.calls k (fun k_ => P0_ k_ ∧ k_ < w.heap.size) _ l0_0 a1 t1 t2 w0 _ (below_alloc HB.out _) (Kd.S_alloc HO.out _) H1.out).mono ?_
 rintro e w2 ⟨rfl, ho, hb, hk⟩
 have HO1' := am_ (Kd.S_kept (Kd.S_alloc HO1.out (.cells #[.slice A l0_0.length c, .slice B l0_1.length d, .int .i64 a0_2] 33)) hk (fun k_ h1_ h2_ => HA.out k_ h2_.1 h1_.1))
 have hbk2 := blk_kept HBK.out hk (fun h_ => by have := h_.2; rw [HGB.out] at this; exact absurd this (Nat.lt_irrefl _))
 rw [HGB.out] at hbk2
 have hx0 : w2.cell? ⟨w.heap.size, 0, none⟩ = some (.slice A l0_0.length c) := (blk_cell hbk2 0).trans rfl
 have hx1 : w2.cell? ⟨w.heap.size, 1, none⟩ = some (.slice B l0_1.length d) := (blk_cell hbk2 1).trans rfl
 have HO2 := am_ ho
 have HB2 := am_ hb
 have HK2 := am_ (Kept.then_ ((Kept.refl w (fun k_ => P0_ k_ ∨ P1_ k_)).alloc _) hk (fun _ h_ => .inl (.inl h_.1)))
 clear ho hb hk HO HB HO1 hbk2
 go_wp2_with fail
 refine (laws_markBatchS.calls k (fun k_ => P1_ k_ ∧ k_ < w.heap.size) _ l0_1 t1 u1 u2 w0 _ HB2.out HO1'.out H3.out).mono ?_
 rintro e w3 ⟨rfl, ho, hb, hk⟩
 have HO3 := am_ (Kd.S_mono (Kd.S_kept HO2.out hk (fun k_ h1_ h2_ => HA.out k_ h1_.1 h2_.1)) (fun _ h_ => h_.1))
 have HO4 := am_ (Kd.S_mono ho (fun _ h_ => h_.1))
 have HB3 := am_ hb
 have HK3 := am_ (Kept.then_ HK2.out hk (fun _ h_ => .inl (.inr h_.1)))
 clear ho hb hk HO2 HO1' HB2 HK2
 go_wp2_with fail
 go_ret
 obtain ⟨e1, e2, e3⟩ : u1 = r1 ∧ t2 = r2 ∧ u2 = r3 := by have := HE.out; simpa using this
 subst e1 e2 e3
 exact ⟨rfl, HO3.out, HO4.out, HB3.out, HK3.out⟩



/-! ### laws_szStringS: function 61 -/
def laws_szStringS.l0 : Nat → List ByteArray → Int → Int → Option (Int)
 | 0, _, _, _ => none
 | k + 1, x0, x1, x5 => if x5 < (x0.length : Int) then (if 0 ≤ x5 then (if (wrap64 (x1 - ((rdOf ByteArray.empty x0 x5).size : Int))) < 0 then (some (-1)) else (laws_szStringS.l0 k x0 (wrap64 (x1 - ((rdOf ByteArray.empty x0 x5).size : Int))) (wrap64 (x5 + 1)))) else (none)) else (some x1)
def laws_szStringS.f (k : Nat) (l0 : List ByteArray) (a1 : Int) : Option (Int) := if (wrap64 (a1 - (l0.length : Int))) < 0 then (some (-1)) else (laws_szStringS.l0 k l0 (wrap64 (a1 - (l0.length : Int))) 0)
theorem laws_szStringS.mono_l : ∀ k, (∀ y0 y1 y2, LeO (laws_szStringS.l0 k y0 y1 y2) (laws_szStringS.l0 (k + 1) y0 y1 y2))
 | 0 => fun _ _ _ r h => by simp [laws_szStringS.l0] at h
 | k + 1 => by
  have ih0 := laws_szStringS.mono_l k
  ·intro y0 y1 y2
   unfold laws_szStringS.l0
   repeat' first
   | (with_reducible first | apply ih0 | exact LeO.refl _ | exact LeO.none _ | refine LeO.ite ?_ ?_ | refine LeO.bind ?_ (fun _ => ?_))
theorem laws_szStringS.mono : ∀ a0 a1 k, LeO (laws_szStringS.f k a0 a1) (laws_szStringS.f (k + 1) a0 a1) := by
 intro a0 a1 k
 have ih0 := laws_szStringS.mono_l k
 unfold laws_szStringS.f
 repeat' first
   | (with_reducible first | apply ih0 | exact LeO.refl _ | exact LeO.none _ | refine LeO.ite ?_ ?_ | refine LeO.bind ?_ (fun _ => ?_))
set_option maxHeartbeats 8000000 in
set_option maxRecDepth 100000 in
theorem laws_szStringS.calls (k : Nat) (A0 : Option Addr) (c0 : Nat) (l0 : List ByteArray) (a1 : Int) (r : Int) (w : World) (hr0 : Kd.C Kd.string w A0 l0.length l0) (hc0 : l0.length ≤ c0) (h : laws_szStringS.f k l0 a1 = some r) :
  Calls Try.prog 61 #[.slice A0 l0.length c0, .int .i64 a1] w fun e w' => e = .returned (.int .i64 r) ∧ Drawn0 w w' := by
 have HR0 := am_ hr0
 have HC0 := am_ hc0
 clear hr0 hc0
 have H : (if (wrap64 (a1 - (l0.length : Int))) < 0 then (some (-1)) else (laws_szStringS.l0 k l0 (wrap64 (a1 - (l0.length : Int))) 0)) = some r := h
 clear h
 replace H := ite_ H
 obtain ⟨c3, H⟩ | ⟨c3, H⟩ := H
 ·have c3b0 := decide_eq_true c3
  clear c3
  obtain rfl := Option.some.inj H
  go_enter Try.func61, Try.ntmps61
  go_wp2
  go_ret
  exact ⟨by first | rfl | (simp; done) | (simp [*]; done), dr_⟩
 have c3b0 := decide_eq_false c3
 clear c3
 have H' := am_ H
 clear H
 go_enter Try.func61, Try.ntmps61
 go_wp2
 go_loopg [1, 5] k (fun kq v1 v5 w' => ∃ (x1_1 : Int) (x5_1 : Int), v1 = .int .i64 x1_1 ∧ v5 = .int .i64 x5_1 ∧ Aside0 (laws_szStringS.l0 kq l0 x1_1 x5_1 = some r) ∧ Aside0 (kq ≤ k) ∧ Drawn0 w w')
 case atStart => exact ⟨(wrap64 (a1 - (l0.length : Int))), (0), sr_, sr_, H', ⟨Nat.le_refl _⟩, dr_⟩
 case round =>
  clear H'
  try clear c3
  try clear c3b0
  obtain ⟨x1_1, x5_1, rfl, rfl, HA, HK1, ⟨m1, rfl⟩⟩ := hrel
  cases gk with
  | zero => exact absurd HA.out (by simp [laws_szStringS.l0])
  | succ k1 =>
   have H := HA.out
   clear HA
   simp only [laws_szStringS.l0] at H
   replace H := ite_ H
   obtain ⟨c4, H⟩ | ⟨c4, H⟩ := H
   rotate_left
   ·have c4b0 := decide_eq_false c4
    clear c4
    obtain rfl := Option.some.inj H
    go_wp2
    go_ret
    exact ⟨by first | rfl | (simp; done) | (simp [*]; done), dr_⟩
   have c4b0 := decide_eq_true c4
   clear c4
   replace H := ifs_ H
   obtain ⟨c5, H⟩ := H
   have c5b0 := decide_eq_true c5
   clear c5
   replace H := ite_ H
   obtain ⟨c6, H⟩ | ⟨c6, H⟩ := H
   ·have c6b0 := decide_eq_true c6
    clear c6
    obtain rfl := Option.some.inj H
    have p132 : 0 ≤ (x5_1 : Int) := oa_
    have q132 : x5_1 < (l0.length : Int) := oa_
    obtain ⟨ad132, e132, hx132_0⟩ := Kd.at_string HR0.out x5_1 p132 q132
    cases e132
    replace p132 := eq_true p132
    replace q132 := eq_true q132
    go_wp2
    go_ret
    exact ⟨by first | rfl | (simp; done) | (simp [*]; done), dr_⟩
   have c6b0 := decide_eq_false c6
   clear c6
   have H' := am_ H
   clear H
   have p132 : 0 ≤ (x5_1 : Int) := oa_
   have q132 : x5_1 < (l0.length : Int) := oa_
   obtain ⟨ad132, e132, hx132_0⟩ := Kd.at_string HR0.out x5_1 p132 q132
   cases e132
   replace p132 := eq_true p132
   replace q132 := eq_true q132
   go_wp2
   go_roundg k1
   case measure => have := HK1.out; omega
   case rel => exact ⟨(wrap64 (x1_1 - ((rdOf ByteArray.empty l0 x5_1).size : Int))), (wrap64 (x5_1 + 1)), sr_, sr_, H', ⟨by have := HK1.out; omega⟩, dr_⟩

/-! ### laws_szAsk: function 29 -/
def laws_szAsk.f (k : Nat) (a0_0 : Int) (a0_1 : Int) (a0_2 : Int) (l0_3 : List ByteArray) (a1 : Int) : Option (Int) := (laws_szStringS.f k l0_3 a1).bind fun t134 => (if t134 < 0 then (some (-1)) else (some t134))
theorem laws_szAsk.mono : ∀ a0 a1 a2 a3 a4 k, LeO (laws_szAsk.f k a0 a1 a2 a3 a4) (laws_szAsk.f (k + 1) a0 a1 a2 a3 a4) := by
 intro a0 a1 a2 a3 a4 k
 unfold laws_szAsk.f
 repeat' first
   | (with_reducible first | apply laws_szStringS.mono | exact LeO.refl _ | exact LeO.none _ | refine LeO.ite ?_ ?_ | refine LeO.bind ?_ (fun _ => ?_))
set_option maxHeartbeats 8000000 in
set_option maxRecDepth 100000 in
theorem laws_szAsk.calls (k : Nat) (a0_0 : Int) (a0_1 : Int) (a0_2 : Int) (A0_3 : Option Addr) (c0_3 : Nat) (l0_3 : List ByteArray) (a1 : Int) (r : Int) (w : World) (hr0_3 : Kd.C Kd.string w A0_3 l0_3.length l0_3) (hc0_3 : l0_3.length ≤ c0_3) (h : laws_szAsk.f k a0_0 a0_1 a0_2 l0_3 a1 = some r) :
  Calls Try.prog 29 #[.agg #[.int .i64 a0_0, .int .i64 a0_1, .int .i64 a0_2, .slice A0_3 l0_3.length c0_3], .int .i64 a1] w fun e w' => e = .returned (.int .i64 r) ∧ Below w.heap.size w w' := by
 have hu53 := Try.underlying53
 have HR0_3 := am_ hr0_3
 have HC0_3 := am_ hc0_3
 clear hr0_3 hc0_3
 have HB := am_ (Below.refl w.heap.size w)
 have H : ((laws_szStringS.f k l0_3 a1).bind fun t134 => (if t134 < 0 then (some (-1)) else (some t134))) = some r := h
 clear h
 replace H := bnd_ H
 obtain ⟨t134, A3, H⟩ := H
 replace H := ite_ H
 obtain ⟨c4, H⟩ | ⟨c4, H⟩ := H
 ·have c4b0 := decide_eq_true c4
  clear c4
  obtain rfl := Option.some.inj H
  go_enter Try.func29, Try.ntmps29
  go_wp2_with (first | ((with_reducible refine gate_dst (N := 2) rfl ?_); refine bq_ (N := 2) #[.int .i64 a0_0, .int .i64 a0_1, .int .i64 a0_2, .slice A0_3 l0_3.length c0_3] 53 ?_; intro gb133 hg w5 BK133 hb; have GE133 := ge_ hg; replace HB := nb_ hb; clear hb hg; obtain ⟨hcz6_0, hcz6_1, hcz6_2, hcz6_3, hfz6_0, hfz6_1, hfz6_2, hfz6_3⟩ := cf4_ BK133.out) | ((with_reducible refine gate_callee (f := 61) rfl ?_); refine gl_ 8 Try.func61 #[.slice A0_3 l0_3.length c0_3, .int .i64 a1] rfl ma_ ?_; (with_reducible refine (laws_szStringS.calls k _ _ l0_3 a1 t134 _ ?side1 ?side2 A3.out).mono ?_); (case side1 => exact cs_ ((Kd.C_below HR0_3.out HB.out))); (case side2 => exact HC0_3.out); rintro e w' ⟨rfl, ⟨nd, rfl⟩⟩; refine ⟨_, rfl, ?_⟩))
  go_ret
  exact ⟨er_, hs_ GE133.out⟩
 have c4b0 := decide_eq_false c4
 clear c4
 obtain rfl := Option.some.inj H
 go_enter Try.func29, Try.ntmps29
 go_wp2_with (first | ((with_reducible refine gate_dst (N := 2) rfl ?_); refine bq_ (N := 2) #[.int .i64 a0_0, .int .i64 a0_1, .int .i64 a0_2, .slice A0_3 l0_3.length c0_3] 53 ?_; intro gb133 hg w7 BK133 hb; have GE133 := ge_ hg; replace HB := nb_ hb; clear hb hg; obtain ⟨hcz8_0, hcz8_1, hcz8_2, hcz8_3, hfz8_0, hfz8_1, hfz8_2, hfz8_3⟩ := cf4_ BK133.out) | ((with_reducible refine gate_callee (f := 61) rfl ?_); refine gl_ 8 Try.func61 #[.slice A0_3 l0_3.length c0_3, .int .i64 a1] rfl ma_ ?_; (with_reducible refine (laws_szStringS.calls k _ _ l0_3 a1 t134 _ ?side1 ?side2 A3.out).mono ?_); (case side1 => exact cs_ ((Kd.C_below HR0_3.out HB.out))); (case side2 => exact HC0_3.out); rintro e w' ⟨rfl, ⟨nd, rfl⟩⟩; refine ⟨_, rfl, ?_⟩))
 go_ret
 exact ⟨er_, hs_ GE133.out⟩

/-! ### laws_szAskS: function 19 -/
def laws_szAskS.l0 : Nat → List (S53) → Int → Int → Option (Int)
 | 0, _, _, _ => none
 | k + 1, x0, x1, x5 => if x5 < (x0.length : Int) then (if 0 ≤ x5 then ((laws_szAsk.f k ((rd_T53 x0 x5).f0) ((rd_T53 x0 x5).f1) ((rd_T53 x0 x5).f2) ((rd_T53 x0 x5).f3) x1).bind fun t136 => (if t136 < 0 then (some (-1)) else (laws_szAskS.l0 k x0 t136 (wrap64 (x5 + 1))))) else (none)) else (some x1)
def laws_szAskS.f (k : Nat) (l0 : List (S53)) (a1 : Int) : Option (Int) := if (wrap64 (a1 - (l0.length : Int))) < 0 then (some (-1)) else (laws_szAskS.l0 k l0 (wrap64 (a1 - (l0.length : Int))) 0)
theorem laws_szAskS.mono_l : ∀ k, (∀ y0 y1 y2, LeO (laws_szAskS.l0 k y0 y1 y2) (laws_szAskS.l0 (k + 1) y0 y1 y2))
 | 0 => fun _ _ _ r h => by simp [laws_szAskS.l0] at h
 | k + 1 => by
  have ih0 := laws_szAskS.mono_l k
  ·intro y0 y1 y2
   unfold laws_szAskS.l0
   repeat' first
   | (with_reducible first | apply ih0 | apply laws_szAsk.mono | exact LeO.refl _ | exact LeO.none _ | refine LeO.ite ?_ ?_ | refine LeO.bind ?_ (fun _ => ?_))
theorem laws_szAskS.mono : ∀ a0 a1 k, LeO (laws_szAskS.f k a0 a1) (laws_szAskS.f (k + 1) a0 a1) := by
 intro a0 a1 k
 have ih0 := laws_szAskS.mono_l k
 unfold laws_szAskS.f
 repeat' first
   | (with_reducible first | apply ih0 | apply laws_szAsk.mono | exact LeO.refl _ | exact LeO.none _ | refine LeO.ite ?_ ?_ | refine LeO.bind ?_ (fun _ => ?_))
set_option maxHeartbeats 8000000 in
set_option maxRecDepth 100000 in
theorem laws_szAskS.calls (k : Nat) (A0 : Option Addr) (c0 : Nat) (l0 : List (S53)) (a1 : Int) (r : Int) (w : World) (hr0 : Kd.C k53 w A0 l0.length l0) (hc0 : l0.length ≤ c0) (h : laws_szAskS.f k l0 a1 = some r) :
  Calls Try.prog 19 #[.slice A0 l0.length c0, .int .i64 a1] w fun e w' => e = .returned (.int .i64 r) ∧ Below w.heap.size w w' := by
 have hu53 := Try.underlying53
 have HR0 := am_ hr0
 have HC0 := am_ hc0
 clear hr0 hc0
 have HB := am_ (Below.refl w.heap.size w)
 have H : (if (wrap64 (a1 - (l0.length : Int))) < 0 then (some (-1)) else (laws_szAskS.l0 k l0 (wrap64 (a1 - (l0.length : Int))) 0)) = some r := h
 clear h
 replace H := ite_ H
 obtain ⟨c3, H⟩ | ⟨c3, H⟩ := H
 ·have c3b0 := decide_eq_true c3
  clear c3
  obtain rfl := Option.some.inj H
  go_enter Try.func19, Try.ntmps19
  go_wp2
  go_ret
  exact ⟨er_, hb_⟩
 have c3b0 := decide_eq_false c3
 clear c3
 have H' := am_ H
 clear H
 go_enter Try.func19, Try.ntmps19
 go_wp2
 go_loopg [1, 5] k (fun kq v1 v5 w' => ∃ (x1_1 : Int) (x5_1 : Int), v1 = .int .i64 x1_1 ∧ v5 = .int .i64 x5_1 ∧ Aside0 (laws_szAskS.l0 kq l0 x1_1 x5_1 = some r) ∧ Aside0 (kq ≤ k) ∧ Aside0 (Below w.heap.size w w'))
 case atStart => exact ⟨(wrap64 (a1 - (l0.length : Int))), (0), sr_, sr_, H', ⟨Nat.le_refl _⟩, ⟨hb_⟩⟩
 case round =>
  clear H'
  try clear c3
  try clear c3b0
  obtain ⟨x1_1, x5_1, rfl, rfl, HA, HK1, HB⟩ := hrel
  cases gk with
  | zero => exact absurd HA.out (by simp [laws_szAskS.l0])
  | succ k1 =>
   have H := HA.out
   clear HA
   simp only [laws_szAskS.l0] at H
   replace H := ite_ H
   obtain ⟨c4, H⟩ | ⟨c4, H⟩ := H
   rotate_left
   ·have c4b0 := decide_eq_false c4
    clear c4
    obtain rfl := Option.some.inj H
    go_wp2
    go_ret
    exact ⟨er_, hb_⟩
   have c4b0 := decide_eq_true c4
   clear c4
   replace H := ifs_ H
   obtain ⟨c5, H⟩ := H
   have c5b0 := decide_eq_true c5
   clear c5
   replace H := bnd_ H
   obtain ⟨t136, A6, H⟩ := H
   replace H := ite_ H
   obtain ⟨c7, H⟩ | ⟨c7, H⟩ := H
   ·have c7b0 := decide_eq_true c7
    clear c7
    obtain rfl := Option.some.inj H
    have p135 : 0 ≤ (x5_1 : Int) := oa_
    have q135 : x5_1 < (l0.length : Int) := oa_
    obtain ⟨ad135, A135_3, c135_3, e135, hx135_0, hx135_1, hx135_2, hx135_3, hl135_3, hi135_3⟩ := at_T53 HR0.out x5_1 p135 q135
    cases e135
    replace hx135_0 := pc_ HB.out hx135_0
    replace hx135_1 := pc_ HB.out hx135_1
    replace hx135_2 := pc_ HB.out hx135_2
    replace hx135_3 := pc_ HB.out hx135_3
    have HR135_3 := am_ hi135_3
    have HC135_3 := am_ hl135_3
    clear hi135_3 hl135_3
    replace p135 := eq_true p135
    replace q135 := eq_true q135
    go_wp2_with (first | ((with_reducible refine gate_callee (f := 29) rfl ?_); refine gl_ 23 Try.func29 #[.agg #[.int .i64 ((rd_T53 l0 x5_1).f0), .int .i64 ((rd_T53 l0 x5_1).f1), .int .i64 ((rd_T53 l0 x5_1).f2), .slice A135_3 ((rd_T53 l0 x5_1).f3).length c135_3], .int .i64 x1_1] rfl ma_ ?_; (with_reducible refine (laws_szAsk.calls k1 ((rd_T53 l0 x5_1).f0) ((rd_T53 l0 x5_1).f1) ((rd_T53 l0 x5_1).f2) _ _ ((rd_T53 l0 x5_1).f3) x1_1 t136 _ ?side1 ?side2 A6.out).mono ?_); (case side1 => exact cs_ ((Kd.C_below HR135_3.out HB.out))); (case side2 => exact HC135_3.out); rintro e w8 ⟨rfl, hb⟩; refine ⟨_, rfl, ?_⟩; replace HB := nb_ hb; (try clear hb); (try clear hb2); (try clear hk); (try clear hi)))
    go_ret
    exact ⟨er_, hb_⟩
   have c7b0 := decide_eq_false c7
   clear c7
   have H' := am_ H
   clear H
   have p135 : 0 ≤ (x5_1 : Int) := oa_
   have q135 : x5_1 < (l0.length : Int) := oa_
   obtain ⟨ad135, A135_3, c135_3, e135, hx135_0, hx135_1, hx135_2, hx135_3, hl135_3, hi135_3⟩ := at_T53 HR0.out x5_1 p135 q135
   cases e135
   replace hx135_0 := pc_ HB.out hx135_0
   replace hx135_1 := pc_ HB.out hx135_1
   replace hx135_2 := pc_ HB.out hx135_2
   replace hx135_3 := pc_ HB.out hx135_3
   have HR135_3 := am_ hi135_3
   have HC135_3 := am_ hl135_3
   clear hi135_3 hl135_3
   replace p135 := eq_true p135
   replace q135 := eq_true q135
   go_wp2_with (first | ((with_reducible refine gate_callee (f := 29) rfl ?_); refine gl_ 23 Try.func29 #[.agg #[.int .i64 ((rd_T53 l0 x5_1).f0), .int .i64 ((rd_T53 l0 x5_1).f1), .int .i64 ((rd_T53 l0 x5_1).f2), .slice A135_3 ((rd_T53 l0 x5_1).f3).length c135_3], .int .i64 x1_1] rfl ma_ ?_; (with_reducible refine (laws_szAsk.calls k1 ((rd_T53 l0 x5_1).f0) ((rd_T53 l0 x5_1).f1) ((rd_T53 l0 x5_1).f2) _ _ ((rd_T53 l0 x5_1).f3) x1_1 t136 _ ?side1 ?side2 A6.out).mono ?_); (case side1 => exact cs_ ((Kd.C_below HR135_3.out HB.out))); (case side2 => exact HC135_3.out); rintro e w9 ⟨rfl, hb⟩; refine ⟨_, rfl, ?_⟩; replace HB := nb_ hb; (try clear hb); (try clear hb2); (try clear hk); (try clear hi)))
   go_roundg k1
   case measure => have := HK1.out; omega
   case rel => exact ⟨(t136), (wrap64 (x5_1 + 1)), sr_, sr_, H', ⟨by have := HK1.out; omega⟩, ⟨hb_⟩⟩

/-! ### spec_l1In: function 82 -/
def spec_l1In.f (a0 : Int) (a1 : Int) (a2 : Int) : Option (Bool) := if a0 ≥ a1 then (some (decide (a0 ≤ a2))) else (some false)
set_option maxHeartbeats 8000000 in
set_option maxRecDepth 100000 in
theorem spec_l1In.calls (a0 : Int) (a1 : Int) (a2 : Int) (r : Bool) (w : World) (h : spec_l1In.f a0 a1 a2 = some r) :
  Calls Try.prog 82 #[.int .i64 a0, .int .i64 a1, .int .i64 a2] w fun e w' => e = .returned (.bool r) ∧ Drawn0 w w' := by
 have H : (if a0 ≥ a1 then (some (decide (a0 ≤ a2))) else (some false)) = some r := h
 clear h
 replace H := ite_ H
 obtain ⟨c4, H⟩ | ⟨c4, H⟩ := H
 rotate_left
 ·have c4b0 := dne_ c4
  clear c4
  obtain rfl := Option.some.inj H
  go_enter Try.func82, Try.ntmps82
  go_wp2
  go_ret
  exact ⟨by first | rfl | (simp; done) | (simp [*]; done), dr_⟩
 have c4b0 := dge_ c4
 clear c4
 obtain rfl := Option.some.inj H
 go_enter Try.func82, Try.ntmps82
 go_wp2
 go_ret
 exact ⟨by first | rfl | (simp; done) | (simp [*]; done), dr_⟩

/-! ### spec_GoodBatch: function 55 -/
def spec_GoodBatch.l0 : Nat → List ByteArray → Int → Int → Int → Int → Int → Int → List ByteArray → Option (Bool)
 | 0, _, _, _, _, _, _, _, _ => none
 | k + 1, x6, x7, x8, x138000, x138001, x138002, x138003, x138004 => if x8 < x7 then (if 0 ≤ x8 then (if x8 < (x6.length : Int) then (if ((rdOf ByteArray.empty x6 x8).size : Int) > 20 then (some false) else (spec_GoodBatch.l0 k x6 x7 (wrap64 (x8 + 1)) x138000 x138001 x138002 x138003 x138004)) else (none)) else (none)) else ((spec_l1In.f x138000 0 100000).bind fun t139 => (if t139 = true then ((spec_l1In.f x138001 0 1000).bind fun t140 => (if t140 = true then ((spec_l1In.f x138002 0 65535).bind fun t141 => (if t141 = true then ((spec_l1In.f x138003 0 65535).bind fun t142 => (if t142 = true then ((spec_l1In.f (x138004.length : Int) 1 8).bind fun t143 => (some t143)) else (some false))) else (some false))) else (some false))) else (some false)))
def spec_GoodBatch.f (k : Nat) (a0_0 : Int) (a0_1 : Int) (a0_2 : Int) (a0_3 : Int) (l0_4 : List ByteArray) : Option (Bool) := spec_GoodBatch.l0 k l0_4 (l0_4.length : Int) 0 a0_0 a0_1 a0_2 a0_3 l0_4
theorem spec_GoodBatch.mono_l : ∀ k, (∀ y0 y1 y2 y3 y4 y5 y6 y7, LeO (spec_GoodBatch.l0 k y0 y1 y2 y3 y4 y5 y6 y7) (spec_GoodBatch.l0 (k + 1) y0 y1 y2 y3 y4 y5 y6 y7))
 | 0 => fun _ _ _ _ _ _ _ _ r h => by simp [spec_GoodBatch.l0] at h
 | k + 1 => by
  have ih0 := spec_GoodBatch.mono_l k
  ·intro y0 y1 y2 y3 y4 y5 y6 y7
   unfold spec_GoodBatch.l0
   repeat' first
   | (with_reducible first | apply ih0 | exact LeO.refl _ | exact LeO.none _ | refine LeO.ite ?_ ?_ | refine LeO.bind ?_ (fun _ => ?_))
theorem spec_GoodBatch.mono : ∀ a0 a1 a2 a3 a4 k, LeO (spec_GoodBatch.f k a0 a1 a2 a3 a4) (spec_GoodBatch.f (k + 1) a0 a1 a2 a3 a4) := by
 intro a0 a1 a2 a3 a4 k
 have ih0 := spec_GoodBatch.mono_l k
 unfold spec_GoodBatch.f
 repeat' first
   | (with_reducible first | apply ih0 | exact LeO.refl _ | exact LeO.none _ | refine LeO.ite ?_ ?_ | refine LeO.bind ?_ (fun _ => ?_))
set_option maxHeartbeats 8000000 in
set_option maxRecDepth 100000 in
theorem spec_GoodBatch.calls (k : Nat) (a0_0 : Int) (a0_1 : Int) (a0_2 : Int) (a0_3 : Int) (A0_4 : Option Addr) (c0_4 : Nat) (l0_4 : List ByteArray) (r : Bool) (w : World) (hr0_4 : Kd.C Kd.string w A0_4 l0_4.length l0_4) (hc0_4 : l0_4.length ≤ c0_4) (h : spec_GoodBatch.f k a0_0 a0_1 a0_2 a0_3 l0_4 = some r) :
  Calls Try.prog 55 #[.agg #[.int .i64 a0_0, .int .i64 a0_1, .int .i64 a0_2, .int .i64 a0_3, .slice A0_4 l0_4.length c0_4]] w fun e w' => e = .returned (.bool r) ∧ Below w.heap.size w w' := by
 have hu78 := Try.underlying78
 have HR0_4 := am_ hr0_4
 have HC0_4 := am_ hc0_4
 clear hr0_4 hc0_4
 have HB := am_ (Below.refl w.heap.size w)
 have H : (spec_GoodBatch.l0 k l0_4 (l0_4.length : Int) 0 a0_0 a0_1 a0_2 a0_3 l0_4) = some r := h
 clear h
 have H' := am_ H
 clear H
 go_enter Try.func55, Try.ntmps55
 go_wp2_with (first | ((with_reducible refine gate_dst (N := 1) rfl ?_); (try (refine gate_guard (by rfl) ?_; dsimp only)); refine bq_ (N := 1) #[.int .i64 a0_0, .int .i64 a0_1, .int .i64 a0_2, .int .i64 a0_3, .slice A0_4 l0_4.length c0_4] 78 ?_; intro gb137 hg w2 BK137 hb; have GE137 := ge_ hg; replace HB := nb_ hb; clear hb hg; obtain ⟨hcz3_0, hcz3_1, hcz3_2, hcz3_3, hcz3_4, hfz3_0, hfz3_1, hfz3_2, hfz3_3, hfz3_4⟩ := cf5_ BK137.out))
 go_loopg [8] k (fun kq v8 w' => ∃ (x8_1 : Int), v8 = .int .i64 x8_1 ∧ Aside0 (spec_GoodBatch.l0 kq l0_4 (l0_4.length : Int) x8_1 a0_0 a0_1 a0_2 a0_3 l0_4 = some r) ∧ Aside0 (kq ≤ k) ∧ Aside0 (w'.heap[gb137]? = some (.cells #[.int .i64 a0_0, .int .i64 a0_1, .int .i64 a0_2, .int .i64 a0_3, (.slice A0_4 l0_4.length c0_4)] 78 (0, 0))) ∧ Aside0 (Below w.heap.size w w'))
 case atStart => exact ⟨(0), sr_, H', ⟨Nat.le_refl _⟩, ⟨kb_ BK137.out⟩, ⟨hs_ GE137.out⟩⟩
 case round =>
  clear H'
  try clear hcz3_0
  try clear hcz3_1
  try clear hcz3_2
  try clear hcz3_3
  try clear hcz3_4
  try clear hfz3_0
  try clear hfz3_1
  try clear hfz3_2
  try clear hfz3_3
  try clear hfz3_4
  obtain ⟨x8_1, rfl, HA, HK1, BK137, HB⟩ := hrel
  cases gk with
  | zero => exact absurd HA.out (by simp [spec_GoodBatch.l0])
  | succ k1 =>
   have H := HA.out
   clear HA
   simp only [spec_GoodBatch.l0] at H
   replace H := ite_ H
   obtain ⟨c4, H⟩ | ⟨c4, H⟩ := H
   ·have c4b0 := decide_eq_true c4
    clear c4
    replace H := ifs_ H
    obtain ⟨c5, H⟩ := H
    have c5b0 := decide_eq_true c5
    clear c5
    replace H := ifs_ H
    obtain ⟨c6, H⟩ := H
    have c6b0 := decide_eq_true c6
    clear c6
    replace H := ite_ H
    obtain ⟨c7, H⟩ | ⟨c7, H⟩ := H
    ·have c7b0 := dgt_ c7
     have c7b1 : decide (20 < (rdOf ByteArray.empty l0_4 x8_1).size) = true := decide_eq_true (by omega)
     clear c7
     obtain rfl := Option.some.inj H
     have p138 : 0 ≤ (x8_1 : Int) := oa_
     have q138 : x8_1 < (l0_4.length : Int) := oa_
     obtain ⟨ad138, e138, hx138_0⟩ := Kd.at_string HR0_4.out x8_1 p138 q138
     cases e138
     replace hx138_0 := pc_ HB.out hx138_0
     replace p138 := eq_true p138
     replace q138 := eq_true q138
     go_wp2
     go_ret
     exact ⟨er_, hs_ GE137.out⟩
    have c7b0 := dgf_ c7
    have c7b1 : decide (20 < (rdOf ByteArray.empty l0_4 x8_1).size) = false := decide_eq_false (by omega)
    clear c7
    have H' := am_ H
    clear H
    have p138 : 0 ≤ (x8_1 : Int) := oa_
    have q138 : x8_1 < (l0_4.length : Int) := oa_
    obtain ⟨ad138, e138, hx138_0⟩ := Kd.at_string HR0_4.out x8_1 p138 q138
    cases e138
    replace hx138_0 := pc_ HB.out hx138_0
    replace p138 := eq_true p138
    replace q138 := eq_true q138
    go_wp2
    go_roundg k1
    case measure => have := HK1.out; omega
    case rel => exact ⟨(wrap64 (x8_1 + 1)), sr_, H', ⟨by have := HK1.out; omega⟩, ⟨kb_ BK137.out⟩, ⟨hs_ GE137.out⟩⟩
   have c4b0 := decide_eq_false c4
   clear c4
   replace H := bnd_ H
   obtain ⟨t139, A8, H⟩ := H
   replace H := ifb_ H
   obtain ⟨rfl, H⟩ | ⟨rfl, H⟩ := H
   rotate_left
   ·obtain rfl := Option.some.inj H
    obtain ⟨hcz21_0, hcz21_1, hcz21_2, hcz21_3, hcz21_4, hfz21_0, hfz21_1, hfz21_2, hfz21_3, hfz21_4⟩ := cf5_ BK137.out
    go_wp2_with (first | ((with_reducible refine gate_callee (f := 82) rfl ?_); refine gl_ 18 Try.func82 #[.int .i64 a0_0, .int .i64 0, .int .i64 100000] rfl ma_ ?_; (with_reducible refine (spec_l1In.calls a0_0 0 100000 false _ A8.out).mono ?_); rintro e w' ⟨rfl, ⟨nd, rfl⟩⟩; refine ⟨_, rfl, ?_⟩))
    go_ret
    exact ⟨er_, hs_ GE137.out⟩
   replace H := bnd_ H
   obtain ⟨t140, A10, H⟩ := H
   replace H := ifb_ H
   obtain ⟨rfl, H⟩ | ⟨rfl, H⟩ := H
   rotate_left
   ·obtain rfl := Option.some.inj H
    obtain ⟨hcz20_0, hcz20_1, hcz20_2, hcz20_3, hcz20_4, hfz20_0, hfz20_1, hfz20_2, hfz20_3, hfz20_4⟩ := cf5_ BK137.out
    go_wp2_with (first | ((with_reducible refine gate_callee (f := 82) rfl ?_); refine gl_ 18 Try.func82 #[.int .i64 a0_0, .int .i64 0, .int .i64 100000] rfl ma_ ?_; (with_reducible refine (spec_l1In.calls a0_0 0 100000 true _ A8.out).mono ?_); rintro e w' ⟨rfl, ⟨nd, rfl⟩⟩; refine ⟨_, rfl, ?_⟩) | (go_at_call 82; (with_reducible refine (spec_l1In.calls a0_1 0 1000 false _ A10.out).mono ?_); rintro e w' ⟨rfl, ⟨nd, rfl⟩⟩))
    go_ret
    exact ⟨er_, hs_ GE137.out⟩
   replace H := bnd_ H
   obtain ⟨t141, A12, H⟩ := H
   replace H := ifb_ H
   obtain ⟨rfl, H⟩ | ⟨rfl, H⟩ := H
   rotate_left
   ·obtain rfl := Option.some.inj H
    obtain ⟨hcz19_0, hcz19_1, hcz19_2, hcz19_3, hcz19_4, hfz19_0, hfz19_1, hfz19_2, hfz19_3, hfz19_4⟩ := cf5_ BK137.out
    go_wp2_with (first | ((with_reducible refine gate_callee (f := 82) rfl ?_); refine gl_ 18 Try.func82 #[.int .i64 a0_0, .int .i64 0, .int .i64 100000] rfl ma_ ?_; (with_reducible refine (spec_l1In.calls a0_0 0 100000 true _ A8.out).mono ?_); rintro e w' ⟨rfl, ⟨nd, rfl⟩⟩; refine ⟨_, rfl, ?_⟩) | (go_at_call 82; (with_reducible refine (spec_l1In.calls a0_1 0 1000 true _ A10.out).mono ?_); rintro e w' ⟨rfl, ⟨nd, rfl⟩⟩) | (go_at_call 82; (with_reducible refine (spec_l1In.calls a0_2 0 65535 false _ A12.out).mono ?_); rintro e w' ⟨rfl, ⟨nd, rfl⟩⟩))
    go_ret
    exact ⟨er_, hs_ GE137.out⟩
   replace H := bnd_ H
   obtain ⟨t142, A14, H⟩ := H
   replace H := ifb_ H
   obtain ⟨rfl, H⟩ | ⟨rfl, H⟩ := H
   rotate_left
   ·obtain rfl := Option.some.inj H
    obtain ⟨hcz18_0, hcz18_1, hcz18_2, hcz18_3, hcz18_4, hfz18_0, hfz18_1, hfz18_2, hfz18_3, hfz18_4⟩ := cf5_ BK137.out
    go_wp2_with (first | ((with_reducible refine gate_callee (f := 82) rfl ?_); refine gl_ 18 Try.func82 #[.int .i64 a0_0, .int .i64 0, .int .i64 100000] rfl ma_ ?_; (with_reducible refine (spec_l1In.calls a0_0 0 100000 true _ A8.out).mono ?_); rintro e w' ⟨rfl, ⟨nd, rfl⟩⟩; refine ⟨_, rfl, ?_⟩) | (go_at_call 82; (with_reducible refine (spec_l1In.calls a0_1 0 1000 true _ A10.out).mono ?_); rintro e w' ⟨rfl, ⟨nd, rfl⟩⟩) | (go_at_call 82; (with_reducible refine (spec_l1In.calls a0_2 0 65535 true _ A12.out).mono ?_); rintro e w' ⟨rfl, ⟨nd, rfl⟩⟩) | (go_at_call 82; (with_reducible refine (spec_l1In.calls a0_3 0 65535 false _ A14.out).mono ?_); rintro e w' ⟨rfl, ⟨nd, rfl⟩⟩))
    go_ret
    exact ⟨er_, hs_ GE137.out⟩
   replace H := bnd_ H
   obtain ⟨t143, A16, H⟩ := H
   obtain rfl := Option.some.inj H
   obtain ⟨hcz17_0, hcz17_1, hcz17_2, hcz17_3, hcz17_4, hfz17_0, hfz17_1, hfz17_2, hfz17_3, hfz17_4⟩ := cf5_ BK137.out
   go_wp2_with (first | ((with_reducible refine gate_callee (f := 82) rfl ?_); refine gl_ 18 Try.func82 #[.int .i64 a0_0, .int .i64 0, .int .i64 100000] rfl ma_ ?_; (with_reducible refine (spec_l1In.calls a0_0 0 100000 true _ A8.out).mono ?_); rintro e w' ⟨rfl, ⟨nd, rfl⟩⟩; refine ⟨_, rfl, ?_⟩) | (go_at_call 82; (with_reducible refine (spec_l1In.calls a0_1 0 1000 true _ A10.out).mono ?_); rintro e w' ⟨rfl, ⟨nd, rfl⟩⟩) | (go_at_call 82; (with_reducible refine (spec_l1In.calls a0_2 0 65535 true _ A12.out).mono ?_); rintro e w' ⟨rfl, ⟨nd, rfl⟩⟩) | (go_at_call 82; (with_reducible refine (spec_l1In.calls a0_3 0 65535 true _ A14.out).mono ?_); rintro e w' ⟨rfl, ⟨nd, rfl⟩⟩) | (go_at_call 82; (with_reducible refine (spec_l1In.calls (l0_4.length : Int) 1 8 t143 _ A16.out).mono ?_); rintro e w' ⟨rfl, ⟨nd, rfl⟩⟩))
   go_ret
   exact ⟨er_, hs_ GE137.out⟩
/-! ### spec_l5Batch: function 56 -/
def spec_l5Batch.f (a0_0 : Int) (a0_1 : Int) (a0_2 : Int) (a0_3 : Int) (l0_4 : List ByteArray) (a1_0 : Int) (a1_1 : Int) (a1_2 : Int) (l1_3 : List ByteArray) : Option (Int × Int × Int × Int × List ByteArray) := (some (([] : List ByteArray) : List ByteArray)).bind fun y147 => (if y147.length + l1_3.length < 8796093022208 then (some (a0_0, a1_1, a1_0, a1_2, (y147 ++ l1_3))) else (none))
set_option maxHeartbeats 8000000 in
set_option maxRecDepth 100000 in
theorem spec_l5Batch.calls (a0_0 : Int) (a0_1 : Int) (a0_2 : Int) (a0_3 : Int) (A0_4 : Option Addr) (c0_4 : Nat) (l0_4 : List ByteArray) (a1_0 : Int) (a1_1 : Int) (a1_2 : Int) (A1_3 : Option Addr) (c1_3 : Nat) (l1_3 : List ByteArray) (r1 : Int) (r2 : Int) (r3 : Int) (r4 : Int) (r5 : List ByteArray) (w : World) (hr0_4 : Kd.C Kd.string w A0_4 l0_4.length l0_4) (hc0_4 : l0_4.length ≤ c0_4) (hr1_3 : Kd.C Kd.string w A1_3 l1_3.length l1_3) (hc1_3 : l1_3.length ≤ c1_3) (h : spec_l5Batch.f a0_0 a0_1 a0_2 a0_3 l0_4 a1_0 a1_1 a1_2 l1_3 = some (r1, r2, r3, r4, r5)) :
  Calls Try.prog 56 #[.agg #[.int .i64 a0_0, .int .i64 a0_1, .int .i64 a0_2, .int .i64 a0_3, .slice A0_4 l0_4.length c0_4], .agg #[.int .i64 a1_0, .int .i64 a1_1, .int .i64 a1_2, .slice A1_3 l1_3.length c1_3]] w fun e w' => ∃ v4_ : Value, e = .returned (.agg #[.int .i64 r1, .int .i64 r2, .int .i64 r3, .int .i64 r4, v4_]) ∧ Kd.R Kd.string 9 w' w.heap.size (fun _ => True) v4_ r5 ∧ Below w.heap.size w w' := by
 have hu78 := Try.underlying78
 have hu57 := Try.underlying57
 have HR0_4 := am_ hr0_4
 have HC0_4 := am_ hc0_4
 clear hr0_4 hc0_4
 have HR1_3 := am_ hr1_3
 have HC1_3 := am_ hc1_3
 clear hr1_3 hc1_3
 have HB := am_ (Below.refl w.heap.size w)
 have H : ((some (([] : List ByteArray) : List ByteArray)).bind fun y147 => (if y147.length + l1_3.length < 8796093022208 then (some (a0_0, a1_1, a1_0, a1_2, (y147 ++ l1_3))) else (none))) = some (r1, r2, r3, r4, r5) := h
 clear h
 obtain ⟨y147, hy147⟩ : ∃ y_ : List ByteArray, y_ = (([] : List ByteArray)) := ⟨_, rfl⟩
 replace H : (if y147.length + l1_3.length < 8796093022208 then (some (a0_0, a1_1, a1_0, a1_2, (y147 ++ l1_3))) else (none)) = some (r1, r2, r3, r4, r5) := by first | (rw [hy147]; with_reducible exact H) | (have H2_ := (Option.bind_some _ _).symm.trans H; rw [hy147]; with_reducible exact H2_) | (have H2_ := (Option.bind_some _ _).symm.trans H; with_reducible exact H2_) | with_reducible exact H | (rw [hy147]; exact H) | exact H
 have Ny147 := am_ hy147
 clear hy147
 replace H := ifs_ H
 obtain ⟨c3, H⟩ := H
 have LMc3 := am_ c3
 clear c3
 obtain ⟨y150, hy150⟩ : ∃ y_ : List ByteArray, y_ = (y147 ++ l1_3) := ⟨_, rfl⟩
 replace H : (some (a0_0, a1_1, a1_0, a1_2, y150)) = some (r1, r2, r3, r4, r5) := by first | (rw [hy150]; with_reducible exact H) | (have H2_ := (Option.bind_some _ _).symm.trans H; rw [hy150]; with_reducible exact H2_) | (have H2_ := (Option.bind_some _ _).symm.trans H; with_reducible exact H2_) | with_reducible exact H | (rw [hy150]; exact H) | exact H
 have Ny150 := am_ hy150
 clear hy150
 simp only [Option.some.injEq, Prod.mk.injEq] at H
 obtain ⟨rfl, rfl, rfl, rfl, rfl⟩ := H
 go_enter Try.func56, Try.ntmps56
 go_wp2_with (first | ((with_reducible refine gate_dst (N := 2) rfl ?_); refine bq_ (N := 2) #[.int .i64 a0_0, .int .i64 a0_1, .int .i64 a0_2, .int .i64 a0_3, .slice A0_4 l0_4.length c0_4] 78 ?_; intro gb144 hg w4 BK144 hb; have GE144 := ge_ hg; replace HB := nb_ hb; clear hb hg) | ((with_reducible refine gate_dst (N := 3) rfl ?_); refine bq_ (N := 3) #[.int .i64 a1_0, .int .i64 a1_1, .int .i64 a1_2, .slice A1_3 l1_3.length c1_3] 57 ?_; intro gb145 hg w5 BK145 hb; have GE145 := ge1_ hg GE144; replace HB := nc_ GE144 hb; have NB144_145 := nl_ BK144 hg; have NB145_144 := ng_ BK144 hg; replace BK144 := bK_ BK144 hb; clear hb hg) | ((with_reducible refine gate_dst (N := 4) rfl ?_); refine bq_ (N := 4) #[.int .i64 0, .int .i64 0, .int .i64 0, .int .i64 0, .slice none 0 0] 78 ?_; intro gb146 hg w6 BK146 hb; have GE146 := ge2_ hg GE144 GE145; replace HB := nc2_ GE144 GE145 hb; have NB144_146 := nl_ BK144 hg; have NB146_144 := ng_ BK144 hg; replace BK144 := bK_ BK144 hb; have NB145_146 := nl_ BK145 hg; have NB146_145 := ng_ BK145 hg; replace BK145 := bK_ BK145 hb; clear hb hg; have hnb7 := NB145_144.out; have hnc7 := NB144_145.out; have hnb8 := NB145_146.out; have hnc8 := NB146_145.out; obtain ⟨hcz9_0, hcz9_1, hcz9_2, hcz9_3, hfz9_0, hfz9_1, hfz9_2, hfz9_3⟩ := cf4_ BK145.out; have hnb10 := NB144_146.out; have hnc10 := NB146_144.out; obtain ⟨hcz11_0, hcz11_1, hcz11_2, hcz11_3, hcz11_4, hfz11_0, hfz11_1, hfz11_2, hfz11_3, hfz11_4⟩ := cf5_ BK144.out) | ((with_reducible refine gate_dst (N := 14) rfl ?_); refine Kd.R_lit Kd.string _ 9 ?hg (N := 14) ?hd (xs := ([] : List ByteArray)) (inner := []) (ok := fun _ => True) (okp := fun _ => True) ?hr ?hp (fun _ hk => hk) trivial (Below.refl _ _) (Nat.le_refl _) (by simp) ?_; (case hd => rfl); (case hg => rfl); (case hr => first | (go_simp; done) | (go_simp; rfl)); (case hp => exact (Reps.none _ _)); intro v148 w12 ho13 hb hg_ hnew_; clear hg_ hnew_; (first | rw [← Ny147.out] at ho13 | (simp only [Int.reduceToNat] at ho13; rw [← Ny147.out] at ho13)); have HO149 := am_ (Kd.R_lower ho13 (below_size (hs3_ GE144.out GE145.out GE146.out))); replace BK144 := am_ (blk_below (g := gb144) (o := .cells #[.int .i64 a0_0, .int .i64 a1_1, .int .i64 a1_0, .int .i64 a1_2, .slice A0_4 l0_4.length c0_4] 78 (0, 0)) (up_ BK144) hb); replace BK145 := am_ (blk_below (g := gb145) (o := .cells #[.int .i64 a1_0, .int .i64 a1_1, .int .i64 a1_2, .slice A1_3 l1_3.length c1_3] 57 (0, 0)) (uf_ BK145 NB145_144.out) hb); replace BK146 := am_ (blk_below (g := gb146) (o := .cells #[.int .i64 0, .int .i64 0, .int .i64 0, .int .i64 0, .slice none 0 0] 78 (0, 0)) (uf_ BK146 NB146_144.out) hb); replace HB := nc3_ GE144 GE145 GE146 hb; clear hb ho13; obtain ⟨hcz14_0, hcz14_1, hcz14_2, hcz14_3, hfz14_0, hfz14_1, hfz14_2, hfz14_3⟩ := cf4_ BK145.out) | ((with_reducible refine gate_builtin (b := .append) (xs := #[.tmp 14, .tmp 16]) rfl ?_); at_builtin; refine Kd.R_append_rows Kd.string (w0 := w) w.heap.size rfl (.tmp 14) (.tmp 16) 27 9 (.string ⟨#[]⟩) 16 rfl Try.underlying27 info9 rfl (by decide) (by omega) v148 y147 l1_3 _ _ _ (fun _ => True) (fun _ => False) rfl rfl ?aO ?aR (fun _ _ h => h) (fun _ h => h.elim) ?aF ?aB ?aS ?aL ?_; (case aR => exact cs_ ((Kd.C_below HR1_3.out HB.out))); (case aB => exact (hs3_ GE144.out GE145.out GE146.out)); (case aF => exact (fun _ _ => trivial)); (case aO => exact (kr_ HO149.out)); (case aS => exact (below_size (hs3_ GE144.out GE145.out GE146.out))); (case aL => have := LMc3.out; omega); intro v151 w15 ho hb hg hat; rw [← Ny150.out] at ho; replace BK144 := am_ (blk_grown (g := gb144) (o := .cells #[.int .i64 a0_0, .int .i64 a1_1, .int .i64 a1_0, .int .i64 a1_2, .slice A0_4 l0_4.length c0_4] 78 (0, 0)) (kb_ BK144.out) hg (Kd.R_ne HO149.out BK144.out (by decide))); replace BK145 := am_ (blk_grown (g := gb145) (o := .cells #[.int .i64 a1_0, .int .i64 a1_1, .int .i64 a1_2, .slice A1_3 l1_3.length c1_3] 57 (0, 0)) (kb_ BK145.out) hg (Kd.R_ne HO149.out BK145.out (by decide))); replace BK146 := am_ (blk_grown (g := gb146) (o := .cells #[.int .i64 0, .int .i64 0, .int .i64 0, .int .i64 0, .slice none 0 0] 78 (0, 0)) (kb_ BK146.out) hg (Kd.R_ne HO149.out BK146.out (by decide))); replace HB := am_ (hb); have HO152 := am_ (ho); clear HO149; clear ho hb hg hat; obtain ⟨Ao16, co16, eo16⟩ := Kd.R_slice HO152.out; subst eo16; obtain ⟨hcz17_0, hcz17_1, hcz17_2, hcz17_3, hcz17_4, hfz17_0, hfz17_1, hfz17_2, hfz17_3, hfz17_4⟩ := cf5_ BK144.out; obtain ⟨hcz18_0, hcz18_1, hcz18_2, hcz18_3, hcz18_4, hfz18_0, hfz18_1, hfz18_2, hfz18_3, hfz18_4⟩ := cf5_ BK146.out))
 refine bodyPost_ret (results_cell_row rfl _ _ gb146 78 #[.int .i64 a0_0, .int .i64 a1_1, .int .i64 a1_0, .int .i64 a1_2, .slice Ao16 y150.length co16] (0, 0) _ rfl (by (with_reducible repeat (first | refine blk_drewN ?_ _ | refine blk_drew ?_ | refine blk_alloc ?_ _)); refine blk_put (cs := #[.int .i64 a0_0, .int .i64 a1_1, .int .i64 a1_0, .int .i64 a1_2, .slice none 0 0]) ?_ 4 _ rfl; (with_reducible repeat (first | refine blk_drewN ?_ _ | refine blk_drew ?_ | refine blk_alloc ?_ _)); refine blk_put (cs := #[.int .i64 a0_0, .int .i64 a1_1, .int .i64 a1_0, .int .i64 0, .slice none 0 0]) ?_ 3 _ rfl; (with_reducible repeat (first | refine blk_drewN ?_ _ | refine blk_drew ?_ | refine blk_alloc ?_ _)); refine blk_put (cs := #[.int .i64 a0_0, .int .i64 a1_1, .int .i64 0, .int .i64 0, .slice none 0 0]) ?_ 2 _ rfl; (with_reducible repeat (first | refine blk_drewN ?_ _ | refine blk_drew ?_ | refine blk_alloc ?_ _)); refine blk_put (cs := #[.int .i64 a0_0, .int .i64 0, .int .i64 0, .int .i64 0, .slice none 0 0]) ?_ 1 _ rfl; (with_reducible repeat (first | refine blk_drewN ?_ _ | refine blk_drew ?_ | refine blk_alloc ?_ _)); refine blk_put (cs := #[.int .i64 0, .int .i64 0, .int .i64 0, .int .i64 0, .slice none 0 0]) ?_ 0 _ rfl; (with_reducible repeat (first | refine blk_drewN ?_ _ | refine blk_drew ?_ | refine blk_alloc ?_ _)); refine blk_far ?_ NB146_144.out _; (with_reducible repeat (first | refine blk_drewN ?_ _ | refine blk_drew ?_ | refine blk_alloc ?_ _)); exact BK146.out) Try.underlying78 rfl (by kernel_rfl)) rfl ?_
 exact ⟨_, er_, Kd.R_mono (rF_ (Kd.R_far (p := ⟨gb144, 4, none⟩) (Kd.R_types (Kd.R_types HO152.out BK144.out (by decide)) BK146.out (by decide)) (fun _ hk => hk.1.2) (.slice Ao16 y150.length co16))) (fun _ hk => trivial), hs3_ GE144.out GE145.out GE146.out⟩

/-! ### spec_l5At: function 48 -/
def spec_l5At.l0 : Nat → Int → List (S81) → Int → Int → Option (Int)
 | 0, _, _, _, _ => none
 | k + 1, x1, x7, x8, x9 => if x9 < x8 then (if 0 ≤ x9 then (if x9 < (x7.length : Int) then (if ((rd_T81 x7 x9).f0) = x1 then (some x9) else (spec_l5At.l0 k x1 x7 x8 (wrap64 (x9 + 1)))) else (none)) else (none)) else (some (-1))
def spec_l5At.f (k : Nat) (l0 : List (S81)) (a1 : Int) : Option (Int) := spec_l5At.l0 k a1 l0 (l0.length : Int) 0
theorem spec_l5At.mono_l : ∀ k, (∀ y0 y1 y2 y3, LeO (spec_l5At.l0 k y0 y1 y2 y3) (spec_l5At.l0 (k + 1) y0 y1 y2 y3))
 | 0 => fun _ _ _ _ r h => by simp [spec_l5At.l0] at h
 | k + 1 => by
  have ih0 := spec_l5At.mono_l k
  ·intro y0 y1 y2 y3
   unfold spec_l5At.l0
   repeat' first
   | (with_reducible first | apply ih0 | exact LeO.refl _ | exact LeO.none _ | refine LeO.ite ?_ ?_ | refine LeO.bind ?_ (fun _ => ?_))
theorem spec_l5At.mono : ∀ a0 a1 k, LeO (spec_l5At.f k a0 a1) (spec_l5At.f (k + 1) a0 a1) := by
 intro a0 a1 k
 have ih0 := spec_l5At.mono_l k
 unfold spec_l5At.f
 repeat' first
   | (with_reducible first | apply ih0 | exact LeO.refl _ | exact LeO.none _ | refine LeO.ite ?_ ?_ | refine LeO.bind ?_ (fun _ => ?_))
set_option maxHeartbeats 8000000 in
set_option maxRecDepth 100000 in
theorem spec_l5At.calls (k : Nat) (A0 : Option Addr) (c0 : Nat) (l0 : List (S81)) (a1 : Int) (r : Int) (w : World) (hr0 : Kd.C k81 w A0 l0.length l0) (hc0 : l0.length ≤ c0) (h : spec_l5At.f k l0 a1 = some r) :
  Calls Try.prog 48 #[.slice A0 l0.length c0, .int .i64 a1] w fun e w' => e = .returned (.int .i64 r) ∧ Below w.heap.size w w' := by
 have hu81 := Try.underlying81
 have HR0 := am_ hr0
 have HC0 := am_ hc0
 clear hr0 hc0
 have HB := am_ (Below.refl w.heap.size w)
 have H : (spec_l5At.l0 k a1 l0 (l0.length : Int) 0) = some r := h
 clear h
 have H' := am_ H
 clear H
 go_enter Try.func48, Try.ntmps48
 go_wp2
 go_loopg [9] k (fun kq v9 w' => ∃ (x9_1 : Int), v9 = .int .i64 x9_1 ∧ Aside0 (spec_l5At.l0 kq a1 l0 (l0.length : Int) x9_1 = some r) ∧ Aside0 (kq ≤ k) ∧ Aside0 (Below w.heap.size w w'))
 case atStart => exact ⟨(0), sr_, H', ⟨Nat.le_refl _⟩, ⟨hb_⟩⟩
 case round =>
  clear H'
  obtain ⟨x9_1, rfl, HA, HK1, HB⟩ := hrel
  cases gk with
  | zero => exact absurd HA.out (by simp [spec_l5At.l0])
  | succ k1 =>
   have H := HA.out
   clear HA
   simp only [spec_l5At.l0] at H
   replace H := ite_ H
   obtain ⟨c3, H⟩ | ⟨c3, H⟩ := H
   rotate_left
   ·have c3b0 := decide_eq_false c3
    clear c3
    obtain rfl := Option.some.inj H
    go_wp2
    go_ret
    exact ⟨er_, hb_⟩
   have c3b0 := decide_eq_true c3
   clear c3
   replace H := ifs_ H
   obtain ⟨c4, H⟩ := H
   have c4b0 := decide_eq_true c4
   clear c4
   replace H := ifs_ H
   obtain ⟨c5, H⟩ := H
   have c5b0 := decide_eq_true c5
   clear c5
   replace H := ite_ H
   obtain ⟨c6, H⟩ | ⟨c6, H⟩ := H
   ·have c6b0 : (((rd_T81 l0 x9_1).f0) == a1) = true := beq_iff_eq.mpr c6
    have c6b1 : (((rd_T81 l0 x9_1).f0) != a1) = false := bne_eq_false_iff_eq.mpr c6
    clear c6
    obtain rfl := Option.some.inj H
    have p153 : 0 ≤ (x9_1 : Int) := oa_
    have q153 : x9_1 < (l0.length : Int) := oa_
    obtain ⟨ad153, A153_3, c153_3, e153, hx153_0, hx153_1, hx153_2, hx153_3, hl153_3, hi153_3⟩ := at_T81 HR0.out x9_1 p153 q153
    cases e153
    replace hx153_0 := pc_ HB.out hx153_0
    replace hx153_1 := pc_ HB.out hx153_1
    replace hx153_2 := pc_ HB.out hx153_2
    replace hx153_3 := pc_ HB.out hx153_3
    have HR153_3 := am_ hi153_3
    have HC153_3 := am_ hl153_3
    clear hi153_3 hl153_3
    replace p153 := eq_true p153
    replace q153 := eq_true q153
    go_wp2_with (first | ((with_reducible refine gate_dst (N := 6) rfl ?_); refine bq_ (N := 6) #[.int .i64 0, .int .i64 0, .int .i64 0, .slice none 0 0] 81 ?_; intro gb154 hg w7 BK154 hb; have GE154 := ge_ hg; replace HB := nb_ hb; clear hb hg; obtain ⟨hcz8_0, hcz8_1, hcz8_2, hcz8_3, hfz8_0, hfz8_1, hfz8_2, hfz8_3⟩ := cf4_ BK154.out))
    go_ret
    exact ⟨er_, hs_ GE154.out⟩
   have c6b0 : (((rd_T81 l0 x9_1).f0) == a1) = false := beq_eq_false_iff_ne.mpr c6
   have c6b1 : (((rd_T81 l0 x9_1).f0) != a1) = true := bne_iff_ne.mpr c6
   have H' := am_ H
   clear H
   have p153 : 0 ≤ (x9_1 : Int) := oa_
   have q153 : x9_1 < (l0.length : Int) := oa_
   obtain ⟨ad153, A153_3, c153_3, e153, hx153_0, hx153_1, hx153_2, hx153_3, hl153_3, hi153_3⟩ := at_T81 HR0.out x9_1 p153 q153
   cases e153
   replace hx153_0 := pc_ HB.out hx153_0
   replace hx153_1 := pc_ HB.out hx153_1
   replace hx153_2 := pc_ HB.out hx153_2
   replace hx153_3 := pc_ HB.out hx153_3
   have HR153_3 := am_ hi153_3
   have HC153_3 := am_ hl153_3
   clear hi153_3 hl153_3
   replace p153 := eq_true p153
   replace q153 := eq_true q153
   go_wp2_with (first | ((with_reducible refine gate_dst (N := 6) rfl ?_); refine bq_ (N := 6) #[.int .i64 0, .int .i64 0, .int .i64 0, .slice none 0 0] 81 ?_; intro gb154 hg w9 BK154 hb; have GE154 := ge_ hg; replace HB := nb_ hb; clear hb hg; obtain ⟨hcz10_0, hcz10_1, hcz10_2, hcz10_3, hfz10_0, hfz10_1, hfz10_2, hfz10_3⟩ := cf4_ BK154.out))
   go_roundg k1
   case measure => have := HK1.out; omega
   case rel => exact ⟨(wrap64 (x9_1 + 1)), sr_, H', ⟨by have := HK1.out; omega⟩, ⟨hs_ GE154.out⟩⟩
end Go.Proofs.Ytojdaolclcmalaa.QFnExactPlayAsks
