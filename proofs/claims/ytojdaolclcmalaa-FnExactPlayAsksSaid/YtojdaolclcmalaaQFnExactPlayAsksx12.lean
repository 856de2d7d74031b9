/- Functions that one statement reaches: of each a plain function, and the proof that calls come to it. Conditions: those that each contract names. Written by a program of this repository. -/
import Derived.Test.YtojdaolclcmalaaVPlayAsksa
import Derived.Test.YtojdaolclcmalaaQFnExactPlayAsksx2
import Derived.Test.YtojdaolclcmalaaQFnExactPlayAsksx10
namespace Go.Proofs.Ytojdaolclcmalaa.QFnExactPlayAsks
open Go.RowKit Go.Proofs.YtojdaolclcmalaaW.PrintWords Go.Proofs.YtojdaolclcmalaaW.PrintLast Go.Proofs.YtojdaolclcmalaaW.PrintMore
attribute [local go_sem] max2_int min2_int max_two min_two max_three min_three max_four min_four Go.Proofs.YtojdaolclcmalaaW.PrintMore2.isSome_setCell   -- for this text's walks alone
set_option linter.unusedVariables false
set_option linter.unusedSimpArgs false

/-! ### laws_toAskS: function 21 -/
def laws_toAskS.l0 : Nat → List (S53) → List (S57) → Int → Option ((List (S57)))
 | 0, _, _, _ => none
 | k + 1, x0, x3, x4 => if x4 < (x0.length : Int) then (if 0 ≤ x4 then ((laws_toAsk.f k ((rd_T53 x0 x4).f0) ((rd_T53 x0 x4).f1) ((rd_T53 x0 x4).f2) ((rd_T53 x0 x4).f3)).bind fun bt282 => (if x4 < (x3.length : Int) then (laws_toAskS.l0 k x0 (x3.set (x4 : Int).toNat (⟨bt282.1, bt282.2.1, bt282.2.2.1, bt282.2.2.2⟩ : S57)) (wrap64 (x4 + 1))) else (none))) else (none)) else (some x3)
def laws_toAskS.f (k : Nat) (l0 : List (S53)) : Option ((List (S57))) := if 0 ≤ (l0.length : Int) then (if ((l0.length : Int) : Int).toNat ≤ 5864062014805 then (laws_toAskS.l0 k l0 (List.replicate ((l0.length : Int) : Int).toNat z57) 0) else (none)) else (none)
theorem laws_toAskS.mono_l : ∀ k, (∀ y0 y1 y2, LeO (laws_toAskS.l0 k y0 y1 y2) (laws_toAskS.l0 (k + 1) y0 y1 y2))
 | 0 => fun _ _ _ r h => by simp [laws_toAskS.l0] at h
 | k + 1 => by
  have ih0 := laws_toAskS.mono_l k
  ·intro y0 y1 y2
   unfold laws_toAskS.l0
   repeat' first
   | (with_reducible first | apply ih0 | apply laws_toAsk.mono | exact LeO.refl _ | exact LeO.none _ | refine LeO.ite ?_ ?_ | refine LeO.bind ?_ (fun _ => ?_))
theorem laws_toAskS.mono : ∀ a0 k, LeO (laws_toAskS.f k a0) (laws_toAskS.f (k + 1) a0) := by
 intro a0 k
 have ih0 := laws_toAskS.mono_l k
 unfold laws_toAskS.f
 repeat' first
   | (with_reducible first | apply ih0 | apply laws_toAsk.mono | exact LeO.refl _ | exact LeO.none _ | refine LeO.ite ?_ ?_ | refine LeO.bind ?_ (fun _ => ?_))
set_option maxHeartbeats 8000000 in
set_option maxRecDepth 100000 in
theorem laws_toAskS.calls (k : Nat) (A0 : Option Addr) (c0 : Nat) (l0 : List (S53)) (r : List (S57)) (w : World) (hr0 : Kd.C k53 w A0 l0.length l0) (hc0 : l0.length ≤ c0) (h : laws_toAskS.f k l0 = some r) :
  Calls Try.prog 21 #[.slice A0 l0.length c0] w fun e w' => ∃ v0_ : Value, e = .returned (v0_) ∧ Kd.S k57 57 w' w.heap.size (fun _ => True) v0_ r ∧ Below w.heap.size w w' := by
 have hu53 := Try.underlying53
 have hu57 := Try.underlying57
 have HR0 := am_ hr0
 have HC0 := am_ hc0
 clear hr0 hc0
 have HB := am_ (Below.refl w.heap.size w)
 have H : (if 0 ≤ (l0.length : Int) then (if ((l0.length : Int) : Int).toNat ≤ 5864062014805 then (laws_toAskS.l0 k l0 (List.replicate ((l0.length : Int) : Int).toNat z57) 0) else (none)) else (none)) = some r := h
 clear h
 replace H := ifs_ H
 obtain ⟨c2, H⟩ := H
 have c2b0 := eq_true c2
 have c2b1 := decide_eq_true c2
 clear c2
 replace H := ifs_ H
 obtain ⟨c3, H⟩ := H
 have c3b0 := eq_true c3
 have c3b1 := decide_eq_true c3
 clear c3
 obtain ⟨y278, hy278⟩ : ∃ y_ : List (S57), y_ = (List.replicate ((l0.length : Int) : Int).toNat z57) := ⟨_, rfl⟩
 replace H : (laws_toAskS.l0 k l0 y278 0) = some r := by first | (rw [hy278]; with_reducible exact H) | (have H2_ := (Option.bind_some _ _).symm.trans H; rw [hy278]; with_reducible exact H2_) | (have H2_ := (Option.bind_some _ _).symm.trans H; with_reducible exact H2_) | with_reducible exact H | (rw [hy278]; exact H) | exact H
 have Ny278 := am_ hy278
 clear hy278
 have H' := am_ H
 clear H
 go_enter Try.func21, Try.ntmps21
 go_wp2_with (first | ((with_reducible refine gate_dst (N := 7) rfl ?_); refine Kd.S_make k57 _ 57 rfl (N := 7) rfl 45 _ _ rfl (l0.length : Int) rfl rfl Try.underlying45 (.agg #[(.int .i64 0), (.int .i64 0), (.int .i64 0), (.slice none 0 0)]) 48 info57 rfl (by decide) (by omega) z57 (ok := fun _ => True) (okp := fun _ => True) (k57_mkM _ _ _ z57 (Kd.R_nil _ _ _ _ _)) (fun _ hk => hk) trivial (oa_) (Nat.le_trans (Nat.mul_le_mul_right _ (oa_ : (l0.length : Int).toNat ≤ 5864062014805)) (by omega)) (Below.refl _ _) (Nat.le_refl _) ?_; intro v279 w4 ho5 hb hg_ hnew_; clear hg_ hnew_; (first | rw [← Ny278.out] at ho5 | (simp only [Int.reduceToNat] at ho5; rw [← Ny278.out] at ho5)); have HO280 := am_ (Kd.S_lower ho5 (below_size (hb_))); replace HB := nb_ hb; clear hb ho5))
 go_loopg [4] k (fun kq v4 w' => ∃ (x3_1 : List (S57)) (x4_1 : Int), v4 = .int .i64 x4_1 ∧ Aside0 (laws_toAskS.l0 kq l0 x3_1 x4_1 = some r) ∧ Aside0 (kq ≤ k) ∧ Aside0 (Kd.S k57 57 w' w.heap.size (fun _ => True) v279 x3_1) ∧ Aside0 (Below w.heap.size w w'))
 case atStart => exact ⟨(y278), (0), sr_, H', ⟨Nat.le_refl _⟩, ⟨ks_ HO280.out⟩, ⟨hb_⟩⟩
 case round =>
  clear H'
  try clear c2
  try clear c2b0
  try clear c2b1
  try clear c3
  try clear c3b0
  try clear c3b1
  obtain ⟨x3_1, x4_1, rfl, HA, HK1, HO_3, HB⟩ := hrel
  cases gk with
  | zero => exact absurd HA.out (by simp [laws_toAskS.l0])
  | succ k1 =>
   have H := HA.out
   clear HA
   simp only [laws_toAskS.l0] at H
   replace H := ite_ H
   obtain ⟨c6, H⟩ | ⟨c6, H⟩ := H
   rotate_left
   ·have c6b0 := decide_eq_false c6
    clear c6
    obtain rfl := Option.some.inj H
    go_wp2
    go_ret
    exact ⟨_, er_, ks_ HO_3.out, hb_⟩
   have c6b0 := decide_eq_true c6
   clear c6
   replace H := ifs_ H
   obtain ⟨c7, H⟩ := H
   have c7b0 := decide_eq_true c7
   clear c7
   replace H := bnd_ H
   obtain ⟨⟨t282, t283, t284, t285⟩, A8, H⟩ := H
   replace H := red_ H
   replace H := ifs_ H
   obtain ⟨c9, H⟩ := H
   have c9b0 := decide_eq_true c9
   clear c9
   obtain ⟨y288, hy288⟩ : ∃ y_ : List (S57), y_ = (x3_1.set (x4_1 : Int).toNat (⟨t282, t283, t284, t285⟩ : S57)) := ⟨_, rfl⟩
   replace H : (laws_toAskS.l0 k1 l0 y288 (wrap64 (x4_1 + 1))) = some r := by first | (rw [hy288]; with_reducible exact H) | (have H2_ := (Option.bind_some _ _).symm.trans H; rw [hy288]; with_reducible exact H2_) | (have H2_ := (Option.bind_some _ _).symm.trans H; with_reducible exact H2_) | with_reducible exact H | (rw [hy288]; exact H) | exact H
   have Ny288 := am_ hy288
   clear hy288
   have H' := am_ H
   clear H
   have p281 : 0 ≤ (x4_1 : Int) := oa_
   have q281 : x4_1 < (l0.length : Int) := oa_
   obtain ⟨ad281, A281_3, c281_3, e281, hx281_0, hx281_1, hx281_2, hx281_3, hl281_3, hi281_3⟩ := at_T53 HR0.out x4_1 p281 q281
   cases e281
   replace hx281_0 := pc_ HB.out hx281_0
   replace hx281_1 := pc_ HB.out hx281_1
   replace hx281_2 := pc_ HB.out hx281_2
   replace hx281_3 := pc_ HB.out hx281_3
   have HR281_3 := am_ hi281_3
   have HC281_3 := am_ hl281_3
   clear hi281_3 hl281_3
   replace p281 := eq_true p281
   replace q281 := eq_true q281
   go_wp2_with (first | ((with_reducible refine gate_callee (f := 31) rfl ?_); refine gl_ 20 Try.func31 #[.agg #[.int .i64 ((rd_T53 l0 x4_1).f0), .int .i64 ((rd_T53 l0 x4_1).f1), .int .i64 ((rd_T53 l0 x4_1).f2), .slice A281_3 ((rd_T53 l0 x4_1).f3).length c281_3]] rfl ma_ ?_; (with_reducible refine (laws_toAsk.calls k1 ((rd_T53 l0 x4_1).f0) ((rd_T53 l0 x4_1).f1) ((rd_T53 l0 x4_1).f2) _ _ ((rd_T53 l0 x4_1).f3) t282 t283 t284 t285 _ ?side1 ?side2 A8.out).mono ?_); (case side1 => exact cs_ ((Kd.C_below HR281_3.out HB.out))); (case side2 => exact HC281_3.out); rintro e w11 ⟨v286, rfl, ho0, hb⟩; refine ⟨_, rfl, ?_⟩; replace HO_3 := am_ (Kd.S_elder' (ks_ HO_3.out) (Kd.R_base ho0) hb); have HO287 := am_ (Kd.R_lower ho0 (below_size (hb_))); replace HB := nb_ hb; (try clear hb); (try clear hb2); (try clear hk); (try clear hi); (try clear ho0); have p10 : 0 ≤ (x4_1 : Int) := oa_; have q10 : (x4_1 : Int) < ((x3_1.length : Int) : Int) := oa_; obtain ⟨go10, co10, eo10, gb10, gl10, cl10, HG10⟩ := Kd.S_form HO_3.out (by omega); (first | cases eo10 | (injection eo10 with ea_ en_ ec_; (first | subst ea_ | (injection ea_ with ea_; subst ea_)); subst ec_; clear en_)); have GB10 := am_ gb10; have GG10 := am_ HG10; clear gb10 gl10 HG10; obtain ⟨_, ce10, hcl10, hM10, hcc10, hfr10, _, _⟩ := Kd.S_elem HO_3.out z57 (x4_1 : Int) p10 q10; obtain ⟨ve10_3, rfl, ge10_3⟩ := k57_openM hM10; have hx10_0 : w11.cell? ⟨go10, (x4_1 : Int).toNat * 4, none⟩ = some (.int .i64 ((rd_T57 x3_1 x4_1).f0)) := hcc10 0 _ rfl; have hx10_1 : w11.cell? ⟨go10, (x4_1 : Int).toNat * 4 + 1, none⟩ = some (.int .i64 ((rd_T57 x3_1 x4_1).f1)) := hcc10 1 _ rfl; have hx10_2 : w11.cell? ⟨go10, (x4_1 : Int).toNat * 4 + 2, none⟩ = some (.int .i64 ((rd_T57 x3_1 x4_1).f2)) := hcc10 2 _ rfl; have hx10_3 : w11.cell? ⟨go10, (x4_1 : Int).toNat * 4 + 3, none⟩ = some (ve10_3) := hcc10 3 _ rfl; have hf10_0 : w11.frozen? ⟨go10, (x4_1 : Int).toNat * 4, none⟩ = false := hfr10 0; have hf10_1 : w11.frozen? ⟨go10, (x4_1 : Int).toNat * 4 + 1, none⟩ = false := hfr10 1; have hf10_2 : w11.frozen? ⟨go10, (x4_1 : Int).toNat * 4 + 2, none⟩ = false := hfr10 2; have hf10_3 : w11.frozen? ⟨go10, (x4_1 : Int).toNat * 4 + 3, none⟩ = false := hfr10 3; clear hcl10 hcc10 hfr10; (try clear hM10); replace p10 := eq_true p10; replace q10 := eq_true q10; obtain ⟨Ao14, co14, eo14⟩ := Kd.R_slice HO287.out; subst eo14; have n_ := am_ (Kd.S_mono (ok' := (fun k_ => some k_ ≠ (.slice Ao14 t285.length co14 : Value).ownBlock)) HO_3.out (fun k_ hk => hk.2)); clear HO_3; have HO_3 := n_; clear n_; have HX12 := am_ (show Kd.S k57 57 w11 w.heap.size (fun k_ => ((fun _ => True)) k_ ∧ ¬ ((fun k_ => some k_ = (.slice Ao14 t285.length co14 : Value).ownBlock)) k_) (.slice (some ⟨go10, 0, none⟩) x3_1.length co10) x3_1 from (sF_ (Kd.S_mono HO_3.out (fun k_ hk => ⟨trivial, fun e_ => hk e_⟩)))); obtain ⟨oki12, ce12, hcl12, hM12, hcc12, hfr12, hoki12, hH12⟩ := Kd.S_elem HX12.out z57 (x4_1 : Int) (oa_) (by have h_ : (x4_1 : Int) < ((x3_1.length : Int) : Int) := oa_; first | exact h_ | (have e_ := (Kd.S_reads' HO_3.out).1; omega) | simpa using h_); obtain ⟨ve12_3, rfl, ge12_3⟩ := k57_openM hM12; have HP12 := Kd.S_seg hH12 (oa_) (by have h_ : (x4_1 : Int) < ((x3_1.length : Int) : Int) := oa_; first | exact h_ | (have e_ := (Kd.S_reads' HO_3.out).1; omega) | simpa using h_) (seg := [.int .i64 t282, .int .i64 t283, .int .i64 t284, .slice Ao14 t285.length co14]) (j := 0) (show 4 ≤ 4 from by decide) (x' := (⟨t282, t283, t284, t285⟩ : S57)) (k57_mkM _ _ _ (⟨t282, t283, t284, t285⟩ : S57) (Kd.R_mono (Kd.R_tight rfl (Kd.R_mono (ok' := fun k_ => ((fun _ => True)) k_ ∧ k_ ≠ go10) (Kd.R_apart' (HO287.out) (Kd.S_typed HO_3.out) (by decide)) (fun k_ hk => ⟨trivial, fun e_ => (hk.2) (by rw [e_]; rfl)⟩))) (fun _ h_ => Or.inr (h_)))) (fun _ hk => hk) (fun k_ hk_ => ((Kd.R_mono (ok' := fun k_ => ((fun _ => True)) k_ ∧ k_ ≠ go10) (Kd.R_apart' (HO287.out) (Kd.S_typed HO_3.out) (by decide)) (fun k_ hk => ⟨trivial, fun e_ => (hk.2) (by rw [e_]; rfl)⟩))).1 k_ hk_.symm); have hx12_0 := hcc12 0 _ rfl; (try simp only [show (k57).sz = 4 from rfl, Nat.mul_one, Nat.add_zero] at hx12_0); have hf12_0 := hfr12 0; (try simp only [show (k57).sz = 4 from rfl, Nat.mul_one, Nat.add_zero] at hf12_0); have hx12_1 := hcc12 1 _ rfl; (try simp only [show (k57).sz = 4 from rfl, Nat.mul_one, Nat.add_zero] at hx12_1); have hf12_1 := hfr12 1; (try simp only [show (k57).sz = 4 from rfl, Nat.mul_one, Nat.add_zero] at hf12_1); have hx12_2 := hcc12 2 _ rfl; (try simp only [show (k57).sz = 4 from rfl, Nat.mul_one, Nat.add_zero] at hx12_2); have hf12_2 := hfr12 2; (try simp only [show (k57).sz = 4 from rfl, Nat.mul_one, Nat.add_zero] at hf12_2); have hx12_3 := hcc12 3 _ rfl; (try simp only [show (k57).sz = 4 from rfl, Nat.mul_one, Nat.add_zero] at hx12_3); have hf12_3 := hfr12 3; (try simp only [show (k57).sz = 4 from rfl, Nat.mul_one, Nat.add_zero] at hf12_3); clear hcl12 hcc12 hfr12 hoki12 hH12; (try clear hM12)) | ((with_reducible refine gate_store (t := 57) (p := 21) rfl ?_); refine store_event (t := 57) (p := 21) (v := ?vo_w13) (w1 := ((((w11.setCell ⟨go10, (x4_1 : Int).toNat * 4, none⟩ (.int .i64 t282)).setCell ⟨go10, (x4_1 : Int).toNat * 4 + 1, none⟩ (.int .i64 t283)).setCell ⟨go10, (x4_1 : Int).toNat * 4 + 2, none⟩ (.int .i64 t284)).setCell ⟨go10, (x4_1 : Int).toNat * 4 + 3, none⟩ (.slice Ao14 t285.length co14))) ?hg ?ho ?hn ?hr ?_; (case ho => rfl); (case hg => rfl); (case hn => rfl); (case hr => first | (go_simp; done) | (go_simp; rfl)); intro w13 hw; have hg : w11.grownBy w13 (some go10) := (by rw [hw]; exact HP12.2); have hp_ : Kd.S k57 57 w13 w.heap.size (fun _ => True) (.slice (some ⟨go10, 0, none⟩) x3_1.length co10) y288 := (by rw [hw, Ny288.out]; exact HP12.1); clear HP12; replace HO_3 := am_ (hp_); replace HB := am_ ((by rw [hw]; exact below_set (below_set (below_set (below_set (HB.out) GB10.out) GB10.out) GB10.out) GB10.out : Below w.heap.size w w13)); clear HO287; clear hg hw hp_))
   go_roundg k1
   case measure => have := HK1.out; omega
   case rel => exact ⟨(y288), (wrap64 (x4_1 + 1)), sr_, H', ⟨by have := HK1.out; omega⟩, ⟨ks_ HO_3.out⟩, ⟨hb_⟩⟩

-- NOT PRINTED: function 75 (slices_IndexFunc_Producer)

/-! ### impl_Part_producerAt: function 50 -/
/-- The first place, from i on, where p holds; -1 for none. -/
def pa_ix {α : Type} (p : α → Bool) : Nat → List α → Int
 | _, [] => -1
 | i, x :: r => if p x = true then (i : Int) else pa_ix p (i + 1) r
set_option maxHeartbeats 8000000 in
set_option maxRecDepth 100000 in
theorem pa_lit (x : S81) (A3 : Option Addr) (c3 : Nat) (id : Int) (g : Nat) (w : World) (hc : w.cell? ⟨g, 0, none⟩ = some (.int .i64 id)) (hg : g < w.heap.size) :
  Calls Try.prog 76 (#[.agg #[.int .i64 x.f0, .int .i64 x.f1, .int .i64 x.f2, .slice A3 x.f3.length c3]] ++ #[.pointer (some ⟨g, 0, none⟩)]) w fun e w' => e = .returned (.bool (decide (x.f0 = id))) ∧ Below w.heap.size w w' := by
 have hu_ := Try.underlying81
 have hne : ¬ w.heap.size = g := by omega
 have hx1 : (w.alloc (.cells #[.int .i64 x.f0, .int .i64 x.f1, .int .i64 x.f2, .slice A3 x.f3.length c3] 81)).cell? ⟨g, 0, none⟩ = some (.int .i64 id) := pw_cell_below (below_alloc (Below.refl w.heap.size w) _) hc
 go_enter Try.func76, Try.ntmps76
 go_wp2_with fail
 go_ret
 exact ⟨by first | rfl | simp, by repeat (first | exact Below.refl _ _ | apply below_alloc | apply pw_below_drewN)⟩
set_option maxHeartbeats 8000000 in
set_option maxRecDepth 100000 in
theorem pa_idx (p : S81 → Bool) (l : List S81) (A : Option Addr) (c : Nat) (g : Nat) (lb : Array Value) (eg : ∀ args w, (callFunc g args).run Try.prog w = .ok (.enter g args) w) (w : World) (hr : Kd.C k81 w A l.length l)
  (hp : ∀ (W : World) (x : S81) (A3 : Option Addr) (c3 : Nat), Below w.heap.size w W → Calls Try.prog g (#[.agg #[.int .i64 x.f0, .int .i64 x.f1, .int .i64 x.f2, .slice A3 x.f3.length c3]] ++ lb) W fun e w' => e = .returned (.bool (p x)) ∧ Below W.heap.size W w') :
  Calls Try.prog 75 #[.slice A l.length c, .func (.func g) #[] lb] w fun e w' => e = .returned (.int .i64 (pa_ix p 0 l)) ∧ Below w.heap.size w w' := by
 have hbig : l.length ≤ 9223372036854775807 := hr.2.1
 have hu_ := Try.underlying81
 have HR := am_ hr
 have HP := am_ hp
 clear hr hp
 go_enter Try.func75, Try.ntmps75
 go_wp2
 go_loopg [5, 8] l.length (fun gg _ s8 wr => ∃ kk : Nat, kk ≤ l.length ∧ l.length - kk ≤ gg ∧ s8 = .int .i64 kk ∧ Aside (Below w.heap.size w wr) ∧ Aside (pa_ix p 0 l = pa_ix p kk (l.drop kk)))
 case atStart => exact ⟨0, Nat.zero_le _, by omega, rfl, Below.refl _ w, rfl⟩
 case round =>
  obtain ⟨kk, hkk, hg, rfl, BW, AA⟩ := hrel
  by_cases hlt : kk < l.length
  ·have hltz : (kk : Int) < (l.length : Int) := by omega
   obtain ⟨ad, A3, c3, rfl, hcell0, hcell1, hcell2, hcell3, hl3, hr3⟩ := at_T81 (Kd.C_below HR.out BW.out) (kk : Int) (by omega) hltz
   clear hl3 hr3
   have e1 : rd_T81 l (kk : Int) = l[kk] := by unfold rd_T81; rw [Int.toNat_natCast, List.getD_eq_getElem?_getD, List.getElem?_eq_getElem hlt]; rfl
   rw [e1] at hcell0 hcell1 hcell2 hcell3
   have hA := AA.out
   rw [List.drop_eq_getElem_cons hlt, pa_ix] at hA
   clear AA
   generalize hx : l[kk] = x at hcell0 hcell1 hcell2 hcell3 hA e1
   rw [Int.toNat_natCast] at hcell0 hcell1 hcell2 hcell3
   have HC := am_ (HP.out wr x A3 c3 BW.out)
   clear e1 hx
   cases hq : p x with
   | true =>
    rw [hq, if_pos rfl] at hA
    have H2 := am_ hA
    have HQ := am_ hq
    clear hA hq
    go_wp2_with fail
    refine HC.out.mono ?_
    rw [HQ.out]
    clear HC
    rintro e w2 ⟨rfl, hb2⟩
    have HB2 := am_ (below_step BW.out hb2)
    clear hb2
    go_wp2_with fail
    go_ret
    exact ⟨by rw [H2.out]; rfl, HB2.out⟩
   | false =>
    rw [hq, if_neg (by decide)] at hA
    have H2 := am_ hA
    have HQ := am_ hq
    clear hA hq
    go_wp2_with fail
    refine HC.out.mono ?_
    rw [HQ.out]
    clear HC
    rintro e w2 ⟨rfl, hb2⟩
    have HB2 := am_ (below_step BW.out hb2)
    clear hb2
    go_wp2_with fail
    go_roundg (l.length - (kk + 1))
    case measure => omega
    case rel => exact ⟨kk + 1, by omega, by omega, by go_num, HB2.out, (show Aside _ from H2.out)⟩
  ·have hltz : ¬ (kk : Int) < (l.length : Int) := by omega
   have hkl : kk = l.length := by omega
   subst hkl
   have hA := AA.out
   rw [List.drop_length, pa_ix] at hA
   have H2 := am_ hA
   clear hA AA
   go_wp2
   go_ret
   exact ⟨by rw [H2.out]; rfl, BW.out⟩
def impl_Part_producerAt.f (l0_0 : List S81) (l0_1 : List S78) (a0_2 : Int) (a1 : Int) : Option Int := some (pa_ix (fun x => decide (x.f0 = a1)) 0 l0_0)
set_option maxHeartbeats 8000000 in
set_option maxRecDepth 100000 in
theorem impl_Part_producerAt.calls (A0_0 : Option Addr) (c0_0 : Nat) (l0_0 : List S81) (A0_1 : Option Addr) (c0_1 : Nat) (l0_1 : List S78) (a0_2 : Int) (a1 : Int) (r : Int) (w : World) (hr0_0 : Kd.C k81 w A0_0 l0_0.length l0_0) (hc0_0 : l0_0.length ≤ c0_0) (hr0_1 : Kd.C k78 w A0_1 l0_1.length l0_1) (hc0_1 : l0_1.length ≤ c0_1) (h : impl_Part_producerAt.f l0_0 l0_1 a0_2 a1 = some r) :
  Calls Try.prog 50 #[.agg #[.slice A0_0 l0_0.length c0_0, .slice A0_1 l0_1.length c0_1, .int .i64 a0_2], .int .i64 a1] w fun e w' => e = .returned (.int .i64 r) ∧ Below w.heap.size w w' := by
 have hu_ := Try.underlying33
 have HR := am_ hr0_0
 have H4 := am_ (Option.some.inj h)
 clear hr0_0 hr0_1 hc0_0 hc0_1 h
 have hbb : Below w.heap.size w ((w.alloc (.cells #[.slice A0_0 l0_0.length c0_0, .slice A0_1 l0_1.length c0_1, .int .i64 a0_2] 33)).alloc (.cells #[.int .i64 a1] 3)) := below_alloc (below_alloc (Below.refl _ _) _) _
 have hsz : ((w.alloc (.cells #[.slice A0_0 l0_0.length c0_0, .slice A0_1 l0_1.length c0_1, .int .i64 a0_2] 33)).alloc (.cells #[.int .i64 a1] 3)).heap.size = w.heap.size + 2 := by
  show ((w.heap.push _).push _).size = _
  rw [Array.size_push, Array.size_push]
 have hcid : ((w.alloc (.cells #[.slice A0_0 l0_0.length c0_0, .slice A0_1 l0_1.length c0_1, .int .i64 a0_2] 33)).alloc (.cells #[.int .i64 a1] 3)).cell? ⟨w.heap.size + 1, 0, none⟩ = some (.int .i64 a1) := (blk_cell (w := (w.alloc (.cells #[.slice A0_0 l0_0.length c0_0, .slice A0_1 l0_1.length c0_1, .int .i64 a0_2] 33)).alloc (.cells #[.int .i64 a1] 3)) (g := w.heap.size + 1) (cs := #[.int .i64 a1]) (t := 3) (by
  show ((w.heap.push _).push _)[w.heap.size + 1]? = _
  rw [← Array.size_push (xs := w.heap), Array.getElem?_push_size]) 0).trans rfl
 have HC := am_ (pa_idx (fun x => decide (x.f0 = a1)) l0_0 A0_0 c0_0 76 #[.pointer (some ⟨w.heap.size + 1, 0, none⟩)] (fun args w => by first | rfl | kernel_rfl) _ (Kd.C_below HR.out hbb)
  (fun W x A3 c3 hb => pa_lit x A3 c3 a1 (w.heap.size + 1) W ((hb.cell (p := ⟨w.heap.size + 1, 0, none⟩) (by rw [hsz]; exact Nat.lt_succ_self _)).trans hcid) (by have := hb.size; omega)))
 have HBB := am_ hbb
 clear hbb hsz hcid
 go_enter Try.func50, Try.ntmps50
 go_wp2_with fail
 refine HC.out.mono ?_
 clear HC
 rintro e w2 ⟨rfl, hb2⟩
 have HB2 := am_ (below_step HBB.out hb2)
 clear hb2
 go_wp2_with fail
 go_ret
 exact ⟨by rw [H4.out]; rfl, HB2.out⟩



/-! ### impl_in: function 63 -/
def impl_in.f (a0 : Int) (a1 : Int) (a2 : Int) : Option (Bool) := if a0 ≥ a1 then (some (decide (a0 ≤ a2))) else (some false)
set_option maxHeartbeats 8000000 in
set_option maxRecDepth 100000 in
theorem impl_in.calls (a0 : Int) (a1 : Int) (a2 : Int) (r : Bool) (w : World) (h : impl_in.f a0 a1 a2 = some r) :
  Calls Try.prog 63 #[.int .i64 a0, .int .i64 a1, .int .i64 a2] w fun e w' => e = .returned (.bool r) ∧ Drawn0 w w' := by
 have H : (if a0 ≥ a1 then (some (decide (a0 ≤ a2))) else (some false)) = some r := h
 clear h
 replace H := ite_ H
 obtain ⟨c4, H⟩ | ⟨c4, H⟩ := H
 rotate_left
 ·have c4b0 := dne_ c4
  clear c4
  obtain rfl := Option.some.inj H
  go_enter Try.func63, Try.ntmps63
  go_wp2
  go_ret
  exact ⟨by first | rfl | (simp; done) | (simp [*]; done), dr_⟩
 have c4b0 := dge_ c4
 clear c4
 obtain rfl := Option.some.inj H
 go_enter Try.func63, Try.ntmps63
 go_wp2
 go_ret
 exact ⟨by first | rfl | (simp; done) | (simp [*]; done), dr_⟩

-- NOT PRINTED: function 95 (slices_IndexFunc_string)

-- NOT PRINTED: function 86 (slices_ContainsFunc_string)

/-! ### impl_areRecords: function 64 -/
/-- The first place, from i on, of d places, where q holds. -/
def ixS (q : Nat → Bool) : Nat → Nat → Int
 | _, 0 => -1
 | i, d + 1 => if q i = true then (i : Int) else ixS q (i + 1) d
theorem areRecords_lit (s : ByteArray) (w : World) : Calls Try.prog 87 #[.string s] w fun e w' => e = .returned (.bool (decide ((20 : Int) < (s.size : Int)))) ∧ w = w' := by
 go_enter Try.func87, Try.ntmps87
 go_wp2
 go_ret
 exact ⟨rfl, rfl⟩
set_option maxHeartbeats 8000000 in
set_option maxRecDepth 100000 in
theorem areRecords_idx (q : Nat → Bool) (l : List ByteArray) (A : Option Addr) (c : Nat) (g : Nat) (lb : Array Value) (eg : ∀ args w, (callFunc g args).run Try.prog w = .ok (.enter g args) w) (w : World)
  (hr : Kd.C Kd.string w A l.length l)
  (hp : ∀ (W : World) (i : Nat), Drawn0 w W → i < l.length → Calls Try.prog g (#[.string (rdOf ByteArray.empty l (i : Int))] ++ lb) W fun e w' => e = .returned (.bool (q i)) ∧ Drawn0 w w') :
  Calls Try.prog 95 #[.slice A l.length c, .func (.func g) #[] lb] w fun e w' => e = .returned (.int .i64 (ixS q 0 l.length)) ∧ Drawn0 w w' := by
 have hbig : l.length ≤ 9223372036854775807 := hr.2.1
 have HR := am_ hr
 have HP := am_ hp
 clear hr hp
 go_enter Try.func95, Try.ntmps95
 go_wp2
 go_loopg [5, 8] l.length (fun gg _ s8 wr => ∃ kk : Nat, kk ≤ l.length ∧ l.length - kk ≤ gg ∧ s8 = .int .i64 kk ∧ Aside (Drawn0 w wr) ∧ Aside (ixS q 0 l.length = ixS q kk (l.length - kk)))
 case atStart => exact ⟨0, Nat.zero_le _, by omega, rfl, Drawn0.refl w, rfl⟩
 case round =>
  obtain ⟨kk, hkk, hg, rfl, BW, AA⟩ := hrel
  by_cases hlt : kk < l.length
  ·have hltz : (kk : Int) < (l.length : Int) := by omega
   obtain ⟨ad, rfl, hcell⟩ := Kd.at_string (Kd.C_below HR.out BW.out.below) (kk : Int) (by omega) hltz
   have hcall := HP.out wr kk BW.out hlt
   generalize rdOf ByteArray.empty l (kk : Int) = y at hcell hcall
   rw [Int.toNat_natCast] at hcell
   have e1 : ixS q kk (l.length - kk) = if q kk = true then (kk : Int) else ixS q (kk + 1) (l.length - (kk + 1)) := by
    rw [show l.length - kk = (l.length - (kk + 1)) + 1 by omega]
    rfl
   have E1 := am_ e1
   clear e1
   have HC := am_ hcall
   clear hcall
   cases hq : q kk with
   | true =>
    have HQ := am_ hq
    clear hq
    go_wp2_with fail
    refine HC.out.mono ?_
    rw [HQ.out]
    clear HC
    rintro e w2 ⟨rfl, hb2⟩
    have HB2 := am_ hb2
    clear hb2
    go_wp2_with fail
    go_ret
    refine ⟨?_, HB2.out⟩
    rw [AA.out, E1.out, if_pos HQ.out]
    rfl
   | false =>
    have HQ := am_ hq
    clear hq
    go_wp2_with fail
    refine HC.out.mono ?_
    rw [HQ.out]
    clear HC
    rintro e w2 ⟨rfl, hb2⟩
    have HB2 := am_ hb2
    clear hb2
    go_wp2_with fail
    go_roundg (l.length - (kk + 1))
    case measure => omega
    case rel => exact ⟨kk + 1, by omega, by omega, by go_num, HB2.out, (show Aside _ from by rw [AA.out, E1.out, if_neg (by rw [HQ.out]; decide)]; exact rfl)⟩
  ·have hltz : ¬ (kk : Int) < (l.length : Int) := by omega
   have hkl : kk = l.length := by omega
   subst hkl
   go_wp2
   go_ret
   refine ⟨?_, BW.out⟩
   rw [AA.out, Nat.sub_self]
   rfl
set_option maxHeartbeats 8000000 in
set_option maxRecDepth 100000 in
theorem areRecords_cont (q : Nat → Bool) (l : List ByteArray) (A : Option Addr) (c : Nat) (g : Nat) (lb : Array Value) (eg : ∀ args w, (callFunc g args).run Try.prog w = .ok (.enter g args) w) (w : World)
  (hr : Kd.C Kd.string w A l.length l)
  (hp : ∀ (W : World) (i : Nat), Drawn0 w W → i < l.length → Calls Try.prog g (#[.string (rdOf ByteArray.empty l (i : Int))] ++ lb) W fun e w' => e = .returned (.bool (q i)) ∧ Drawn0 w w') :
  Calls Try.prog 86 #[.slice A l.length c, .func (.func g) #[] lb] w fun e w' => e = .returned (.bool (decide (0 ≤ ixS q 0 l.length))) ∧ Drawn0 w w' := by
 have HC := am_ (areRecords_idx q l A c g lb eg w hr hp)
 clear hr hp
 go_enter Try.func86, Try.ntmps86
 go_wp2_with fail
 refine HC.out.mono ?_
 clear HC
 rintro e w2 ⟨rfl, hb2⟩
 have HB2 := am_ hb2
 clear hb2
 go_wp2_with fail
 go_ret
 exact ⟨rfl, HB2.out⟩
def impl_areRecords.q (l : List ByteArray) (i : Nat) : Bool := decide ((20 : Int) < ((rdOf ByteArray.empty l (i : Int)).size : Int))
def impl_areRecords.f (l0 : List ByteArray) : Option (Bool) := (impl_in.f (l0.length : Int) 1 8).bind fun t => if t = true then some (!(decide (0 ≤ ixS (impl_areRecords.q l0) 0 l0.length))) else some false
set_option maxHeartbeats 8000000 in
set_option maxRecDepth 100000 in
theorem impl_areRecords.calls (A0 : Option Addr) (c0 : Nat) (l0 : List ByteArray) (r : Bool) (w : World) (hr0 : Kd.C Kd.string w A0 l0.length l0) (_hc0 : l0.length ≤ c0) (h : impl_areRecords.f l0 = some r) :
  Calls Try.prog 64 #[.slice A0 l0.length c0] w fun e w' => e = .returned (.bool r) ∧ Drawn0 w w' := by
 have HR := am_ hr0
 clear hr0
 unfold impl_areRecords.f at h
 obtain ⟨t, h1, h2⟩ := Option.bind_eq_some_iff.1 h
 have H1 := am_ h1
 clear h h1
 cases t with
 | true =>
  rw [if_pos rfl] at h2
  have H2 := am_ (Option.some.inj h2)
  clear h2
  go_enter Try.func64, Try.ntmps64
  go_wp2_with fail
  refine (impl_in.calls _ _ _ _ _ H1.out).mono ?_
  rintro e w1 ⟨rfl, hd1⟩
  have HD1 := am_ hd1
  clear hd1
  go_wp2_with fail
  refine (areRecords_cont (impl_areRecords.q l0) l0 A0 c0 87 #[] (fun args w => by first | rfl | kernel_rfl) w1 (Kd.C_below HR.out HD1.out.below) (fun W i hd hi => (areRecords_lit _ W).mono fun e w' he => ⟨he.1, he.2 ▸ hd⟩)).mono ?_
  rintro e w2 ⟨rfl, hd2⟩
  have HD2 := am_ hd2
  clear hd2
  go_wp2_with fail
  go_ret
  refine ⟨by rw [H2.out]; rfl, ?_⟩
  obtain ⟨n2, e2⟩ := HD2.out.out
  rw [e2]
  exact HD1.out.step n2
 | false =>
  rw [if_neg (by decide)] at h2
  have H2 := am_ (Option.some.inj h2)
  clear h2
  go_enter Try.func64, Try.ntmps64
  go_wp2_with fail
  refine (impl_in.calls _ _ _ _ _ H1.out).mono ?_
  rintro e w1 ⟨rfl, hd1⟩
  have HD1 := am_ hd1
  clear hd1
  go_wp2_with fail
  go_ret
  exact ⟨by rw [H2.out]; rfl, HD1.out⟩



/-! ### impl_isBatch: function 88 -/
def impl_isBatch.f (a0_0 : Int) (a0_1 : Int) (a0_2 : Int) (a0_3 : Int) (l0_4 : List ByteArray) : Option (Bool) := (impl_in.f a0_0 0 100000).bind fun t290 => (if t290 = true then ((impl_in.f a0_1 0 1000).bind fun t291 => (if t291 = true then ((impl_in.f a0_2 0 65535).bind fun t292 => (if t292 = true then ((impl_in.f a0_3 0 65535).bind fun t293 => (if t293 = true then ((impl_areRecords.f l0_4).bind fun t294 => (some t294)) else (some false))) else (some false))) else (some false))) else (some false))
set_option maxHeartbeats 8000000 in
set_option maxRecDepth 100000 in
theorem impl_isBatch.calls (a0_0 : Int) (a0_1 : Int) (a0_2 : Int) (a0_3 : Int) (A0_4 : Option Addr) (c0_4 : Nat) (l0_4 : List ByteArray) (r : Bool) (w : World) (hr0_4 : Kd.C Kd.string w A0_4 l0_4.length l0_4) (hc0_4 : l0_4.length ≤ c0_4) (h : impl_isBatch.f a0_0 a0_1 a0_2 a0_3 l0_4 = some r) :
  Calls Try.prog 88 #[.agg #[.int .i64 a0_0, .int .i64 a0_1, .int .i64 a0_2, .int .i64 a0_3, .slice A0_4 l0_4.length c0_4]] w fun e w' => e = .returned (.bool r) ∧ Below w.heap.size w w' := by
 have hu78 := Try.underlying78
 have HR0_4 := am_ hr0_4
 have HC0_4 := am_ hc0_4
 clear hr0_4 hc0_4
 have HB := am_ (Below.refl w.heap.size w)
 have H : ((impl_in.f a0_0 0 100000).bind fun t290 => (if t290 = true then ((impl_in.f a0_1 0 1000).bind fun t291 => (if t291 = true then ((impl_in.f a0_2 0 65535).bind fun t292 => (if t292 = true then ((impl_in.f a0_3 0 65535).bind fun t293 => (if t293 = true then ((impl_areRecords.f l0_4).bind fun t294 => (some t294)) else (some false))) else (some false))) else (some false))) else (some false))) = some r := h
 clear h
 replace H := bnd_ H
 obtain ⟨t290, A2, H⟩ := H
 replace H := ifb_ H
 obtain ⟨rfl, H⟩ | ⟨rfl, H⟩ := H
 rotate_left
 ·obtain rfl := Option.some.inj H
  go_enter Try.func88, Try.ntmps88
  go_wp2_with (first | ((with_reducible refine gate_dst (N := 1) rfl ?_); refine bq_ (N := 1) #[.int .i64 a0_0, .int .i64 a0_1, .int .i64 a0_2, .int .i64 a0_3, .slice A0_4 l0_4.length c0_4] 78 ?_; intro gb289 hg w19 BK289 hb; have GE289 := ge_ hg; replace HB := nb_ hb; clear hb hg; obtain ⟨hcz20_0, hcz20_1, hcz20_2, hcz20_3, hcz20_4, hfz20_0, hfz20_1, hfz20_2, hfz20_3, hfz20_4⟩ := cf5_ BK289.out) | ((with_reducible refine gate_callee (f := 63) rfl ?_); refine gl_ 5 Try.func63 #[.int .i64 a0_0, .int .i64 0, .int .i64 100000] rfl ma_ ?_; (with_reducible refine (impl_in.calls a0_0 0 100000 false _ A2.out).mono ?_); rintro e w' ⟨rfl, ⟨nd, rfl⟩⟩; refine ⟨_, rfl, ?_⟩))
  go_ret
  exact ⟨er_, hs_ GE289.out⟩
 replace H := bnd_ H
 obtain ⟨t291, A4, H⟩ := H
 replace H := ifb_ H
 obtain ⟨rfl, H⟩ | ⟨rfl, H⟩ := H
 rotate_left
 ·obtain rfl := Option.some.inj H
  go_enter Try.func88, Try.ntmps88
  go_wp2_with (first | ((with_reducible refine gate_dst (N := 1) rfl ?_); refine bq_ (N := 1) #[.int .i64 a0_0, .int .i64 a0_1, .int .i64 a0_2, .int .i64 a0_3, .slice A0_4 l0_4.length c0_4] 78 ?_; intro gb289 hg w17 BK289 hb; have GE289 := ge_ hg; replace HB := nb_ hb; clear hb hg; obtain ⟨hcz18_0, hcz18_1, hcz18_2, hcz18_3, hcz18_4, hfz18_0, hfz18_1, hfz18_2, hfz18_3, hfz18_4⟩ := cf5_ BK289.out) | ((with_reducible refine gate_callee (f := 63) rfl ?_); refine gl_ 5 Try.func63 #[.int .i64 a0_0, .int .i64 0, .int .i64 100000] rfl ma_ ?_; (with_reducible refine (impl_in.calls a0_0 0 100000 true _ A2.out).mono ?_); rintro e w' ⟨rfl, ⟨nd, rfl⟩⟩; refine ⟨_, rfl, ?_⟩) | (go_at_call 63; (with_reducible refine (impl_in.calls a0_1 0 1000 false _ A4.out).mono ?_); rintro e w' ⟨rfl, ⟨nd, rfl⟩⟩))
  go_ret
  exact ⟨er_, hs_ GE289.out⟩
 replace H := bnd_ H
 obtain ⟨t292, A6, H⟩ := H
 replace H := ifb_ H
 obtain ⟨rfl, H⟩ | ⟨rfl, H⟩ := H
 rotate_left
 ·obtain rfl := Option.some.inj H
  go_enter Try.func88, Try.ntmps88
  go_wp2_with (first | ((with_reducible refine gate_dst (N := 1) rfl ?_); refine bq_ (N := 1) #[.int .i64 a0_0, .int .i64 a0_1, .int .i64 a0_2, .int .i64 a0_3, .slice A0_4 l0_4.length c0_4] 78 ?_; intro gb289 hg w15 BK289 hb; have GE289 := ge_ hg; replace HB := nb_ hb; clear hb hg; obtain ⟨hcz16_0, hcz16_1, hcz16_2, hcz16_3, hcz16_4, hfz16_0, hfz16_1, hfz16_2, hfz16_3, hfz16_4⟩ := cf5_ BK289.out) | ((with_reducible refine gate_callee (f := 63) rfl ?_); refine gl_ 5 Try.func63 #[.int .i64 a0_0, .int .i64 0, .int .i64 100000] rfl ma_ ?_; (with_reducible refine (impl_in.calls a0_0 0 100000 true _ A2.out).mono ?_); rintro e w' ⟨rfl, ⟨nd, rfl⟩⟩; refine ⟨_, rfl, ?_⟩) | (go_at_call 63; (with_reducible refine (impl_in.calls a0_1 0 1000 true _ A4.out).mono ?_); rintro e w' ⟨rfl, ⟨nd, rfl⟩⟩) | (go_at_call 63; (with_reducible refine (impl_in.calls a0_2 0 65535 false _ A6.out).mono ?_); rintro e w' ⟨rfl, ⟨nd, rfl⟩⟩))
  go_ret
  exact ⟨er_, hs_ GE289.out⟩
 replace H := bnd_ H
 obtain ⟨t293, A8, H⟩ := H
 replace H := ifb_ H
 obtain ⟨rfl, H⟩ | ⟨rfl, H⟩ := H
 rotate_left
 ·obtain rfl := Option.some.inj H
  go_enter Try.func88, Try.ntmps88
  go_wp2_with (first | ((with_reducible refine gate_dst (N := 1) rfl ?_); refine bq_ (N := 1) #[.int .i64 a0_0, .int .i64 a0_1, .int .i64 a0_2, .int .i64 a0_3, .slice A0_4 l0_4.length c0_4] 78 ?_; intro gb289 hg w13 BK289 hb; have GE289 := ge_ hg; replace HB := nb_ hb; clear hb hg; obtain ⟨hcz14_0, hcz14_1, hcz14_2, hcz14_3, hcz14_4, hfz14_0, hfz14_1, hfz14_2, hfz14_3, hfz14_4⟩ := cf5_ BK289.out) | ((with_reducible refine gate_callee (f := 63) rfl ?_); refine gl_ 5 Try.func63 #[.int .i64 a0_0, .int .i64 0, .int .i64 100000] rfl ma_ ?_; (with_reducible refine (impl_in.calls a0_0 0 100000 true _ A2.out).mono ?_); rintro e w' ⟨rfl, ⟨nd, rfl⟩⟩; refine ⟨_, rfl, ?_⟩) | (go_at_call 63; (with_reducible refine (impl_in.calls a0_1 0 1000 true _ A4.out).mono ?_); rintro e w' ⟨rfl, ⟨nd, rfl⟩⟩) | (go_at_call 63; (with_reducible refine (impl_in.calls a0_2 0 65535 true _ A6.out).mono ?_); rintro e w' ⟨rfl, ⟨nd, rfl⟩⟩) | (go_at_call 63; (with_reducible refine (impl_in.calls a0_3 0 65535 false _ A8.out).mono ?_); rintro e w' ⟨rfl, ⟨nd, rfl⟩⟩))
  go_ret
  exact ⟨er_, hs_ GE289.out⟩
 replace H := bnd_ H
 obtain ⟨t294, A10, H⟩ := H
 obtain rfl := Option.some.inj H
 go_enter Try.func88, Try.ntmps88
 go_wp2_with (first | ((with_reducible refine gate_dst (N := 1) rfl ?_); refine bq_ (N := 1) #[.int .i64 a0_0, .int .i64 a0_1, .int .i64 a0_2, .int .i64 a0_3, .slice A0_4 l0_4.length c0_4] 78 ?_; intro gb289 hg w11 BK289 hb; have GE289 := ge_ hg; replace HB := nb_ hb; clear hb hg; obtain ⟨hcz12_0, hcz12_1, hcz12_2, hcz12_3, hcz12_4, hfz12_0, hfz12_1, hfz12_2, hfz12_3, hfz12_4⟩ := cf5_ BK289.out) | ((with_reducible refine gate_callee (f := 63) rfl ?_); refine gl_ 5 Try.func63 #[.int .i64 a0_0, .int .i64 0, .int .i64 100000] rfl ma_ ?_; (with_reducible refine (impl_in.calls a0_0 0 100000 true _ A2.out).mono ?_); rintro e w' ⟨rfl, ⟨nd, rfl⟩⟩; refine ⟨_, rfl, ?_⟩) | (go_at_call 63; (with_reducible refine (impl_in.calls a0_1 0 1000 true _ A4.out).mono ?_); rintro e w' ⟨rfl, ⟨nd, rfl⟩⟩) | (go_at_call 63; (with_reducible refine (impl_in.calls a0_2 0 65535 true _ A6.out).mono ?_); rintro e w' ⟨rfl, ⟨nd, rfl⟩⟩) | (go_at_call 63; (with_reducible refine (impl_in.calls a0_3 0 65535 true _ A8.out).mono ?_); rintro e w' ⟨rfl, ⟨nd, rfl⟩⟩) | (go_at_call 64; (with_reducible refine (impl_areRecords.calls _ _ l0_4 t294 _ ?side1 ?side2 A10.out).mono ?_); (case side1 => exact cs_ ((Kd.C_below HR0_4.out (hs_ GE289.out)))); (case side2 => exact HC0_4.out); rintro e w' ⟨rfl, ⟨nd, rfl⟩⟩))
 go_ret
 exact ⟨er_, hs_ GE289.out⟩

-- NOT PRINTED: function 96 (slices_overlaps_Producer)

-- NOT PRINTED: function 101 (slices_Reverse_Producer)

-- NOT PRINTED: function 100 (slices_rotateLeft_Producer)

-- NOT PRINTED: function 97 (slices_rotateRight_Producer)
/-! ### slices_Insert_Producer: function 89 -/
/-! #### copy and append-of-make by an equation of their run; rows of four cells -/
theorem ins_copy (w : World) (dT sT ty elem : TypeId) (sz g o dLen dCap : Nat) (a : Addr) (sLen sCap : Nat) (cur : Array Value) (t : TypeId) (cs : List Value)
  (hu : Try.prog.underlying dT = some (.slice elem)) (hs : (Try.prog.info? elem).map (·.size) = some sz)
  (hg : w.heap[g]? = some (.cells cur t (0, 0))) (hn : cs.length = Nat.min sLen dLen * sz)
  (hsrc : ∀ j v, cs[j]? = some v → w.cell? (a.add j) = some v) (hfit : o + cs.length ≤ cur.size) (h1 : ∀ v ∈ cs, v.oneCell' = true) :
  (Builtin.copy_ #[dT, sT] ty #[.slice (some ⟨g, o, none⟩) dLen dCap, .slice (some a) sLen sCap]).run Try.prog w =
   .ok (goInt (Nat.min sLen dLen)) (w.setRow g (cur.toList.take o ++ cs ++ cur.toList.drop (o + cs.length)).toArray) := by
 have hl := run_firstCells_some (P := Try.prog) w sz (Nat.min sLen dLen) a sLen sCap cs hn hsrc
 have hst := run_storeCells_at Try.prog g o t cs 0 cur w hg (by simpa using hfit) h1
 cases hq : Try.prog.info? elem with
 | none => simp [hq] at hs
 | some i =>
  have hi : i.size = sz := by simpa [hq] using hs
  simp [Builtin.copy_, run_underlying hu, Builtin.lenOf, sizeOf, typeInfo, hq, hi, hl, hst]
theorem ins_wp (w : World) {ops : Array Oper} {rest : List Oper} {o : Oper} {a : Act} {Q : Exit → Act → World → Prop} (hgd : o.guard = none) (d s : Operand) (t t' : TypeId)
  (ho : o.op = .call { callee := .builtin .copy, args := #[d, s], argTypes := #[t, t'] }) (v u : Value) (hd : a.eval d = v) (hs : a.eval s = u) {v' : Value} {w' : World}
  (hr : (Builtin.copy_ #[t, t'] o.type #[v, u]).run Try.prog w = .ok v' w') (h : wpList Try.prog ops Q rest (a.put o.dst v') w') : wpList Try.prog ops Q (o :: rest) a w :=
 wpList_plain hgd fun _ hK => by
  unfold Oper.wp execOp
  simp only [ho, resolve, invoke, builtin, Sem.run_bind, Sem.run_pure, Result.andThen_ok, List.map_toArray, List.map_cons, List.map_nil, hd, hs, hr]
  exact hK _ _ h
theorem ins_step {ops : Array Oper} {o : Oper} {a : Act} {w : World} {K : Act → World → Prop} {Q : Exit → Act → World → Prop} {E : Prop}
  (hw : Region.wanted o (yielded ops a.tmps) = true) (d x : Operand) (dT sT : TypeId) (hop : o.op = Op.call { callee := Callee.builtin Builtin.copy, args := #[d, x], argTypes := #[dT, sT] })
  (v u : Value) (hd : a.eval d = v) (hx : a.eval x = u) {v' : Value} {w' : World} (hr : (Builtin.copy_ #[dT, sT] o.type #[v, u]).run Try.prog w = .ok v' w') (hK : K (a.put o.dst v') w') :
  if Region.wanted o (yielded ops a.tmps) = true then Oper.wp Try.prog o a w K Q else E := by
 rw [if_pos hw]
 unfold Oper.wp execOp
 simp only [hop, resolve, invoke, builtin, Sem.run_bind, Sem.run_pure, Result.andThen_ok, List.map_toArray, List.map_cons, List.map_nil, hd, hx, hr]
 exact hK
/-! #### the lists' side -/
theorem ins_seg {α : Type} (a b c : List α) (p q : List α) (hp : p.length = a.length) (hb : b.length = q.length) : (a ++ b ++ c).take a.length ++ q ++ (a ++ b ++ c).drop (a.length + q.length) = a ++ q ++ c := by
 rw [List.append_assoc a b c, List.take_left, ← hb, ← List.drop_drop, List.drop_left, List.drop_left]
set_option maxHeartbeats 8000000 in
set_option maxRecDepth 100000 in
/-- slices.Insert of one element x, told by the row's cells. -/
theorem slices_Insert_Producer.calls (base : Nat) (v : Value) (n : Nat) (inner : List Value) (i : Nat) (hi : i ≤ n) (vb : Nat) (x : List Value) (w : World) (hown : w.ownsRow base 81 4 v n inner) (h1 : ∀ u ∈ inner, u.oneCell' = true)
  (hvb : w.heap[vb]? = some (.cells x.toArray 81 (0, 0))) (hx : x.length = 4) (hx1 : ∀ u ∈ x, u.oneCell' = true) (hne : some vb ≠ v.ownBlock) (hbase : base ≤ w.heap.size) (hn : (n + 1) * 48 ≤ 140737488355328) :
  Calls Try.prog 89 #[v, .int .i64 i, .slice (some ⟨vb, 0, none⟩) 1 1] w fun e w' => ∃ v', e = .returned v' ∧ w'.ownsRow base 81 4 v' (n + 1) (inner.take (i * 4) ++ x ++ inner.drop (i * 4)) ∧ w.grownBy w' v.ownBlock ∧ (v'.ownBlock = v.ownBlock ∨ v'.ownBlock = some w.heap.size) := by
 obtain ⟨i0, hi0, hzz⟩ := Option.map_eq_some_iff.1 info81
 simp only [Prod.mk.injEq] at hzz
 obtain ⟨hz0, hz1, hz2⟩ := hzz
 have hu30 := Try.underlying30
 have hsz : (Try.prog.info? 81).map (·.size) = some 4 := by rw [hi0]; simp [hz1]
 have hil : inner.length = n * 4 := hown.1
 have hvc : ∀ j u, x[j]? = some u → w.cell? ((⟨vb, 0, none⟩ : Addr).add j) = some u := fun j u hu => World.news_of_block hvb j u (by simpa using hu)
 have hvlt : vb < w.heap.size := (Array.getElem?_eq_some_iff.1 hvb).1
 by_cases hin : i = n
 ·subst hin
  have hfin : inner.take (i * 4) ++ x ++ inner.drop (i * 4) = inner ++ x := by
   rw [← hil, List.take_length, List.drop_length, List.append_nil]
  rw [hfin]
  have hz2' : ((i : Int) == (i : Int)) = true := beq_self_eq_true _
  obtain ⟨A, c, rfl⟩ : ∃ A c, v = .slice A i c := by
   rcases hown.2 with ⟨rfl, h0⟩ | ⟨g, cap, cur, rfl, _⟩
   ·exact ⟨_, _, by rw [h0]⟩
   ·exact ⟨_, _, rfl⟩
  have hcc : i ≤ c := by
   rcases hown.2 with ⟨h0, h00⟩ | ⟨g, cap, cur, h0, _, _, h3, _⟩
   ·omega
   ·injection h0 with _ _ h0
    omega
  have hc63 : c ≤ 9223372036854775807 := by
   rcases hown.2 with ⟨h0, h00⟩ | ⟨g, cap, cur, h0, _, _, h3, h4, _⟩
   ·injection h0 with _ _ h0
    omega
   ·injection h0 with _ _ h0
    unfold maxLen at h4
    omega
  have HO := am_ hown
  have HV := am_ hvc
  have HX := am_ hx1
  clear hown hvc hvb h1 hx1
  rcases Classical.em (c = i) with hci | hci
  all_goals
   go_enter Try.func89, Try.ntmps89
   go_wp2_with (first | (at_builtin; refine wpList_append_own_at (P := Try.prog) w rfl (.tmp 23) (.tmp 24) 30 rfl base 81 i0 _ 4 48 hu30 hi0 hz0 hz1 hz2 rfl (by omega) (.slice A i c) i inner rfl HO.out ⟨vb, 0, none⟩ 1 1 x rfl (by rw [hx]) HV.out HX.out (by unfold maxLen; omega) (by omega) hbase ?_; intro v1 w1 hown1 hg1 hnil1 hat1; have R1 := am_ hown1; have R2 := am_ hg1; have R3 := am_ hat1; clear hown1 hg1 hnil1 hat1))
   go_ret
   exact ⟨_, rfl, R1.out, R2.out, R3.out⟩
 ·have hlt : i < n := by omega
  obtain ⟨g, cap, cur, rfl, hbg, hg, hnc, hcm, hcs, htk⟩ : ∃ g cap cur, v = .slice (some ⟨g, 0, none⟩) n cap ∧ base ≤ g ∧ w.heap[g]? = some (.cells cur 81 (0, 0)) ∧ n ≤ cap ∧ cap ≤ maxLen ∧ cur.size = cap * 4 ∧ cur.toList.take (n * 4) = inner := by
   rcases hown.2 with ⟨_, h0⟩ | h
   ·omega
   ·exact h
  have hne' : vb ≠ g := fun e => hne (by rw [e]; rfl)
  have hglt : g < w.heap.size := (Array.getElem?_eq_some_iff.1 hg).1
  have hc63 : cap ≤ 9223372036854775807 := by unfold maxLen at hcm; omega
  have hcl : cur.toList.length = cap * 4 := by rw [Array.length_toList, hcs]
  have hsplit : cur.toList = inner.take (i * 4) ++ inner.drop (i * 4) ++ cur.toList.drop (n * 4) := by rw [List.take_append_drop, ← htk, List.take_append_drop]
  have ha : (inner.take (i * 4)).length = i * 4 := by rw [List.length_take]; omega
  have hb : (inner.drop (i * 4)).length = (n - i) * 4 := by rw [List.length_drop]; omega
  have hsrc : ∀ (W : World), W.heap[g]? = some (.cells cur 81 (0, 0)) → ∀ j u, (inner.drop (i * 4))[j]? = some u → W.cell? ((⟨g, i * 4, none⟩ : Addr).add j) = some u := fun W hW j u hu => by
   rw [List.getElem?_drop] at hu
   rw [Addr.add_lit]
   have h3 := World.news_of_block hW (i * 4 + j) u (by
    rw [← htk, List.getElem?_take] at hu
    split at hu
    ·exact hu
    ·cases hu)
   rwa [Addr.add_lit, Nat.zero_add] at h3
  have hz2' : ((i : Int) == (n : Int)) = false := beq_eq_false_iff_ne.2 (by omega)
  have hw1 : IntKind.i64.wrap ((i : Int) + 1) = (i : Int) + 1 := by rw [IntKind.wrap_i64]; omega
  have hw2 : IntKind.i64.wrap ((n : Int) + 1) = (n : Int) + 1 := by rw [IntKind.wrap_i64]; omega
  have hw3 : IntKind.i64.wrap ((n : Int) + 1 - (i : Int)) = (n : Int) + 1 - (i : Int) := by rw [IntKind.wrap_i64]; omega
  have htn : ((i : Int) + 1).toNat = i + 1 := by omega
  have htn2 : ((n : Int) + 1).toNat = n + 1 := by omega
  have hci : ¬ (cap = i) := by omega
  by_cases hroom : n + 1 ≤ cap
  ·have hd1 : decide ((cap : Int) < (n : Int) + 1) = false := decide_eq_false (by omega)
   have hb1 : (0 : Int) ≤ (i : Int) + 1 := by omega
   have hci2 : ¬ (cap = i + 1) := by omega
   have hb3 : (i : Int) ≤ (n : Int) + 1 := by omega
   have hb4 : i ≤ n + 1 := by omega
   obtain ⟨cur1, hcur1⟩ : ∃ c_, c_ = (cur.toList.take ((i + 1) * 4) ++ inner.drop (i * 4) ++ cur.toList.drop ((i + 1) * 4 + (inner.drop (i * 4)).length)).toArray := ⟨_, rfl⟩
   obtain ⟨cur2, hcur2⟩ : ∃ c_, c_ = (cur1.toList.take (i * 4) ++ x ++ cur1.toList.drop (i * 4 + x.length)).toArray := ⟨_, rfl⟩
   have hc1s : cur1.size = cap * 4 := by
    rw [hcur1]
    simp only [List.size_toArray, List.length_append, List.length_take, List.length_drop, hcl, hil]
    omega
   have hc2s : cur2.size = cap * 4 := by
    rw [hcur2]
    simp only [List.size_toArray, List.length_append, List.length_take, List.length_drop, Array.length_toList, hc1s, hx]
    omega
   have htake1 : cur.toList.take ((i + 1) * 4) = inner.take (i * 4) ++ (inner.drop (i * 4)).take 4 := by
    have e1 : cur.toList.take ((i + 1) * 4) = inner.take ((i + 1) * 4) := by rw [← htk, List.take_take, Nat.min_eq_left (by omega)]
    rw [e1, show (i + 1) * 4 = i * 4 + 4 by omega, List.take_add]
   have hfin : cur2.toList.take ((n + 1) * 4) = inner.take (i * 4) ++ x ++ inner.drop (i * 4) := by
    rw [hcur2, hcur1, htake1]
    simp only [List.append_assoc]
    have hy : ((inner.drop (i * 4)).take 4).length = x.length := by rw [List.length_take, hb, hx]; omega
    have h3 := ins_seg (inner.take (i * 4)) ((inner.drop (i * 4)).take 4) (inner.drop (i * 4) ++ cur.toList.drop ((i + 1) * 4 + (inner.drop (i * 4)).length)) (inner.take (i * 4)) x rfl hy
    rw [ha] at h3
    simp only [List.append_assoc] at h3
    rw [h3, ← List.append_assoc, ← List.append_assoc, show (n + 1) * 4 = (inner.take (i * 4) ++ x ++ inner.drop (i * 4)).length by simp only [List.length_append, ha, hb, hx]; omega, List.take_left]
    simp only [List.append_assoc]
   have hcp1 : ∀ (W : World), W.heap[g]? = some (.cells cur 81 (0, 0)) → ∀ ty, (Builtin.copy_ #[30, 30] ty #[.slice (some ⟨g, (i + 1) * 4, none⟩) (n + 1 - (i + 1)) (cap - (i + 1)), .slice (some ⟨g, i * 4, none⟩) (n + 1 - i) (cap - i)]).run Try.prog W = .ok (goInt (Nat.min (n + 1 - i) (n + 1 - (i + 1)))) (W.setRow g cur1) := fun W hW ty => by
    rw [hcur1]
    exact ins_copy W 30 30 ty 81 4 g ((i + 1) * 4) (n + 1 - (i + 1)) (cap - (i + 1)) ⟨g, i * 4, none⟩ (n + 1 - i) (cap - i) cur 81 (inner.drop (i * 4)) hu30 hsz hW (by rw [hb]; congr 1; simp only [Nat.min_def]; split <;> omega) (hsrc W hW) (by rw [hb, hcs]; omega) (fun u hu => h1 u (List.mem_of_mem_drop hu))
   have hcp2 : ∀ (W : World), W.heap[g]? = some (.cells cur1 81 (0, 0)) → W.heap[vb]? = some (.cells x.toArray 81 (0, 0)) → ∀ ty, (Builtin.copy_ #[30, 30] ty #[.slice (some ⟨g, i * 4, none⟩) (n + 1 - i) (cap - i), .slice (some ⟨vb, 0, none⟩) 1 1]).run Try.prog W = .ok (goInt (Nat.min 1 (n + 1 - i))) (W.setRow g cur2) := fun W hW hV ty => by
    rw [hcur2]
    exact ins_copy W 30 30 ty 81 4 g (i * 4) (n + 1 - i) (cap - i) ⟨vb, 0, none⟩ 1 1 cur1 81 x hu30 hsz hW (by rw [hx]; simp only [Nat.min_def]; split <;> omega) (fun j u hu => World.news_of_block hV j u (by simpa using hu)) (by rw [hx, hc1s]; omega) hx1
   have hov : ∀ off lb cb, (callFunc 96 #[.slice (some ⟨vb, 0, none⟩) 1 1, .slice (some ⟨g, off, none⟩) lb cb]).run Try.prog w = .ok (.value (.bool false)) w := fun off lb cb => by
    rw [run_callFunc_extern Try.func96 (by kernel_rfl) (by kernel_rfl) (by kernel_rfl) (e := Extern.SlicesOverlaps.overlaps #[30, 30] #[4]) (by kernel_rfl),
     Lib.run_overlaps_apart w 30 4 81 hu30 4 (fun w_ => by simp [sizeOf, typeInfo, hi0, hz1]) ⟨vb, 0, none⟩ ⟨g, off, none⟩ 1 1 lb cb hne' 81 81 x.length cur.size (by simp [World.shape?, hvb]) (by simp [World.shape?, hg]) (by rw [hcs]; omega) (by simp [World.frozen?, hvb]) (by simp [World.frozen?, hvb])]
    rfl
   have hgW : ∀ (W : World), W.heap[g]? = some (.cells cur 81 (0, 0)) → W.heap[vb]? = some (.cells x.toArray 81 (0, 0)) → (W.setRow g cur1).heap[g]? = some (.cells cur1 81 (0, 0)) ∧ (W.setRow g cur1).heap[vb]? = some (.cells x.toArray 81 (0, 0)) := fun W h_ h2_ => ⟨setRow_heap W g cur cur1 81 (0, 0) h_, (setRow_other W g vb cur1 hne').trans h2_⟩
   have HF := am_ hfin
   clear hcur1 hcur2 htake1 hsplit hfin hsrc hown h1 hx1 htk
   go_enter Try.func89, Try.ntmps89
   go_wp2_with (simp only [hov])
   refine start_ (n := 9) (S := fun w' => True) (ds := []) #[false, false, false, false, false, false, false, false, false] (by kernel_rfl) rfl rfl trivial (fun hHeld => ?_)
   refine px_ 0 69 ?_
   refine px_ 1 70 ?_
   refine px_ 2 71 ?_
   refine px_ 3 72 ?_
   refine px_ 4 73 ?_
   refine px_ 5 74 ?_
   refine px_ 6 75 ?_
   refine px_ 7 76 ?_
   refine ox_ 8 77 fun K hK => ?_
   refine ins_step (by rfl) (.tmp 73) (.tmp 76) 30 30 rfl (.slice (some ⟨g, (i + 1) * 4, none⟩) (n + 1 - (i + 1)) (cap - (i + 1))) (.slice (some ⟨g, i * 4, none⟩) (n + 1 - i) (cap - i)) (by first | rfl | simp [Act.eval]) (by first | rfl | simp [Act.eval]) (hcp1 _ (by exact hg) _) ?_
   refine hK.out _ _ trivial (fun hHeld => ?_)
   clear hK K
   refine no_ ?_
   refine done_ (by kernel_rfl) ?_
   obtain ⟨hg1, hv1⟩ := hgW w.drew hg hvb
   go_wp2_with ((with_reducible refine gate_builtin (b := .copy) (xs := #[.tmp 80, .tmp 81]) rfl ?_); refine ins_wp _ rfl (.tmp 80) (.tmp 81) 30 30 rfl _ _ rfl rfl (hcp2 _ hg1 hv1 _) ?_)
   go_ret
   have hg2 := setRow_heap (w.drew.setRow g cur1) g cur1 cur2 81 (0, 0) hg1
   refine ⟨_, rfl, ⟨?_, .inr ⟨g, cap, cur2, rfl, hbg, hg2, hroom, hcm, hc2s, HF.out⟩⟩, ⟨rfl, rfl, rfl, ?_, fun k hk hkn => ?_⟩, .inl rfl⟩
   ·simp only [List.length_append, ha, hb, hx]
    omega
   ·simp [World.setRow]
   ·have hkg : k ≠ g := fun e => hkn (by rw [e]; rfl)
    rw [setRow_other _ g k cur2 hkg, setRow_other _ g k cur1 hkg]
    rfl
  ·have hd1 : decide ((cap : Int) < (n : Int) + 1) = true := decide_eq_true (by omega)
   have hb1 : (0 : Int) ≤ (i : Int) + 1 := by omega
   have hb3 : (i : Int) ≤ (n : Int) := by omega
   have hb4 : i ≤ n + 1 := by omega
   obtain ⟨G, hG⟩ : ∃ G, G = grownCap w (n + 1) cap 81 := ⟨_, rfl⟩
   have hGn : n + 1 ≤ G := by rw [hG]; exact grownCap_ge w _ _ _
   have hGm : G ≤ maxLen := by rw [hG]; exact grownCap_le_maxLen w (n + 1) cap 81 (by unfold maxLen; omega)
   have hG63 : G ≤ 9223372036854775807 := by unfold maxLen at hGm; omega
   have hGi : ¬ (G = i) := by omega
   have hGi2 : ¬ (G = i + 1) := by omega
   obtain ⟨ROW, hROW⟩ : ∃ ROW : Array Value, ROW = (inner.take (i * 4)).toArray ++ Builtin.zeroCells (Value.agg #[.int .i64 0, .int .i64 0, .int .i64 0, .slice none 0 0]).cells (n + 1 - i) ++ Builtin.zeroCells (Value.agg #[.int .i64 0, .int .i64 0, .int .i64 0, .slice none 0 0]).cells (G - (n + 1)) := ⟨_, rfl⟩
   have hRs : ROW.size = G * 4 := by
    rw [hROW]
    simp only [Array.size_append, size_zeroCells, List.size_toArray, ha]
    show i * 4 + (n + 1 - i) * 4 + (G - (n + 1)) * 4 = G * 4
    omega
   have hRt : ROW.toList.take (i * 4) = inner.take (i * 4) := by
    rw [hROW]
    simp only [Array.toList_append, List.append_assoc]
    exact List.take_left' ha
   obtain ⟨W1, hW1⟩ : ∃ W1, W1 = w.drew.alloc (.cells ROW 81) := ⟨_, rfl⟩
   have hrz : ∀ ty, (Builtin.append_ #[30, 3] ty #[.slice (some ⟨g, 0, none⟩) i cap, .int .i64 ((n : Int) + 1 - (i : Int))]).run Try.prog w = .ok (.slice (some ⟨w.heap.size, 0, none⟩) (n + 1) G) W1 := fun ty => by
    have hold : (Builtin.firstCells i0.size i (.slice (some ⟨g, 0, none⟩) i cap)).run Try.prog w.drew = .ok (inner.take (i * 4)).toArray w.drew := by
     rw [hz1]
     exact run_firstCells_some w.drew 4 i ⟨g, 0, none⟩ i cap (inner.take (i * 4)) ha (fun j u hu => by
      refine World.news_of_block (w := w.drew) hg j u ?_
      rw [← htk, List.take_take, List.getElem?_take] at hu
      split at hu
      ·exact hu
      ·cases hu)
    have h := Lib.run_append_grow_zeros w 30 3 ty 81 i0 _ .i64 .i64 hu30 Try.underlying3 hi0 hz0 (some ⟨g, 0, none⟩) i cap (inner.take (i * 4)) hold (n + 1 - i) (by omega) (by omega) (by omega) (by omega) (by rw [hz2]; omega) (by rw [hz2, show i + (n + 1 - i) = n + 1 by omega]; exact growslice_fits (by omega) (by omega))
    rw [show i + (n + 1 - i) = n + 1 by omega] at h
    rw [show (n : Int) + 1 - (i : Int) = ((n + 1 - i : Nat) : Int) by omega, hW1, hROW, hG]
    exact h
   obtain ⟨row1, hrow1⟩ : ∃ c_, c_ = (ROW.toList.take (i * 4) ++ x ++ ROW.toList.drop (i * 4 + x.length)).toArray := ⟨_, rfl⟩
   obtain ⟨row2, hrow2⟩ : ∃ c_, c_ = (row1.toList.take ((i + 1) * 4) ++ inner.drop (i * 4) ++ row1.toList.drop ((i + 1) * 4 + (inner.drop (i * 4)).length)).toArray := ⟨_, rfl⟩
   have hr1s : row1.size = G * 4 := by
    rw [hrow1]
    simp only [List.size_toArray, List.length_append, List.length_take, List.length_drop, Array.length_toList, hRs, hx]
    omega
   have hr2s : row2.size = G * 4 := by
    rw [hrow2]
    simp only [List.size_toArray, List.length_append, List.length_take, List.length_drop, Array.length_toList, hr1s, hil]
    omega
   have hfin : row2.toList.take ((n + 1) * 4) = inner.take (i * 4) ++ x ++ inner.drop (i * 4) := by
    have e1 : row1.toList.take ((i + 1) * 4) = inner.take (i * 4) ++ x := by
     rw [hrow1, hRt]
     show List.take ((i + 1) * 4) (inner.take (i * 4) ++ x ++ _) = _
     exact List.take_left' (by rw [List.length_append, ha, hx]; omega)
    rw [hrow2, e1]
    show List.take ((n + 1) * 4) (inner.take (i * 4) ++ x ++ inner.drop (i * 4) ++ _) = _
    exact List.take_left' (by simp only [List.length_append, ha, hb, hx]; omega)
   have hcpA : ∀ (W : World), W.heap[w.heap.size]? = some (.cells ROW 81 (0, 0)) → W.heap[vb]? = some (.cells x.toArray 81 (0, 0)) → ∀ ty, (Builtin.copy_ #[30, 30] ty #[.slice (some ⟨w.heap.size, i * 4, none⟩) (n + 1 - i) (G - i), .slice (some ⟨vb, 0, none⟩) 1 1]).run Try.prog W = .ok (goInt (Nat.min 1 (n + 1 - i))) (W.setRow w.heap.size row1) := fun W hW hV ty => by
    rw [hrow1]
    exact ins_copy W 30 30 ty 81 4 w.heap.size (i * 4) (n + 1 - i) (G - i) ⟨vb, 0, none⟩ 1 1 ROW 81 x hu30 hsz hW (by rw [hx]; simp only [Nat.min_def]; split <;> omega) (fun j u hu => World.news_of_block hV j u (by simpa using hu)) (by rw [hx, hRs]; omega) hx1
   have hcpB : ∀ (W : World), W.heap[w.heap.size]? = some (.cells row1 81 (0, 0)) → W.heap[g]? = some (.cells cur 81 (0, 0)) → ∀ ty, (Builtin.copy_ #[30, 30] ty #[.slice (some ⟨w.heap.size, (i + 1) * 4, none⟩) (n + 1 - (i + 1)) (G - (i + 1)), .slice (some ⟨g, i * 4, none⟩) (n - i) (cap - i)]).run Try.prog W = .ok (goInt (Nat.min (n - i) (n + 1 - (i + 1)))) (W.setRow w.heap.size row2) := fun W hW hV ty => by
    rw [hrow2]
    exact ins_copy W 30 30 ty 81 4 w.heap.size ((i + 1) * 4) (n + 1 - (i + 1)) (G - (i + 1)) ⟨g, i * 4, none⟩ (n - i) (cap - i) row1 81 (inner.drop (i * 4)) hu30 hsz hW (by rw [hb]; congr 1; simp only [Nat.min_def]; split <;> omega) (hsrc W hV) (by rw [hb, hr1s]; omega) (fun u hu => h1 u (List.mem_of_mem_drop hu))
   have hN1 : W1.heap[w.heap.size]? = some (.cells ROW 81 (0, 0)) := by rw [hW1]; exact heap_alloc_new w.drew _
   have hO1 : ∀ k, k < w.heap.size → W1.heap[k]? = w.heap[k]? := fun k hk => by rw [hW1]; exact heap_alloc_old w.drew _ hk
   have hS1 : w.grownBy W1 (some g) := by rw [hW1]; exact ⟨rfl, rfl, rfl, by simp, fun k hk _ => heap_alloc_old w.drew _ hk⟩
   have hgN : g ≠ w.heap.size := Nat.ne_of_lt hglt
   have hvN : vb ≠ w.heap.size := Nat.ne_of_lt hvlt
   have hV1 := (hO1 vb hvlt).trans hvb
   have hN2 := setRow_heap W1 w.heap.size ROW row1 81 (0, 0) hN1
   have hG2 := (setRow_other W1 w.heap.size g row1 hgN).trans ((hO1 g hglt).trans hg)
   have HF := am_ hfin
   clear hrow1 hrow2 hROW hsplit hfin hsrc hown h1 hx1 htk hW1 hG hRt
   go_enter Try.func89, Try.ntmps89
   go_wp2_with (first | (at_builtin; refine Lib.wpList_append_run _ rfl (.tmp 34) (.tmp 39) 30 3 rfl _ _ rfl rfl _ _ (hrz _) ?_) | ((with_reducible refine gate_builtin (b := .copy) (xs := #[.tmp 43, .tmp 44]) rfl ?_); refine ins_wp _ rfl (.tmp 43) (.tmp 44) 30 30 rfl _ _ rfl rfl (hcpA _ hN1 hV1 _) ?_))
   refine start_ (n := 9) (S := fun w' => True) (ds := []) #[false, false, false, false, false, false, false, false, false] (by kernel_rfl) rfl rfl trivial (fun hHeld => ?_)
   refine px_ 0 46 ?_
   refine px_ 1 47 ?_
   refine px_ 2 48 ?_
   refine px_ 3 49 ?_
   refine px_ 4 50 ?_
   refine px_ 5 51 ?_
   refine px_ 6 52 ?_
   refine px_ 7 53 ?_
   refine ox_ 8 54 fun K hK => ?_
   refine ins_step (by rfl) (.tmp 50) (.tmp 53) 30 30 rfl (.slice (some ⟨w.heap.size, (i + 1) * 4, none⟩) (n + 1 - (i + 1)) (G - (i + 1))) (.slice (some ⟨g, i * 4, none⟩) (n - i) (cap - i)) (by first | rfl | simp [Act.eval]) (by first | rfl | simp [Act.eval]) (hcpB _ (by exact hN2) (by exact hG2) _) ?_
   refine hK.out _ _ trivial (fun hHeld => ?_)
   clear hK K
   refine no_ ?_
   refine done_ (by kernel_rfl) ?_
   go_wp2
   go_ret
   have hN3 := setRow_heap (W1.setRow w.heap.size row1).drew w.heap.size row1 row2 81 (0, 0) hN2
   refine ⟨_, rfl, ⟨?_, .inr ⟨w.heap.size, G, row2, rfl, hbase, hN3, hGn, hGm, hr2s, HF.out⟩⟩, ⟨?_, ?_, ?_, ?_, fun k hk hkn => ?_⟩, .inr rfl⟩
   ·simp only [List.length_append, ha, hb, hx]
    omega
   ·exact hS1.os
   ·exact hS1.tape
   ·exact hS1.output
   ·have := hS1.size
    simpa [World.setRow] using this
   ·have hkN : k ≠ w.heap.size := Nat.ne_of_lt hk
    rw [setRow_other _ w.heap.size k row2 hkN]
    exact (setRow_other W1 w.heap.size k row1 hkN).trans (hO1 k hk)



/-! ### impl_copyBatch: function 90 -/
def impl_copyBatch.f (a0_0 : Int) (a0_1 : Int) (a0_2 : Int) (a0_3 : Int) (l0_4 : List ByteArray) : Option (Int × Int × Int × Int × List ByteArray) := (some (([] : List ByteArray) : List ByteArray)).bind fun y303 => (if y303.length + l0_4.length < 8796093022208 then (some (a0_0, a0_1, a0_2, a0_3, (y303 ++ l0_4))) else (none))
set_option maxHeartbeats 8000000 in
set_option maxRecDepth 100000 in
theorem impl_copyBatch.calls (a0_0 : Int) (a0_1 : Int) (a0_2 : Int) (a0_3 : Int) (A0_4 : Option Addr) (c0_4 : Nat) (l0_4 : List ByteArray) (r1 : Int) (r2 : Int) (r3 : Int) (r4 : Int) (r5 : List ByteArray) (w : World) (hr0_4 : Kd.C Kd.string w A0_4 l0_4.length l0_4) (hc0_4 : l0_4.length ≤ c0_4) (h : impl_copyBatch.f a0_0 a0_1 a0_2 a0_3 l0_4 = some (r1, r2, r3, r4, r5)) :
  Calls Try.prog 90 #[.agg #[.int .i64 a0_0, .int .i64 a0_1, .int .i64 a0_2, .int .i64 a0_3, .slice A0_4 l0_4.length c0_4]] w fun e w' => ∃ v4_ : Value, e = .returned (.agg #[.int .i64 r1, .int .i64 r2, .int .i64 r3, .int .i64 r4, v4_]) ∧ Kd.R Kd.string 9 w' w.heap.size (fun _ => True) v4_ r5 ∧ Below w.heap.size w w' := by
 have hu78 := Try.underlying78
 have HR0_4 := am_ hr0_4
 have HC0_4 := am_ hc0_4
 clear hr0_4 hc0_4
 have HB := am_ (Below.refl w.heap.size w)
 have H : ((some (([] : List ByteArray) : List ByteArray)).bind fun y303 => (if y303.length + l0_4.length < 8796093022208 then (some (a0_0, a0_1, a0_2, a0_3, (y303 ++ l0_4))) else (none))) = some (r1, r2, r3, r4, r5) := h
 clear h
 obtain ⟨y303, hy303⟩ : ∃ y_ : List ByteArray, y_ = (([] : List ByteArray)) := ⟨_, rfl⟩
 replace H : (if y303.length + l0_4.length < 8796093022208 then (some (a0_0, a0_1, a0_2, a0_3, (y303 ++ l0_4))) else (none)) = some (r1, r2, r3, r4, r5) := by first | (rw [hy303]; with_reducible exact H) | (have H2_ := (Option.bind_some _ _).symm.trans H; rw [hy303]; with_reducible exact H2_) | (have H2_ := (Option.bind_some _ _).symm.trans H; with_reducible exact H2_) | with_reducible exact H | (rw [hy303]; exact H) | exact H
 have Ny303 := am_ hy303
 clear hy303
 replace H := ifs_ H
 obtain ⟨c2, H⟩ := H
 have LMc2 := am_ c2
 clear c2
 obtain ⟨y306, hy306⟩ : ∃ y_ : List ByteArray, y_ = (y303 ++ l0_4) := ⟨_, rfl⟩
 replace H : (some (a0_0, a0_1, a0_2, a0_3, y306)) = some (r1, r2, r3, r4, r5) := by first | (rw [hy306]; with_reducible exact H) | (have H2_ := (Option.bind_some _ _).symm.trans H; rw [hy306]; with_reducible exact H2_) | (have H2_ := (Option.bind_some _ _).symm.trans H; with_reducible exact H2_) | with_reducible exact H | (rw [hy306]; exact H) | exact H
 have Ny306 := am_ hy306
 clear hy306
 simp only [Option.some.injEq, Prod.mk.injEq] at H
 obtain ⟨rfl, rfl, rfl, rfl, rfl⟩ := H
 go_enter Try.func90, Try.ntmps90
 go_wp2_with (first | ((with_reducible refine gate_dst (N := 1) rfl ?_); refine bq_ (N := 1) #[.int .i64 a0_0, .int .i64 a0_1, .int .i64 a0_2, .int .i64 a0_3, .slice A0_4 l0_4.length c0_4] 78 ?_; intro gb301 hg w3 BK301 hb; have GE301 := ge_ hg; replace HB := nb_ hb; clear hb hg) | ((with_reducible refine gate_dst (N := 2) rfl ?_); refine bq_ (N := 2) #[.int .i64 0, .int .i64 0, .int .i64 0, .int .i64 0, .slice none 0 0] 78 ?_; intro gb302 hg w4 BK302 hb; have GE302 := ge1_ hg GE301; replace HB := nc_ GE301 hb; have NB301_302 := nl_ BK301 hg; have NB302_301 := ng_ BK301 hg; replace BK301 := bK_ BK301 hb; clear hb hg) | ((with_reducible refine gate_dst (N := 3) rfl ?_); refine Kd.R_lit Kd.string _ 9 ?hg (N := 3) ?hd (xs := ([] : List ByteArray)) (inner := []) (ok := fun _ => True) (okp := fun _ => True) ?hr ?hp (fun _ hk => hk) trivial (Below.refl _ _) (Nat.le_refl _) (by simp) ?_; (case hd => rfl); (case hg => rfl); (case hr => first | (go_simp; done) | (go_simp; rfl)); (case hp => exact (Reps.none _ _)); intro v304 w5 ho6 hb hg_ hnew_; clear hg_ hnew_; (first | rw [← Ny303.out] at ho6 | (simp only [Int.reduceToNat] at ho6; rw [← Ny303.out] at ho6)); have HO305 := am_ (Kd.R_lower ho6 (below_size (hs2_ GE301.out GE302.out))); replace BK301 := bK_ BK301 hb; replace BK302 := bK_ BK302 hb; replace HB := nc2_ GE301 GE302 hb; clear hb ho6; have hnb7 := NB301_302.out; have hnc7 := NB302_301.out; obtain ⟨hcz8_0, hcz8_1, hcz8_2, hcz8_3, hcz8_4, hfz8_0, hfz8_1, hfz8_2, hfz8_3, hfz8_4⟩ := cf5_ BK301.out) | ((with_reducible refine gate_builtin (b := .append) (xs := #[.tmp 3, .tmp 5]) rfl ?_); at_builtin; refine Kd.R_append_rows Kd.string (w0 := w) w.heap.size rfl (.tmp 3) (.tmp 5) 27 9 (.string ⟨#[]⟩) 16 rfl Try.underlying27 info9 rfl (by decide) (by omega) v304 y303 l0_4 _ _ _ (fun _ => True) (fun _ => False) rfl rfl ?aO ?aR (fun _ _ h => h) (fun _ h => h.elim) ?aF ?aB ?aS ?aL ?_; (case aR => exact cs_ ((Kd.C_below HR0_4.out HB.out))); (case aB => exact (hs2_ GE301.out GE302.out)); (case aF => exact (fun _ _ => trivial)); (case aO => exact (kr_ HO305.out)); (case aS => exact (below_size (hs2_ GE301.out GE302.out))); (case aL => have := LMc2.out; omega); intro v307 w9 ho hb hg hat; rw [← Ny306.out] at ho; replace BK301 := am_ (blk_grown (g := gb301) (o := .cells #[.int .i64 a0_0, .int .i64 a0_1, .int .i64 a0_2, .int .i64 a0_3, .slice A0_4 l0_4.length c0_4] 78 (0, 0)) (kb_ BK301.out) hg (Kd.R_ne HO305.out BK301.out (by decide))); replace BK302 := am_ (blk_grown (g := gb302) (o := .cells #[.int .i64 0, .int .i64 0, .int .i64 0, .int .i64 0, .slice none 0 0] 78 (0, 0)) (kb_ BK302.out) hg (Kd.R_ne HO305.out BK302.out (by decide))); replace HB := am_ (hb); have HO308 := am_ (ho); clear HO305; clear ho hb hg hat; obtain ⟨Ao10, co10, eo10⟩ := Kd.R_slice HO308.out; subst eo10; obtain ⟨hcz11_0, hcz11_1, hcz11_2, hcz11_3, hcz11_4, hfz11_0, hfz11_1, hfz11_2, hfz11_3, hfz11_4⟩ := cf5_ BK301.out; obtain ⟨hcz12_0, hcz12_1, hcz12_2, hcz12_3, hcz12_4, hfz12_0, hfz12_1, hfz12_2, hfz12_3, hfz12_4⟩ := cf5_ BK302.out))
 refine bodyPost_ret (results_cell_row rfl _ _ gb302 78 #[.int .i64 a0_0, .int .i64 a0_1, .int .i64 a0_2, .int .i64 a0_3, .slice Ao10 y306.length co10] (0, 0) _ rfl (by (with_reducible repeat (first | refine blk_drewN ?_ _ | refine blk_drew ?_ | refine blk_alloc ?_ _)); refine blk_put (cs := #[.int .i64 a0_0, .int .i64 a0_1, .int .i64 a0_2, .int .i64 a0_3, .slice none 0 0]) ?_ 4 _ rfl; (with_reducible repeat (first | refine blk_drewN ?_ _ | refine blk_drew ?_ | refine blk_alloc ?_ _)); refine blk_put (cs := #[.int .i64 a0_0, .int .i64 a0_1, .int .i64 a0_2, .int .i64 0, .slice none 0 0]) ?_ 3 _ rfl; (with_reducible repeat (first | refine blk_drewN ?_ _ | refine blk_drew ?_ | refine blk_alloc ?_ _)); refine blk_put (cs := #[.int .i64 a0_0, .int .i64 a0_1, .int .i64 0, .int .i64 0, .slice none 0 0]) ?_ 2 _ rfl; (with_reducible repeat (first | refine blk_drewN ?_ _ | refine blk_drew ?_ | refine blk_alloc ?_ _)); refine blk_put (cs := #[.int .i64 a0_0, .int .i64 0, .int .i64 0, .int .i64 0, .slice none 0 0]) ?_ 1 _ rfl; (with_reducible repeat (first | refine blk_drewN ?_ _ | refine blk_drew ?_ | refine blk_alloc ?_ _)); refine blk_put (cs := #[.int .i64 0, .int .i64 0, .int .i64 0, .int .i64 0, .slice none 0 0]) ?_ 0 _ rfl; (with_reducible repeat (first | refine blk_drewN ?_ _ | refine blk_drew ?_ | refine blk_alloc ?_ _)); refine blk_far ?_ NB302_301.out _; (with_reducible repeat (first | refine blk_drewN ?_ _ | refine blk_drew ?_ | refine blk_alloc ?_ _)); exact BK302.out) Try.underlying78 rfl (by kernel_rfl)) rfl ?_
 exact ⟨_, er_, Kd.R_mono (rF_ (Kd.R_far (p := ⟨gb301, 4, none⟩) (Kd.R_types (Kd.R_types HO308.out BK301.out (by decide)) BK302.out (by decide)) (fun _ hk => hk.1.2) (.slice Ao10 y306.length co10))) (fun _ hk => trivial), hs2_ GE301.out GE302.out⟩

/-! ### impl_Batch_end: function 91 -/
def impl_Batch_end.f (a0_0 : Int) (a0_1 : Int) (a0_2 : Int) (a0_3 : Int) (l0_4 : List ByteArray) : Option (Int) := some (wrap64 (a0_0 + (l0_4.length : Int)))
set_option maxHeartbeats 8000000 in
set_option maxRecDepth 100000 in
theorem impl_Batch_end.calls (a0_0 : Int) (a0_1 : Int) (a0_2 : Int) (a0_3 : Int) (A0_4 : Option Addr) (c0_4 : Nat) (l0_4 : List ByteArray) (r : Int) (w : World) (hr0_4 : Kd.C Kd.string w A0_4 l0_4.length l0_4) (hc0_4 : l0_4.length ≤ c0_4) (h : impl_Batch_end.f a0_0 a0_1 a0_2 a0_3 l0_4 = some r) :
  Calls Try.prog 91 #[.agg #[.int .i64 a0_0, .int .i64 a0_1, .int .i64 a0_2, .int .i64 a0_3, .slice A0_4 l0_4.length c0_4]] w fun e w' => e = .returned (.int .i64 r) ∧ Below w.heap.size w w' := by
 have hu78 := Try.underlying78
 have HR0_4 := am_ hr0_4
 have HC0_4 := am_ hc0_4
 clear hr0_4 hc0_4
 have HB := am_ (Below.refl w.heap.size w)
 have H : (some (wrap64 (a0_0 + (l0_4.length : Int)))) = some r := h
 clear h
 obtain rfl := Option.some.inj H
 go_enter Try.func91, Try.ntmps91
 go_wp2_with (first | ((with_reducible refine gate_dst (N := 1) rfl ?_); refine bq_ (N := 1) #[.int .i64 a0_0, .int .i64 a0_1, .int .i64 a0_2, .int .i64 a0_3, .slice A0_4 l0_4.length c0_4] 78 ?_; intro gb309 hg w2 BK309 hb; have GE309 := ge_ hg; replace HB := nb_ hb; clear hb hg; obtain ⟨hcz3_0, hcz3_1, hcz3_2, hcz3_3, hcz3_4, hfz3_0, hfz3_1, hfz3_2, hfz3_3, hfz3_4⟩ := cf5_ BK309.out))
 go_ret
 exact ⟨er_, hs_ GE309.out⟩
end Go.Proofs.Ytojdaolclcmalaa.QFnExactPlayAsks
