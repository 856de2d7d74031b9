/- Functions that one statement reaches: of each a plain function, and the proof that calls come to it. Conditions: those that each contract names. Written by a program of this repository. -/
import Derived.Test.YtffpeklekkpbjaaVTruncateToa
import Derived.Test.YtffpeklekkpbjaaQFnExactTruncateTox2
namespace Go.Proofs.Ytffpeklekkpbjaa.QFnExactTruncateTo
open Go.RowKit Go.Proofs.YtffpeklekkpbjaaW.PrintWords Go.Proofs.YtffpeklekkpbjaaW.PrintLast Go.Proofs.YtffpeklekkpbjaaW.PrintMore
attribute [local go_sem] max2_int min2_int max_two min_two max_three min_three max_four min_four Go.Proofs.YtffpeklekkpbjaaW.PrintMore2.isSome_setCell   -- for this text's walks alone
set_option linter.unusedVariables false
set_option linter.unusedSimpArgs false

/-! ### impl_in: function 58 -/
def impl_in.f (a0 : Int) (a1 : Int) (a2 : Int) : Option (Bool) := if a0 ≥ a1 then (some (decide (a0 ≤ a2))) else (some false)
set_option maxHeartbeats 8000000 in
set_option maxRecDepth 100000 in
theorem impl_in.calls (a0 : Int) (a1 : Int) (a2 : Int) (r : Bool) (w : World) (h : impl_in.f a0 a1 a2 = some r) :
  Calls Try.prog 58 #[.int .i64 a0, .int .i64 a1, .int .i64 a2] w fun e w' => e = .returned (.bool r) ∧ Drawn0 w w' := by
 have H : (if a0 ≥ a1 then (some (decide (a0 ≤ a2))) else (some false)) = some r := h
 clear h
 replace H := ite_ H
 obtain ⟨c4, H⟩ | ⟨c4, H⟩ := H
 rotate_left
 ·have c4b0 := dne_ c4
  clear c4
  obtain rfl := Option.some.inj H
  go_enter Try.func58, Try.ntmps58
  go_wp2
  go_ret
  exact ⟨by first | rfl | (simp; done) | (simp [*]; done), dr_⟩
 have c4b0 := dge_ c4
 clear c4
 obtain rfl := Option.some.inj H
 go_enter Try.func58, Try.ntmps58
 go_wp2
 go_ret
 exact ⟨by first | rfl | (simp; done) | (simp [*]; done), dr_⟩

/-! ### impl_Batch_end: function 77 -/
def impl_Batch_end.f (a0_0 : Int) (a0_1 : Int) (a0_2 : Int) (a0_3 : Int) (l0_4 : List ByteArray) : Option (Int) := some (wrap64 (a0_0 + (l0_4.length : Int)))
set_option maxHeartbeats 8000000 in
set_option maxRecDepth 100000 in
theorem impl_Batch_end.calls (a0_0 : Int) (a0_1 : Int) (a0_2 : Int) (a0_3 : Int) (A0_4 : Option Addr) (c0_4 : Nat) (l0_4 : List ByteArray) (r : Int) (w : World) (hr0_4 : Kd.C Kd.string w A0_4 l0_4.length l0_4) (hc0_4 : l0_4.length ≤ c0_4) (h : impl_Batch_end.f a0_0 a0_1 a0_2 a0_3 l0_4 = some r) :
  Calls Try.prog 77 #[.agg #[.int .i64 a0_0, .int .i64 a0_1, .int .i64 a0_2, .int .i64 a0_3, .slice A0_4 l0_4.length c0_4]] w fun e w' => e = .returned (.int .i64 r) ∧ Below w.heap.size w w' := by
 have hu43 := Try.underlying43
 have HR0_4 := Aside0.mk hr0_4
 have HC0_4 := Aside0.mk hc0_4
 clear hr0_4 hc0_4
 have HB := Aside0.mk (Below.refl w.heap.size w)
 have H : (some (wrap64 (a0_0 + (l0_4.length : Int)))) = some r := h
 clear h
 obtain rfl := Option.some.inj H
 go_enter Try.func77, Try.ntmps77
 go_wp2_with (first | ((with_reducible refine gate_dst (N := 1) rfl ?_); refine bq_ (N := 1) #[.int .i64 a0_0, .int .i64 a0_1, .int .i64 a0_2, .int .i64 a0_3, .slice A0_4 l0_4.length c0_4] 43 ?_; intro gb306 hg w2 BK306 hb; have GE306 := ge_ hg; replace HB := nb_ hb; clear hb hg; obtain ⟨hcz3_0, hcz3_1, hcz3_2, hcz3_3, hcz3_4, hfz3_0, hfz3_1, hfz3_2, hfz3_3, hfz3_4⟩ := cf5_ BK306.out))
 go_ret
 exact ⟨er_, hs_ GE306.out⟩

/-! ### impl_put: function 111 -/
def impl_put.l0 : Nat → Int → List Int → Int → Option (ByteArray)
 | 0, _, _, _ => none
 | k + 1, x0, x5, x6 => if x6 ≥ 0 then (if 0 ≤ x6 then (if x6 < (x5.length : Int) then (impl_put.l0 k (x0 / 256) (x5.set (x6 : Int).toNat ((x0) % 256)) (wrap64 (x6 - 1))) else (none)) else (none)) else (some (strOfNums x5))
def impl_put.f (k : Nat) (a0 : Int) (a1 : Int) : Option (ByteArray) := if 0 ≤ a1 then (if (a1 : Int).toNat ≤ 281474976710656 then (impl_put.l0 k a0 (List.replicate (a1 : Int).toNat 0) (wrap64 (a1 - 1))) else (none)) else (none)
theorem impl_put.mono_l : ∀ k, (∀ y0 y1 y2, LeO (impl_put.l0 k y0 y1 y2) (impl_put.l0 (k + 1) y0 y1 y2))
 | 0 => fun _ _ _ r h => by simp [impl_put.l0] at h
 | k + 1 => by
  have ih0 := impl_put.mono_l k
  ·intro y0 y1 y2
   unfold impl_put.l0
   repeat' first
   | (with_reducible first | apply ih0 | exact LeO.refl _ | exact LeO.none _ | refine LeO.ite ?_ ?_ | refine LeO.bind ?_ (fun _ => ?_))
theorem impl_put.mono : ∀ a0 a1 k, LeO (impl_put.f k a0 a1) (impl_put.f (k + 1) a0 a1) := by
 intro a0 a1 k
 have ih0 := impl_put.mono_l k
 unfold impl_put.f
 repeat' first
   | (with_reducible first | apply ih0 | exact LeO.refl _ | exact LeO.none _ | refine LeO.ite ?_ ?_ | refine LeO.bind ?_ (fun _ => ?_))
set_option maxHeartbeats 8000000 in
set_option maxRecDepth 100000 in
theorem impl_put.calls (k : Nat) (a0 : Int) (a1 : Int) (r : ByteArray) (w : World) (h : impl_put.f k a0 a1 = some r) :
  Calls Try.prog 111 #[.int .i64 a0, .int .i64 a1] w fun e w' => e = .returned (.string r) ∧ Below w.heap.size w w' := by
 have HB := Aside0.mk (Below.refl w.heap.size w)
 have H : (if 0 ≤ a1 then (if (a1 : Int).toNat ≤ 281474976710656 then (impl_put.l0 k a0 (List.replicate (a1 : Int).toNat 0) (wrap64 (a1 - 1))) else (none)) else (none)) = some r := h
 clear h
 replace H := ifs_ H
 obtain ⟨c3, H⟩ := H
 have c3b0 := eq_true c3
 have c3b1 := decide_eq_true c3
 clear c3
 replace H := ifs_ H
 obtain ⟨c4, H⟩ := H
 have c4b0 := eq_true c4
 have c4b1 := decide_eq_true c4
 clear c4
 obtain ⟨y307, hy307⟩ : ∃ y_ : List Int, y_ = (List.replicate (a1 : Int).toNat 0) := ⟨_, rfl⟩
 replace H : (impl_put.l0 k a0 y307 (wrap64 (a1 - 1))) = some r := by first | (rw [hy307]; with_reducible exact H) | (have H2_ := (Option.bind_some _ _).symm.trans H; rw [hy307]; with_reducible exact H2_) | (have H2_ := (Option.bind_some _ _).symm.trans H; with_reducible exact H2_) | with_reducible exact H | (rw [hy307]; exact H) | exact H
 have Ny307 := Aside0.mk hy307
 clear hy307
 have H' := Aside0.mk H
 clear H
 go_enter Try.func111, Try.ntmps111
 go_wp2_with (first | ((with_reducible refine gate_dst (N := 8) rfl ?_); refine Kd.R_make (Kd.int .u8) _ 5 rfl (N := 8) rfl 60 _ _ rfl a1 rfl rfl Try.underlying60 (.int .u8 0) 1 info5 rfl (by decide) (by omega) 0 (ok := fun _ => True) (okp := fun _ => True) rfl (fun _ hk => hk) trivial (oa_) (Nat.le_trans (Nat.mul_le_mul_right _ (oa_ : a1.toNat ≤ 281474976710656)) (by omega)) (Below.refl _ _) (Nat.le_refl _) ?_; intro v308 w5 ho6 hb hg_ hnew_; clear hg_ hnew_; (first | rw [← Ny307.out] at ho6 | (simp only [Int.reduceToNat] at ho6; rw [← Ny307.out] at ho6)); have HO309 := Aside0.mk (Kd.R_lower ho6 (below_size (hb_))); replace HB := nb_ hb; clear hb ho6))
 go_loopg [0, 6] k (fun kq v0 v6 w' => ∃ (x0_1 : Int) (x5_1 : List Int) (x6_1 : Int), v0 = .int .i64 x0_1 ∧ v6 = .int .i64 x6_1 ∧ Aside0 (impl_put.l0 kq x0_1 x5_1 x6_1 = some r) ∧ Aside0 (kq ≤ k) ∧ Aside0 (Kd.R (Kd.int .u8) 5 w' w.heap.size (fun _ => True) v308 x5_1) ∧ Aside0 (Below w.heap.size w w'))
 case atStart => exact ⟨(a0), (y307), (wrap64 (a1 - 1)), sr_, sr_, H', ⟨Nat.le_refl _⟩, ⟨kr_ HO309.out⟩, ⟨hb_⟩⟩
 case round =>
  clear H'
  try clear c3
  try clear c3b0
  try clear c3b1
  try clear c4
  try clear c4b0
  try clear c4b1
  obtain ⟨x0_1, x5_1, x6_1, rfl, rfl, HA, HK1, HO_5, HB⟩ := hrel
  cases gk with
  | zero => exact absurd HA.out (by simp [impl_put.l0])
  | succ k1 =>
   have H := HA.out
   clear HA
   simp only [impl_put.l0] at H
   replace H := ite_ H
   obtain ⟨c7, H⟩ | ⟨c7, H⟩ := H
   rotate_left
   ·have c7b0 := dne_ c7
    clear c7
    obtain rfl := Option.some.inj H
    have hcv13 := own_string (P := Try.prog) Try.underlying60 Try.underlying5 Try.underlying9 (Kd.own_of_R HO_5.out)
    go_wp2
    go_ret
    exact ⟨er_, hb_⟩
   have c7b0 := dge_ c7
   clear c7
   replace H := ifs_ H
   obtain ⟨c8, H⟩ := H
   have c8b0 := decide_eq_true c8
   clear c8
   replace H := ifs_ H
   obtain ⟨c9, H⟩ := H
   have c9b0 := decide_eq_true c9
   clear c9
   obtain ⟨y310, hy310⟩ : ∃ y_ : List Int, y_ = (x5_1.set (x6_1 : Int).toNat ((x0_1) % 256)) := ⟨_, rfl⟩
   replace H : (impl_put.l0 k1 (x0_1 / 256) y310 (wrap64 (x6_1 - 1))) = some r := by first | (rw [hy310]; with_reducible exact H) | (have H2_ := (Option.bind_some _ _).symm.trans H; rw [hy310]; with_reducible exact H2_) | (have H2_ := (Option.bind_some _ _).symm.trans H; with_reducible exact H2_) | with_reducible exact H | (rw [hy310]; exact H) | exact H
   have Ny310 := Aside0.mk hy310
   clear hy310
   have H' := Aside0.mk H
   clear H
   have p10 : 0 ≤ (x6_1 : Int) := oa_
   have q10 : (x6_1 : Int) < ((x5_1.length : Int) : Int) := oa_
   obtain ⟨go10, co10, eo10, gb10, gl10, cl10, HG10⟩ := Kd.R_form HO_5.out (by omega)
   (first | cases eo10 | (injection eo10 with ea_ en_ ec_; (first | subst ea_ | (injection ea_ with ea_; subst ea_)); subst ec_; clear en_))
   have GB10 := Aside0.mk gb10
   have GG10 := Aside0.mk HG10
   clear gb10 gl10 HG10
   obtain ⟨hx10_0, hf10_0⟩ := Kd.R_celln 0 HO_5.out (x6_1 : Int) p10 q10
   replace p10 := eq_true p10
   replace q10 := eq_true q10
   have HP11 := Kd.R_putg HO_5.out (x6_1 : Int) ((x0_1) % 256)
   go_wp2_with (first | ((with_reducible refine gate_store (t := 5) (p := 19) rfl ?_); refine store_event (t := 5) (p := 19) (v := ?vo_w12) (w1 := (wr.setCell ⟨go10, (x6_1 : Int).toNat, none⟩ (.int .u8 ((x0_1) % 256)))) ?hg ?ho ?hn ?hr ?_; (case ho => rfl); (case hg => rfl); (case hn => rfl); (case hr => first | (go_simp; done) | (go_simp; rfl)); intro w12 hw; have hg : wr.grownBy w12 (some go10) := (by rw [hw]; exact HP11.2); have hp_ : Kd.R (Kd.int .u8) 5 w12 w.heap.size (fun _ => True) (.slice (some ⟨go10, 0, none⟩) x5_1.length co10) y310 := (by rw [hw, Ny310.out]; exact HP11.1); clear HP11; replace HO_5 := Aside0.mk (hp_); replace HB := Aside0.mk ((by rw [hw]; exact below_set (HB.out) GB10.out : Below w.heap.size w w12)); clear hg hw hp_))
   go_roundg k1
   case measure => have := HK1.out; omega
   case rel => exact ⟨(x0_1 / 256), (y310), (wrap64 (x6_1 - 1)), sr_, sr_, H', ⟨by have := HK1.out; omega⟩, ⟨kr_ HO_5.out⟩, ⟨hb_⟩⟩

/-! ### impl_sumOf: function 112 -/
mutual
def impl_sumOf.l0 : Nat → ByteArray → Int → Int → Int → Option (Int)
 | 0, _, _, _, _ => none
 | k + 1, x0, x3, x7, x8 => if x8 < x7 then (if 0 ≤ x8 then (if x8 < (x0.size : Int) then (impl_sumOf.l1 k x0 (Go.bits .xor .i64 x3 (wrap64 ((wrap64 (bt x0 x8)) * 256))) x7 x8 0) else (none)) else (none)) else (some x3)
def impl_sumOf.l1 : Nat → ByteArray → Int → Int → Int → Int → Option (Int)
 | 0, _, _, _, _, _ => none
 | k + 1, x0, x3, x7, x8, x18 => if x18 < 8 then (if (Go.bits .and .i64 x3 32768) = 0 then (impl_sumOf.l1 k x0 (Go.bits .and .i64 (wrap64 (x3 * 2)) 65535) x7 x8 (wrap64 (x18 + 1))) else (impl_sumOf.l1 k x0 (Go.bits .xor .i64 (Go.bits .and .i64 (wrap64 (x3 * 2)) 65535) 4129) x7 x8 (wrap64 (x18 + 1)))) else (impl_sumOf.l0 k x0 x3 x7 (wrap64 (x8 + 1)))
end
def impl_sumOf.f (k : Nat) (a0 : ByteArray) : Option (Int) := impl_sumOf.l0 k a0 65535 (a0.size : Int) 0
theorem impl_sumOf.mono_l : ∀ k, (∀ y0 y1 y2 y3, LeO (impl_sumOf.l0 k y0 y1 y2 y3) (impl_sumOf.l0 (k + 1) y0 y1 y2 y3)) ∧ (∀ y0 y1 y2 y3 y4, LeO (impl_sumOf.l1 k y0 y1 y2 y3 y4) (impl_sumOf.l1 (k + 1) y0 y1 y2 y3 y4))
 | 0 => ⟨fun _ _ _ _ r h => by simp [impl_sumOf.l0] at h, fun _ _ _ _ _ r h => by simp [impl_sumOf.l1] at h⟩
 | k + 1 => by
  obtain ⟨ih0, ih1⟩ := impl_sumOf.mono_l k
  refine ⟨?_, ?_⟩
  all_goals intros; first | unfold impl_sumOf.l0 | unfold impl_sumOf.l1
  all_goals repeat' first | (with_reducible first | apply ih0 | apply ih1 | exact LeO.refl _ | exact LeO.none _ | refine LeO.ite ?_ ?_ | refine LeO.bind ?_ (fun _ => ?_))
theorem impl_sumOf.mono : ∀ a0 k, LeO (impl_sumOf.f k a0) (impl_sumOf.f (k + 1) a0) := by
 intro a0 k
 obtain ⟨ih0, ih1⟩ := impl_sumOf.mono_l k
 unfold impl_sumOf.f
 repeat' first
   | (with_reducible first | apply ih0 | apply ih1 | exact LeO.refl _ | exact LeO.none _ | refine LeO.ite ?_ ?_ | refine LeO.bind ?_ (fun _ => ?_))
set_option maxHeartbeats 8000000 in
set_option maxRecDepth 100000 in
theorem impl_sumOf.calls (k : Nat) (a0 : ByteArray) (r : Int) (w : World) (h : impl_sumOf.f k a0 = some r) :
  Calls Try.prog 112 #[.string a0] w fun e w' => e = .returned (.int .i64 r) ∧ Drawn0 w w' := by
 have H : (impl_sumOf.l0 k a0 65535 (a0.size : Int) 0) = some r := h
 clear h
 have H' := Aside0.mk H
 clear H
 go_enter Try.func112, Try.ntmps112
 go_wp2
 go_loopg [3, 8] k (fun kq v3 v8 w' => ∃ (x3_1 : Int) (x8_1 : Int), v3 = .int .i64 x3_1 ∧ v8 = .int .i64 x8_1 ∧ Aside0 (impl_sumOf.l0 kq a0 x3_1 (a0.size : Int) x8_1 = some r) ∧ Aside0 (kq ≤ k) ∧ Drawn0 w w')
 case atStart => exact ⟨(65535), (0), sr_, sr_, H', ⟨Nat.le_refl _⟩, dr_⟩
 case round =>
  clear H'
  obtain ⟨x3_1, x8_1, rfl, rfl, HA, HK1, ⟨m1, rfl⟩⟩ := hrel
  cases gk with
  | zero => exact absurd HA.out (by simp [impl_sumOf.l0])
  | succ k1 =>
   have H := HA.out
   clear HA
   simp only [impl_sumOf.l0] at H
   replace H := ite_ H
   obtain ⟨c2, H⟩ | ⟨c2, H⟩ := H
   rotate_left
   ·have c2b0 := decide_eq_false c2
    clear c2
    obtain rfl := Option.some.inj H
    go_wp2
    go_ret
    exact ⟨by first | rfl | (simp; done) | (simp [*]; done), dr_⟩
   have c2b0 := decide_eq_true c2
   clear c2
   replace H := ifs_ H
   obtain ⟨c3, H⟩ := H
   have c3b0 := decide_eq_true c3
   clear c3
   replace H := ifs_ H
   obtain ⟨c4, H⟩ := H
   have c4b0 := decide_eq_true c4
   clear c4
   have H' := Aside0.mk H
   clear H
   have p5 : 0 ≤ (x8_1 : Int) := oa_
   have q5 : x8_1 < (a0.size : Int) := oa_
   have hx5 := bt_at a0 x8_1
   replace p5 := eq_true p5
   replace q5 := eq_true q5
   go_wp2
   go_loopg [3, 18] k1 (fun kq v3 v18 w' => ∃ (x3_2 : Int) (x18_2 : Int), v3 = .int .i64 x3_2 ∧ v18 = .int .i64 x18_2 ∧ Aside0 (impl_sumOf.l1 kq a0 x3_2 (a0.size : Int) x8_1 x18_2 = some r) ∧ Aside0 (kq ≤ k1) ∧ Drawn0 w w')
   case atStart => exact ⟨(Go.bits .xor .i64 x3_1 (wrap64 ((wrap64 (bt a0 x8_1)) * 256))), (0), sr_, sr_, H', ⟨Nat.le_refl _⟩, dr_⟩
   case round =>
    clear H'
    try clear c2
    try clear c2b0
    try clear c3
    try clear c3b0
    try clear c4
    try clear c4b0
    try clear p5
    try clear q5
    try clear hx5
    try clear p5
    try clear q5
    obtain ⟨x3_2, x18_2, rfl, rfl, HA, HK2, ⟨m2, rfl⟩⟩ := hrel
    cases gk with
    | zero => exact absurd HA.out (by simp [impl_sumOf.l1])
    | succ k2 =>
     have H := HA.out
     clear HA
     simp only [impl_sumOf.l1] at H
     replace H := ite_ H
     obtain ⟨c6, H⟩ | ⟨c6, H⟩ := H
     rotate_left
     ·have c6b0 := decide_eq_false c6
      clear c6
      have H' := Aside0.mk H
      clear H
      go_wp2
      go_roundg k2
      case measure => have := HK1.out; have := HK2.out; omega
      case rel => exact ⟨(x3_2), (wrap64 (x8_1 + 1)), sr_, sr_, H', ⟨by have := HK1.out; have := HK2.out; omega⟩, dr_⟩
     have c6b0 := decide_eq_true c6
     clear c6
     replace H := ite_ H
     obtain ⟨c7, H⟩ | ⟨c7, H⟩ := H
     ·have c7b0 : ((Go.bits .and .i64 x3_2 32768) == 0) = true := beq_iff_eq.mpr c7
      have c7b1 : ((Go.bits .and .i64 x3_2 32768) != 0) = false := bne_eq_false_iff_eq.mpr c7
      clear c7
      have H' := Aside0.mk H
      clear H
      go_wp2
      go_roundg k2
      case measure => have := HK1.out; have := HK2.out; omega
      case rel => exact ⟨(Go.bits .and .i64 (wrap64 (x3_2 * 2)) 65535), (wrap64 (x18_2 + 1)), sr_, sr_, H', ⟨by have := HK1.out; have := HK2.out; omega⟩, dr_⟩
     have c7b0 : ((Go.bits .and .i64 x3_2 32768) == 0) = false := beq_eq_false_iff_ne.mpr c7
     have c7b1 : ((Go.bits .and .i64 x3_2 32768) != 0) = true := bne_iff_ne.mpr c7
     have H' := Aside0.mk H
     clear H
     go_wp2
     go_roundg k2
     case measure => have := HK1.out; have := HK2.out; omega
     case rel => exact ⟨(Go.bits .xor .i64 (Go.bits .and .i64 (wrap64 (x3_2 * 2)) 65535) 4129), (wrap64 (x18_2 + 1)), sr_, sr_, H', ⟨by have := HK1.out; have := HK2.out; omega⟩, dr_⟩
/-! ### impl_batchBytes: function 84 -/
def impl_batchBytes.l0 : Nat → ByteArray → List ByteArray → Int → Int → Option (ByteArray)
 | 0, _, _, _, _ => none
 | k + 1, x3, x28, x29, x30 => if x30 < x29 then (if 0 ≤ x30 then (if x30 < (x28.length : Int) then ((impl_put.f k ((rdOf ByteArray.empty x28 x30).size : Int) 1).bind fun t318 => (if t318.size + (rdOf ByteArray.empty x28 x30).size ≤ 9223372036854775807 then (if x3.size + (t318 ++ (rdOf ByteArray.empty x28 x30)).size ≤ 9223372036854775807 then (impl_batchBytes.l0 k (x3 ++ (t318 ++ (rdOf ByteArray.empty x28 x30))) x28 x29 (wrap64 (x30 + 1))) else (none)) else (none))) else (none)) else (none)) else ((impl_put.f k (wrap64 ((x3.size : Int) + 2)) 2).bind fun t319 => (if t319.size + x3.size ≤ 9223372036854775807 then ((impl_sumOf.f k (t319 ++ x3)).bind fun t320 => ((impl_put.f k t320 2).bind fun t321 => (if (t319 ++ x3).size + t321.size ≤ 9223372036854775807 then (some ((t319 ++ x3) ++ t321)) else (none)))) else (none)))
def impl_batchBytes.f (k : Nat) (a0_0 : Int) (a0_1 : Int) (a0_2 : Int) (a0_3 : Int) (l0_4 : List ByteArray) : Option (ByteArray) := (impl_put.f k a0_0 3).bind fun t312 => ((impl_put.f k a0_1 2).bind fun t313 => (if t312.size + t313.size ≤ 9223372036854775807 then ((impl_put.f k a0_2 2).bind fun t314 => (if (t312 ++ t313).size + t314.size ≤ 9223372036854775807 then ((impl_put.f k a0_3 2).bind fun t315 => (if ((t312 ++ t313) ++ t314).size + t315.size ≤ 9223372036854775807 then ((impl_put.f k (l0_4.length : Int) 1).bind fun t316 => (if (((t312 ++ t313) ++ t314) ++ t315).size + t316.size ≤ 9223372036854775807 then (impl_batchBytes.l0 k ((((t312 ++ t313) ++ t314) ++ t315) ++ t316) l0_4 (l0_4.length : Int) 0) else (none))) else (none))) else (none))) else (none)))
theorem impl_batchBytes.mono_l : ∀ k, (∀ y0 y1 y2 y3, LeO (impl_batchBytes.l0 k y0 y1 y2 y3) (impl_batchBytes.l0 (k + 1) y0 y1 y2 y3))
 | 0 => fun _ _ _ _ r h => by simp [impl_batchBytes.l0] at h
 | k + 1 => by
  have ih0 := impl_batchBytes.mono_l k
  ·intro y0 y1 y2 y3
   unfold impl_batchBytes.l0
   repeat' first
   | (with_reducible first | apply ih0 | apply impl_put.mono | apply impl_sumOf.mono | exact LeO.refl _ | exact LeO.none _ | refine LeO.ite ?_ ?_ | refine LeO.bind ?_ (fun _ => ?_))
theorem impl_batchBytes.mono : ∀ a0 a1 a2 a3 a4 k, LeO (impl_batchBytes.f k a0 a1 a2 a3 a4) (impl_batchBytes.f (k + 1) a0 a1 a2 a3 a4) := by
 intro a0 a1 a2 a3 a4 k
 have ih0 := impl_batchBytes.mono_l k
 unfold impl_batchBytes.f
 repeat' first
   | (with_reducible first | apply ih0 | apply impl_put.mono | apply impl_sumOf.mono | exact LeO.refl _ | exact LeO.none _ | refine LeO.ite ?_ ?_ | refine LeO.bind ?_ (fun _ => ?_))
def impl_batchBytes.T1 : Bool × List (List Nat × List Nat) := (true, [([], []), ([0], [0]), ([1], [1]), ([], []), ([3], [3]), ([4, 2], [4]), ([2, 5], [2, 5]), ([], []), ([7], [7]), ([8, 5], [8]), ([6, 9], [6, 9]), ([], []), ([11], [11]), ([12, 9], [12]), ([10, 13], [10, 13]), ([], []), ([15], [15]), ([16], [16]), ([17, 13], [17]), ([14, 18], [14, 18]), ([19, 18, 0, 1, 2, 3, 4, 5, 6, 7, 8, 9, 10, 11, 12, 13, 14, 15, 16, 17, 18, 19], [19])])
def impl_batchBytes.B1 : List Nat := [0, 1, 3, 0, 8, 31, 63, 0, 128, 447, 1023, 0, 2048, 7103, 16383, 0, 32768, 98304, 244671, 524287, 1048575]
theorem impl_batchBytes.tab1 : rtab .any (opsOf Try.f84 1) = impl_batchBytes.T1 := by kernel_rfl
theorem impl_batchBytes.bits1 : waitsOk impl_batchBytes.T1.2 impl_batchBytes.B1 = true := by kernel_rfl
set_option maxHeartbeats 8000000 in
set_option maxRecDepth 100000 in
theorem impl_batchBytes.calls (k : Nat) (a0_0 : Int) (a0_1 : Int) (a0_2 : Int) (a0_3 : Int) (A0_4 : Option Addr) (c0_4 : Nat) (l0_4 : List ByteArray) (r : ByteArray) (w : World) (hr0_4 : Kd.C Kd.string w A0_4 l0_4.length l0_4) (hc0_4 : l0_4.length ≤ c0_4) (h : impl_batchBytes.f k a0_0 a0_1 a0_2 a0_3 l0_4 = some r) :
  Calls Try.prog 84 #[.agg #[.int .i64 a0_0, .int .i64 a0_1, .int .i64 a0_2, .int .i64 a0_3, .slice A0_4 l0_4.length c0_4]] w fun e w' => e = .returned (.string r) ∧ Below w.heap.size w w' := by
 have hu43 := Try.underlying43
 have HR0_4 := Aside0.mk hr0_4
 have HC0_4 := Aside0.mk hc0_4
 clear hr0_4 hc0_4
 have HB := Aside0.mk (Below.refl w.heap.size w)
 have H : ((impl_put.f k a0_0 3).bind fun t312 => ((impl_put.f k a0_1 2).bind fun t313 => (if t312.size + t313.size ≤ 9223372036854775807 then ((impl_put.f k a0_2 2).bind fun t314 => (if (t312 ++ t313).size + t314.size ≤ 9223372036854775807 then ((impl_put.f k a0_3 2).bind fun t315 => (if ((t312 ++ t313) ++ t314).size + t315.size ≤ 9223372036854775807 then ((impl_put.f k (l0_4.length : Int) 1).bind fun t316 => (if (((t312 ++ t313) ++ t314) ++ t315).size + t316.size ≤ 9223372036854775807 then (impl_batchBytes.l0 k ((((t312 ++ t313) ++ t314) ++ t315) ++ t316) l0_4 (l0_4.length : Int) 0) else (none))) else (none))) else (none))) else (none)))) = some r := h
 clear h
 replace H := bnd_ H
 obtain ⟨t312, A2, H⟩ := H
 replace H := bnd_ H
 obtain ⟨t313, A3, H⟩ := H
 replace H := ifs_ H
 obtain ⟨c4, H⟩ := H
 have c4b0 := eq_true c4
 have c4b1 := decide_eq_true c4
 try have c4b2 : (9223372036854775807 < t312.size + t313.size) = False := eq_false (Nat.not_lt.2 c4)
 try have c4w := cw_ c4
 replace H := bnd_ H
 obtain ⟨t314, A5, H⟩ := H
 replace H := ifs_ H
 obtain ⟨c6, H⟩ := H
 have c6b0 := eq_true c6
 have c6b1 := decide_eq_true c6
 try have c6b2 : (9223372036854775807 < (t312 ++ t313).size + t314.size) = False := eq_false (Nat.not_lt.2 c6)
 try have c6b3 : t312.size + t313.size + t314.size ≤ 9223372036854775807 := by (have h_ := c6; simp only [ByteArray.size_append] at h_; exact h_)
 try have c6b4 : (9223372036854775807 < t312.size + t313.size + t314.size) = False := eq_false (Nat.not_lt.2 c6b3)
 try have c6w := cw_ c6
 (try rw [c6w] at c4b0)
 replace H := bnd_ H
 obtain ⟨t315, A7, H⟩ := H
 replace H := ifs_ H
 obtain ⟨c8, H⟩ := H
 have c8b0 := eq_true c8
 have c8b1 := decide_eq_true c8
 try have c8b2 : (9223372036854775807 < ((t312 ++ t313) ++ t314).size + t315.size) = False := eq_false (Nat.not_lt.2 c8)
 try have c8b3 : t312.size + t313.size + t314.size + t315.size ≤ 9223372036854775807 := by (have h_ := c8; simp only [ByteArray.size_append] at h_; exact h_)
 try have c8b4 : (9223372036854775807 < t312.size + t313.size + t314.size + t315.size) = False := eq_false (Nat.not_lt.2 c8b3)
 try have c8w := cw_ c8
 (try rw [c8w] at c4b0)
 (try rw [c8w] at c6b0)
 replace H := bnd_ H
 obtain ⟨t316, A9, H⟩ := H
 replace H := ifs_ H
 obtain ⟨c10, H⟩ := H
 have c10b0 := eq_true c10
 have c10b1 := decide_eq_true c10
 try have c10b2 : (9223372036854775807 < (((t312 ++ t313) ++ t314) ++ t315).size + t316.size) = False := eq_false (Nat.not_lt.2 c10)
 try have c10b3 : t312.size + t313.size + t314.size + t315.size + t316.size ≤ 9223372036854775807 := by (have h_ := c10; simp only [ByteArray.size_append] at h_; exact h_)
 try have c10b4 : (9223372036854775807 < t312.size + t313.size + t314.size + t315.size + t316.size) = False := eq_false (Nat.not_lt.2 c10b3)
 try have c10w := cw_ c10
 (try rw [c10w] at c4b0)
 (try rw [c10w] at c6b0)
 (try rw [c10w] at c8b0)
 have H' := Aside0.mk H
 clear H
 go_enter Try.func84, Try.ntmps84
 try go_wp2_with (first | ((with_reducible refine gate_dst (N := 1) rfl ?_); refine bq_ (N := 1) #[.int .i64 a0_0, .int .i64 a0_1, .int .i64 a0_2, .int .i64 a0_3, .slice A0_4 l0_4.length c0_4] 43 ?_; intro gb311 hg w11 BK311 hb; have GE311 := ge_ hg; replace HB := nb_ hb; clear hb hg))
 replace BK311 := qK_ BK311
 replace HB := qH_ HB
 refine start_ (n := 21) (S := fun w' => w'.cell? ⟨gb311, 0, none⟩ = some (.int .i64 a0_0) ∧ w'.cell? ⟨gb311, 1, none⟩ = some (.int .i64 a0_1) ∧ w'.cell? ⟨gb311, 2, none⟩ = some (.int .i64 a0_2) ∧ w'.cell? ⟨gb311, 3, none⟩ = some (.int .i64 a0_3) ∧ w'.cell? ⟨gb311, 4, none⟩ = some (.slice A0_4 l0_4.length c0_4)) (ds := []) (List.replicate 21 false).toArray (by kernel_rfl) rfl rfl ⟨bt_ BK311 0, bt_ BK311 1, bt_ BK311 2, bt_ BK311 3, bt_ BK311 4⟩ (fun hHeld => ?_); refine with_tabW impl_batchBytes.tab1 impl_batchBytes.bits1 (fun HT_ HW_ => ?_)
 generalize w11.drew = w12 at BK311 HB hHeld ⊢
 refine pv_ 0 7 ?_
 refine pv_ 3 10 ?_
 refine pv_ 7 14 ?_
 refine pv_ 11 18 ?_
 refine pv_ 15 22 ?_
 refine tk_ 1 8 ?_
 refine tk_ 4 11 ?_
 refine tk_ 8 15 ?_
 refine tk_ 12 19 ?_
 refine tk_ 16 23 ?_
 refine pv_ 17 24 ?_
 refine on_ 2 9 (fun K hK => ?_)
 refine gs_ Try.func111 #[.int .i64 a0_0, .int .i64 3] rfl ma_ ?_
 with_reducible refine (impl_put.calls k a0_0 3 t312 _ A2.out).mono ?_
 rintro e w13 ⟨rfl, hb⟩
 refine ⟨_, rfl, ?_⟩
 replace BK311 := bK_ BK311 hb
 replace HB := nc_ GE311 hb
 (try clear hb)
 (try clear hb2)
 (try clear hk)
 (try clear hi)
 refine hK.out _ _ ⟨bt_ BK311 0, bt_ BK311 1, bt_ BK311 2, bt_ BK311 3, bt_ BK311 4⟩ (fun hHeld => ?_)
 clear hK K
 refine no_ ?_
 refine on_ 5 12 (fun K hK => ?_)
 refine gs_ Try.func111 #[.int .i64 a0_1, .int .i64 2] rfl ma_ ?_
 with_reducible refine (impl_put.calls k a0_1 2 t313 _ A3.out).mono ?_
 rintro e w14 ⟨rfl, hb⟩
 refine ⟨_, rfl, ?_⟩
 replace BK311 := bK_ BK311 hb
 replace HB := nc_ GE311 hb
 (try clear hb)
 (try clear hb2)
 (try clear hk)
 (try clear hi)
 refine hK.out _ _ ⟨bt_ BK311 0, bt_ BK311 1, bt_ BK311 2, bt_ BK311 3, bt_ BK311 4⟩ (fun hHeld => ?_)
 clear hK K
 refine no_ ?_
 refine pv_ 6 13 ?_
 refine on_ 9 16 (fun K hK => ?_)
 refine gs_ Try.func111 #[.int .i64 a0_2, .int .i64 2] rfl ma_ ?_
 with_reducible refine (impl_put.calls k a0_2 2 t314 _ A5.out).mono ?_
 rintro e w15 ⟨rfl, hb⟩
 refine ⟨_, rfl, ?_⟩
 replace BK311 := bK_ BK311 hb
 replace HB := nc_ GE311 hb
 (try clear hb)
 (try clear hb2)
 (try clear hk)
 (try clear hi)
 refine hK.out _ _ ⟨bt_ BK311 0, bt_ BK311 1, bt_ BK311 2, bt_ BK311 3, bt_ BK311 4⟩ (fun hHeld => ?_)
 clear hK K
 refine no_ ?_
 refine pv_ 10 17 ?_
 refine on_ 13 20 (fun K hK => ?_)
 refine gs_ Try.func111 #[.int .i64 a0_3, .int .i64 2] rfl ma_ ?_
 with_reducible refine (impl_put.calls k a0_3 2 t315 _ A7.out).mono ?_
 rintro e w16 ⟨rfl, hb⟩
 refine ⟨_, rfl, ?_⟩
 replace BK311 := bK_ BK311 hb
 replace HB := nc_ GE311 hb
 (try clear hb)
 (try clear hb2)
 (try clear hk)
 (try clear hi)
 refine hK.out _ _ ⟨bt_ BK311 0, bt_ BK311 1, bt_ BK311 2, bt_ BK311 3, bt_ BK311 4⟩ (fun hHeld => ?_)
 clear hK K
 refine no_ ?_
 refine pv_ 14 21 ?_
 refine on_ 18 25 (fun K hK => ?_)
 refine gs_ Try.func111 #[.int .i64 (l0_4.length : Int), .int .i64 1] rfl ma_ ?_
 with_reducible refine (impl_put.calls k (l0_4.length : Int) 1 t316 _ A9.out).mono ?_
 rintro e w17 ⟨rfl, hb⟩
 refine ⟨_, rfl, ?_⟩
 replace BK311 := bK_ BK311 hb
 replace HB := nc_ GE311 hb
 (try clear hb)
 (try clear hb2)
 (try clear hk)
 (try clear hi)
 refine hK.out _ _ ⟨bt_ BK311 0, bt_ BK311 1, bt_ BK311 2, bt_ BK311 3, bt_ BK311 4⟩ (fun hHeld => ?_)
 clear hK K
 refine no_ ?_
 refine pv_ 19 26 ?_
 refine pv_ 20 3 ?_
 refine done_ (done_of HT_.out (by kernel_rfl)) ?_
 obtain ⟨hcz18_0, hcz18_1, hcz18_2, hcz18_3, hcz18_4, hfz18_0, hfz18_1, hfz18_2, hfz18_3, hfz18_4⟩ := cf5_ BK311.out
 try go_wp2
 go_loopg [3, 30] k (fun kq v3 v30 w' => ∃ (x3_1 : ByteArray) (x30_1 : Int), v3 = .string x3_1 ∧ v30 = .int .i64 x30_1 ∧ Aside0 (impl_batchBytes.l0 kq x3_1 l0_4 (l0_4.length : Int) x30_1 = some r) ∧ Aside0 (kq ≤ k) ∧ Aside0 (w'.heap[gb311]? = some (.cells #[.int .i64 a0_0, .int .i64 a0_1, .int .i64 a0_2, .int .i64 a0_3, (.slice A0_4 l0_4.length c0_4)] 43 (0, 0))) ∧ Aside0 (Below w.heap.size w w'))
 case atStart => exact ⟨((((t312 ++ t313) ++ t314) ++ t315) ++ t316), (0), sr_, sr_, H', ⟨Nat.le_refl _⟩, ⟨kb_ BK311.out⟩, ⟨hs_ GE311.out⟩⟩
 case round =>
  clear H'
  try clear c4
  try clear c4b0
  try clear c4b1
  try clear c4b2
  try clear c6
  try clear c6b0
  try clear c6b1
  try clear c6b2
  try clear c8
  try clear c8b0
  try clear c8b1
  try clear c8b2
  try clear c10
  try clear c10b0
  try clear c10b1
  try clear c10b2
  try clear hcz18_0
  try clear hcz18_1
  try clear hcz18_2
  try clear hcz18_3
  try clear hcz18_4
  try clear hfz18_0
  try clear hfz18_1
  try clear hfz18_2
  try clear hfz18_3
  try clear hfz18_4
  obtain ⟨x3_1, x30_1, rfl, rfl, HA, HK1, BK311, HB⟩ := hrel
  cases gk with
  | zero => exact absurd HA.out (by simp [impl_batchBytes.l0])
  | succ k1 =>
   have H := HA.out
   clear HA
   simp only [impl_batchBytes.l0] at H
   replace H := ite_ H
   obtain ⟨c19, H⟩ | ⟨c19, H⟩ := H
   ·have c19b0 := decide_eq_true c19
    clear c19
    replace H := ifs_ H
    obtain ⟨c20, H⟩ := H
    have c20b0 := decide_eq_true c20
    clear c20
    replace H := ifs_ H
    obtain ⟨c21, H⟩ := H
    have c21b0 := decide_eq_true c21
    clear c21
    replace H := bnd_ H
    obtain ⟨t318, A22, H⟩ := H
    replace H := ifs_ H
    obtain ⟨c23, H⟩ := H
    have c23b0 := eq_true c23
    have c23b1 := decide_eq_true c23
    try have c23b2 : (9223372036854775807 < t318.size + (rdOf ByteArray.empty l0_4 x30_1).size) = False := eq_false (Nat.not_lt.2 c23)
    try have c23w := cw_ c23
    (try rw [c23w] at c4b0)
    (try rw [c23w] at c6b0)
    (try rw [c23w] at c8b0)
    (try rw [c23w] at c10b0)
    (try rw [c23w] at c19b0)
    (try rw [c23w] at c20b0)
    (try rw [c23w] at c21b0)
    replace H := ifs_ H
    obtain ⟨c24, H⟩ := H
    have c24b0 := eq_true c24
    have c24b1 := decide_eq_true c24
    try have c24b2 : (9223372036854775807 < x3_1.size + (t318 ++ (rdOf ByteArray.empty l0_4 x30_1)).size) = False := eq_false (Nat.not_lt.2 c24)
    try have c24b3 : x3_1.size + (t318.size + (rdOf ByteArray.empty l0_4 x30_1).size) ≤ 9223372036854775807 := by (have h_ := c24; simp only [ByteArray.size_append] at h_; exact h_)
    try have c24b4 : (9223372036854775807 < x3_1.size + (t318.size + (rdOf ByteArray.empty l0_4 x30_1).size)) = False := eq_false (Nat.not_lt.2 c24b3)
    try have c24w := cw_ c24
    (try rw [c24w] at c4b0)
    (try rw [c24w] at c6b0)
    (try rw [c24w] at c8b0)
    (try rw [c24w] at c10b0)
    (try rw [c24w] at c19b0)
    (try rw [c24w] at c20b0)
    (try rw [c24w] at c21b0)
    (try rw [c24w] at c23b0)
    have H' := Aside0.mk H
    clear H
    have p317 : 0 ≤ (x30_1 : Int) := oa_
    have q317 : x30_1 < (l0_4.length : Int) := oa_
    obtain ⟨ad317, e317, hx317_0⟩ := Kd.at_string HR0_4.out x30_1 p317 q317
    cases e317
    replace hx317_0 := pc_ HB.out hx317_0
    replace p317 := eq_true p317
    replace q317 := eq_true q317
    go_wp2_with (first | ((with_reducible refine gate_callee (f := 111) rfl ?_); refine gl_ 37 Try.func111 #[.int .i64 ((rdOf ByteArray.empty l0_4 x30_1).size : Int), .int .i64 1] rfl ma_ ?_; (with_reducible refine (impl_put.calls k1 ((rdOf ByteArray.empty l0_4 x30_1).size : Int) 1 t318 _ A22.out).mono ?_); rintro e w25 ⟨rfl, hb⟩; refine ⟨_, rfl, ?_⟩; replace BK311 := bK_ BK311 hb; replace HB := nc_ GE311 hb; (try clear hb); (try clear hb2); (try clear hk); (try clear hi)))
    go_roundg k1
    case measure => have := HK1.out; omega
    case rel => exact ⟨(x3_1 ++ (t318 ++ (rdOf ByteArray.empty l0_4 x30_1))), (wrap64 (x30_1 + 1)), sr_, sr_, H', ⟨by have := HK1.out; omega⟩, ⟨kb_ BK311.out⟩, ⟨hs_ GE311.out⟩⟩
   have c19b0 := decide_eq_false c19
   clear c19
   replace H := bnd_ H
   obtain ⟨t319, A26, H⟩ := H
   replace H := ifs_ H
   obtain ⟨c27, H⟩ := H
   have c27b0 := eq_true c27
   have c27b1 := decide_eq_true c27
   try have c27b2 : (9223372036854775807 < t319.size + x3_1.size) = False := eq_false (Nat.not_lt.2 c27)
   try have c27w := cw_ c27
   (try rw [c27w] at c4b0)
   (try rw [c27w] at c6b0)
   (try rw [c27w] at c8b0)
   (try rw [c27w] at c10b0)
   (try rw [c27w] at c19b0)
   (try rw [c27w] at c20b0)
   (try rw [c27w] at c21b0)
   (try rw [c27w] at c23b0)
   (try rw [c27w] at c24b0)
   replace H := bnd_ H
   obtain ⟨t320, A28, H⟩ := H
   replace H := bnd_ H
   obtain ⟨t321, A29, H⟩ := H
   replace H := ifs_ H
   obtain ⟨c30, H⟩ := H
   have c30b0 := eq_true c30
   have c30b1 := decide_eq_true c30
   try have c30b2 : (9223372036854775807 < (t319 ++ x3_1).size + t321.size) = False := eq_false (Nat.not_lt.2 c30)
   try have c30b3 : t319.size + x3_1.size + t321.size ≤ 9223372036854775807 := by (have h_ := c30; simp only [ByteArray.size_append] at h_; exact h_)
   try have c30b4 : (9223372036854775807 < t319.size + x3_1.size + t321.size) = False := eq_false (Nat.not_lt.2 c30b3)
   try have c30w := cw_ c30
   (try rw [c30w] at c4b0)
   (try rw [c30w] at c6b0)
   (try rw [c30w] at c8b0)
   (try rw [c30w] at c10b0)
   (try rw [c30w] at c19b0)
   (try rw [c30w] at c20b0)
   (try rw [c30w] at c21b0)
   (try rw [c30w] at c23b0)
   (try rw [c30w] at c24b0)
   (try rw [c30w] at c27b0)
   obtain rfl := Option.some.inj H
   go_wp2_with (first | ((with_reducible refine gate_callee (f := 111) rfl ?_); refine gl_ 45 Try.func111 #[.int .i64 (wrap64 ((x3_1.size : Int) + 2)), .int .i64 2] rfl ma_ ?_; (with_reducible refine (impl_put.calls k1 (wrap64 ((x3_1.size : Int) + 2)) 2 t319 _ A26.out).mono ?_); rintro e w31 ⟨rfl, hb⟩; refine ⟨_, rfl, ?_⟩; replace BK311 := bK_ BK311 hb; replace HB := nc_ GE311 hb; (try clear hb); (try clear hb2); (try clear hk); (try clear hi)) | ((with_reducible refine gate_callee (f := 112) rfl ?_); refine gl_ 50 Try.func112 #[.string (t319 ++ x3_1)] rfl ma_ ?_; (with_reducible refine (impl_sumOf.calls k1 (t319 ++ x3_1) t320 _ A28.out).mono ?_); rintro e w' ⟨rfl, ⟨nd, rfl⟩⟩; refine ⟨_, rfl, ?_⟩) | ((with_reducible refine gate_callee (f := 111) rfl ?_); refine gl_ 51 Try.func111 #[.int .i64 t320, .int .i64 2] rfl ma_ ?_; (with_reducible refine (impl_put.calls k1 t320 2 t321 _ A29.out).mono ?_); rintro e w32 ⟨rfl, hb⟩; refine ⟨_, rfl, ?_⟩; replace BK311 := bK_ BK311 hb; replace HB := nc_ GE311 hb; (try clear hb); (try clear hb2); (try clear hk); (try clear hi)))
   go_ret
   exact ⟨er_, hs_ GE311.out⟩
end Go.Proofs.Ytffpeklekkpbjaa.QFnExactTruncateTo
