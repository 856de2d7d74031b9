/- Functions that one statement reaches: of each a plain function, and the proof that calls come to it. Conditions: those that each contract names. Written by a program of this repository. -/
import Derived.Test.YtojdaolclcmalaaVPlayAsksa
import Derived.Test.YtojdaolclcmalaaQFnExactPlayAsksx2
import Derived.Test.YtojdaolclcmalaaQFnExactPlayAsksx13
namespace Go.Proofs.Ytojdaolclcmalaa.QFnExactPlayAsks
open Go.RowKit Go.Proofs.YtojdaolclcmalaaW.PrintWords Go.Proofs.YtojdaolclcmalaaW.PrintLast Go.Proofs.YtojdaolclcmalaaW.PrintMore
attribute [local go_sem] max2_int min2_int max_two min_two max_three min_three max_four min_four Go.Proofs.YtojdaolclcmalaaW.PrintMore2.isSome_setCell   -- for this text's walks alone
set_option linter.unusedVariables false
set_option linter.unusedSimpArgs false

attribute [local go_sem high] eqA112
/-! ### slices_Equal_Done: function 79 -/
def slices_Equal_Done.l0 : Nat → List (S112) → List (S112) → Int → Int → Option (Bool)
 | 0, _, _, _, _ => none
 | k + 1, x0, x1, x12, x13 => if x13 < x12 then (if 0 ≤ x13 then (if x13 < (x0.length : Int) then (if x13 < (x1.length : Int) then (if (!(((rd_T112 x0 x13).f0) == ((rd_T112 x1 x13).f0)) || (!(((rd_T112 x0 x13).f1) == ((rd_T112 x1 x13).f1)) || (!(((rd_T112 x0 x13).f2) == ((rd_T112 x1 x13).f2))))) = true then (some false) else (slices_Equal_Done.l0 k x0 x1 x12 (wrap64 (x13 + 1)))) else (none)) else (none)) else (none)) else (some true)
def slices_Equal_Done.f (k : Nat) (l0 : List (S112)) (l1 : List (S112)) : Option (Bool) := if (l0.length : Int) = (l1.length : Int) then (slices_Equal_Done.l0 k l0 l1 (l0.length : Int) 0) else (some false)
theorem slices_Equal_Done.mono_l : ∀ k, (∀ y0 y1 y2 y3, LeO (slices_Equal_Done.l0 k y0 y1 y2 y3) (slices_Equal_Done.l0 (k + 1) y0 y1 y2 y3))
 | 0 => fun _ _ _ _ r h => by simp [slices_Equal_Done.l0] at h
 | k + 1 => by
  have ih0 := slices_Equal_Done.mono_l k
  ·intro y0 y1 y2 y3
   unfold slices_Equal_Done.l0
   repeat' first
   | (with_reducible first | apply ih0 | exact LeO.refl _ | exact LeO.none _ | refine LeO.ite ?_ ?_ | refine LeO.bind ?_ (fun _ => ?_))
theorem slices_Equal_Done.mono : ∀ a0 a1 k, LeO (slices_Equal_Done.f k a0 a1) (slices_Equal_Done.f (k + 1) a0 a1) := by
 intro a0 a1 k
 have ih0 := slices_Equal_Done.mono_l k
 unfold slices_Equal_Done.f
 repeat' first
   | (with_reducible first | apply ih0 | exact LeO.refl _ | exact LeO.none _ | refine LeO.ite ?_ ?_ | refine LeO.bind ?_ (fun _ => ?_))
set_option maxHeartbeats 8000000 in
set_option maxRecDepth 100000 in
theorem slices_Equal_Done.calls (k : Nat) (A0 : Option Addr) (c0 : Nat) (l0 : List (S112)) (A1 : Option Addr) (c1 : Nat) (l1 : List (S112)) (r : Bool) (w : World) (hr0 : Kd.C k112 w A0 l0.length l0) (hc0 : l0.length ≤ c0) (hr1 : Kd.C k112 w A1 l1.length l1) (hc1 : l1.length ≤ c1) (h : slices_Equal_Done.f k l0 l1 = some r) :
  Calls Try.prog 79 #[.slice A0 l0.length c0, .slice A1 l1.length c1] w fun e w' => e = .returned (.bool r) ∧ Drawn0 w w' := by
 have hu112 := Try.underlying112
 have HR0 := am_ hr0
 have HC0 := am_ hc0
 clear hr0 hc0
 have HR1 := am_ hr1
 have HC1 := am_ hc1
 clear hr1 hc1
 have H : (if (l0.length : Int) = (l1.length : Int) then (slices_Equal_Done.l0 k l0 l1 (l0.length : Int) 0) else (some false)) = some r := h
 clear h
 replace H := ite_ H
 obtain ⟨c3, H⟩ | ⟨c3, H⟩ := H
 rotate_left
 ·have c3b0 : ((l0.length : Int) == (l1.length : Int)) = false := beq_eq_false_iff_ne.mpr c3
  have c3b1 : ((l0.length : Int) != (l1.length : Int)) = true := bne_iff_ne.mpr c3
  have c3b2 : (l0.length == l1.length) = false := by first | simpa using c3 | (simp at c3 ⊢; omega)
  obtain rfl := Option.some.inj H
  go_enter Try.func79, Try.ntmps79
  go_wp2
  repeat (go_quiet (fail); try go_wp2)
  go_ret
  exact ⟨by first | rfl | (simp; done) | (simp [*]; done), dr_⟩
 have c3b0 : ((l0.length : Int) == (l1.length : Int)) = true := beq_iff_eq.mpr c3
 have c3b1 : ((l0.length : Int) != (l1.length : Int)) = false := bne_eq_false_iff_eq.mpr c3
 have c3b2 : (l0.length == l1.length) = true := by first | simpa using c3 | (simp at c3 ⊢; omega)
 clear c3
 have H' := am_ H
 clear H
 go_enter Try.func79, Try.ntmps79
 go_wp2
 repeat (go_quiet (fail); try go_wp2)
 go_loopg [13] k (fun kq v13 w' => ∃ (x13_1 : Int), v13 = .int .i64 x13_1 ∧ Aside0 (slices_Equal_Done.l0 kq l0 l1 (l0.length : Int) x13_1 = some r) ∧ Aside0 (kq ≤ k) ∧ Drawn0 w w')
 case atStart => exact ⟨(0), sr_, H', ⟨Nat.le_refl _⟩, dr_⟩
 case round =>
  clear H'
  try clear c1
  try clear c3
  try clear c3b0
  try clear c3b1
  try clear c3b2
  obtain ⟨x13_1, rfl, HA, HK1, ⟨m1, rfl⟩⟩ := hrel
  cases gk with
  | zero => exact absurd HA.out (by simp [slices_Equal_Done.l0])
  | succ k1 =>
   have H := HA.out
   clear HA
   simp only [slices_Equal_Done.l0] at H
   replace H := ite_ H
   obtain ⟨c4, H⟩ | ⟨c4, H⟩ := H
   rotate_left
   ·have c4b0 := decide_eq_false c4
    clear c4
    obtain rfl := Option.some.inj H
    go_wp2
    repeat (go_quiet (fail); try go_wp2)
    go_ret
    exact ⟨by first | rfl | (simp; done) | (simp [*]; done), dr_⟩
   have c4b0 := decide_eq_true c4
   clear c4
   replace H := ifs_ H
   obtain ⟨c5, H⟩ := H
   have c5b0 := decide_eq_true c5
   clear c5
   replace H := ifs_ H
   obtain ⟨c6, H⟩ := H
   have c6b0 := decide_eq_true c6
   clear c6
   replace H := ifs_ H
   obtain ⟨c7, H⟩ := H
   have c7b0 := decide_eq_true c7
   clear c7
   replace H := ite_ H
   obtain ⟨c8, H⟩ | ⟨c8, H⟩ := H
   ·have c8b0 : (!(((rd_T112 l0 x13_1).f0) == ((rd_T112 l1 x13_1).f0)) || (!(((rd_T112 l0 x13_1).f1) == ((rd_T112 l1 x13_1).f1)) || (!(((rd_T112 l0 x13_1).f2) == ((rd_T112 l1 x13_1).f2))))) = true := c8
    clear c8
    obtain rfl := Option.some.inj H
    have p310 : 0 ≤ (x13_1 : Int) := oa_
    have q310 : x13_1 < (l0.length : Int) := oa_
    obtain ⟨ad310, e310, hx310_0, hx310_1, hx310_2⟩ := at_T112 HR0.out x13_1 p310 q310
    cases e310
    replace p310 := eq_true p310
    replace q310 := eq_true q310
    have p311 : 0 ≤ (x13_1 : Int) := oa_
    have q311 : x13_1 < (l1.length : Int) := oa_
    obtain ⟨ad311, e311, hx311_0, hx311_1, hx311_2⟩ := at_T112 HR1.out x13_1 p311 q311
    cases e311
    replace p311 := eq_true p311
    replace q311 := eq_true q311
    go_wp2
    repeat (go_quiet (fail); try go_wp2)
    go_ret
    exact ⟨by first | rfl | (simp; done) | (simp [*]; done), dr_⟩
   have c8b0 : (!(((rd_T112 l0 x13_1).f0) == ((rd_T112 l1 x13_1).f0)) || (!(((rd_T112 l0 x13_1).f1) == ((rd_T112 l1 x13_1).f1)) || (!(((rd_T112 l0 x13_1).f2) == ((rd_T112 l1 x13_1).f2))))) = false := by simpa using c8
   clear c8
   have H' := am_ H
   clear H
   have p310 : 0 ≤ (x13_1 : Int) := oa_
   have q310 : x13_1 < (l0.length : Int) := oa_
   obtain ⟨ad310, e310, hx310_0, hx310_1, hx310_2⟩ := at_T112 HR0.out x13_1 p310 q310
   cases e310
   replace p310 := eq_true p310
   replace q310 := eq_true q310
   have p311 : 0 ≤ (x13_1 : Int) := oa_
   have q311 : x13_1 < (l1.length : Int) := oa_
   obtain ⟨ad311, e311, hx311_0, hx311_1, hx311_2⟩ := at_T112 HR1.out x13_1 p311 q311
   cases e311
   replace p311 := eq_true p311
   replace q311 := eq_true q311
   go_wp2
   repeat (go_quiet (fail); try go_wp2)
   go_roundg k1
   case measure => have := HK1.out; omega
   case rel => exact ⟨(wrap64 (x13_1 + 1)), sr_, H', ⟨by have := HK1.out; omega⟩, dr_⟩

/-! ### impl_isPart_1: function 78 -/
def impl_isPart_1.f (k : Nat) (a0_0 : Int) (a0_1 : Int) (a0_2 : Int) (l0_3 : List (S112)) (a1_0 : Int) (a1_1 : Int) (a1_2 : Int) (l1_3 : List (S112)) : Option (Bool) := if a0_0 = a1_0 then (if a0_1 = a1_1 then (if a0_2 = a1_2 then ((slices_Equal_Done.f k l0_3 l1_3).bind fun t314 => (some t314)) else (some false)) else (some false)) else (some false)
theorem impl_isPart_1.mono : ∀ a0 a1 a2 a3 a4 a5 a6 a7 k, LeO (impl_isPart_1.f k a0 a1 a2 a3 a4 a5 a6 a7) (impl_isPart_1.f (k + 1) a0 a1 a2 a3 a4 a5 a6 a7) := by
 intro a0 a1 a2 a3 a4 a5 a6 a7 k
 unfold impl_isPart_1.f
 repeat' first
   | (with_reducible first | apply slices_Equal_Done.mono | exact LeO.refl _ | exact LeO.none _ | refine LeO.ite ?_ ?_ | refine LeO.bind ?_ (fun _ => ?_))
set_option maxHeartbeats 8000000 in
set_option maxRecDepth 100000 in
theorem impl_isPart_1.calls (k : Nat) (a0_0 : Int) (a0_1 : Int) (a0_2 : Int) (A0_3 : Option Addr) (c0_3 : Nat) (l0_3 : List (S112)) (a1_0 : Int) (a1_1 : Int) (a1_2 : Int) (A1_3 : Option Addr) (c1_3 : Nat) (l1_3 : List (S112)) (r : Bool) (w : World) (hr0_3 : Kd.C k112 w A0_3 l0_3.length l0_3) (hc0_3 : l0_3.length ≤ c0_3) (hr1_3 : Kd.C k112 w A1_3 l1_3.length l1_3) (hc1_3 : l1_3.length ≤ c1_3) (h : impl_isPart_1.f k a0_0 a0_1 a0_2 l0_3 a1_0 a1_1 a1_2 l1_3 = some r) :
  Calls Try.prog 78 #[.agg #[.int .i64 a0_0, .int .i64 a0_1, .int .i64 a0_2, .slice A0_3 l0_3.length c0_3], .agg #[.int .i64 a1_0, .int .i64 a1_1, .int .i64 a1_2, .slice A1_3 l1_3.length c1_3]] w fun e w' => e = .returned (.bool r) ∧ Below w.heap.size w w' := by
 have hu81 := Try.underlying81
 have HR0_3 := am_ hr0_3
 have HC0_3 := am_ hc0_3
 clear hr0_3 hc0_3
 have HR1_3 := am_ hr1_3
 have HC1_3 := am_ hc1_3
 clear hr1_3 hc1_3
 have HB := am_ (Below.refl w.heap.size w)
 have H : (if a0_0 = a1_0 then (if a0_1 = a1_1 then (if a0_2 = a1_2 then ((slices_Equal_Done.f k l0_3 l1_3).bind fun t314 => (some t314)) else (some false)) else (some false)) else (some false)) = some r := h
 clear h
 replace H := ite_ H
 obtain ⟨c3, H⟩ | ⟨c3, H⟩ := H
 rotate_left
 ·have c3b0 : (a0_0 == a1_0) = false := beq_eq_false_iff_ne.mpr c3
  have c3b1 : (a0_0 != a1_0) = true := bne_iff_ne.mpr c3
  obtain rfl := Option.some.inj H
  go_enter Try.func78, Try.ntmps78
  go_wp2_with (first | ((with_reducible refine gate_dst (N := 2) rfl ?_); refine bq_ (N := 2) #[.int .i64 a0_0, .int .i64 a0_1, .int .i64 a0_2, .slice A0_3 l0_3.length c0_3] 81 ?_; intro gb312 hg w22 BK312 hb; have GE312 := ge_ hg; replace HB := nb_ hb; clear hb hg) | ((with_reducible refine gate_dst (N := 3) rfl ?_); refine bq_ (N := 3) #[.int .i64 a1_0, .int .i64 a1_1, .int .i64 a1_2, .slice A1_3 l1_3.length c1_3] 81 ?_; intro gb313 hg w23 BK313 hb; have GE313 := ge1_ hg GE312; replace HB := nc_ GE312 hb; have NB312_313 := nl_ BK312 hg; have NB313_312 := ng_ BK312 hg; replace BK312 := bK_ BK312 hb; clear hb hg; have hnb24 := NB312_313.out; have hnc24 := NB313_312.out; obtain ⟨hcz25_0, hcz25_1, hcz25_2, hcz25_3, hfz25_0, hfz25_1, hfz25_2, hfz25_3⟩ := cf4_ BK312.out; obtain ⟨hcz26_0, hcz26_1, hcz26_2, hcz26_3, hfz26_0, hfz26_1, hfz26_2, hfz26_3⟩ := cf4_ BK313.out))
  go_ret
  exact ⟨er_, hs2_ GE312.out GE313.out⟩
 have c3b0 : (a0_0 == a1_0) = true := beq_iff_eq.mpr c3
 have c3b1 : (a0_0 != a1_0) = false := bne_eq_false_iff_eq.mpr c3
 clear c3
 replace H := ite_ H
 obtain ⟨c4, H⟩ | ⟨c4, H⟩ := H
 rotate_left
 ·have c4b0 : (a0_1 == a1_1) = false := beq_eq_false_iff_ne.mpr c4
  have c4b1 : (a0_1 != a1_1) = true := bne_iff_ne.mpr c4
  obtain rfl := Option.some.inj H
  go_enter Try.func78, Try.ntmps78
  go_wp2_with (first | ((with_reducible refine gate_dst (N := 2) rfl ?_); refine bq_ (N := 2) #[.int .i64 a0_0, .int .i64 a0_1, .int .i64 a0_2, .slice A0_3 l0_3.length c0_3] 81 ?_; intro gb312 hg w17 BK312 hb; have GE312 := ge_ hg; replace HB := nb_ hb; clear hb hg) | ((with_reducible refine gate_dst (N := 3) rfl ?_); refine bq_ (N := 3) #[.int .i64 a1_0, .int .i64 a1_1, .int .i64 a1_2, .slice A1_3 l1_3.length c1_3] 81 ?_; intro gb313 hg w18 BK313 hb; have GE313 := ge1_ hg GE312; replace HB := nc_ GE312 hb; have NB312_313 := nl_ BK312 hg; have NB313_312 := ng_ BK312 hg; replace BK312 := bK_ BK312 hb; clear hb hg; have hnb19 := NB312_313.out; have hnc19 := NB313_312.out; obtain ⟨hcz20_0, hcz20_1, hcz20_2, hcz20_3, hfz20_0, hfz20_1, hfz20_2, hfz20_3⟩ := cf4_ BK312.out; obtain ⟨hcz21_0, hcz21_1, hcz21_2, hcz21_3, hfz21_0, hfz21_1, hfz21_2, hfz21_3⟩ := cf4_ BK313.out))
  go_ret
  exact ⟨er_, hs2_ GE312.out GE313.out⟩
 have c4b0 : (a0_1 == a1_1) = true := beq_iff_eq.mpr c4
 have c4b1 : (a0_1 != a1_1) = false := bne_eq_false_iff_eq.mpr c4
 clear c4
 replace H := ite_ H
 obtain ⟨c5, H⟩ | ⟨c5, H⟩ := H
 rotate_left
 ·have c5b0 : (a0_2 == a1_2) = false := beq_eq_false_iff_ne.mpr c5
  have c5b1 : (a0_2 != a1_2) = true := bne_iff_ne.mpr c5
  obtain rfl := Option.some.inj H
  go_enter Try.func78, Try.ntmps78
  go_wp2_with (first | ((with_reducible refine gate_dst (N := 2) rfl ?_); refine bq_ (N := 2) #[.int .i64 a0_0, .int .i64 a0_1, .int .i64 a0_2, .slice A0_3 l0_3.length c0_3] 81 ?_; intro gb312 hg w12 BK312 hb; have GE312 := ge_ hg; replace HB := nb_ hb; clear hb hg) | ((with_reducible refine gate_dst (N := 3) rfl ?_); refine bq_ (N := 3) #[.int .i64 a1_0, .int .i64 a1_1, .int .i64 a1_2, .slice A1_3 l1_3.length c1_3] 81 ?_; intro gb313 hg w13 BK313 hb; have GE313 := ge1_ hg GE312; replace HB := nc_ GE312 hb; have NB312_313 := nl_ BK312 hg; have NB313_312 := ng_ BK312 hg; replace BK312 := bK_ BK312 hb; clear hb hg; have hnb14 := NB312_313.out; have hnc14 := NB313_312.out; obtain ⟨hcz15_0, hcz15_1, hcz15_2, hcz15_3, hfz15_0, hfz15_1, hfz15_2, hfz15_3⟩ := cf4_ BK312.out; obtain ⟨hcz16_0, hcz16_1, hcz16_2, hcz16_3, hfz16_0, hfz16_1, hfz16_2, hfz16_3⟩ := cf4_ BK313.out))
  go_ret
  exact ⟨er_, hs2_ GE312.out GE313.out⟩
 have c5b0 : (a0_2 == a1_2) = true := beq_iff_eq.mpr c5
 have c5b1 : (a0_2 != a1_2) = false := bne_eq_false_iff_eq.mpr c5
 clear c5
 replace H := bnd_ H
 obtain ⟨t314, A6, H⟩ := H
 obtain rfl := Option.some.inj H
 go_enter Try.func78, Try.ntmps78
 go_wp2_with (first | ((with_reducible refine gate_dst (N := 2) rfl ?_); refine bq_ (N := 2) #[.int .i64 a0_0, .int .i64 a0_1, .int .i64 a0_2, .slice A0_3 l0_3.length c0_3] 81 ?_; intro gb312 hg w7 BK312 hb; have GE312 := ge_ hg; replace HB := nb_ hb; clear hb hg) | ((with_reducible refine gate_dst (N := 3) rfl ?_); refine bq_ (N := 3) #[.int .i64 a1_0, .int .i64 a1_1, .int .i64 a1_2, .slice A1_3 l1_3.length c1_3] 81 ?_; intro gb313 hg w8 BK313 hb; have GE313 := ge1_ hg GE312; replace HB := nc_ GE312 hb; have NB312_313 := nl_ BK312 hg; have NB313_312 := ng_ BK312 hg; replace BK312 := bK_ BK312 hb; clear hb hg; have hnb9 := NB312_313.out; have hnc9 := NB313_312.out; obtain ⟨hcz10_0, hcz10_1, hcz10_2, hcz10_3, hfz10_0, hfz10_1, hfz10_2, hfz10_3⟩ := cf4_ BK312.out; obtain ⟨hcz11_0, hcz11_1, hcz11_2, hcz11_3, hfz11_0, hfz11_1, hfz11_2, hfz11_3⟩ := cf4_ BK313.out) | (go_at_call 79; (with_reducible refine (slices_Equal_Done.calls k _ _ l0_3 _ _ l1_3 t314 _ ?side1 ?side2 ?side3 ?side4 A6.out).mono ?_); (case side1 => exact cs_ ((Kd.C_below HR0_3.out HB.out))); (case side2 => exact HC0_3.out); (case side3 => exact cs_ ((Kd.C_below HR1_3.out HB.out))); (case side4 => exact HC1_3.out); rintro e w' ⟨rfl, ⟨nd, rfl⟩⟩))
 go_ret
 exact ⟨er_, hs2_ GE312.out GE313.out⟩

/-! ### slices_EqualFunc_Producer: function 77 -/
def slices_EqualFunc_Producer.l0 : Nat → List S81 → List S81 → Nat → Option Bool
 | 0, _, _, _ => none
 | k + 1, x, y, i => if i < x.length then (impl_isPart_1.f k (x.getD i z81).f0 (x.getD i z81).f1 (x.getD i z81).f2 (x.getD i z81).f3 (y.getD i z81).f0 (y.getD i z81).f1 (y.getD i z81).f2 (y.getD i z81).f3).bind fun t => if t = true then slices_EqualFunc_Producer.l0 k x y (i + 1) else some false else some true
def slices_EqualFunc_Producer.f (k : Nat) (l0 : List S81) (l1 : List S81) : Option Bool := if l0.length = l1.length then slices_EqualFunc_Producer.l0 k l0 l1 0 else some false
theorem slices_EqualFunc_Producer.mono_l : ∀ k x y i, LeO (slices_EqualFunc_Producer.l0 k x y i) (slices_EqualFunc_Producer.l0 (k + 1) x y i)
 | 0, _, _, _ => fun r h => by simp [slices_EqualFunc_Producer.l0] at h
 | k + 1, x, y, i => by
  rw [slices_EqualFunc_Producer.l0, slices_EqualFunc_Producer.l0]
  exact LeO.ite (LeO.bind (impl_isPart_1.mono _ _ _ _ _ _ _ _ _) (fun _ => LeO.ite (slices_EqualFunc_Producer.mono_l k _ _ _) (LeO.refl _))) (LeO.refl _)
theorem slices_EqualFunc_Producer.mono : ∀ a0 a1 k, LeO (slices_EqualFunc_Producer.f k a0 a1) (slices_EqualFunc_Producer.f (k + 1) a0 a1) := fun a0 a1 k => LeO.ite (slices_EqualFunc_Producer.mono_l k a0 a1 0) (LeO.refl _)
set_option maxHeartbeats 8000000 in
set_option maxRecDepth 100000 in
theorem slices_EqualFunc_Producer.calls (k : Nat) (A0 : Option Addr) (c0 : Nat) (l0 : List S81) (A1 : Option Addr) (c1 : Nat) (l1 : List S81) (r : Bool) (w : World) (hr0 : Kd.C k81 w A0 l0.length l0) (hc0 : l0.length ≤ c0) (hr1 : Kd.C k81 w A1 l1.length l1) (hc1 : l1.length ≤ c1) (h : slices_EqualFunc_Producer.f k l0 l1 = some r) :
  Calls Try.prog 77 #[.slice A0 l0.length c0, .slice A1 l1.length c1, .func (.func 78) #[] #[]] w fun e w' => e = .returned (.bool r) ∧ Below w.heap.size w w' := by
 have hbig0 : l0.length ≤ 9223372036854775807 := hr0.2.1
 have hu_ := Try.underlying81
 have HR0 := am_ hr0
 have HR1 := am_ hr1
 clear hr0 hc0 hr1 hc1
 unfold slices_EqualFunc_Producer.f at h
 by_cases hl : l0.length = l1.length
 ·rw [if_pos hl] at h
  have hl1 : (((l0.length : Int) != (l1.length : Int)) = false) := bne_eq_false_iff_eq.mpr (by omega)
  have hl2 : ((l0.length != l1.length) = false) := bne_eq_false_iff_eq.mpr hl
  have H := am_ h
  have HL := am_ hl
  obtain ⟨g, hg⟩ : ∃ g : Nat, g = 78 := ⟨_, rfl⟩
  have eg : ∀ args w, (callFunc g args).run Try.prog w = .ok (.enter g args) w := by rw [hg]; exact fun args w => by first | rfl | kernel_rfl
  rw [show (Value.func (.func 78) #[] #[]) = Value.func (.func g) #[] #[] by rw [hg]]
  have HGG := am_ hg
  clear h hg hl
  go_enter Try.func77, Try.ntmps77
  go_wp2
  go_loopg [7, 8, 9, 17] k (fun kq s7 _ _ s17 wr => ∃ i : Nat, s17 = .int .i64 i ∧ i ≤ l0.length ∧ Aside0 (slices_EqualFunc_Producer.l0 kq l0 l1 i = some r) ∧ Aside0 (kq ≤ k) ∧ Aside0 (Below w.heap.size w wr))
  case atStart => exact ⟨0, rfl, Nat.zero_le _, H, ⟨Nat.le_refl _⟩, ⟨Below.refl _ _⟩⟩
  case round =>
   clear H
   obtain ⟨i, rfl, hi, HA, HK, HB⟩ := hrel
   cases gk with
   | zero => exact absurd HA.out (by simp [slices_EqualFunc_Producer.l0])
   | succ k1 =>
    have hA := HA.out
    clear HA
    rw [slices_EqualFunc_Producer.l0] at hA
    by_cases hlt : i < l0.length
    ·have hltz : (i : Int) < (l0.length : Int) := by omega
     have hltz1 : (i : Int) < (l1.length : Int) := by have := HL.out; omega
     rw [if_pos hlt] at hA
     obtain ⟨t, h1, h2⟩ := Option.bind_eq_some_iff.1 hA
     have H1 := am_ h1
     clear hA h1
     obtain ⟨ada, Aa3, Aac3, rfl, hca0, hca1, hca2, hca3, hla3, hra3⟩ := at_T81 (Kd.C_below HR0.out HB.out) (i : Int) (by omega) hltz
     obtain ⟨adb, Ab3, Abc3, rfl, hcb0, hcb1, hcb2, hcb3, hlb3, hrb3⟩ := at_T81 (Kd.C_below HR1.out HB.out) (i : Int) (by omega) hltz1
     have e0 : rd_T81 l0 (i : Int) = l0.getD i z81 := rfl
     have e1 : rd_T81 l1 (i : Int) = l1.getD i z81 := rfl
     rw [e0] at hca0 hca1 hca2 hca3 hla3 hra3
     rw [e1] at hcb0 hcb1 hcb2 hcb3 hlb3 hrb3
     generalize l0.getD i z81 = a at hca0 hca1 hca2 hca3 hla3 hra3 H1
     generalize l1.getD i z81 = b at hcb0 hcb1 hcb2 hcb3 hlb3 hrb3 H1
     clear e0 e1
     rw [Int.toNat_natCast] at hca0 hca1 hca2 hca3 hcb0 hcb1 hcb2 hcb3
     have CR0 := am_ hra3
     have CL0 := am_ hla3
     clear hra3 hla3
     have CR1 := am_ hrb3
     have CL1 := am_ hlb3
     clear hrb3 hlb3
     have HC : ∀ W, Below wr.heap.size wr W → Calls Try.prog g (#[.agg #[.int .i64 a.f0, .int .i64 a.f1, .int .i64 a.f2, .slice Aa3 a.f3.length Aac3], .agg #[.int .i64 b.f0, .int .i64 b.f1, .int .i64 b.f2, .slice Ab3 b.f3.length Abc3]] ++ #[]) W fun e w' => e = .returned (.bool t) ∧ Below W.heap.size W w' := fun W hW => by
      rw [HGG.out]
      exact impl_isPart_1.calls k1 a.f0 a.f1 a.f2 Aa3 Aac3 a.f3 b.f0 b.f1 b.f2 Ab3 Abc3 b.f3 t _ (Kd.C_below CR0.out hW) CL0.out (Kd.C_below CR1.out hW) CL1.out H1.out
     have HCC := am_ HC
     have ha0_ := fun (o_ : Obj) => pw_cell_below (below_alloc (Below.refl wr.heap.size wr) o_) hcb0
     have ha1_ := fun (o_ : Obj) => pw_cell_below (below_alloc (Below.refl wr.heap.size wr) o_) hcb1
     have ha2_ := fun (o_ : Obj) => pw_cell_below (below_alloc (Below.refl wr.heap.size wr) o_) hcb2
     have ha3_ := fun (o_ : Obj) => pw_cell_below (below_alloc (Below.refl wr.heap.size wr) o_) hcb3
     clear HC
     go_wp2_with fail
     refine (HCC.out _ (by repeat (first | exact Below.refl _ _ | apply below_alloc))).mono ?_
     rintro e w2 ⟨rfl, hb2⟩
     have HB2 := am_ (show Below w.heap.size w w2 from below_step (by repeat (first | exact HB.out | apply below_alloc)) hb2)
     clear hb2
     cases t with
     | true =>
      rw [if_pos rfl] at h2
      have H2 := am_ h2
      clear h2
      go_wp2_with fail
      go_roundg k1
      case measure => have := HK.out; omega
      case rel => exact ⟨i + 1, by go_num, by omega, H2, ⟨by have := HK.out; omega⟩, HB2⟩
     | false =>
      rw [if_neg (by decide)] at h2
      obtain rfl : false = r := Option.some.inj h2
      clear h2
      go_wp2_with fail
      go_ret
      exact ⟨rfl, HB2.out⟩
    ·have hltz : ¬ (i : Int) < (l0.length : Int) := by omega
     have hil : i = l0.length := by omega
     subst hil
     rw [if_neg (by omega)] at hA
     obtain rfl : true = r := Option.some.inj hA
     clear hA
     go_wp2
     go_ret
     exact ⟨rfl, HB.out⟩
 ·rw [if_neg hl] at h
  obtain rfl : false = r := Option.some.inj h
  have hl1 : (((l0.length : Int) != (l1.length : Int)) = true) := bne_iff_ne.mpr (by omega)
  have hl2 : ((l0.length != l1.length) = true) := bne_iff_ne.mpr hl
  clear h
  go_enter Try.func77, Try.ntmps77
  go_wp2_with fail
  go_ret
  exact ⟨rfl, Below.refl _ _⟩



/-! ### impl_isPart: function 51 -/
def impl_isPart.f (k : Nat) (l0_0 : List (S81)) (l0_1 : List (S78)) (a0_2 : Int) : Option (Bool) := (impl_rebuild.f l0_1).bind fun bt316 => (if bt316.2.2.2 = true then (if bt316.2.2.1 = a0_2 then ((slices_EqualFunc_Producer.f k bt316.1 l0_0).bind fun t325 => (some t325)) else (some false)) else (some false))
theorem impl_isPart.mono : ∀ a0 a1 a2 k, LeO (impl_isPart.f k a0 a1 a2) (impl_isPart.f (k + 1) a0 a1 a2) := by
 intro a0 a1 a2 k
 unfold impl_isPart.f
 repeat' first
   | (with_reducible first | apply slices_EqualFunc_Producer.mono | exact LeO.refl _ | exact LeO.none _ | refine LeO.ite ?_ ?_ | refine LeO.bind ?_ (fun _ => ?_))
set_option maxHeartbeats 8000000 in
set_option maxRecDepth 100000 in
theorem impl_isPart.calls (k : Nat) (A0_0 : Option Addr) (c0_0 : Nat) (l0_0 : List (S81)) (A0_1 : Option Addr) (c0_1 : Nat) (l0_1 : List (S78)) (a0_2 : Int) (r : Bool) (w : World) (hr0_0 : Kd.C k81 w A0_0 l0_0.length l0_0) (hc0_0 : l0_0.length ≤ c0_0) (hr0_1 : Kd.C k78 w A0_1 l0_1.length l0_1) (hc0_1 : l0_1.length ≤ c0_1) (h : impl_isPart.f k l0_0 l0_1 a0_2 = some r) :
  Calls Try.prog 51 #[.agg #[.slice A0_0 l0_0.length c0_0, .slice A0_1 l0_1.length c0_1, .int .i64 a0_2]] w fun e w' => e = .returned (.bool r) ∧ Below w.heap.size w w' := by
 have hu33 := Try.underlying33
 have HR0_0 := am_ hr0_0
 have HC0_0 := am_ hc0_0
 clear hr0_0 hc0_0
 have HR0_1 := am_ hr0_1
 have HC0_1 := am_ hc0_1
 clear hr0_1 hc0_1
 have HB := am_ (Below.refl w.heap.size w)
 have H : ((impl_rebuild.f l0_1).bind fun bt316 => (if bt316.2.2.2 = true then (if bt316.2.2.1 = a0_2 then ((slices_EqualFunc_Producer.f k bt316.1 l0_0).bind fun t325 => (some t325)) else (some false)) else (some false))) = some r := h
 clear h
 replace H := bnd_ H
 obtain ⟨⟨t316, t319, t322, t323⟩, A2, H⟩ := H
 replace H := red_ H
 replace H := ifb_ H
 obtain ⟨rfl, H⟩ | ⟨rfl, H⟩ := H
 rotate_left
 ·obtain rfl := Option.some.inj H
  go_enter Try.func51, Try.ntmps51
  go_wp2_with (first | ((with_reducible refine gate_dst (N := 1) rfl ?_); refine bq_ (N := 1) #[.slice A0_0 l0_0.length c0_0, .slice A0_1 l0_1.length c0_1, .int .i64 a0_2] 33 ?_; intro gb315 hg w25 BK315 hb; have GE315 := ge_ hg; replace HB := nb_ hb; clear hb hg; obtain ⟨hcz26_0, hcz26_1, hcz26_2, hfz26_0, hfz26_1, hfz26_2⟩ := cf3_ BK315.out) | ((with_reducible refine gate_callee (f := 66) rfl ?_); refine gl_ 8 Try.func66 #[.slice A0_1 l0_1.length c0_1] rfl ma_ ?_; (with_reducible refine (impl_rebuild.calls _ _ l0_1 t316 t319 t322 false _ ?side1 ?side2 A2.out).mono ?_); (case side1 => exact cs_ ((Kd.C_below HR0_1.out HB.out))); (case side2 => exact HC0_1.out); rintro e w27 ⟨v317, v320, rfl, ho0, ho1, hb⟩; refine ⟨_, rfl, ?_⟩; have HO318 := am_ (Kd.S_lower ho0 (below_size (hs_ GE315.out))); have HO321 := am_ (Kd.S_lower ho1 (below_size (hs_ GE315.out))); replace BK315 := bK_ BK315 hb; replace HB := nc_ GE315 hb; (try clear hb); (try clear hb2); (try clear hk); (try clear hi); (try clear ho0); (try clear ho1)) | ((with_reducible refine gate_dst (N := 3) rfl ?_); refine bq_ (N := 3) #[.slice none 0 0, .slice none 0 0, .int .i64 0] 33 ?_; intro gb324 hg w28 BK324 hb; replace HO318 := sB_ HO318 hb; replace HO321 := sB_ HO321 hb; have GE324 := ge1_ hg GE315; replace HB := nc_ GE315 hb; have NB315_324 := nl_ BK315 hg; have NB324_315 := ng_ BK315 hg; replace BK315 := bK_ BK315 hb; clear hb hg; obtain ⟨Ao29, co29, eo29⟩ := Kd.S_slice HO318.out; subst eo29; have hnb30 := NB324_315.out; have hnc30 := NB315_324.out; obtain ⟨hcz31_0, hcz31_1, hcz31_2, hfz31_0, hfz31_1, hfz31_2⟩ := cf3_ BK324.out; obtain ⟨Ao32, co32, eo32⟩ := Kd.S_slice HO321.out; subst eo32))
  go_ret
  exact ⟨er_, hs2_ GE315.out GE324.out⟩
 replace H := ite_ H
 obtain ⟨c4, H⟩ | ⟨c4, H⟩ := H
 rotate_left
 ·have c4b0 : (t322 == a0_2) = false := beq_eq_false_iff_ne.mpr c4
  have c4b1 : (t322 != a0_2) = true := bne_iff_ne.mpr c4
  obtain rfl := Option.some.inj H
  go_enter Try.func51, Try.ntmps51
  go_wp2_with (first | ((with_reducible refine gate_dst (N := 1) rfl ?_); refine bq_ (N := 1) #[.slice A0_0 l0_0.length c0_0, .slice A0_1 l0_1.length c0_1, .int .i64 a0_2] 33 ?_; intro gb315 hg w16 BK315 hb; have GE315 := ge_ hg; replace HB := nb_ hb; clear hb hg; obtain ⟨hcz17_0, hcz17_1, hcz17_2, hfz17_0, hfz17_1, hfz17_2⟩ := cf3_ BK315.out) | ((with_reducible refine gate_callee (f := 66) rfl ?_); refine gl_ 8 Try.func66 #[.slice A0_1 l0_1.length c0_1] rfl ma_ ?_; (with_reducible refine (impl_rebuild.calls _ _ l0_1 t316 t319 t322 true _ ?side1 ?side2 A2.out).mono ?_); (case side1 => exact cs_ ((Kd.C_below HR0_1.out HB.out))); (case side2 => exact HC0_1.out); rintro e w18 ⟨v317, v320, rfl, ho0, ho1, hb⟩; refine ⟨_, rfl, ?_⟩; have HO318 := am_ (Kd.S_lower ho0 (below_size (hs_ GE315.out))); have HO321 := am_ (Kd.S_lower ho1 (below_size (hs_ GE315.out))); replace BK315 := bK_ BK315 hb; replace HB := nc_ GE315 hb; (try clear hb); (try clear hb2); (try clear hk); (try clear hi); (try clear ho0); (try clear ho1)) | ((with_reducible refine gate_dst (N := 3) rfl ?_); refine bq_ (N := 3) #[.slice none 0 0, .slice none 0 0, .int .i64 0] 33 ?_; intro gb324 hg w19 BK324 hb; replace HO318 := sB_ HO318 hb; replace HO321 := sB_ HO321 hb; have GE324 := ge1_ hg GE315; replace HB := nc_ GE315 hb; have NB315_324 := nl_ BK315 hg; have NB324_315 := ng_ BK315 hg; replace BK315 := bK_ BK315 hb; clear hb hg; obtain ⟨Ao20, co20, eo20⟩ := Kd.S_slice HO318.out; subst eo20; have hnb21 := NB324_315.out; have hnc21 := NB315_324.out; obtain ⟨hcz22_0, hcz22_1, hcz22_2, hfz22_0, hfz22_1, hfz22_2⟩ := cf3_ BK324.out; obtain ⟨Ao23, co23, eo23⟩ := Kd.S_slice HO321.out; subst eo23; obtain ⟨hcz24_0, hcz24_1, hcz24_2, hfz24_0, hfz24_1, hfz24_2⟩ := cf3_ BK315.out))
  go_ret
  exact ⟨er_, hs2_ GE315.out GE324.out⟩
 have c4b0 : (t322 == a0_2) = true := beq_iff_eq.mpr c4
 have c4b1 : (t322 != a0_2) = false := bne_eq_false_iff_eq.mpr c4
 clear c4
 replace H := bnd_ H
 obtain ⟨t325, A5, H⟩ := H
 obtain rfl := Option.some.inj H
 go_enter Try.func51, Try.ntmps51
 go_wp2_with (first | ((with_reducible refine gate_dst (N := 1) rfl ?_); refine bq_ (N := 1) #[.slice A0_0 l0_0.length c0_0, .slice A0_1 l0_1.length c0_1, .int .i64 a0_2] 33 ?_; intro gb315 hg w6 BK315 hb; have GE315 := ge_ hg; replace HB := nb_ hb; clear hb hg; obtain ⟨hcz7_0, hcz7_1, hcz7_2, hfz7_0, hfz7_1, hfz7_2⟩ := cf3_ BK315.out) | ((with_reducible refine gate_callee (f := 66) rfl ?_); refine gl_ 8 Try.func66 #[.slice A0_1 l0_1.length c0_1] rfl ma_ ?_; (with_reducible refine (impl_rebuild.calls _ _ l0_1 t316 t319 t322 true _ ?side1 ?side2 A2.out).mono ?_); (case side1 => exact cs_ ((Kd.C_below HR0_1.out HB.out))); (case side2 => exact HC0_1.out); rintro e w8 ⟨v317, v320, rfl, ho0, ho1, hb⟩; refine ⟨_, rfl, ?_⟩; have HO318 := am_ (Kd.S_lower ho0 (below_size (hs_ GE315.out))); have HO321 := am_ (Kd.S_lower ho1 (below_size (hs_ GE315.out))); replace BK315 := bK_ BK315 hb; replace HB := nc_ GE315 hb; (try clear hb); (try clear hb2); (try clear hk); (try clear hi); (try clear ho0); (try clear ho1)) | ((with_reducible refine gate_dst (N := 3) rfl ?_); refine bq_ (N := 3) #[.slice none 0 0, .slice none 0 0, .int .i64 0] 33 ?_; intro gb324 hg w9 BK324 hb; replace HO318 := sB_ HO318 hb; replace HO321 := sB_ HO321 hb; have GE324 := ge1_ hg GE315; replace HB := nc_ GE315 hb; have NB315_324 := nl_ BK315 hg; have NB324_315 := ng_ BK315 hg; replace BK315 := bK_ BK315 hb; clear hb hg; obtain ⟨Ao10, co10, eo10⟩ := Kd.S_slice HO318.out; subst eo10; have hnb11 := NB324_315.out; have hnc11 := NB315_324.out; obtain ⟨hcz12_0, hcz12_1, hcz12_2, hfz12_0, hfz12_1, hfz12_2⟩ := cf3_ BK324.out; obtain ⟨Ao13, co13, eo13⟩ := Kd.S_slice HO321.out; subst eo13; obtain ⟨hcz14_0, hcz14_1, hcz14_2, hfz14_0, hfz14_1, hfz14_2⟩ := cf3_ BK315.out) | (go_at_call 77; (with_reducible refine (slices_EqualFunc_Producer.calls k _ _ t316 _ _ l0_0 t325 _ ?side1 ?side2 ?side3 ?side4 A5.out).mono ?_); (case side1 => refine (Kd.S_reads' (e := 81) (base := w.heap.size) (ok := fun k_ => True) (n := t316.length) (c := co10) ?_).2.2; exact ((Kd.S_mono (sF_ (Kd.S_types HO318.out BK324.out (by decide))) (fun _ h_ => h_.1)))); (case side2 => exact (Kd.S_reads' HO318.out).2.1); (case side3 => exact Kd.C_below HR0_0.out (hs2_ GE315.out GE324.out)); (case side4 => exact HC0_0.out); rintro e w15 ⟨rfl, hb⟩; replace HO318 := am_ (Kd.S_below ((Kd.S_mono (sF_ (Kd.S_types HO318.out BK324.out (by decide))) (fun _ h_ => h_.1))) hb); replace HO321 := am_ (Kd.S_below ((Kd.S_mono (sF_ (Kd.S_types HO321.out BK324.out (by decide))) (fun _ h_ => h_.1))) hb); replace BK315 := am_ (blk_below (g := gb315) (o := .cells #[.slice A0_0 l0_0.length c0_0, .slice A0_1 l0_1.length c0_1, .int .i64 a0_2] 33 (0, 0)) (uf_ BK315 NB315_324.out) hb); replace BK324 := am_ (blk_below (g := gb324) (o := .cells #[.slice Ao10 t316.length co10, .slice Ao13 t319.length co13, .int .i64 t322] 33 (0, 0)) (up_ BK324) hb); replace HB := nc2_ GE315 GE324 hb; (try clear hb); (try clear hb2); (try clear hk); (try clear hi)))
 go_ret
 exact ⟨er_, hs2_ GE315.out GE324.out⟩
end Go.Proofs.Ytojdaolclcmalaa.QFnExactPlayAsks
