/- For each Go function that one statement reaches: a plain function with the same answers, and the proof that the call comes to them. Conditions: those that each contract names. Written by a program of this repository. -/
import Derived.Test.YtffpeklekkpbjaaVSeekIna
import Derived.Test.YtffpeklekkpbjaaQFnExactSeekInx0
import Derived.Test.YtffpeklekkpbjaaQFnExactSeekInx3
import Derived.Test.YtffpeklekkpbjaaQFnExactSeekInx4
import Derived.Test.YtffpeklekkpbjaaQFnExactSeekInx11
import Derived.Test.YtffpeklekkpbjaaQFnExactSeekInx20
namespace Go.Proofs.Ytffpeklekkpbjaa.QFnExactSeekIn
open Go.RowKit Go.Proofs.YtffpeklekkpbjaaW.PrintWords Go.Proofs.YtffpeklekkpbjaaW.PrintLast Go.Proofs.YtffpeklekkpbjaaW.PrintMore
attribute [local go_sem] max2_int min2_int max_two min_two max_three min_three max_four min_four Go.Proofs.YtffpeklekkpbjaaW.PrintMore2.isSome_setCell   -- for this text's walks alone
set_option linter.unusedVariables false
set_option linter.unusedSimpArgs false

/-! ### impl_Store_has: function 70 -/
def impl_Store_has.f (k : Nat) (l0_0 : List (S65)) (a0_1 : Int) (a1 : Int) : Option (Bool) := (impl_isStore.f k l0_0 a0_1).bind fun t411 => (if t411 = true then (if 0 < (l0_0.length : Int) then (if a1 ≥ ((rd_T65 l0_0 0).f0) then (some (decide (a1 < a0_1))) else (some false)) else (none)) else (some false))
theorem impl_Store_has.mono : ∀ a0 a1 a2 k, LeO (impl_Store_has.f k a0 a1 a2) (impl_Store_has.f (k + 1) a0 a1 a2) := by
 intro a0 a1 a2 k
 unfold impl_Store_has.f
 repeat' first
   | (with_reducible exact impl_isStore.mono _ _ _)
   | (with_reducible exact LeO.refl _)
   | (with_reducible exact LeO.none _)
   | (with_reducible refine LeO.ite ?_ ?_)
   | (with_reducible refine LeO.bind ?_ (fun _ => ?_))
   | exact impl_isStore.mono _ _ _
   | exact LeO.none _
   | refine LeO.ite ?_ ?_
   | refine LeO.bind ?_ (fun _ => ?_)
set_option maxHeartbeats 8000000 in
set_option maxRecDepth 100000 in
theorem impl_Store_has.calls (k : Nat) (A0_0 : Option Addr) (c0_0 : Nat) (l0_0 : List (S65)) (a0_1 : Int) (a1 : Int) (r : Bool) (w : World) (hr0_0 : Kd.C k65 w A0_0 l0_0.length l0_0) (hc0_0 : l0_0.length ≤ c0_0) (h : impl_Store_has.f k l0_0 a0_1 a1 = some r) :
  Calls Try.prog 70 #[.agg #[.slice A0_0 l0_0.length c0_0, .int .i64 a0_1], .int .i64 a1] w fun e w' => e = .returned (.bool r) ∧ Below w.heap.size w w' := by
 have hu24 := Try.underlying24
 have HR0_0 := Aside0.mk hr0_0
 have HC0_0 := Aside0.mk hc0_0
 clear hr0_0 hc0_0
 have HB := Aside0.mk (Below.refl w.heap.size w)
 have H : ((impl_isStore.f k l0_0 a0_1).bind fun t411 => (if t411 = true then (if 0 < (l0_0.length : Int) then (if a1 ≥ ((rd_T65 l0_0 0).f0) then (some (decide (a1 < a0_1))) else (some false)) else (none)) else (some false))) = some r := h
 clear h
 replace H := bnd_ H
 obtain ⟨t411, A3, H⟩ := H
 replace H := ifb_ H
 obtain ⟨rfl, H⟩ | ⟨rfl, H⟩ := H
 rotate_left
 ·obtain rfl := Option.some.inj H
  go_enter Try.func70, Try.ntmps70
  go_wp2_with (first | ((with_reducible refine gate_dst (N := 2) rfl ?_); refine be_ (N := 2) #[.slice A0_0 l0_0.length c0_0, .int .i64 a0_1] 24 ?_; intro gb410 hg w15 hbox hb; have BK410 := Aside0.mk (hbox); have GW410 := ge_ hg; have GE410 := ge_ hg; replace HB := nb_ hb; clear hb hbox hg; obtain ⟨hcz16_0, hcz16_1, hfz16_0, hfz16_1⟩ := cf2_ BK410.out) | ((with_reducible refine gate_callee (f := 67) rfl ?_); refine gl_ 6 Try.func67 #[.agg #[.slice A0_0 l0_0.length c0_0, .int .i64 a0_1]] rfl ma_ ?_; (with_reducible refine (impl_isStore.calls k _ _ l0_0 a0_1 false _ ?side1 ?side2 A3.out).mono ?_); (case side1 => exact cs_ ((Kd.C_below HR0_0.out HB.out))); (case side2 => exact HC0_0.out); rintro e w17 ⟨rfl, hb⟩; refine ⟨_, rfl, ?_⟩; replace BK410 := bK_ BK410 hb; replace HB := nc_ GE410 hb; (try clear hb); (try clear hb2); (try clear hk); (try clear hi)))
  go_ret
  exact ⟨er_, hs_ GE410.out⟩
 replace H := ifs_ H
 obtain ⟨c5, H⟩ := H
 have c5b0 := decide_eq_true c5
 have c5b1 : decide (0 < l0_0.length) = true := decide_eq_true (by omega)
 clear c5
 replace H := ite_ H
 obtain ⟨c6, H⟩ | ⟨c6, H⟩ := H
 ·have c6b0 := dge_ c6
  clear c6
  obtain rfl := Option.some.inj H
  go_enter Try.func70, Try.ntmps70
  go_wp2_with (first | ((with_reducible refine gate_dst (N := 2) rfl ?_); refine be_ (N := 2) #[.slice A0_0 l0_0.length c0_0, .int .i64 a0_1] 24 ?_; intro gb410 hg w7 hbox hb; have BK410 := Aside0.mk (hbox); have GW410 := ge_ hg; have GE410 := ge_ hg; replace HB := nb_ hb; clear hb hbox hg; obtain ⟨hcz8_0, hcz8_1, hfz8_0, hfz8_1⟩ := cf2_ BK410.out) | ((with_reducible refine gate_callee (f := 67) rfl ?_); refine gl_ 6 Try.func67 #[.agg #[.slice A0_0 l0_0.length c0_0, .int .i64 a0_1]] rfl ma_ ?_; (with_reducible refine (impl_isStore.calls k _ _ l0_0 a0_1 true _ ?side1 ?side2 A3.out).mono ?_); (case side1 => exact cs_ ((Kd.C_below HR0_0.out HB.out))); (case side2 => exact HC0_0.out); rintro e w9 ⟨rfl, hb⟩; refine ⟨_, rfl, ?_⟩; replace BK410 := bK_ BK410 hb; replace HB := nc_ GE410 hb; (try clear hb); (try clear hb2); (try clear hk); (try clear hi); obtain ⟨hcz10_0, hcz10_1, hfz10_0, hfz10_1⟩ := cf2_ BK410.out; have p412 : 0 ≤ (0 : Int) := (by omega); have q412 : 0 < (l0_0.length : Int) := oa_; obtain ⟨ad412, A412_2, c412_2, e412, hx412_0, hx412_1, hx412_2, hl412_2, hi412_2⟩ := at_T65 HR0_0.out 0 p412 q412; cases e412; have qi412 : (0 < l0_0.length) = True := eq_true (by omega); (try rw [show ((0 : Int)).toNat = 0 from rfl] at hx412_0); (try rw [show 0 * 3 = 0 from rfl] at hx412_0); (try rw [Addr.add_zero'] at hx412_0); (try rw [show ((0 : Int)).toNat = 0 from rfl] at hx412_1); (try rw [show 0 * 3 = 0 from rfl] at hx412_1); (try rw [Addr.add_zero'] at hx412_1); (try rw [show ((0 : Int)).toNat = 0 from rfl] at hx412_2); (try rw [show 0 * 3 = 0 from rfl] at hx412_2); (try rw [Addr.add_zero'] at hx412_2); replace hx412_0 := pc_ HB.out hx412_0; replace hx412_1 := pc_ HB.out hx412_1; replace hx412_2 := pc_ HB.out hx412_2; have HR412_2 := Aside0.mk hi412_2; have HC412_2 := Aside0.mk hl412_2; clear hi412_2 hl412_2; replace p412 := eq_true p412; replace q412 := eq_true q412))
  go_ret
  exact ⟨er_, hs_ GE410.out⟩
 have c6b0 := dne_ c6
 clear c6
 obtain rfl := Option.some.inj H
 go_enter Try.func70, Try.ntmps70
 go_wp2_with (first | ((with_reducible refine gate_dst (N := 2) rfl ?_); refine be_ (N := 2) #[.slice A0_0 l0_0.length c0_0, .int .i64 a0_1] 24 ?_; intro gb410 hg w11 hbox hb; have BK410 := Aside0.mk (hbox); have GW410 := ge_ hg; have GE410 := ge_ hg; replace HB := nb_ hb; clear hb hbox hg; obtain ⟨hcz12_0, hcz12_1, hfz12_0, hfz12_1⟩ := cf2_ BK410.out) | ((with_reducible refine gate_callee (f := 67) rfl ?_); refine gl_ 6 Try.func67 #[.agg #[.slice A0_0 l0_0.length c0_0, .int .i64 a0_1]] rfl ma_ ?_; (with_reducible refine (impl_isStore.calls k _ _ l0_0 a0_1 true _ ?side1 ?side2 A3.out).mono ?_); (case side1 => exact cs_ ((Kd.C_below HR0_0.out HB.out))); (case side2 => exact HC0_0.out); rintro e w13 ⟨rfl, hb⟩; refine ⟨_, rfl, ?_⟩; replace BK410 := bK_ BK410 hb; replace HB := nc_ GE410 hb; (try clear hb); (try clear hb2); (try clear hk); (try clear hi); obtain ⟨hcz14_0, hcz14_1, hfz14_0, hfz14_1⟩ := cf2_ BK410.out; have p412 : 0 ≤ (0 : Int) := (by omega); have q412 : 0 < (l0_0.length : Int) := oa_; obtain ⟨ad412, A412_2, c412_2, e412, hx412_0, hx412_1, hx412_2, hl412_2, hi412_2⟩ := at_T65 HR0_0.out 0 p412 q412; cases e412; have qi412 : (0 < l0_0.length) = True := eq_true (by omega); (try rw [show ((0 : Int)).toNat = 0 from rfl] at hx412_0); (try rw [show 0 * 3 = 0 from rfl] at hx412_0); (try rw [Addr.add_zero'] at hx412_0); (try rw [show ((0 : Int)).toNat = 0 from rfl] at hx412_1); (try rw [show 0 * 3 = 0 from rfl] at hx412_1); (try rw [Addr.add_zero'] at hx412_1); (try rw [show ((0 : Int)).toNat = 0 from rfl] at hx412_2); (try rw [show 0 * 3 = 0 from rfl] at hx412_2); (try rw [Addr.add_zero'] at hx412_2); replace hx412_0 := pc_ HB.out hx412_0; replace hx412_1 := pc_ HB.out hx412_1; replace hx412_2 := pc_ HB.out hx412_2; have HR412_2 := Aside0.mk hi412_2; have HC412_2 := Aside0.mk hl412_2; clear hi412_2 hl412_2; replace p412 := eq_true p412; replace q412 := eq_true q412))
 go_ret
 exact ⟨er_, hs_ GE410.out⟩

/-! ### impl_SeekIn: function 24 -/
mutual
def impl_SeekIn.l0 : Nat → Int → Int → List (S65) → Int → Option (Int × Int × Bool)
 | 0, _, _, _, _ => none
 | k + 1, x1, x7, x414000, x414001 => if 0 ≤ x7 then (if x7 < (x414000.length : Int) then (if ((rd_T65 x414000 x7).f0) > x1 then (impl_SeekIn.l0 k x1 (wrap64 (x7 - 1)) x414000 x414001) else (impl_SeekIn.l1 k x1 x7 0 ((rd_T65 x414000 x7).f2) (((rd_T65 x414000 x7).f2).length : Int) 0)) else (none)) else (none)
def impl_SeekIn.l1 : Nat → Int → Int → Int → List (S89) → Int → Int → Option (Int × Int × Bool)
 | 0, _, _, _, _, _, _ => none
 | k + 1, x1, x7, x8, x34, x35, x36 => if x36 < x35 then (if 0 ≤ x36 then (if x36 < (x34.length : Int) then (if ((rd_T89 x34 x36).f0) ≤ x1 then (impl_SeekIn.l1 k x1 x7 ((rd_T89 x34 x36).f1) x34 x35 (wrap64 (x36 + 1))) else (impl_SeekIn.l1 k x1 x7 x8 x34 x35 (wrap64 (x36 + 1)))) else (none)) else (none)) else (some (x7, x8, true))
end
def impl_SeekIn.f (k : Nat) (l0_0 : List (S65)) (a0_1 : Int) (a1 : Int) : Option (Int × Int × Bool) := (impl_Store_has.f k l0_0 a0_1 a1).bind fun t414 => (if t414 = true then (impl_SeekIn.l0 k a1 (wrap64 ((l0_0.length : Int) - 1)) l0_0 a0_1) else (some (0, 0, false)))
theorem impl_SeekIn.mono_l : ∀ k, (∀ y0 y1 y2 y3, LeO (impl_SeekIn.l0 k y0 y1 y2 y3) (impl_SeekIn.l0 (k + 1) y0 y1 y2 y3)) ∧ (∀ y0 y1 y2 y3 y4 y5, LeO (impl_SeekIn.l1 k y0 y1 y2 y3 y4 y5) (impl_SeekIn.l1 (k + 1) y0 y1 y2 y3 y4 y5))
 | 0 => ⟨fun _ _ _ _ r h => by simp [impl_SeekIn.l0] at h, fun _ _ _ _ _ _ r h => by simp [impl_SeekIn.l1] at h⟩
 | k + 1 => by
  obtain ⟨ih0, ih1⟩ := impl_SeekIn.mono_l k
  refine ⟨?_, ?_⟩
  ·intro y0 y1 y2 y3
   unfold impl_SeekIn.l0
   repeat' first
   | (with_reducible exact ih0 _ _ _ _)
   | (with_reducible exact ih1 _ _ _ _ _ _)
   | (with_reducible exact impl_Store_has.mono _ _ _ _)
   | (with_reducible exact LeO.refl _)
   | (with_reducible exact LeO.none _)
   | (with_reducible refine LeO.ite ?_ ?_)
   | (with_reducible refine LeO.bind ?_ (fun _ => ?_))
   | exact ih0 _ _ _ _
   | exact ih1 _ _ _ _ _ _
   | exact impl_Store_has.mono _ _ _ _
   | exact LeO.none _
   | refine LeO.ite ?_ ?_
   | refine LeO.bind ?_ (fun _ => ?_)
  ·intro y0 y1 y2 y3 y4 y5
   unfold impl_SeekIn.l1
   repeat' first
   | (with_reducible exact ih0 _ _ _ _)
   | (with_reducible exact ih1 _ _ _ _ _ _)
   | (with_reducible exact impl_Store_has.mono _ _ _ _)
   | (with_reducible exact LeO.refl _)
   | (with_reducible exact LeO.none _)
   | (with_reducible refine LeO.ite ?_ ?_)
   | (with_reducible refine LeO.bind ?_ (fun _ => ?_))
   | exact ih0 _ _ _ _
   | exact ih1 _ _ _ _ _ _
   | exact impl_Store_has.mono _ _ _ _
   | exact LeO.none _
   | refine LeO.ite ?_ ?_
   | refine LeO.bind ?_ (fun _ => ?_)
theorem impl_SeekIn.mono : ∀ a0 a1 a2 k, LeO (impl_SeekIn.f k a0 a1 a2) (impl_SeekIn.f (k + 1) a0 a1 a2) := by
 intro a0 a1 a2 k
 obtain ⟨ih0, ih1⟩ := impl_SeekIn.mono_l k
 unfold impl_SeekIn.f
 repeat' first
   | (with_reducible exact ih0 _ _ _ _)
   | (with_reducible exact ih1 _ _ _ _ _ _)
   | (with_reducible exact impl_Store_has.mono _ _ _ _)
   | (with_reducible exact LeO.refl _)
   | (with_reducible exact LeO.none _)
   | (with_reducible refine LeO.ite ?_ ?_)
   | (with_reducible refine LeO.bind ?_ (fun _ => ?_))
   | exact ih0 _ _ _ _
   | exact ih1 _ _ _ _ _ _
   | exact impl_Store_has.mono _ _ _ _
   | exact LeO.none _
   | refine LeO.ite ?_ ?_
   | refine LeO.bind ?_ (fun _ => ?_)
set_option maxHeartbeats 8000000 in
set_option maxRecDepth 100000 in
theorem impl_SeekIn.calls (k : Nat) (A0_0 : Option Addr) (c0_0 : Nat) (l0_0 : List (S65)) (a0_1 : Int) (a1 : Int) (r1 : Int) (r2 : Int) (r3 : Bool) (w : World) (hr0_0 : Kd.C k65 w A0_0 l0_0.length l0_0) (hc0_0 : l0_0.length ≤ c0_0) (h : impl_SeekIn.f k l0_0 a0_1 a1 = some (r1, r2, r3)) :
  Calls Try.prog 24 #[.agg #[.slice A0_0 l0_0.length c0_0, .int .i64 a0_1], .int .i64 a1] w fun e w' => e = .returned (.tuple #[.int .i64 r1, .int .i64 r2, .bool r3]) ∧ Below w.heap.size w w' := by
 have hu24 := Try.underlying24
 have hu89 := Try.underlying89
 have HR0_0 := Aside0.mk hr0_0
 have HC0_0 := Aside0.mk hc0_0
 clear hr0_0 hc0_0
 have HB := Aside0.mk (Below.refl w.heap.size w)
 have H : ((impl_Store_has.f k l0_0 a0_1 a1).bind fun t414 => (if t414 = true then (impl_SeekIn.l0 k a1 (wrap64 ((l0_0.length : Int) - 1)) l0_0 a0_1) else (some (0, 0, false)))) = some (r1, r2, r3) := h
 clear h
 replace H := bnd_ H
 obtain ⟨t414, A3, H⟩ := H
 replace H := ifb_ H
 obtain ⟨rfl, H⟩ | ⟨rfl, H⟩ := H
 rotate_left
 ·simp only [Option.some.injEq, Prod.mk.injEq] at H
  obtain ⟨rfl, rfl, rfl⟩ := H
  go_enter Try.func24, Try.ntmps24
  go_wp2_with (first | ((with_reducible refine gate_dst (N := 2) rfl ?_); refine be_ (N := 2) #[.slice A0_0 l0_0.length c0_0, .int .i64 a0_1] 24 ?_; intro gb413 hg w24 hbox hb; have BK413 := Aside0.mk (hbox); have GW413 := ge_ hg; have GE413 := ge_ hg; replace HB := nb_ hb; clear hb hbox hg; obtain ⟨hcz25_0, hcz25_1, hfz25_0, hfz25_1⟩ := cf2_ BK413.out) | ((with_reducible refine gate_callee (f := 70) rfl ?_); refine gl_ 13 Try.func70 #[.agg #[.slice A0_0 l0_0.length c0_0, .int .i64 a0_1], .int .i64 a1] rfl ma_ ?_; (with_reducible refine (impl_Store_has.calls k _ _ l0_0 a0_1 a1 false _ ?side1 ?side2 A3.out).mono ?_); (case side1 => exact cs_ ((Kd.C_below HR0_0.out HB.out))); (case side2 => exact HC0_0.out); rintro e w26 ⟨rfl, hb⟩; refine ⟨_, rfl, ?_⟩; replace BK413 := bK_ BK413 hb; replace HB := nc_ GE413 hb; (try clear hb); (try clear hb2); (try clear hk); (try clear hi)))
  go_ret3
  exact ⟨er_, hs_ GE413.out⟩
 have H' := Aside0.mk H
 clear H
 go_enter Try.func24, Try.ntmps24
 go_wp2_with (first | ((with_reducible refine gate_dst (N := 2) rfl ?_); refine be_ (N := 2) #[.slice A0_0 l0_0.length c0_0, .int .i64 a0_1] 24 ?_; intro gb413 hg w5 hbox hb; have BK413 := Aside0.mk (hbox); have GW413 := ge_ hg; have GE413 := ge_ hg; replace HB := nb_ hb; clear hb hbox hg; obtain ⟨hcz6_0, hcz6_1, hfz6_0, hfz6_1⟩ := cf2_ BK413.out) | ((with_reducible refine gate_callee (f := 70) rfl ?_); refine gl_ 13 Try.func70 #[.agg #[.slice A0_0 l0_0.length c0_0, .int .i64 a0_1], .int .i64 a1] rfl ma_ ?_; (with_reducible refine (impl_Store_has.calls k _ _ l0_0 a0_1 a1 true _ ?side1 ?side2 A3.out).mono ?_); (case side1 => exact cs_ ((Kd.C_below HR0_0.out HB.out))); (case side2 => exact HC0_0.out); rintro e w7 ⟨rfl, hb⟩; refine ⟨_, rfl, ?_⟩; replace BK413 := bK_ BK413 hb; replace HB := nc_ GE413 hb; (try clear hb); (try clear hb2); (try clear hk); (try clear hi); obtain ⟨hcz8_0, hcz8_1, hfz8_0, hfz8_1⟩ := cf2_ BK413.out))
 go_loopg [7] k (fun kq v7 w' => ∃ (x7_1 : Int), v7 = .int .i64 x7_1 ∧ Aside0 (impl_SeekIn.l0 kq a1 x7_1 l0_0 a0_1 = some (r1, r2, r3)) ∧ Aside0 (kq ≤ k) ∧ Aside0 (w'.heap[gb413]? = some (.cells #[(.slice A0_0 l0_0.length c0_0), .int .i64 a0_1] 24 (0, 0))) ∧ Aside0 (Below w.heap.size w w'))
 case atStart => exact ⟨(wrap64 ((l0_0.length : Int) - 1)), sr_, H', ⟨Nat.le_refl _⟩, ⟨kb_ BK413.out⟩, ⟨hs_ GE413.out⟩⟩
 case round =>
  clear H'
  try clear c2
  try clear p2
  try clear c4
  try clear p6
  try clear c7
  try clear hcz6_0
  try clear hcz6_1
  try clear hcz8_0
  try clear hcz8_1
  try clear hfz6_0
  try clear hfz6_1
  try clear hfz8_0
  try clear hfz8_1
  obtain ⟨x7_1, rfl, HA, HK1, BK413, HB⟩ := hrel
  cases gk with
  | zero => exact absurd HA.out (by simp [impl_SeekIn.l0])
  | succ k1 =>
   have H := HA.out
   clear HA
   simp only [impl_SeekIn.l0] at H
   replace H := ifs_ H
   obtain ⟨c9, H⟩ := H
   have c9b0 := decide_eq_true c9
   clear c9
   replace H := ifs_ H
   obtain ⟨c10, H⟩ := H
   have c10b0 := decide_eq_true c10
   clear c10
   replace H := ite_ H
   obtain ⟨c11, H⟩ | ⟨c11, H⟩ := H
   ·have c11b0 := dgt_ c11
    clear c11
    have H' := Aside0.mk H
    clear H
    obtain ⟨hcz12_0, hcz12_1, hfz12_0, hfz12_1⟩ := cf2_ BK413.out
    have p415 : 0 ≤ (x7_1 : Int) := oa_
    have q415 : x7_1 < (l0_0.length : Int) := oa_
    obtain ⟨ad415, A415_2, c415_2, e415, hx415_0, hx415_1, hx415_2, hl415_2, hi415_2⟩ := at_T65 HR0_0.out x7_1 p415 q415
    cases e415
    replace hx415_0 := pc_ HB.out hx415_0
    replace hx415_1 := pc_ HB.out hx415_1
    replace hx415_2 := pc_ HB.out hx415_2
    have HR415_2 := Aside0.mk hi415_2
    have HC415_2 := Aside0.mk hl415_2
    clear hi415_2 hl415_2
    replace p415 := eq_true p415
    replace q415 := eq_true q415
    go_wp2
    go_roundg k1
    case measure => have := HK1.out; omega
    case rel => exact ⟨(wrap64 (x7_1 - 1)), sr_, H', ⟨by have := HK1.out; omega⟩, ⟨kb_ BK413.out⟩, ⟨hs_ GE413.out⟩⟩
   have c11b0 := dgf_ c11
   clear c11
   have H' := Aside0.mk H
   clear H
   obtain ⟨hcz13_0, hcz13_1, hfz13_0, hfz13_1⟩ := cf2_ BK413.out
   have p415 : 0 ≤ (x7_1 : Int) := oa_
   have q415 : x7_1 < (l0_0.length : Int) := oa_
   obtain ⟨ad415, A415_2, c415_2, e415, hx415_0, hx415_1, hx415_2, hl415_2, hi415_2⟩ := at_T65 HR0_0.out x7_1 p415 q415
   cases e415
   replace hx415_0 := pc_ HB.out hx415_0
   replace hx415_1 := pc_ HB.out hx415_1
   replace hx415_2 := pc_ HB.out hx415_2
   have HR415_2 := Aside0.mk hi415_2
   have HC415_2 := Aside0.mk hl415_2
   clear hi415_2 hl415_2
   replace p415 := eq_true p415
   replace q415 := eq_true q415
   have p416 : 0 ≤ (x7_1 : Int) := oa_
   have q416 : x7_1 < (l0_0.length : Int) := oa_
   obtain ⟨ad416, A416_2, c416_2, e416, hx416_0, hx416_1, hx416_2, hl416_2, hi416_2⟩ := at_T65 HR0_0.out x7_1 p416 q416
   obtain rfl : ad415 = ad416 := (by injection e416)
   replace hx416_0 := pc_ HB.out hx416_0
   replace hx416_1 := pc_ HB.out hx416_1
   replace hx416_2 := pc_ HB.out hx416_2
   have HR416_2 := Aside0.mk hi416_2
   have HC416_2 := Aside0.mk hl416_2
   clear hi416_2 hl416_2
   replace p416 := eq_true p416
   replace q416 := eq_true q416
   have ea_ := Option.some.inj (hx415_2.symm.trans hx416_2)
   injection ea_ with ea_ en_ ec_
   subst ea_
   subst ec_
   clear en_
   go_wp2
   go_loopg [8, 36] k1 (fun kq v8 v36 w' => ∃ (x8_2 : Int) (x36_2 : Int), v8 = .int .i64 x8_2 ∧ v36 = .int .i64 x36_2 ∧ Aside0 (impl_SeekIn.l1 kq a1 x7_1 x8_2 ((rd_T65 l0_0 x7_1).f2) (((rd_T65 l0_0 x7_1).f2).length : Int) x36_2 = some (r1, r2, r3)) ∧ Aside0 (kq ≤ k1) ∧ Aside0 (w'.heap[gb413]? = some (.cells #[(.slice (some ad415) l0_0.length c0_0), .int .i64 a0_1] 24 (0, 0))) ∧ Aside0 (Below w.heap.size w w'))
   case atStart => exact ⟨(0), (0), sr_, sr_, H', ⟨Nat.le_refl _⟩, ⟨kb_ BK413.out⟩, ⟨hs_ GE413.out⟩⟩
   case round =>
    clear H'
    try clear c1
    try clear c2
    try clear p2
    try clear c4
    try clear p4
    try clear q4
    try clear hx4
    try clear p6
    try clear c7
    try clear c9
    try clear c9b0
    try clear c10
    try clear c10b0
    try clear c11
    try clear c11b0
    try clear hcz12_0
    try clear hcz12_1
    try clear hcz13_0
    try clear hcz13_1
    try clear hcz6_0
    try clear hcz6_1
    try clear hcz8_0
    try clear hcz8_1
    try clear hfz12_0
    try clear hfz12_1
    try clear hfz13_0
    try clear hfz13_1
    try clear hfz6_0
    try clear hfz6_1
    try clear hfz8_0
    try clear hfz8_1
    try clear hx415_0
    try clear hx415_1
    try clear hx415_2
    try clear hx416_0
    try clear hx416_1
    try clear hx416_2
    try clear p2
    try clear p415
    try clear p416
    try clear p6
    try clear q415
    try clear q416
    obtain ⟨x8_2, x36_2, rfl, rfl, HA, HK2, BK413, HB⟩ := hrel
    cases gk with
    | zero => exact absurd HA.out (by simp [impl_SeekIn.l1])
    | succ k2 =>
     have H := HA.out
     clear HA
     simp only [impl_SeekIn.l1] at H
     replace H := ite_ H
     obtain ⟨c14, H⟩ | ⟨c14, H⟩ := H
     rotate_left
     ·have c14b0 := decide_eq_false c14
      clear c14
      simp only [Option.some.injEq, Prod.mk.injEq] at H
      obtain ⟨rfl, rfl, rfl⟩ := H
      go_wp2
      go_ret3
      exact ⟨er_, hs_ GE413.out⟩
     have c14b0 := decide_eq_true c14
     clear c14
     replace H := ifs_ H
     obtain ⟨c15, H⟩ := H
     have c15b0 := decide_eq_true c15
     clear c15
     replace H := ifs_ H
     obtain ⟨c16, H⟩ := H
     have c16b0 := decide_eq_true c16
     clear c16
     replace H := ite_ H
     obtain ⟨c17, H⟩ | ⟨c17, H⟩ := H
     rotate_left
     ·have c17b0 := decide_eq_false c17
      clear c17
      have H' := Aside0.mk H
      clear H
      have p417 : 0 ≤ (x36_2 : Int) := oa_
      have q417 : x36_2 < (((rd_T65 l0_0 x7_1).f2).length : Int) := oa_
      obtain ⟨ad417, e417, hx417_0, hx417_1⟩ := at_T89 HR416_2.out x36_2 p417 q417
      cases e417
      replace hx417_0 := pc_ HB.out hx417_0
      replace hx417_1 := pc_ HB.out hx417_1
      replace p417 := eq_true p417
      replace q417 := eq_true q417
      go_wp2_with (first | ((with_reducible refine gate_dst (N := 10) rfl ?_); refine be_ (N := 10) #[.int .i64 0, .int .i64 0] 89 ?_; intro gb418 hg w21 hbox hb; have BK418 := Aside0.mk (hbox); have GW418 := ge1_ hg GE413; have GE418 := ge1_ hg GE413; replace HB := nc_ GE413 hb; have NB413_418 := nl_ BK413 hg; have NB418_413 := ng_ BK413 hg; replace BK413 := bK_ BK413 hb; clear hb hbox hg; have hnb22 := NB418_413.out; have hnc22 := NB413_418.out; obtain ⟨hcz23_0, hcz23_1, hfz23_0, hfz23_1⟩ := cf2_ BK418.out))
      go_roundg k2
      case measure => have := HK1.out; have := HK2.out; omega
      case rel => exact ⟨(x8_2), (wrap64 (x36_2 + 1)), sr_, sr_, H', ⟨by have := HK1.out; have := HK2.out; omega⟩, ⟨by (with_reducible repeat (first | refine blk_drewN ?_ _ | refine blk_drew ?_ | refine blk_alloc ?_ _)); refine blk_far ?_ NB413_418.out _; (with_reducible repeat (first | refine blk_drewN ?_ _ | refine blk_drew ?_ | refine blk_alloc ?_ _)); refine blk_far ?_ NB413_418.out _; (with_reducible repeat (first | refine blk_drewN ?_ _ | refine blk_drew ?_ | refine blk_alloc ?_ _)); exact BK413.out⟩, ⟨hs2_ GE413.out GE418.out⟩⟩
     have c17b0 := decide_eq_true c17
     clear c17
     have H' := Aside0.mk H
     clear H
     have p417 : 0 ≤ (x36_2 : Int) := oa_
     have q417 : x36_2 < (((rd_T65 l0_0 x7_1).f2).length : Int) := oa_
     obtain ⟨ad417, e417, hx417_0, hx417_1⟩ := at_T89 HR416_2.out x36_2 p417 q417
     cases e417
     replace hx417_0 := pc_ HB.out hx417_0
     replace hx417_1 := pc_ HB.out hx417_1
     replace p417 := eq_true p417
     replace q417 := eq_true q417
     go_wp2_with (first | ((with_reducible refine gate_dst (N := 10) rfl ?_); refine be_ (N := 10) #[.int .i64 0, .int .i64 0] 89 ?_; intro gb418 hg w18 hbox hb; have BK418 := Aside0.mk (hbox); have GW418 := ge1_ hg GE413; have GE418 := ge1_ hg GE413; replace HB := nc_ GE413 hb; have NB413_418 := nl_ BK413 hg; have NB418_413 := ng_ BK413 hg; replace BK413 := bK_ BK413 hb; clear hb hbox hg; have hnb19 := NB418_413.out; have hnc19 := NB413_418.out; obtain ⟨hcz20_0, hcz20_1, hfz20_0, hfz20_1⟩ := cf2_ BK418.out))
     go_roundg k2
     case measure => have := HK1.out; have := HK2.out; omega
     case rel => exact ⟨((rd_T89 ((rd_T65 l0_0 x7_1).f2) x36_2).f1), (wrap64 (x36_2 + 1)), sr_, sr_, H', ⟨by have := HK1.out; have := HK2.out; omega⟩, ⟨by (with_reducible repeat (first | refine blk_drewN ?_ _ | refine blk_drew ?_ | refine blk_alloc ?_ _)); refine blk_far ?_ NB413_418.out _; (with_reducible repeat (first | refine blk_drewN ?_ _ | refine blk_drew ?_ | refine blk_alloc ?_ _)); refine blk_far ?_ NB413_418.out _; (with_reducible repeat (first | refine blk_drewN ?_ _ | refine blk_drew ?_ | refine blk_alloc ?_ _)); exact BK413.out⟩, ⟨hs2_ GE413.out GE418.out⟩⟩

/-! ### laws_FnExactSeekIn: function 5 -/
def laws_FnExactSeekIn.j0 : Nat → Bool → List (S117) → Int → List (S65) → Int → Option (Bool)
 | 0, _, _, _, _, _ => none
 | k + 1, x47, x420000, x420001, x433000, x433001 => if x47 = true then (some false) else ((laws_toStore.f k x420000 x420001).bind fun bt436 => ((laws_eqStore.f k x433000 x433001 bt436.1 bt436.2).bind fun t440 => (if t440 = true then (some true) else (some false))))
def laws_FnExactSeekIn.f (k : Nat) (l0_0 : List (S117)) (a0_1 : Int) (a1 : Int) : Option (Bool) := (laws_szStore.f k l0_0 a0_1 1048576).bind fun t420 => (if t420 < 0 then (some true) else ((laws_toStore.f k l0_0 a0_1).bind fun bt421 => ((spec_SeekIn.f k bt421.1 bt421.2 a1).bind fun bt425 => ((laws_toStore.f k l0_0 a0_1).bind fun bt428 => ((impl_SeekIn.f k bt428.1 bt428.2 a1).bind fun bt433 => (if bt433.1 = bt425.1 then (if bt433.2.1 = bt425.2.1 then (laws_FnExactSeekIn.j0 k (bt433.2.2 != bt425.2.2) l0_0 a0_1 bt428.1 bt428.2) else (laws_FnExactSeekIn.j0 k true l0_0 a0_1 bt428.1 bt428.2)) else (laws_FnExactSeekIn.j0 k true l0_0 a0_1 bt428.1 bt428.2)))))))
theorem laws_FnExactSeekIn.mono_l : ∀ k, (∀ y0 y1 y2 y3 y4, LeO (laws_FnExactSeekIn.j0 k y0 y1 y2 y3 y4) (laws_FnExactSeekIn.j0 (k + 1) y0 y1 y2 y3 y4))
 | 0 => fun _ _ _ _ _ r h => by simp [laws_FnExactSeekIn.j0] at h
 | k + 1 => by
  have ih0 := laws_FnExactSeekIn.mono_l k
  ·intro y0 y1 y2 y3 y4
   unfold laws_FnExactSeekIn.j0
   repeat' first
   | (with_reducible exact ih0 _ _ _ _ _)
   | (with_reducible exact impl_SeekIn.mono _ _ _ _)
   | (with_reducible exact laws_eqStore.mono _ _ _ _ _)
   | (with_reducible exact laws_szStore.mono _ _ _ _)
   | (with_reducible exact laws_toStore.mono _ _ _)
   | (with_reducible exact spec_SeekIn.mono _ _ _ _)
   | (with_reducible exact LeO.refl _)
   | (with_reducible exact LeO.none _)
   | (with_reducible refine LeO.ite ?_ ?_)
   | (with_reducible refine LeO.bind ?_ (fun _ => ?_))
   | exact ih0 _ _ _ _ _
   | exact impl_SeekIn.mono _ _ _ _
   | exact laws_eqStore.mono _ _ _ _ _
   | exact laws_szStore.mono _ _ _ _
   | exact laws_toStore.mono _ _ _
   | exact spec_SeekIn.mono _ _ _ _
   | exact LeO.none _
   | refine LeO.ite ?_ ?_
   | refine LeO.bind ?_ (fun _ => ?_)
theorem laws_FnExactSeekIn.mono : ∀ a0 a1 a2 k, LeO (laws_FnExactSeekIn.f k a0 a1 a2) (laws_FnExactSeekIn.f (k + 1) a0 a1 a2) := by
 intro a0 a1 a2 k
 have ih0 := laws_FnExactSeekIn.mono_l k
 unfold laws_FnExactSeekIn.f
 repeat' first
   | (with_reducible exact ih0 _ _ _ _ _)
   | (with_reducible exact impl_SeekIn.mono _ _ _ _)
   | (with_reducible exact laws_eqStore.mono _ _ _ _ _)
   | (with_reducible exact laws_szStore.mono _ _ _ _)
   | (with_reducible exact laws_toStore.mono _ _ _)
   | (with_reducible exact spec_SeekIn.mono _ _ _ _)
   | (with_reducible exact LeO.refl _)
   | (with_reducible exact LeO.none _)
   | (with_reducible refine LeO.ite ?_ ?_)
   | (with_reducible refine LeO.bind ?_ (fun _ => ?_))
   | exact ih0 _ _ _ _ _
   | exact impl_SeekIn.mono _ _ _ _
   | exact laws_eqStore.mono _ _ _ _ _
   | exact laws_szStore.mono _ _ _ _
   | exact laws_toStore.mono _ _ _
   | exact spec_SeekIn.mono _ _ _ _
   | exact LeO.none _
   | refine LeO.ite ?_ ?_
   | refine LeO.bind ?_ (fun _ => ?_)
set_option maxHeartbeats 8000000 in
set_option maxRecDepth 100000 in
theorem laws_FnExactSeekIn.calls (k : Nat) (A0_0 : Option Addr) (c0_0 : Nat) (l0_0 : List (S117)) (a0_1 : Int) (a1 : Int) (r : Bool) (w : World) (hr0_0 : Kd.C k117 w A0_0 l0_0.length l0_0) (hc0_0 : l0_0.length ≤ c0_0) (h : laws_FnExactSeekIn.f k l0_0 a0_1 a1 = some r) :
  Calls Try.prog 5 #[.agg #[.slice A0_0 l0_0.length c0_0, .int .i64 a0_1], .int .i64 a1] w fun e w' => e = .returned (.bool r) ∧ Below w.heap.size w w' := by
 have hu32 := Try.underlying32
 have hu24 := Try.underlying24
 have HR0_0 := Aside0.mk hr0_0
 have HC0_0 := Aside0.mk hc0_0
 clear hr0_0 hc0_0
 have HB := Aside0.mk (Below.refl w.heap.size w)
 have H : ((laws_szStore.f k l0_0 a0_1 1048576).bind fun t420 => (if t420 < 0 then (some true) else ((laws_toStore.f k l0_0 a0_1).bind fun bt421 => ((spec_SeekIn.f k bt421.1 bt421.2 a1).bind fun bt425 => ((laws_toStore.f k l0_0 a0_1).bind fun bt428 => ((impl_SeekIn.f k bt428.1 bt428.2 a1).bind fun bt433 => (if bt433.1 = bt425.1 then (if bt433.2.1 = bt425.2.1 then (laws_FnExactSeekIn.j0 k (bt433.2.2 != bt425.2.2) l0_0 a0_1 bt428.1 bt428.2) else (laws_FnExactSeekIn.j0 k true l0_0 a0_1 bt428.1 bt428.2)) else (laws_FnExactSeekIn.j0 k true l0_0 a0_1 bt428.1 bt428.2)))))))) = some r := h
 clear h
 replace H := bnd_ H
 obtain ⟨t420, A3, H⟩ := H
 replace H := ite_ H
 obtain ⟨c4, H⟩ | ⟨c4, H⟩ := H
 ·have c4b0 := decide_eq_true c4
  clear c4
  obtain rfl := Option.some.inj H
  go_enter Try.func5, Try.ntmps5
  go_wp2_with (first | ((with_reducible refine gate_dst (N := 2) rfl ?_); refine be_ (N := 2) #[.slice A0_0 l0_0.length c0_0, .int .i64 a0_1] 32 ?_; intro gb419 hg w5 hbox hb; have BK419 := Aside0.mk (hbox); have GW419 := ge_ hg; have GE419 := ge_ hg; replace HB := nb_ hb; clear hb hbox hg; obtain ⟨hcz6_0, hcz6_1, hfz6_0, hfz6_1⟩ := cf2_ BK419.out) | ((with_reducible refine gate_callee (f := 19) rfl ?_); refine gl_ 15 Try.func19 #[.agg #[.slice A0_0 l0_0.length c0_0, .int .i64 a0_1], .int .i64 1048576] rfl ma_ ?_; (with_reducible refine (laws_szStore.calls k _ _ l0_0 a0_1 1048576 t420 _ ?side1 ?side2 A3.out).mono ?_); (case side1 => exact cs_ ((Kd.C_below HR0_0.out HB.out))); (case side2 => exact HC0_0.out); rintro e w7 ⟨rfl, hb⟩; refine ⟨_, rfl, ?_⟩; replace BK419 := bK_ BK419 hb; replace HB := nc_ GE419 hb; (try clear hb); (try clear hb2); (try clear hk); (try clear hi)))
  go_ret
  exact ⟨er_, hs_ GE419.out⟩
 have c4b0 := decide_eq_false c4
 clear c4
 replace H := bnd_ H
 obtain ⟨⟨t421, t424⟩, A8, H⟩ := H
 replace H := red_ H
 replace H := bnd_ H
 obtain ⟨⟨t425, t426, t427⟩, A9, H⟩ := H
 replace H := red_ H
 replace H := bnd_ H
 obtain ⟨⟨t428, t431⟩, A10, H⟩ := H
 replace H := red_ H
 replace H := bnd_ H
 obtain ⟨⟨t433, t434, t435⟩, A11, H⟩ := H
 replace H := red_ H
 have HC12 := Aside0.mk H
 clear H
 go_enter Try.func5, Try.ntmps5
 go_upto_region 8 with (first | ((with_reducible refine gate_dst (N := 2) rfl ?_); refine be_ (N := 2) #[.slice A0_0 l0_0.length c0_0, .int .i64 a0_1] 32 ?_; intro gb419 hg w13 hbox hb; have BK419 := Aside0.mk (hbox); have GW419 := ge_ hg; have GE419 := ge_ hg; replace HB := nb_ hb; clear hb hbox hg; obtain ⟨hcz14_0, hcz14_1, hfz14_0, hfz14_1⟩ := cf2_ BK419.out) | ((with_reducible refine gate_callee (f := 19) rfl ?_); refine gl_ 15 Try.func19 #[.agg #[.slice A0_0 l0_0.length c0_0, .int .i64 a0_1], .int .i64 1048576] rfl ma_ ?_; (with_reducible refine (laws_szStore.calls k _ _ l0_0 a0_1 1048576 t420 _ ?side1 ?side2 A3.out).mono ?_); (case side1 => exact cs_ ((Kd.C_below HR0_0.out HB.out))); (case side2 => exact HC0_0.out); rintro e w15 ⟨rfl, hb⟩; refine ⟨_, rfl, ?_⟩; replace BK419 := bK_ BK419 hb; replace HB := nc_ GE419 hb; (try clear hb); (try clear hb2); (try clear hk); (try clear hi); obtain ⟨hcz16_0, hcz16_1, hfz16_0, hfz16_1⟩ := cf2_ BK419.out) | ((with_reducible refine gate_callee (f := 21) rfl ?_); refine gl_ 20 Try.func21 #[.agg #[.slice A0_0 l0_0.length c0_0, .int .i64 a0_1]] rfl ma_ ?_; (with_reducible refine (laws_toStore.calls k _ _ l0_0 a0_1 t421 t424 _ ?side1 ?side2 A8.out).mono ?_); (case side1 => exact cs_ ((Kd.C_below HR0_0.out HB.out))); (case side2 => exact HC0_0.out); rintro e w17 ⟨v422, rfl, ho0, hb⟩; refine ⟨_, rfl, ?_⟩; have HO423 := Aside0.mk (Kd.S_lower ho0 (below_size (hs_ GE419.out))); replace BK419 := bK_ BK419 hb; replace HB := nc_ GE419 hb; (try clear hb); (try clear hb2); (try clear hk); (try clear hi); (try clear ho0); obtain ⟨Ao18, co18, eo18⟩ := Kd.S_slice HO423.out; subst eo18) | ((with_reducible refine gate_callee (f := 23) rfl ?_); refine gl_ 22 Try.func23 #[.agg #[.slice Ao18 t421.length co18, .int .i64 t424], .int .i64 a1] rfl ma_ ?_; (with_reducible refine (spec_SeekIn.calls k _ _ t421 t424 a1 t425 t426 t427 _ ?side1 ?side2 A9.out).mono ?_); (case side1 => exact cs_ ((Kd.S_reads' HO423.out).2.2)); (case side2 => exact (Kd.S_reads' HO423.out).2.1); rintro e w19 ⟨rfl, hb⟩; refine ⟨_, rfl, ?_⟩; replace HO423 := sB_ HO423 hb; replace BK419 := bK_ BK419 hb; replace HB := nc_ GE419 hb; (try clear hb); (try clear hb2); (try clear hk); (try clear hi); obtain ⟨hcz20_0, hcz20_1, hfz20_0, hfz20_1⟩ := cf2_ BK419.out) | ((with_reducible refine gate_callee (f := 21) rfl ?_); refine gl_ 27 Try.func21 #[.agg #[.slice A0_0 l0_0.length c0_0, .int .i64 a0_1]] rfl ma_ ?_; (with_reducible refine (laws_toStore.calls k _ _ l0_0 a0_1 t428 t431 _ ?side1 ?side2 A10.out).mono ?_); (case side1 => exact cs_ ((Kd.C_below HR0_0.out HB.out))); (case side2 => exact HC0_0.out); rintro e w21 ⟨v429, rfl, ho0, hb⟩; refine ⟨_, rfl, ?_⟩; have HO430 := Aside0.mk (Kd.S_lower (Kd.S_new' ho0 (Kd.S_lt (ks_ HO423.out))) (below_size (hs_ GE419.out))); replace HO423 := Aside0.mk (Kd.S_elder' (ks_ HO423.out) (Kd.S_base ho0) hb); replace BK419 := bK_ BK419 hb; replace HB := nc_ GE419 hb; (try clear hb); (try clear hb2); (try clear hk); (try clear hi); (try clear ho0)) | ((with_reducible refine gate_dst (N := 9) rfl ?_); refine be_ (N := 9) #[.slice none 0 0, .int .i64 0] 24 ?_; intro gb432 hg w22 hbox hb; replace HO423 := sB_ HO423 hb; replace HO430 := sB_ HO430 hb; have BK432 := Aside0.mk (hbox); have GW432 := ge1_ hg GE419; have GE432 := ge1_ hg GE419; replace HB := nc_ GE419 hb; have NB419_432 := nl_ BK419 hg; have NB432_419 := ng_ BK419 hg; replace BK419 := bK_ BK419 hb; clear hb hbox hg; obtain ⟨Ao23, co23, eo23⟩ := Kd.S_slice HO430.out; subst eo23; have hnb24 := NB432_419.out; have hnc24 := NB419_432.out; obtain ⟨hcz25_0, hcz25_1, hfz25_0, hfz25_1⟩ := cf2_ BK432.out) | ((with_reducible refine gate_callee (f := 24) rfl ?_); refine gl_ 31 Try.func24 #[.agg #[.slice Ao23 t428.length co23, .int .i64 t431], .int .i64 a1] rfl ma_ ?_; (with_reducible refine (impl_SeekIn.calls k _ _ t428 t431 a1 t433 t434 t435 _ ?side1 ?side2 A11.out).mono ?_); (case side1 => refine (Kd.S_reads' (e := 65) (base := w.heap.size) (ok := fun k_ => (True ∧ some k_ ≠ (.slice Ao18 t421.length co18 : Value).ownBlock)) (n := t428.length) (c := co23) ?_).2.2; exact (by (with_reducible repeat (first | apply Kd.S_alloc | apply Kd.S_drewN | apply Kd.S_drew)); exact (Kd.S_mono (Kd.S_far (p := ⟨gb432, 1, none⟩) (Kd.S_far (p := ⟨gb432, 0, none⟩) (Kd.S_types HO430.out BK432.out (by decide)) (fun _ hk => hk.2) (.slice Ao23 t428.length co23)) (fun _ hk => hk.2) (.int .i64 t431)) (fun _ h_ => h_.1)))); (case side2 => exact (Kd.S_reads' HO430.out).2.1); rintro e w26 ⟨rfl, hb⟩; refine ⟨_, rfl, ?_⟩; replace HO423 := Aside0.mk (Kd.S_below (by (with_reducible repeat (first | apply Kd.S_alloc | apply Kd.S_drewN | apply Kd.S_drew)); exact (Kd.S_mono (Kd.S_far (p := ⟨gb432, 1, none⟩) (Kd.S_far (p := ⟨gb432, 0, none⟩) (Kd.S_types HO423.out BK432.out (by decide)) (fun _ hk => hk.2) (.slice Ao23 t428.length co23)) (fun _ hk => hk.2) (.int .i64 t431)) (fun _ h_ => h_.1))) hb); replace HO430 := Aside0.mk (Kd.S_below (by (with_reducible repeat (first | apply Kd.S_alloc | apply Kd.S_drewN | apply Kd.S_drew)); exact (Kd.S_mono (Kd.S_far (p := ⟨gb432, 1, none⟩) (Kd.S_far (p := ⟨gb432, 0, none⟩) (Kd.S_types HO430.out BK432.out (by decide)) (fun _ hk => hk.2) (.slice Ao23 t428.length co23)) (fun _ hk => hk.2) (.int .i64 t431)) (fun _ h_ => h_.1))) hb); replace BK419 := Aside0.mk (blk_below (g := gb419) (o := .cells #[.slice A0_0 l0_0.length c0_0, .int .i64 a0_1] 32 (0, 0)) (by (with_reducible repeat (first | refine blk_drewN ?_ _ | refine blk_drew ?_ | refine blk_alloc ?_ _)); refine blk_far ?_ NB419_432.out _; (with_reducible repeat (first | refine blk_drewN ?_ _ | refine blk_drew ?_ | refine blk_alloc ?_ _)); refine blk_far ?_ NB419_432.out _; (with_reducible repeat (first | refine blk_drewN ?_ _ | refine blk_drew ?_ | refine blk_alloc ?_ _)); exact BK419.out) hb); replace BK432 := Aside0.mk (blk_below (g := gb432) (o := .cells #[.slice Ao23 t428.length co23, .int .i64 t431] 24 (0, 0)) (by (with_reducible repeat (first | refine blk_drewN ?_ _ | refine blk_drew ?_ | refine blk_alloc ?_ _)); refine blk_put (cs := #[.slice Ao23 t428.length co23, .int .i64 0]) ?_ 1 _ rfl; (with_reducible repeat (first | refine blk_drewN ?_ _ | refine blk_drew ?_ | refine blk_alloc ?_ _)); refine blk_put (cs := #[.slice none 0 0, .int .i64 0]) ?_ 0 _ rfl; (with_reducible repeat (first | refine blk_drewN ?_ _ | refine blk_drew ?_ | refine blk_alloc ?_ _)); exact BK432.out) hb); replace HB := nc2_ GE419 GE432 hb; (try clear hb); (try clear hb2); (try clear hk); (try clear hi)))
 (try simp only [Act.put, List.setIfInBounds_toArray, List.set_cons_zero, List.set_cons_succ])
 go_cut [47] (fun v47 wc => ∃ (kq : Nat) (x47_11 : Bool), v47 = .bool x47_11 ∧ Aside0 (laws_FnExactSeekIn.j0 kq x47_11 l0_0 a0_1 t428 t431 = some r) ∧ Aside0 (kq ≤ k) ∧ Aside0 (Kd.S k65 65 wc w.heap.size (fun _ => True) (.slice Ao23 t428.length co23) t428) ∧ Aside0 (wc.heap[gb419]? = some (.cells #[(.slice A0_0 l0_0.length c0_0), .int .i64 a0_1] 32 (0, 0))) ∧ Aside0 (wc.heap[gb432]? = some (.cells #[(.slice Ao23 t428.length co23), .int .i64 t431] 24 (0, 0))) ∧ Aside0 (Below w.heap.size w wc))
 case first =>
  have H := HC12.out
  clear HC12
  replace H := ite_ H
  obtain ⟨c27, H⟩ | ⟨c27, H⟩ := H
  rotate_left
  ·have c27b0 : (t433 == t425) = false := beq_eq_false_iff_ne.mpr c27
   have c27b1 : (t433 != t425) = true := bne_iff_ne.mpr c27
   (first | rw [c27b0] | (simp only [i64_w, i32_w]; rw [c27b0]) | rw [c27b1] | skip)
   have H' := Aside0.mk H
   clear H
   go_wp2
   go_meet
   case rel => exact ⟨_, (true), sr_, H', ⟨by first | omega | exact Nat.le_refl _⟩, ⟨by (with_reducible repeat (first | apply Kd.S_alloc | apply Kd.S_drewN | apply Kd.S_drew)); exact Kd.S_mono HO430.out (fun _ hk => trivial)⟩, ⟨kb_ BK419.out⟩, ⟨kb_ BK432.out⟩, ⟨hs2_ GE419.out GE432.out⟩⟩
  have c27b0 : (t433 == t425) = true := beq_iff_eq.mpr c27
  have c27b1 : (t433 != t425) = false := bne_eq_false_iff_eq.mpr c27
  clear c27
  (first | rw [c27b0] | (simp only [i64_w, i32_w]; rw [c27b0]) | rw [c27b1] | skip)
  replace H := ite_ H
  obtain ⟨c28, H⟩ | ⟨c28, H⟩ := H
  rotate_left
  ·have c28b0 : (t434 == t426) = false := beq_eq_false_iff_ne.mpr c28
   have c28b1 : (t434 != t426) = true := bne_iff_ne.mpr c28
   have H' := Aside0.mk H
   clear H
   go_wp2
   go_meet
   case rel => exact ⟨_, (true), sr_, H', ⟨by first | omega | exact Nat.le_refl _⟩, ⟨by (with_reducible repeat (first | apply Kd.S_alloc | apply Kd.S_drewN | apply Kd.S_drew)); exact Kd.S_mono HO430.out (fun _ hk => trivial)⟩, ⟨kb_ BK419.out⟩, ⟨kb_ BK432.out⟩, ⟨hs2_ GE419.out GE432.out⟩⟩
  have c28b0 : (t434 == t426) = true := beq_iff_eq.mpr c28
  have c28b1 : (t434 != t426) = false := bne_eq_false_iff_eq.mpr c28
  clear c28
  have H' := Aside0.mk H
  clear H
  go_wp2
  go_meet
  case rel => exact ⟨_, ((t435 != t427)), sr_, H', ⟨by first | omega | exact Nat.le_refl _⟩, ⟨by (with_reducible repeat (first | apply Kd.S_alloc | apply Kd.S_drewN | apply Kd.S_drew)); exact Kd.S_mono HO430.out (fun _ hk => trivial)⟩, ⟨kb_ BK419.out⟩, ⟨kb_ BK432.out⟩, ⟨hs2_ GE419.out GE432.out⟩⟩
 case rest =>
  clear HC12
  try clear c1
  try clear c2
  try clear p2
  try clear c4
  try clear c4b0
  try clear c5
  try clear c19
  try clear c21
  try clear c23
  try clear c24
  try clear c27
  try clear c27b0
  try clear c27b1
  try clear c28
  try clear c28b0
  try clear c28b1
  try clear hcz14_0
  try clear hcz14_1
  try clear hcz16_0
  try clear hcz16_1
  try clear hcz20_0
  try clear hcz20_1
  try clear hcz25_0
  try clear hcz25_1
  try clear hcz6_0
  try clear hcz6_1
  try clear hfz14_0
  try clear hfz14_1
  try clear hfz16_0
  try clear hfz16_1
  try clear hfz20_0
  try clear hfz20_1
  try clear hfz25_0
  try clear hfz25_1
  try clear hfz6_0
  try clear hfz6_1
  obtain ⟨kq, x47_11, rfl, HA, HJ11, HO_433000, BK419, BK432, HB⟩ := hcut
  cases kq with
  | zero => exact absurd HA.out (by simp [laws_FnExactSeekIn.j0])
  | succ kj11 =>
   have H := HA.out
   clear HA
   simp only [laws_FnExactSeekIn.j0] at H
   replace H := ifb_ H
   obtain ⟨rfl, H⟩ | ⟨rfl, H⟩ := H
   ·obtain rfl := Option.some.inj H
    go_wp2
    go_ret
    exact ⟨er_, hs2_ GE419.out GE432.out⟩
   replace H := bnd_ H
   obtain ⟨⟨t436, t439⟩, A30, H⟩ := H
   replace H := red_ H
   replace H := bnd_ H
   obtain ⟨t440, A31, H⟩ := H
   replace H := ifb_ H
   obtain ⟨rfl, H⟩ | ⟨rfl, H⟩ := H
   ·obtain rfl := Option.some.inj H
    try go_wp2
    replace HO_433000 := Aside0.mk (Kd.S_drew HO_433000.out)
    replace BK419 := qK_ BK419
    replace BK432 := qK_ BK432
    replace HB := qH_ HB
    refine start_ (n := 5) (S := fun w' => w'.cell? ⟨gb432, 0, none⟩ = some (.slice Ao23 t428.length co23) ∧ w'.cell? ⟨gb432, 1, none⟩ = some (.int .i64 t431) ∧ w'.cell? ⟨gb419, 0, none⟩ = some (.slice A0_0 l0_0.length c0_0) ∧ w'.cell? ⟨gb419, 1, none⟩ = some (.int .i64 a0_1)) (ds := []) #[false, false, false, false, false] (by kernel_rfl) rfl rfl ⟨(blk_cell BK432.out 0).trans rfl, (blk_cell BK432.out 1).trans rfl, (blk_cell BK419.out 0).trans rfl, (blk_cell BK419.out 1).trans rfl⟩ (fun hHeld => ?_)
    generalize wc.drew = w33 at HO_433000 BK419 BK432 HB hHeld ⊢
    refine take_ (i := 0) (N := some 48) (v := ?_) (a' := ?_) #[true, false, false, false, false] rfl rfl (by kernel_rfl) (fun _ _ _ h => h) (Or.inl ⟨by rfl, ?_⟩) hHeld ?_ ?_
    rotate_left
    ·rintro w' ⟨s0, s1, s2, s3⟩
     go_simp
     with_reducible rfl
    rotate_left
    ·simp only [Act.put, List.setIfInBounds_toArray, List.set_cons_zero, List.set_cons_succ, i64_w, i32_w]
     rfl
    refine take_ (i := 1) (N := some 49) (v := ?_) (a' := ?_) #[true, true, false, false, false] rfl rfl (by kernel_rfl) (fun _ _ _ h => h) (Or.inl ⟨by rfl, ?_⟩) hHeld ?_ ?_
    rotate_left
    ·rintro w' ⟨s0, s1, s2, s3⟩
     go_simp
     with_reducible rfl
    rotate_left
    ·simp only [Act.put, List.setIfInBounds_toArray, List.set_cons_zero, List.set_cons_succ, i64_w, i32_w]
     rfl
    refine one_ (i := 2) (N := some 50) #[true, true, true, false, false] rfl rfl (by kernel_rfl) (by decide) (fun K hK => ?_)
    refine gs_ Try.func21 #[.agg #[.slice A0_0 l0_0.length c0_0, .int .i64 a0_1]] rfl ma_ ?_
    with_reducible refine (laws_toStore.calls kj11 _ _ l0_0 a0_1 t436 t439 _ ?side1 ?side2 A30.out).mono ?_
    (case side1 => exact cs_ ((Kd.C_below HR0_0.out HB.out)))
    (case side2 => exact HC0_0.out)
    rintro e w34 ⟨v437, rfl, ho0, hb⟩
    refine ⟨_, rfl, ?_⟩
    have HO438 := Aside0.mk (Kd.S_lower (Kd.S_new' ho0 (Kd.S_lt (ks_ HO_433000.out))) (below_size (hs2_ GE419.out GE432.out)))
    replace HO_433000 := Aside0.mk (Kd.S_elder' (ks_ HO_433000.out) (Kd.S_base ho0) hb)
    replace BK419 := bK_ BK419 hb
    replace BK432 := bK_ BK432 hb
    replace HB := nc2_ GE419 GE432 hb
    (try clear hb)
    (try clear hb2)
    (try clear hk)
    (try clear hi)
    (try clear ho0)
    obtain ⟨Ao35, co35, eo35⟩ := Kd.S_slice HO438.out
    (first | subst eo35 | (injection eo35 with f1_ f2_ f3_; have f4_ := f1_.symm; have f5_ := f3_.symm; clear f1_ f2_ f3_; subst f4_; subst f5_))
    refine hK.out _ _ ⟨(blk_cell BK432.out 0).trans rfl, (blk_cell BK432.out 1).trans rfl, (blk_cell BK419.out 0).trans rfl, (blk_cell BK419.out 1).trans rfl⟩ (fun hHeld => ?_)
    clear hK K
    refine no_ ?_
    refine one_ (i := 3) (N := some 51) #[true, true, true, true, false] rfl rfl (by kernel_rfl) (by decide) (fun K hK => ?_)
    refine gs_ Try.func16 #[.agg #[.slice Ao23 t428.length co23, .int .i64 t431], .agg #[.slice Ao35 t436.length co35, .int .i64 t439]] rfl ma_ ?_
    with_reducible refine (laws_eqStore.calls kj11 _ _ t428 t431 _ _ t436 t439 true _ ?side1 ?side2 ?side3 ?side4 A31.out).mono ?_
    (case side1 => exact cs_ ((Kd.S_reads' HO_433000.out).2.2))
    (case side2 => exact (Kd.S_reads' HO_433000.out).2.1)
    (case side3 => exact cs_ ((Kd.S_reads' HO438.out).2.2))
    (case side4 => exact (Kd.S_reads' HO438.out).2.1)
    rintro e w36 ⟨rfl, hb⟩
    refine ⟨_, rfl, ?_⟩
    replace HO_433000 := sB_ HO_433000 hb
    replace HO438 := sB_ HO438 hb
    replace BK419 := bK_ BK419 hb
    replace BK432 := bK_ BK432 hb
    replace HB := nc2_ GE419 GE432 hb
    (try clear hb)
    (try clear hb2)
    (try clear hk)
    (try clear hi)
    refine hK.out _ _ ⟨(blk_cell BK432.out 0).trans rfl, (blk_cell BK432.out 1).trans rfl, (blk_cell BK419.out 0).trans rfl, (blk_cell BK419.out 1).trans rfl⟩ (fun hHeld => ?_)
    clear hK K
    refine no_ ?_
    refine pure_ (i := 4) (N := some 52) (v := ?_) (a' := ?_) #[true, true, true, true, true] rfl rfl (by kernel_rfl) (fun _ _ _ h => h) (Or.inl ⟨by rfl, ?_⟩) ?_ ?_
    rotate_left
    ·intro w'
     go_simp
     with_reducible rfl
    rotate_left
    ·simp only [Act.put, List.setIfInBounds_toArray, List.set_cons_zero, List.set_cons_succ, i64_w, i32_w]
     rfl
    refine done_ (by kernel_rfl) ?_
    try go_wp2
    go_ret
    exact ⟨er_, hs2_ GE419.out GE432.out⟩
   obtain rfl := Option.some.inj H
   try go_wp2
   replace HO_433000 := Aside0.mk (Kd.S_drew HO_433000.out)
   replace BK419 := qK_ BK419
   replace BK432 := qK_ BK432
   replace HB := qH_ HB
   refine start_ (n := 5) (S := fun w' => w'.cell? ⟨gb432, 0, none⟩ = some (.slice Ao23 t428.length co23) ∧ w'.cell? ⟨gb432, 1, none⟩ = some (.int .i64 t431) ∧ w'.cell? ⟨gb419, 0, none⟩ = some (.slice A0_0 l0_0.length c0_0) ∧ w'.cell? ⟨gb419, 1, none⟩ = some (.int .i64 a0_1)) (ds := []) #[false, false, false, false, false] (by kernel_rfl) rfl rfl ⟨(blk_cell BK432.out 0).trans rfl, (blk_cell BK432.out 1).trans rfl, (blk_cell BK419.out 0).trans rfl, (blk_cell BK419.out 1).trans rfl⟩ (fun hHeld => ?_)
   generalize wc.drew = w37 at HO_433000 BK419 BK432 HB hHeld ⊢
   refine take_ (i := 0) (N := some 48) (v := ?_) (a' := ?_) #[true, false, false, false, false] rfl rfl (by kernel_rfl) (fun _ _ _ h => h) (Or.inl ⟨by rfl, ?_⟩) hHeld ?_ ?_
   rotate_left
   ·rintro w' ⟨s0, s1, s2, s3⟩
    go_simp
    with_reducible rfl
   rotate_left
   ·simp only [Act.put, List.setIfInBounds_toArray, List.set_cons_zero, List.set_cons_succ, i64_w, i32_w]
    rfl
   refine take_ (i := 1) (N := some 49) (v := ?_) (a' := ?_) #[true, true, false, false, false] rfl rfl (by kernel_rfl) (fun _ _ _ h => h) (Or.inl ⟨by rfl, ?_⟩) hHeld ?_ ?_
   rotate_left
   ·rintro w' ⟨s0, s1, s2, s3⟩
    go_simp
    with_reducible rfl
   rotate_left
   ·simp only [Act.put, List.setIfInBounds_toArray, List.set_cons_zero, List.set_cons_succ, i64_w, i32_w]
    rfl
   refine one_ (i := 2) (N := some 50) #[true, true, true, false, false] rfl rfl (by kernel_rfl) (by decide) (fun K hK => ?_)
   refine gs_ Try.func21 #[.agg #[.slice A0_0 l0_0.length c0_0, .int .i64 a0_1]] rfl ma_ ?_
   with_reducible refine (laws_toStore.calls kj11 _ _ l0_0 a0_1 t436 t439 _ ?side1 ?side2 A30.out).mono ?_
   (case side1 => exact cs_ ((Kd.C_below HR0_0.out HB.out)))
   (case side2 => exact HC0_0.out)
   rintro e w38 ⟨v437, rfl, ho0, hb⟩
   refine ⟨_, rfl, ?_⟩
   have HO438 := Aside0.mk (Kd.S_lower (Kd.S_new' ho0 (Kd.S_lt (ks_ HO_433000.out))) (below_size (hs2_ GE419.out GE432.out)))
   replace HO_433000 := Aside0.mk (Kd.S_elder' (ks_ HO_433000.out) (Kd.S_base ho0) hb)
   replace BK419 := bK_ BK419 hb
   replace BK432 := bK_ BK432 hb
   replace HB := nc2_ GE419 GE432 hb
   (try clear hb)
   (try clear hb2)
   (try clear hk)
   (try clear hi)
   (try clear ho0)
   obtain ⟨Ao39, co39, eo39⟩ := Kd.S_slice HO438.out
   (first | subst eo39 | (injection eo39 with f1_ f2_ f3_; have f4_ := f1_.symm; have f5_ := f3_.symm; clear f1_ f2_ f3_; subst f4_; subst f5_))
   refine hK.out _ _ ⟨(blk_cell BK432.out 0).trans rfl, (blk_cell BK432.out 1).trans rfl, (blk_cell BK419.out 0).trans rfl, (blk_cell BK419.out 1).trans rfl⟩ (fun hHeld => ?_)
   clear hK K
   refine no_ ?_
   refine one_ (i := 3) (N := some 51) #[true, true, true, true, false] rfl rfl (by kernel_rfl) (by decide) (fun K hK => ?_)
   refine gs_ Try.func16 #[.agg #[.slice Ao23 t428.length co23, .int .i64 t431], .agg #[.slice Ao39 t436.length co39, .int .i64 t439]] rfl ma_ ?_
   with_reducible refine (laws_eqStore.calls kj11 _ _ t428 t431 _ _ t436 t439 false _ ?side1 ?side2 ?side3 ?side4 A31.out).mono ?_
   (case side1 => exact cs_ ((Kd.S_reads' HO_433000.out).2.2))
   (case side2 => exact (Kd.S_reads' HO_433000.out).2.1)
   (case side3 => exact cs_ ((Kd.S_reads' HO438.out).2.2))
   (case side4 => exact (Kd.S_reads' HO438.out).2.1)
   rintro e w40 ⟨rfl, hb⟩
   refine ⟨_, rfl, ?_⟩
   replace HO_433000 := sB_ HO_433000 hb
   replace HO438 := sB_ HO438 hb
   replace BK419 := bK_ BK419 hb
   replace BK432 := bK_ BK432 hb
   replace HB := nc2_ GE419 GE432 hb
   (try clear hb)
   (try clear hb2)
   (try clear hk)
   (try clear hi)
   refine hK.out _ _ ⟨(blk_cell BK432.out 0).trans rfl, (blk_cell BK432.out 1).trans rfl, (blk_cell BK419.out 0).trans rfl, (blk_cell BK419.out 1).trans rfl⟩ (fun hHeld => ?_)
   clear hK K
   refine no_ ?_
   refine pure_ (i := 4) (N := some 52) (v := ?_) (a' := ?_) #[true, true, true, true, true] rfl rfl (by kernel_rfl) (fun _ _ _ h => h) (Or.inl ⟨by rfl, ?_⟩) ?_ ?_
   rotate_left
   ·intro w'
    go_simp
    with_reducible rfl
   rotate_left
   ·simp only [Act.put, List.setIfInBounds_toArray, List.set_cons_zero, List.set_cons_succ, i64_w, i32_w]
    rfl
   refine done_ (by kernel_rfl) ?_
   try go_wp2
   go_ret
   exact ⟨er_, hs2_ GE419.out GE432.out⟩

/-- The one pure statement of laws_FnExactSeekIn. -/
def laws_FnExactSeekIn.Pure : Prop := ∀ (x0 : S32) (a1 : Int), ok32 x0 → (Lit.int .i64 a1).wf = true → ∃ k, laws_FnExactSeekIn.f k x0.f0 x0.f1 a1 = some true

end Go.Proofs.Ytffpeklekkpbjaa.QFnExactSeekIn
