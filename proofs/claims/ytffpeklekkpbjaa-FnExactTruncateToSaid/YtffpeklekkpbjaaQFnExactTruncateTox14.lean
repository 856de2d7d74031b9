/- Functions that one statement reaches: of each a plain function, and the proof that calls come to it. Conditions: those that each contract names. Written by a program of this repository. -/
import Derived.Test.YtffpeklekkpbjaaVTruncateToa
import Derived.Test.YtffpeklekkpbjaaQFnExactTruncateTox2
import Derived.Test.YtffpeklekkpbjaaQFnExactTruncateTox11
import Derived.Test.YtffpeklekkpbjaaQFnExactTruncateTox12
import Derived.Test.YtffpeklekkpbjaaQFnExactTruncateTox13
namespace Go.Proofs.Ytffpeklekkpbjaa.QFnExactTruncateTo
open Go.RowKit Go.Proofs.YtffpeklekkpbjaaW.PrintWords Go.Proofs.YtffpeklekkpbjaaW.PrintLast Go.Proofs.YtffpeklekkpbjaaW.PrintMore
attribute [local go_sem] max2_int min2_int max_two min_two max_three min_three max_four min_four Go.Proofs.YtffpeklekkpbjaaW.PrintMore2.isSome_setCell   -- for this text's walks alone
set_option linter.unusedVariables false
set_option linter.unusedSimpArgs false

/-! ### spec_TruncateTo: function 27 -/
mutual
def spec_TruncateTo.j0 : Nat → Int → Bool → List (S65) → Int → Option ((List (S65)) × Int × Bool)
 | 0, _, _, _, _ => none
 | k + 1, x1, x31, x274000, x274001 => if x31 = true then (some (([] : List (S65)), 0, false)) else (if 0 < (x274000.length : Int) then (spec_TruncateTo.l0 k x1 x274000 (x274000.length : Int) 0 ([] : List (S65)) ((rd_T65 x274000 0).f0)) else (none))
def spec_TruncateTo.l0 : Nat → Int → List (S65) → Int → Int → List (S65) → Int → Option ((List (S65)) × Int × Bool)
 | 0, _, _, _, _, _, _ => none
 | k + 1, x1, x40, x41, x42, x279000, x279001 => if x42 < x41 then (if 0 ≤ x42 then (if x42 < (x40.length : Int) then ((spec_l1Read.f k ((rd_T65 x40 x42).f1)).bind fun bt281 => (spec_TruncateTo.l1 k x1 x42 ([] : List (S43)) x40 x41 x42 bt281.1 (bt281.1.length : Int) 0 x279000 x279001 ((rd_T65 x40 x42).f0) ((rd_T65 x40 x42).f1) ((rd_T65 x40 x42).f2))) else (none)) else (none)) else (some (x279000, x279001, true))
def spec_TruncateTo.l1 : Nat → Int → Int → List (S43) → List (S65) → Int → Int → List (S43) → Int → Int → List (S65) → Int → Int → ByteArray → List (S89) → Option ((List (S65)) × Int × Bool)
 | 0, _, _, _, _, _, _, _, _, _, _, _, _, _, _ => none
 | k + 1, x1, x7, x11, x40, x41, x42, x53, x54, x55, x279000, x279001, x281000, x281001, x281002 => if x55 < x54 then (if 0 ≤ x55 then (if x55 < (x53.length : Int) then (if (wrap64 (((rd_T43 x53 x55).f0) + (((rd_T43 x53 x55).f4).length : Int))) ≤ x1 then (if x11.length < 2513169434916 then (spec_TruncateTo.l1 k x1 x7 (x11 ++ [(⟨(rd_T43 x53 x55).f0, (rd_T43 x53 x55).f1, (rd_T43 x53 x55).f2, (rd_T43 x53 x55).f3, (rd_T43 x53 x55).f4⟩ : S43)]) x40 x41 x42 x53 x54 (wrap64 (x55 + 1)) x279000 (wrap64 (((rd_T43 x53 x55).f0) + (((rd_T43 x53 x55).f4).length : Int))) x281000 x281001 x281002) else (none)) else (spec_TruncateTo.l1 k x1 x7 x11 x40 x41 x42 x53 x54 (wrap64 (x55 + 1)) x279000 x279001 x281000 x281001 x281002)) else (none)) else (none)) else (if (x11.length : Int) > 0 then ((spec_l2Make.f k x281000 x11).bind fun bt290 => (if x279000.length < 2932031007402 then (spec_TruncateTo.l0 k x1 x40 x41 (wrap64 (x42 + 1)) (x279000 ++ [(⟨bt290.1, bt290.2.1, bt290.2.2⟩ : S65)]) x279001) else (none))) else (if x7 = 0 then ((spec_l2Make.f k x281000 x11).bind fun bt298 => (if x279000.length < 2932031007402 then (spec_TruncateTo.l0 k x1 x40 x41 (wrap64 (x42 + 1)) (x279000 ++ [(⟨bt298.1, bt298.2.1, bt298.2.2⟩ : S65)]) x279001) else (none))) else (spec_TruncateTo.l0 k x1 x40 x41 (wrap64 (x42 + 1)) x279000 x279001)))
end
def spec_TruncateTo.f (k : Nat) (l0_0 : List (S65)) (a0_1 : Int) (a1 : Int) : Option ((List (S65)) × Int × Bool) := (spec_GoodStore.f k l0_0 a0_1).bind fun t275 => (if t275 = true then (if 0 < (l0_0.length : Int) then (if a1 < ((rd_T65 l0_0 0).f0) then (spec_TruncateTo.j0 k a1 true l0_0 a0_1) else (spec_TruncateTo.j0 k a1 (decide (a1 > a0_1)) l0_0 a0_1)) else (none)) else (spec_TruncateTo.j0 k a1 true l0_0 a0_1))
theorem spec_TruncateTo.mono_l : ∀ k, (∀ y0 y1 y2 y3, LeO (spec_TruncateTo.j0 k y0 y1 y2 y3) (spec_TruncateTo.j0 (k + 1) y0 y1 y2 y3)) ∧ (∀ y0 y1 y2 y3 y4 y5, LeO (spec_TruncateTo.l0 k y0 y1 y2 y3 y4 y5) (spec_TruncateTo.l0 (k + 1) y0 y1 y2 y3 y4 y5)) ∧ (∀ y0 y1 y2 y3 y4 y5 y6 y7 y8 y9 y10 y11 y12 y13, LeO (spec_TruncateTo.l1 k y0 y1 y2 y3 y4 y5 y6 y7 y8 y9 y10 y11 y12 y13) (spec_TruncateTo.l1 (k + 1) y0 y1 y2 y3 y4 y5 y6 y7 y8 y9 y10 y11 y12 y13))
 | 0 => ⟨fun _ _ _ _ r h => by simp [spec_TruncateTo.j0] at h, fun _ _ _ _ _ _ r h => by simp [spec_TruncateTo.l0] at h, fun _ _ _ _ _ _ _ _ _ _ _ _ _ _ r h => by simp [spec_TruncateTo.l1] at h⟩
 | k + 1 => by
  obtain ⟨ih0, ih1, ih2⟩ := spec_TruncateTo.mono_l k
  refine ⟨?_, ?_, ?_⟩
  all_goals intros; first | unfold spec_TruncateTo.j0 | unfold spec_TruncateTo.l0 | unfold spec_TruncateTo.l1
  all_goals repeat' first | (with_reducible first | apply ih0 | apply ih1 | apply ih2 | apply spec_GoodStore.mono | apply spec_l1Read.mono | apply spec_l2Make.mono | exact LeO.refl _ | exact LeO.none _ | refine LeO.ite ?_ ?_ | refine LeO.bind ?_ (fun _ => ?_))
theorem spec_TruncateTo.mono : ∀ a0 a1 a2 k, LeO (spec_TruncateTo.f k a0 a1 a2) (spec_TruncateTo.f (k + 1) a0 a1 a2) := by
 intro a0 a1 a2 k
 obtain ⟨ih0, ih1, ih2⟩ := spec_TruncateTo.mono_l k
 unfold spec_TruncateTo.f
 repeat' first
   | (with_reducible first | apply ih0 | apply ih1 | apply ih2 | apply spec_GoodStore.mono | apply spec_l1Read.mono | apply spec_l2Make.mono | exact LeO.refl _ | exact LeO.none _ | refine LeO.ite ?_ ?_ | refine LeO.bind ?_ (fun _ => ?_))
def spec_TruncateTo.T17 : Bool × List (List Nat × List Nat) := (true, [([], []), ([0], [0]), ([], []), ([2], [2]), ([], []), ([3, 4], [3, 4]), ([5], [5]), ([1, 6, 5], [1, 6]), ([0, 1, 2, 3, 4, 5, 6, 7], []), ([8, 7, 7, 0, 1, 2, 3, 4, 5, 6, 7], [7, 8])])
def spec_TruncateTo.B17 : List Nat := [0, 1, 0, 4, 0, 28, 60, 127, 255, 511]
theorem spec_TruncateTo.tab17 : rtab .any (opsOf Try.f27 17) = spec_TruncateTo.T17 := by kernel_rfl
theorem spec_TruncateTo.bits17 : waitsOk spec_TruncateTo.T17.2 spec_TruncateTo.B17 = true := by kernel_rfl
set_option maxHeartbeats 8000000 in
set_option maxRecDepth 100000 in
theorem spec_TruncateTo.calls (k : Nat) (A0_0 : Option Addr) (c0_0 : Nat) (l0_0 : List (S65)) (a0_1 : Int) (a1 : Int) (r1 : List (S65)) (r2 : Int) (r3 : Bool) (w : World) (hr0_0 : Kd.C k65 w A0_0 l0_0.length l0_0) (hc0_0 : l0_0.length ≤ c0_0) (h : spec_TruncateTo.f k l0_0 a0_1 a1 = some (r1, r2, r3)) :
  Calls Try.prog 27 #[.agg #[.slice A0_0 l0_0.length c0_0, .int .i64 a0_1], .int .i64 a1] w fun e w' => ∃ v0_ : Value, e = .returned (.tuple #[.agg #[v0_, .int .i64 r2], .bool r3]) ∧ Kd.N k65 65 w' w.heap.size (fun k_ => (w.heap.size ≤ k_)) v0_ r1 ∧ Below w.heap.size w w' := by
 have hu24 := Try.underlying24
 have hu65 := Try.underlying65
 have hu43 := Try.underlying43
 have HR0_0 := Aside0.mk hr0_0
 have HC0_0 := Aside0.mk hc0_0
 clear hr0_0 hc0_0
 have HB := Aside0.mk (Below.refl w.heap.size w)
 have H : ((spec_GoodStore.f k l0_0 a0_1).bind fun t275 => (if t275 = true then (if 0 < (l0_0.length : Int) then (if a1 < ((rd_T65 l0_0 0).f0) then (spec_TruncateTo.j0 k a1 true l0_0 a0_1) else (spec_TruncateTo.j0 k a1 (decide (a1 > a0_1)) l0_0 a0_1)) else (none)) else (spec_TruncateTo.j0 k a1 true l0_0 a0_1))) = some (r1, r2, r3) := h
 clear h
 have HC3 := Aside0.mk H
 clear H
 go_enter Try.func27, Try.ntmps27
 go_upto_region 1 with (first | ((with_reducible refine gate_dst (N := 2) rfl ?_); refine bq_ (N := 2) #[.slice A0_0 l0_0.length c0_0, .int .i64 a0_1] 24 ?_; intro gb273 hg w4 BK273 hb; have GE273 := ge_ hg; replace HB := nb_ hb; clear hb hg) | ((with_reducible refine gate_dst (N := 4) rfl ?_); refine bq_ (N := 4) #[.slice none 0 0, .int .i64 0] 24 ?_; intro gb274 hg w5 BK274 hb; have GE274 := ge1_ hg GE273; replace HB := nc_ GE273 hb; have NB273_274 := nl_ BK273 hg; have NB274_273 := ng_ BK273 hg; replace BK273 := bK_ BK273 hb; clear hb hg))
 (try simp only [Act.put, List.setIfInBounds_toArray, List.set_cons_zero, List.set_cons_succ])
 go_cut [31] (fun v31 wc => ∃ (kq : Nat) (x31_2 : Bool), v31 = .bool x31_2 ∧ Aside0 (spec_TruncateTo.j0 kq a1 x31_2 l0_0 a0_1 = some (r1, r2, r3)) ∧ Aside0 (kq ≤ k) ∧ Aside0 (wc.heap[gb273]? = some (.cells #[(.slice A0_0 l0_0.length c0_0), .int .i64 a0_1] 24 (0, 0))) ∧ Aside0 (wc.heap[gb274]? = some (.cells #[(.slice none 0 0), .int .i64 0] 24 (0, 0))) ∧ Aside0 (Below w.heap.size w wc))
 case first =>
  have H := HC3.out
  clear HC3
  replace H := bnd_ H
  obtain ⟨t275, A6, H⟩ := H
  replace H := ifb_ H
  obtain ⟨rfl, H⟩ | ⟨rfl, H⟩ := H
  rotate_left
  ·have H' := Aside0.mk H
   clear H
   have hnb18 := NB273_274.out
   have hnc18 := NB274_273.out
   obtain ⟨hcz19_0, hcz19_1, hfz19_0, hfz19_1⟩ := cf2_ BK273.out
   go_wp2_with (first | ((with_reducible refine gate_callee (f := 20) rfl ?_); refine gl_ 15 Try.func20 #[.agg #[.slice A0_0 l0_0.length c0_0, .int .i64 a0_1]] rfl ma_ ?_; (with_reducible refine (spec_GoodStore.calls k _ _ l0_0 a0_1 false _ ?side1 ?side2 A6.out).mono ?_); (case side1 => exact cs_ ((Kd.C_below HR0_0.out HB.out))); (case side2 => exact HC0_0.out); rintro e w20 ⟨rfl, hb⟩; refine ⟨_, rfl, ?_⟩; replace BK273 := bK_ BK273 hb; replace BK274 := bK_ BK274 hb; replace HB := nc2_ GE273 GE274 hb; (try clear hb); (try clear hb2); (try clear hk); (try clear hi)))
   go_meet
   case rel => exact ⟨_, (true), sr_, H', ⟨by first | omega | exact Nat.le_refl _⟩, ⟨kb_ BK273.out⟩, ⟨kb_ BK274.out⟩, ⟨hs2_ GE273.out GE274.out⟩⟩
  replace H := ifs_ H
  obtain ⟨c8, H⟩ := H
  have c8b0 := decide_eq_true c8
  have c8b1 : decide (0 < l0_0.length) = true := decide_eq_true (by omega)
  clear c8
  (first | rw [c8b0] | (simp only [i64_w, i32_w]; rw [c8b0]) | rw [c8b1] | skip)
  replace H := ite_ H
  obtain ⟨c9, H⟩ | ⟨c9, H⟩ := H
  ·have c9b0 := decide_eq_true c9
   clear c9
   have H' := Aside0.mk H
   clear H
   have hnb10 := NB273_274.out
   have hnc10 := NB274_273.out
   obtain ⟨hcz11_0, hcz11_1, hfz11_0, hfz11_1⟩ := cf2_ BK273.out
   go_wp2_with (first | ((with_reducible refine gate_callee (f := 20) rfl ?_); refine gl_ 15 Try.func20 #[.agg #[.slice A0_0 l0_0.length c0_0, .int .i64 a0_1]] rfl ma_ ?_; (with_reducible refine (spec_GoodStore.calls k _ _ l0_0 a0_1 true _ ?side1 ?side2 A6.out).mono ?_); (case side1 => exact cs_ ((Kd.C_below HR0_0.out HB.out))); (case side2 => exact HC0_0.out); rintro e w12 ⟨rfl, hb⟩; refine ⟨_, rfl, ?_⟩; replace BK273 := bK_ BK273 hb; replace BK274 := bK_ BK274 hb; replace HB := nc2_ GE273 GE274 hb; (try clear hb); (try clear hb2); (try clear hk); (try clear hi); obtain ⟨hcz13_0, hcz13_1, hfz13_0, hfz13_1⟩ := cf2_ BK273.out; have p276 : 0 ≤ (0 : Int) := (by omega); have q276 : 0 < (l0_0.length : Int) := oa_; obtain ⟨ad276, A276_2, c276_2, e276, hx276_0, hx276_1, hx276_2, hl276_2, hi276_2⟩ := at_T65 HR0_0.out 0 p276 q276; cases e276; have qi276 : (0 < l0_0.length) = True := eq_true (by omega); (try rw [show ((0 : Int)).toNat = 0 from rfl] at hx276_0); (try rw [show 0 * 3 = 0 from rfl] at hx276_0); (try rw [Addr.add_zero'] at hx276_0); (try rw [show ((0 : Int)).toNat = 0 from rfl] at hx276_1); (try rw [show 0 * 3 = 0 from rfl] at hx276_1); (try rw [Addr.add_zero'] at hx276_1); (try rw [show ((0 : Int)).toNat = 0 from rfl] at hx276_2); (try rw [show 0 * 3 = 0 from rfl] at hx276_2); (try rw [Addr.add_zero'] at hx276_2); replace hx276_0 := pc_ HB.out hx276_0; replace hx276_1 := pc_ HB.out hx276_1; replace hx276_2 := pc_ HB.out hx276_2; have HR276_2 := Aside0.mk hi276_2; have HC276_2 := Aside0.mk hl276_2; clear hi276_2 hl276_2; replace p276 := eq_true p276; replace q276 := eq_true q276))
   go_meet
   case rel => exact ⟨_, (true), sr_, H', ⟨by first | omega | exact Nat.le_refl _⟩, ⟨kb_ BK273.out⟩, ⟨kb_ BK274.out⟩, ⟨hs2_ GE273.out GE274.out⟩⟩
  have c9b0 := decide_eq_false c9
  clear c9
  have H' := Aside0.mk H
  clear H
  have hnb14 := NB273_274.out
  have hnc14 := NB274_273.out
  obtain ⟨hcz15_0, hcz15_1, hfz15_0, hfz15_1⟩ := cf2_ BK273.out
  go_wp2_with (first | ((with_reducible refine gate_callee (f := 20) rfl ?_); refine gl_ 15 Try.func20 #[.agg #[.slice A0_0 l0_0.length c0_0, .int .i64 a0_1]] rfl ma_ ?_; (with_reducible refine (spec_GoodStore.calls k _ _ l0_0 a0_1 true _ ?side1 ?side2 A6.out).mono ?_); (case side1 => exact cs_ ((Kd.C_below HR0_0.out HB.out))); (case side2 => exact HC0_0.out); rintro e w16 ⟨rfl, hb⟩; refine ⟨_, rfl, ?_⟩; replace BK273 := bK_ BK273 hb; replace BK274 := bK_ BK274 hb; replace HB := nc2_ GE273 GE274 hb; (try clear hb); (try clear hb2); (try clear hk); (try clear hi); obtain ⟨hcz17_0, hcz17_1, hfz17_0, hfz17_1⟩ := cf2_ BK273.out; have p276 : 0 ≤ (0 : Int) := (by omega); have q276 : 0 < (l0_0.length : Int) := oa_; obtain ⟨ad276, A276_2, c276_2, e276, hx276_0, hx276_1, hx276_2, hl276_2, hi276_2⟩ := at_T65 HR0_0.out 0 p276 q276; cases e276; have qi276 : (0 < l0_0.length) = True := eq_true (by omega); (try rw [show ((0 : Int)).toNat = 0 from rfl] at hx276_0); (try rw [show 0 * 3 = 0 from rfl] at hx276_0); (try rw [Addr.add_zero'] at hx276_0); (try rw [show ((0 : Int)).toNat = 0 from rfl] at hx276_1); (try rw [show 0 * 3 = 0 from rfl] at hx276_1); (try rw [Addr.add_zero'] at hx276_1); (try rw [show ((0 : Int)).toNat = 0 from rfl] at hx276_2); (try rw [show 0 * 3 = 0 from rfl] at hx276_2); (try rw [Addr.add_zero'] at hx276_2); replace hx276_0 := pc_ HB.out hx276_0; replace hx276_1 := pc_ HB.out hx276_1; replace hx276_2 := pc_ HB.out hx276_2; have HR276_2 := Aside0.mk hi276_2; have HC276_2 := Aside0.mk hl276_2; clear hi276_2 hl276_2; replace p276 := eq_true p276; replace q276 := eq_true q276))
  go_meet
  case rel => exact ⟨_, (decide (a1 > a0_1)), sr_, H', ⟨by first | omega | exact Nat.le_refl _⟩, ⟨kb_ BK273.out⟩, ⟨kb_ BK274.out⟩, ⟨hs2_ GE273.out GE274.out⟩⟩
 case rest =>
  clear HC3
  obtain ⟨kq, x31_2, rfl, HA, HJ2, BK273, BK274, HB⟩ := hcut
  cases kq with
  | zero => exact absurd HA.out (by simp [spec_TruncateTo.j0])
  | succ kj2 =>
   have H := HA.out
   clear HA
   simp only [spec_TruncateTo.j0] at H
   replace H := ifb_ H
   obtain ⟨rfl, H⟩ | ⟨rfl, H⟩ := H
   ·simp only [Option.some.injEq, Prod.mk.injEq] at H
    obtain ⟨rfl, rfl, rfl⟩ := H
    have hnb22 := NB274_273.out
    have hnc22 := NB273_274.out
    obtain ⟨hcz23_0, hcz23_1, hfz23_0, hfz23_1⟩ := cf2_ BK274.out
    go_wp2
    refine bodyPost_ret (results_ct rfl _ _ gb274 24 #[.slice none 0 0, .int .i64 0] (0, 0) _ rfl (up_ BK274) Try.underlying24 rfl (by kernel_rfl)) rfl ?_
    exact ⟨_, er_, by first | exact Kd.S_nil _ _ _ _ _ | exact Kd.N_nil _ _ _ _ _ | exact Kd.V_nil _ _ _ _ _ | exact Kd.Q_nil _ _ _ _ _ | exact Kd.R_nil _ _ _ _ _, hs2_ GE273.out GE274.out⟩
   replace H := ifs_ H
   obtain ⟨c24, H⟩ := H
   have c24b0 := decide_eq_true c24
   have c24b1 : decide (0 < l0_0.length) = true := decide_eq_true (by omega)
   clear c24
   have H' := Aside0.mk H
   clear H
   have hnb25 := NB273_274.out
   have hnc25 := NB274_273.out
   obtain ⟨hcz26_0, hcz26_1, hfz26_0, hfz26_1⟩ := cf2_ BK273.out
   have p277 : 0 ≤ (0 : Int) := (by omega)
   have q277 : 0 < (l0_0.length : Int) := oa_
   obtain ⟨ad277, A277_2, c277_2, e277, hx277_0, hx277_1, hx277_2, hl277_2, hi277_2⟩ := at_T65 HR0_0.out 0 p277 q277
   cases e277
   have qi277 : (0 < l0_0.length) = True := eq_true (by omega)
   (try rw [show ((0 : Int)).toNat = 0 from rfl] at hx277_0)
   (try rw [show 0 * 3 = 0 from rfl] at hx277_0)
   (try rw [Addr.add_zero'] at hx277_0)
   (try rw [show ((0 : Int)).toNat = 0 from rfl] at hx277_1)
   (try rw [show 0 * 3 = 0 from rfl] at hx277_1)
   (try rw [Addr.add_zero'] at hx277_1)
   (try rw [show ((0 : Int)).toNat = 0 from rfl] at hx277_2)
   (try rw [show 0 * 3 = 0 from rfl] at hx277_2)
   (try rw [Addr.add_zero'] at hx277_2)
   replace hx277_0 := pc_ HB.out hx277_0
   replace hx277_1 := pc_ HB.out hx277_1
   replace hx277_2 := pc_ HB.out hx277_2
   have HR277_2 := Aside0.mk hi277_2
   have HC277_2 := Aside0.mk hl277_2
   clear hi277_2 hl277_2
   replace p277 := eq_true p277
   replace q277 := eq_true q277
   go_wp2_with (first | ((with_reducible refine gate_dst (N := 6) rfl ?_); refine bq_ (N := 6) #[.slice none 0 0, .int .i64 0] 24 ?_; intro gb278 hg w27 BK278 hb; have GE278 := ge2_ hg GE273 GE274; replace HB := nc2_ GE273 GE274 hb; have NB273_278 := nl_ BK273 hg; have NB278_273 := ng_ BK273 hg; replace BK273 := bK_ BK273 hb; have NB274_278 := nl_ BK274 hg; have NB278_274 := ng_ BK274 hg; replace BK274 := bK_ BK274 hb; clear hb hg; have hnb28 := NB278_273.out; have hnc28 := NB273_278.out; have hnb29 := NB278_274.out; have hnc29 := NB274_278.out; obtain ⟨hcz30_0, hcz30_1, hfz30_0, hfz30_1⟩ := cf2_ BK278.out; obtain ⟨hcz31_0, hcz31_1, hfz31_0, hfz31_1⟩ := cf2_ BK273.out))
   go_loopg [42] kj2 (fun kq v42 w' => ∃ (x42_2 : Int) (x279000_2 : List (S65)) (x279001_2 : Int) (u279000 : Value), v42 = .int .i64 x42_2 ∧ Aside0 (spec_TruncateTo.l0 kq a1 l0_0 (l0_0.length : Int) x42_2 x279000_2 x279001_2 = some (r1, r2, r3)) ∧ Aside0 (kq ≤ kj2) ∧ Aside0 (Kd.N k65 65 w' w.heap.size (fun k_ => (w.heap.size ≤ k_) ∧ k_ ≠ gb273 ∧ k_ ≠ gb274 ∧ k_ ≠ gb278) u279000 x279000_2) ∧ Aside0 (w'.heap[gb273]? = some (.cells #[(.slice (some ad277) l0_0.length c0_0), .int .i64 a0_1] 24 (0, 0))) ∧ Aside0 (w'.heap[gb274]? = some (.cells #[(.slice none 0 0), .int .i64 0] 24 (0, 0))) ∧ Aside0 (w'.heap[gb278]? = some (.cells #[u279000, .int .i64 x279001_2] 24 (0, 0))) ∧ Aside0 (Below w.heap.size w w'))
   case atStart => exact ⟨(0), (([] : List (S65))), ((rd_T65 l0_0 0).f0), (.slice none 0 0), sr_, H', ⟨Nat.le_refl _⟩, ⟨by first | exact Kd.S_nil _ _ _ _ _ | exact Kd.N_nil _ _ _ _ _ | exact Kd.V_nil _ _ _ _ _ | exact Kd.Q_nil _ _ _ _ _ | exact Kd.R_nil _ _ _ _ _⟩, ⟨uf_ BK273 NB273_278.out⟩, ⟨uf_ BK274 NB274_278.out⟩, ⟨up_ BK278⟩, ⟨hs3_ GE273.out GE274.out GE278.out⟩⟩
   case round =>
    clear H'
    try clear c24
    try clear c24b0
    try clear c24b1
    try clear hcz26_0
    try clear hcz26_1
    try clear hcz30_0
    try clear hcz30_1
    try clear hcz31_0
    try clear hcz31_1
    try clear hfz26_0
    try clear hfz26_1
    try clear hfz30_0
    try clear hfz30_1
    try clear hfz31_0
    try clear hfz31_1
    try clear hx277_0
    try clear hx277_1
    try clear hx277_2
    try clear p277
    try clear q277
    obtain ⟨x42_2, x279000_2, x279001_2, u279000, rfl, HA, HK2, HO_279000, BK273, BK274, BK278, HB⟩ := hrel
    cases gk with
    | zero => exact absurd HA.out (by simp [spec_TruncateTo.l0])
    | succ k2 =>
     have H := HA.out
     clear HA
     simp only [spec_TruncateTo.l0] at H
     replace H := ite_ H
     obtain ⟨c32, H⟩ | ⟨c32, H⟩ := H
     rotate_left
     ·have c32b0 := decide_eq_false c32
      clear c32
      simp only [Option.some.injEq, Prod.mk.injEq] at H
      obtain ⟨rfl, rfl, rfl⟩ := H
      have hnb89 := NB278_273.out
      have hnc89 := NB273_278.out
      have hnb90 := NB278_274.out
      have hnc90 := NB274_278.out
      obtain ⟨hcz91_0, hcz91_1, hfz91_0, hfz91_1⟩ := cf2_ BK278.out
      obtain ⟨Ao92, co92, eo92⟩ := Kd.N_slice HO_279000.out
      subst eo92
      have hnb93 := NB274_273.out
      have hnc93 := NB273_274.out
      obtain ⟨hcz94_0, hcz94_1, hfz94_0, hfz94_1⟩ := cf2_ BK274.out
      go_wp2
      refine bodyPost_ret (results_ct rfl _ _ gb274 24 #[.slice Ao92 x279000_2.length co92, .int .i64 x279001_2] (0, 0) _ rfl (up_ BK274) Try.underlying24 rfl (by kernel_rfl)) rfl ?_
      exact ⟨_, er_, Kd.N_mono (nF_ (Kd.N_mono HO_279000.out (fun k_ hk => (⟨hk, hk.2.2.1⟩ : _ ∧ k_ ≠ gb274)))) (fun _ hk => hk.1.1), hs3_ GE273.out GE274.out GE278.out⟩
     have c32b0 := decide_eq_true c32
     clear c32
     replace H := ifs_ H
     obtain ⟨c33, H⟩ := H
     have c33b0 := decide_eq_true c33
     clear c33
     replace H := ifs_ H
     obtain ⟨c34, H⟩ := H
     have c34b0 := decide_eq_true c34
     clear c34
     replace H := bnd_ H
     obtain ⟨⟨t281, t282⟩, A35, H⟩ := H
     replace H := red_ H
     have H' := Aside0.mk H
     clear H
     have p279 : 0 ≤ (x42_2 : Int) := oa_
     have q279 : x42_2 < (l0_0.length : Int) := oa_
     obtain ⟨ad279, A279_2, c279_2, e279, hx279_0, hx279_1, hx279_2, hl279_2, hi279_2⟩ := at_T65 HR0_0.out x42_2 p279 q279
     obtain rfl : ad277 = ad279 := (by injection e279)
     replace hx279_0 := pc_ HB.out hx279_0
     replace hx279_1 := pc_ HB.out hx279_1
     replace hx279_2 := pc_ HB.out hx279_2
     have HR279_2 := Aside0.mk hi279_2
     have HC279_2 := Aside0.mk hl279_2
     clear hi279_2 hl279_2
     replace p279 := eq_true p279
     replace q279 := eq_true q279
     go_wp2_with (first | ((with_reducible refine gate_dst (N := 8) rfl ?_); refine box_event ?hg (N := 8) ?hd (cs := #[.int .i64 0, .string (⟨#[]⟩ : ByteArray), .slice none 0 0]) (t := 65) ?hr ?_; (case hd => rfl); (case hg => rfl); (case hr => first | (go_simp; done) | (go_simp; rfl)); intro gb280 hg w36 hbox hb; replace HO_279000 := Aside0.mk (Kd.N_below (Kd.N_elderB (nF_ HO_279000.out) gb280 (Nat.le_of_eq hg.symm)) hb); have BK280 := Aside0.mk (hbox); have GE280 := ge3_ hg GE273 GE274 GE278; replace HB := nc3_ GE273 GE274 GE278 hb; have NB273_280 := nl_ BK273 hg; have NB280_273 := ng_ BK273 hg; replace BK273 := bK_ BK273 hb; have NB274_280 := nl_ BK274 hg; have NB280_274 := ng_ BK274 hg; replace BK274 := bK_ BK274 hb; have NB278_280 := nl_ BK278 hg; have NB280_278 := ng_ BK278 hg; replace BK278 := bK_ BK278 hb; clear hb hbox hg; have hnb37 := NB280_273.out; have hnc37 := NB273_280.out; have hnb38 := NB280_274.out; have hnc38 := NB274_280.out; have hnb39 := NB280_278.out; have hnc39 := NB278_280.out; obtain ⟨hcz40_0, hcz40_1, hcz40_2, hfz40_0, hfz40_1, hfz40_2⟩ := cf3_ BK280.out) | ((with_reducible refine gate_callee (f := 63) rfl ?_); refine gl_ 50 Try.func63 #[.string ((rd_T65 l0_0 x42_2).f1)] rfl ma_ ?_; (with_reducible refine (spec_l1Read.calls k2 ((rd_T65 l0_0 x42_2).f1) t281 t282 _ A35.out).mono ?_); rintro e w41 ⟨v283, rfl, ho0, hb⟩; refine ⟨_, rfl, ?_⟩; have HO284 := Aside0.mk (Kd.N_lower (Kd.N_mono (ok' := fun k_ => (w.heap.size ≤ k_) ∧ some k_ ≠ (u279000 : Value).ownBlock ∧ k_ ≠ gb273 ∧ k_ ≠ gb274 ∧ k_ ≠ gb278 ∧ k_ ≠ gb280) (Kd.S_N (Kd.S_bound ho0)) (fun k_ hk_ => ⟨(Nat.le_trans (below_size (hs4_ GE273.out GE274.out GE278.out GE280.out)) hk_.2.1), (Kd.fresh' (Kd.N_lt ((Kd.N_mono (nF_ (Kd.N_mono HO_279000.out (fun k_ hk => (⟨hk, hk.2⟩ : _ ∧ k_ ≠ gb280)))) (fun _ h_ => h_.1)))) k_ hk_.2.1), (Kd.freshB (g := gb273) (o := .cells #[.slice (some ad277) l0_0.length c0_0, .int .i64 a0_1] 24 (0, 0)) (uf_ BK273 NB273_280.out) k_ hk_.2.1), (Kd.freshB (g := gb274) (o := .cells #[.slice none 0 0, .int .i64 0] 24 (0, 0)) (uf_ BK274 NB274_280.out) k_ hk_.2.1), (Kd.freshB (g := gb278) (o := .cells #[u279000, .int .i64 x279001_2] 24 (0, 0)) (uf_ BK278 NB278_280.out) k_ hk_.2.1), (Kd.freshB (g := gb280) (o := .cells #[.int .i64 ((rd_T65 l0_0 x42_2).f0), .string ((rd_T65 l0_0 x42_2).f1), .slice A279_2 ((rd_T65 l0_0 x42_2).f2).length c279_2] 65 (0, 0)) (up_ BK280) k_ hk_.2.1)⟩)) (below_size (hs4_ GE273.out GE274.out GE278.out GE280.out))); replace HO_279000 := Aside0.mk (Kd.N_elder' ((Kd.N_mono (nF_ (Kd.N_mono HO_279000.out (fun k_ hk => (⟨hk, hk.2⟩ : _ ∧ k_ ≠ gb280)))) (fun _ h_ => h_.1))) (Kd.N_base (Kd.S_N ho0)) hb); replace BK273 := Aside0.mk (blk_below (g := gb273) (o := .cells #[.slice (some ad277) l0_0.length c0_0, .int .i64 a0_1] 24 (0, 0)) (uf_ BK273 NB273_280.out) hb); replace BK274 := Aside0.mk (blk_below (g := gb274) (o := .cells #[.slice none 0 0, .int .i64 0] 24 (0, 0)) (uf_ BK274 NB274_280.out) hb); replace BK278 := Aside0.mk (blk_below (g := gb278) (o := .cells #[u279000, .int .i64 x279001_2] 24 (0, 0)) (uf_ BK278 NB278_280.out) hb); replace BK280 := Aside0.mk (blk_below (g := gb280) (o := .cells #[.int .i64 ((rd_T65 l0_0 x42_2).f0), .string ((rd_T65 l0_0 x42_2).f1), .slice A279_2 ((rd_T65 l0_0 x42_2).f2).length c279_2] 65 (0, 0)) (up_ BK280) hb); replace HB := nc4_ GE273 GE274 GE278 GE280 hb; (try clear hb); (try clear hb2); (try clear hk); (try clear hi); (try clear ho0); obtain ⟨Ao42, co42, eo42⟩ := Kd.N_slice HO284.out; subst eo42))
     go_loopg [11, 55] k2 (fun kq v11 v55 w' => ∃ (x11_3 : List (S43)) (x55_3 : Int) (x279001_3 : Int), v55 = .int .i64 x55_3 ∧ Aside0 (spec_TruncateTo.l1 kq a1 x42_2 x11_3 l0_0 (l0_0.length : Int) x42_2 t281 (t281.length : Int) x55_3 x279000_2 x279001_3 ((rd_T65 l0_0 x42_2).f0) ((rd_T65 l0_0 x42_2).f1) ((rd_T65 l0_0 x42_2).f2) = some (r1, r2, r3)) ∧ Aside0 (kq ≤ k2) ∧ Aside0 (Kd.N k43 43 w' w.heap.size (fun k_ => (w.heap.size ≤ k_) ∧ some k_ ≠ ((.slice Ao42 t281.length co42) : Value).ownBlock ∧ some k_ ≠ (u279000 : Value).ownBlock ∧ k_ ≠ gb273 ∧ k_ ≠ gb274 ∧ k_ ≠ gb278 ∧ k_ ≠ gb280) v11 x11_3) ∧ Aside0 (Kd.N k43 43 w' w.heap.size (fun k_ => (w.heap.size ≤ k_) ∧ some k_ ≠ (v11 : Value).ownBlock ∧ some k_ ≠ (u279000 : Value).ownBlock ∧ k_ ≠ gb273 ∧ k_ ≠ gb274 ∧ k_ ≠ gb278 ∧ k_ ≠ gb280) (.slice Ao42 t281.length co42) t281) ∧ Aside0 (Kd.N k65 65 w' w.heap.size (fun k_ => (w.heap.size ≤ k_) ∧ some k_ ≠ (v11 : Value).ownBlock ∧ some k_ ≠ ((.slice Ao42 t281.length co42) : Value).ownBlock ∧ k_ ≠ gb273 ∧ k_ ≠ gb274 ∧ k_ ≠ gb278 ∧ k_ ≠ gb280) u279000 x279000_2) ∧ Aside0 (w'.heap[gb273]? = some (.cells #[(.slice (some ad277) l0_0.length c0_0), .int .i64 a0_1] 24 (0, 0))) ∧ Aside0 (w'.heap[gb274]? = some (.cells #[(.slice none 0 0), .int .i64 0] 24 (0, 0))) ∧ Aside0 (w'.heap[gb278]? = some (.cells #[u279000, .int .i64 x279001_3] 24 (0, 0))) ∧ Aside0 (w'.heap[gb280]? = some (.cells #[.int .i64 ((rd_T65 l0_0 x42_2).f0), .string ((rd_T65 l0_0 x42_2).f1), (.slice A279_2 ((rd_T65 l0_0 x42_2).f2).length c279_2)] 65 (0, 0))) ∧ Aside0 (Below w.heap.size w w'))
     case atStart => exact ⟨(([] : List (S43))), (0), (x279001_2), sr_, H', ⟨Nat.le_refl _⟩, ⟨by first | exact Kd.S_nil _ _ _ _ _ | exact Kd.N_nil _ _ _ _ _ | exact Kd.V_nil _ _ _ _ _ | exact Kd.Q_nil _ _ _ _ _ | exact Kd.R_nil _ _ _ _ _⟩, ⟨nF_ (Kd.N_mono HO284.out (fun _ hk => ⟨hk.1, ⟨(by simp [Value.ownBlock]), ⟨hk.2.1, ⟨hk.2.2.1, ⟨hk.2.2.2.1, ⟨hk.2.2.2.2.1, hk.2.2.2.2.2⟩⟩⟩⟩⟩⟩))⟩, ⟨nF_ (Kd.N_mono HO_279000.out (fun _ hk => ⟨hk.1.1.1, ⟨(by simp [Value.ownBlock]), ⟨hk.2, ⟨hk.1.1.2.1, ⟨hk.1.1.2.2.1, ⟨hk.1.1.2.2.2, hk.1.2⟩⟩⟩⟩⟩⟩))⟩, ⟨kb_ BK273.out⟩, ⟨kb_ BK274.out⟩, ⟨kb_ BK278.out⟩, ⟨kb_ BK280.out⟩, ⟨hs4_ GE273.out GE274.out GE278.out GE280.out⟩⟩
     case round =>
      clear H'
      try clear c24
      try clear c24b0
      try clear c24b1
      try clear c32
      try clear c32b0
      try clear c33
      try clear c33b0
      try clear c34
      try clear c34b0
      try clear hcz26_0
      try clear hcz26_1
      try clear hcz30_0
      try clear hcz30_1
      try clear hcz31_0
      try clear hcz31_1
      try clear hcz40_0
      try clear hcz40_1
      try clear hcz40_2
      try clear hfz26_0
      try clear hfz26_1
      try clear hfz30_0
      try clear hfz30_1
      try clear hfz31_0
      try clear hfz31_1
      try clear hfz40_0
      try clear hfz40_1
      try clear hfz40_2
      try clear hx277_0
      try clear hx277_1
      try clear hx277_2
      try clear hx279_0
      try clear hx279_1
      try clear hx279_2
      try clear p277
      try clear p279
      try clear q277
      try clear q279
      obtain ⟨x11_3, x55_3, x279001_3, rfl, HA, HK3, HO_11, HO_53, HO_279000, BK273, BK274, BK278, BK280, HB⟩ := hrel
      cases gk with
      | zero => exact absurd HA.out (by simp [spec_TruncateTo.l1])
      | succ k3 =>
       have H := HA.out
       clear HA
       simp only [spec_TruncateTo.l1] at H
       replace H := ite_ H
       obtain ⟨c43, H⟩ | ⟨c43, H⟩ := H
       rotate_left
       ·have c43b0 := decide_eq_false c43
        clear c43
        replace H := ite_ H
        obtain ⟨c68, H⟩ | ⟨c68, H⟩ := H
        ·have c68b0 := dgt_ c68
         have c68b1 : decide (0 < x11_3.length) = true := decide_eq_true (by omega)
         clear c68
         replace H := bnd_ H
         obtain ⟨⟨t290, t291, t292⟩, A69, H⟩ := H
         replace H := red_ H
         replace H := ifs_ H
         obtain ⟨c70, H⟩ := H
         have LMc70 := Aside0.mk c70
         clear c70
         obtain ⟨y295, hy295⟩ : ∃ y_ : List (S65), y_ = (x279000_2 ++ [(⟨t290, t291, t292⟩ : S65)]) := ⟨_, rfl⟩
         replace H : (spec_TruncateTo.l0 k3 a1 l0_0 (l0_0.length : Int) (wrap64 (x42_2 + 1)) y295 x279001_3) = some (r1, r2, r3) := by first | (rw [hy295]; with_reducible exact H) | (have H2_ := (Option.bind_some _ _).symm.trans H; rw [hy295]; with_reducible exact H2_) | (have H2_ := (Option.bind_some _ _).symm.trans H; with_reducible exact H2_) | with_reducible exact H | (rw [hy295]; exact H) | exact H
         have Ny295 := Aside0.mk hy295
         clear hy295
         have H' := Aside0.mk H
         clear H
         obtain ⟨Ao71, co71, eo71⟩ := Kd.N_slice HO_11.out
         subst eo71
         try go_wp2
         replace HO_11 := Aside0.mk (Kd.N_drew HO_11.out)
         replace HO_53 := Aside0.mk (Kd.N_drew HO_53.out)
         replace HO_279000 := Aside0.mk (Kd.N_drew HO_279000.out)
         replace BK273 := qK_ BK273
         replace BK274 := qK_ BK274
         replace BK278 := qK_ BK278
         replace BK280 := qK_ BK280
         replace HB := qH_ HB
         refine start_ (n := 10) (S := fun w' => w'.cell? ⟨gb278, 0, none⟩ = some (u279000) ∧ w'.cell? ⟨gb278, 1, none⟩ = some (.int .i64 x279001_3) ∧ w'.cell? ⟨gb280, 0, none⟩ = some (.int .i64 ((rd_T65 l0_0 x42_2).f0)) ∧ w'.cell? ⟨gb280, 1, none⟩ = some (.string ((rd_T65 l0_0 x42_2).f1)) ∧ w'.cell? ⟨gb280, 2, none⟩ = some (.slice A279_2 ((rd_T65 l0_0 x42_2).f2).length c279_2)) (ds := [9]) (List.replicate 10 false).toArray (by kernel_rfl) rfl rfl ⟨bt_ BK278 0, bt_ BK278 1, bt_ BK280 0, bt_ BK280 1, bt_ BK280 2⟩ (fun hHeld => ?_); refine with_tabW spec_TruncateTo.tab17 spec_TruncateTo.bits17 (fun HT_ HW_ => ?_)
         generalize wr.drew = w72 at HO_11 HO_53 HO_279000 BK273 BK274 BK278 BK280 HB hHeld ⊢
         refine pv_ 0 86 ?_
         refine pv_ 2 88 ?_
         refine pv_ 4 90 ?_
         refine tk_ 1 87 ?_
         refine tk_ 3 89 ?_
         refine on_ 5 91 (fun K hK => ?_)
         refine gs_ Try.func74 #[.int .i64 ((rd_T65 l0_0 x42_2).f0), .slice Ao71 x11_3.length co71] rfl ma_ ?_
         with_reducible refine (spec_l2Make.calls k3 ((rd_T65 l0_0 x42_2).f0) _ _ x11_3 t290 t291 t292 _ ?side1 ?side2 A69.out).mono ?_
         (case side1 => exact cs_ ((Kd.N_reads' HO_11.out).2.2))
         (case side2 => exact (Kd.N_reads' HO_11.out).2.1)
         rintro e w73 ⟨v293, rfl, ho0, hb⟩
         refine ⟨_, rfl, ?_⟩
         replace HO_11 := Aside0.mk (Kd.N_elder' (nF_ HO_11.out) (Kd.R_base ho0) hb)
         replace HO_53 := Aside0.mk (Kd.N_elder' (nF_ HO_53.out) (Kd.R_base ho0) hb)
         replace HO_279000 := Aside0.mk (Kd.N_elder' (nF_ HO_279000.out) (Kd.R_base ho0) hb)
         have HO294 := Aside0.mk (Kd.R_lower (Kd.R_newM (M := fun k_ => (w.heap.size ≤ k_)) ho0 (below_size (hs4_ GE273.out GE274.out GE278.out GE280.out)) (fun k_ h_ => h_)) (below_size (hs4_ GE273.out GE274.out GE278.out GE280.out)))
         replace BK273 := bK_ BK273 hb
         replace BK274 := bK_ BK274 hb
         replace BK278 := bK_ BK278 hb
         replace BK280 := bK_ BK280 hb
         replace HB := nc4_ GE273 GE274 GE278 GE280 hb
         (try clear hb)
         (try clear hb2)
         (try clear hk)
         (try clear hi)
         (try clear ho0)
         obtain ⟨Ao75, co75, eo75⟩ := Kd.R_slice HO294.out
         (first | subst eo75 | (injection eo75 with f1_ f2_ f3_; have f4_ := f1_.symm; have f5_ := f3_.symm; clear f1_ f2_ f3_; subst f4_; subst f5_))
         refine hK.out _ _ ⟨bt_ BK278 0, bt_ BK278 1, bt_ BK280 0, bt_ BK280 1, bt_ BK280 2⟩ (fun hHeld => ?_)
         clear hK K
         refine no_ ?_
         refine on_ 6 92 (fun K hK => ?_)
         refine value_ (w1 := ?_) (v := ?_) (by rfl) rfl ?_ ?_
         rotate_left 2
         ·go_simp
          constructor
          ·rfl
          ·rfl
         refine hK.out _ _ ⟨(blk_cell (blk_alloc BK278.out _) 0).trans rfl, (blk_cell (blk_alloc BK278.out _) 1).trans rfl, (blk_cell (blk_alloc BK280.out _) 0).trans rfl, (blk_cell (blk_alloc BK280.out _) 1).trans rfl, (blk_cell (blk_alloc BK280.out _) 2).trans rfl⟩ (fun hHeld => ?_)
         clear hK K
         refine no_ ?_
         refine on_ 7 93 (fun K hK => ?_)
         refine Kd.N_append_step k65 (w0 := w) w.heap.size (by rfl) (.tmp 87) (.tmp 92) 22 65 (.agg #[(.int .i64 0), (.string ⟨#[]⟩), (.slice none 0 0)]) 48 rfl Try.underlying22 info65 rfl (by decide) (by omega) u279000 x279000_2 (⟨t290, t291, t292⟩ : S65) [.int .i64 t290, .string t291, .slice Ao75 t292.length co75] (fun k_ => (w.heap.size ≤ k_) ∧ some k_ ≠ (.slice Ao71 x11_3.length co71 : Value).ownBlock ∧ some k_ ≠ (.slice Ao42 t281.length co42 : Value).ownBlock ∧ k_ ≠ gb273 ∧ k_ ≠ gb274 ∧ k_ ≠ gb278 ∧ k_ ≠ gb280) (fun k_ => ((fun k_ => (w.heap.size ≤ k_) ∧ some k_ ≠ (.slice Ao71 x11_3.length co71 : Value).ownBlock ∧ some k_ ≠ (.slice Ao42 t281.length co42 : Value).ownBlock ∧ k_ ≠ gb273 ∧ k_ ≠ gb274 ∧ k_ ≠ gb278 ∧ k_ ≠ gb280)) k_ ∧ some k_ ≠ (u279000 : Value).ownBlock) rfl rfl ?aP (fun _ hk => hk) ?aF ?aO ?aB ?aS ?aL ?_
         (case aP => exact (k65_mkF _ _ (⟨t290, t291, t292⟩ : S65) (Kd.R_reads' (Kd.R_mono (ok' := (fun k_ => ((fun k_ => (w.heap.size ≤ k_) ∧ some k_ ≠ (.slice Ao71 x11_3.length co71 : Value).ownBlock ∧ some k_ ≠ (.slice Ao42 t281.length co42 : Value).ownBlock ∧ k_ ≠ gb273 ∧ k_ ≠ gb274 ∧ k_ ≠ gb278 ∧ k_ ≠ gb280)) k_ ∧ some k_ ≠ (u279000 : Value).ownBlock)) (Kd.R_types (Kd.R_types (Kd.R_types (Kd.R_types (Kd.R_apart' (Kd.R_apart' (Kd.R_apart' (HO294.out) (Kd.N_typed HO_11.out) (by decide)) (Kd.N_typed HO_53.out) (by decide)) (Kd.N_typed HO_279000.out) (by decide)) BK273.out (by decide)) BK274.out (by decide)) BK278.out (by decide)) BK280.out (by decide)) (fun k_ hk => ⟨⟨hk.1.1.1.1.1.1.1.1, ⟨hk.1.1.1.1.1.1.2, ⟨hk.1.1.1.1.1.2, ⟨hk.1.1.1.2, ⟨hk.1.1.2, ⟨hk.1.2, hk.2⟩⟩⟩⟩⟩⟩, hk.1.1.1.1.2⟩))).2.1 (Kd.R_F (Kd.R_mono (ok' := (fun k_ => ((fun k_ => (w.heap.size ≤ k_) ∧ some k_ ≠ (.slice Ao71 x11_3.length co71 : Value).ownBlock ∧ some k_ ≠ (.slice Ao42 t281.length co42 : Value).ownBlock ∧ k_ ≠ gb273 ∧ k_ ≠ gb274 ∧ k_ ≠ gb278 ∧ k_ ≠ gb280)) k_ ∧ some k_ ≠ (u279000 : Value).ownBlock)) (Kd.R_types (Kd.R_types (Kd.R_types (Kd.R_types (Kd.R_apart' (Kd.R_apart' (Kd.R_apart' (HO294.out) (Kd.N_typed HO_11.out) (by decide)) (Kd.N_typed HO_53.out) (by decide)) (Kd.N_typed HO_279000.out) (by decide)) BK273.out (by decide)) BK274.out (by decide)) BK278.out (by decide)) BK280.out (by decide)) (fun k_ hk => ⟨⟨hk.1.1.1.1.1.1.1.1, ⟨hk.1.1.1.1.1.1.2, ⟨hk.1.1.1.1.1.2, ⟨hk.1.1.1.2, ⟨hk.1.1.2, ⟨hk.1.2, hk.2⟩⟩⟩⟩⟩⟩, hk.1.1.1.1.2⟩)))))
         (case aB => exact (hs4_ GE273.out GE274.out GE278.out GE280.out))
         (case aF => exact (fun k_ hk => ⟨(Nat.le_trans (below_size (hs4_ GE273.out GE274.out GE278.out GE280.out)) hk), Kd.fresh' (Kd.N_lt (nF_ HO_11.out)) k_ hk, Kd.fresh' (Kd.N_lt (nF_ HO_53.out)) k_ hk, Kd.freshB (g := gb273) (o := .cells #[.slice (some ad277) l0_0.length c0_0, .int .i64 a0_1] 24 (0, 0)) (kb_ BK273.out) k_ hk, Kd.freshB (g := gb274) (o := .cells #[.slice none 0 0, .int .i64 0] 24 (0, 0)) (kb_ BK274.out) k_ hk, Kd.freshB (g := gb278) (o := .cells #[u279000, .int .i64 x279001_3] 24 (0, 0)) (kb_ BK278.out) k_ hk, Kd.freshB (g := gb280) (o := .cells #[.int .i64 ((rd_T65 l0_0 x42_2).f0), .string ((rd_T65 l0_0 x42_2).f1), .slice A279_2 ((rd_T65 l0_0 x42_2).f2).length c279_2] 65 (0, 0)) (kb_ BK280.out) k_ hk⟩))
         (case aO => exact (nF_ (Kd.N_mono HO_279000.out (fun _ hk => ⟨hk.1.1, ⟨hk.1.2.1, ⟨hk.1.2.2.1, ⟨hk.1.2.2.2.1, ⟨hk.1.2.2.2.2.1, ⟨hk.1.2.2.2.2.2.1, hk.1.2.2.2.2.2.2⟩⟩⟩⟩⟩⟩))))
         (case aS => exact (below_size (hs4_ GE273.out GE274.out GE278.out GE280.out)))
         (case aL => have := LMc70.out; omega)
         intro v296 w74 ho hb hg hat
         rw [← Ny295.out] at ho
         replace HO_11 := Aside0.mk (Kd.N_afterv (ok := (fun k_ => (w.heap.size ≤ k_) ∧ some k_ ≠ (.slice Ao42 t281.length co42 : Value).ownBlock ∧ some k_ ≠ (.slice Ao75 t292.length co75 : Value).ownBlock ∧ k_ ≠ gb273 ∧ k_ ≠ gb274 ∧ k_ ≠ gb278 ∧ k_ ≠ gb280)) (nF_ (Kd.N_mono HO_11.out (fun _ hk => ⟨⟨hk.1.1, ⟨hk.1.2.1, ⟨hk.2, ⟨hk.1.2.2.2.1, ⟨hk.1.2.2.2.2.1, ⟨hk.1.2.2.2.2.2.1, hk.1.2.2.2.2.2.2⟩⟩⟩⟩⟩⟩, hk.1.2.2.1⟩))) hg hat)
         replace HO_53 := Aside0.mk (Kd.N_afterv (ok := (fun k_ => (w.heap.size ≤ k_) ∧ some k_ ≠ (.slice Ao71 x11_3.length co71 : Value).ownBlock ∧ some k_ ≠ (.slice Ao75 t292.length co75 : Value).ownBlock ∧ k_ ≠ gb273 ∧ k_ ≠ gb274 ∧ k_ ≠ gb278 ∧ k_ ≠ gb280)) (nF_ (Kd.N_mono HO_53.out (fun _ hk => ⟨⟨hk.1.1, ⟨hk.1.2.1, ⟨hk.2, ⟨hk.1.2.2.2.1, ⟨hk.1.2.2.2.2.1, ⟨hk.1.2.2.2.2.2.1, hk.1.2.2.2.2.2.2⟩⟩⟩⟩⟩⟩, hk.1.2.2.1⟩))) hg hat)
         replace BK273 := Aside0.mk (blk_grown (g := gb273) (o := .cells #[.slice (some ad277) l0_0.length c0_0, .int .i64 a0_1] 24 (0, 0)) (kb_ BK273.out) hg (Kd.N_ne HO_279000.out BK273.out (by decide)))
         replace BK274 := Aside0.mk (blk_grown (g := gb274) (o := .cells #[.slice none 0 0, .int .i64 0] 24 (0, 0)) (kb_ BK274.out) hg (Kd.N_ne HO_279000.out BK274.out (by decide)))
         replace BK278 := Aside0.mk (blk_grown (g := gb278) (o := .cells #[u279000, .int .i64 x279001_3] 24 (0, 0)) (kb_ BK278.out) hg (Kd.N_ne HO_279000.out BK278.out (by decide)))
         replace BK280 := Aside0.mk (blk_grown (g := gb280) (o := .cells #[.int .i64 ((rd_T65 l0_0 x42_2).f0), .string ((rd_T65 l0_0 x42_2).f1), .slice A279_2 ((rd_T65 l0_0 x42_2).f2).length c279_2] 65 (0, 0)) (kb_ BK280.out) hg (Kd.N_away HO_279000.out (fun _ hk => hk.1.2.2.2.2.2.2)))
         replace HB := Aside0.mk (hb)
         have HO297 := Aside0.mk (ho)
         clear HO_279000 HO294
         clear ho hb hg hat
         obtain ⟨Ao76, co76, eo76⟩ := Kd.N_slice HO297.out
         (first | subst eo76 | (injection eo76 with f1_ f2_ f3_; have f4_ := f1_.symm; have f5_ := f3_.symm; clear f1_ f2_ f3_; subst f4_; subst f5_))
         refine hK.out _ _ ⟨bt_ BK278 0, bt_ BK278 1, bt_ BK280 0, bt_ BK280 1, bt_ BK280 2⟩ (fun hHeld => ?_)
         clear hK K
         refine no_ ?_
         refine pv_ 8 94 ?_
         refine last_ (i := 9) (N := none) #[true, true, true, true, true, true, true, true, true, true] rfl rfl (one_of HT_.out (by kernel_rfl)) (by decide) (fun K hK => ?_)
         obtain ⟨hs77, hfs77⟩ := cf1_ BK278.out
         have hns77_0 := NB273_278.out
         have hns77_1 := NB274_278.out
         have hns77_3 := NB280_278.out
         have hms77_0 := NB278_273.out
         have hms77_1 := NB278_274.out
         have hms77_3 := NB278_280.out
         refine skip_ (w1 := ?_) (by rfl) rfl ?_ ?_
         rotate_left
         ·go_simp
          rfl
         refine hK.out _ _ ?_
         clear hK K
         refine done_ (done_of HT_.out (by kernel_rfl)) ?_
         try go_wp2
         go_roundg k3
         case measure => have := HJ2.out; have := HK2.out; have := HK3.out; omega
         case rel => exact ⟨(wrap64 (x42_2 + 1)), (y295), (x279001_3), (.slice Ao76 y295.length co76), sr_, H', ⟨by have := HJ2.out; have := HK2.out; have := HK3.out; omega⟩, ⟨nF_ (Kd.N_mono (Kd.N_far (p := ⟨gb278, 0, none⟩) (Kd.N_mono HO297.out (fun k_ hk => (⟨hk, hk.2.2.2.2.2.1⟩ : _ ∧ k_ ≠ gb278))) (fun _ hk => hk.2) (.slice Ao76 y295.length co76)) (fun _ hk => ⟨hk.1.1, ⟨hk.1.2.2.2.1, ⟨hk.1.2.2.2.2.1, hk.1.2.2.2.2.2.1⟩⟩⟩))⟩, ⟨uf_ BK273 NB273_278.out⟩, ⟨uf_ BK274 NB274_278.out⟩, ⟨up_ BK278⟩, ⟨hs4_ GE273.out GE274.out GE278.out GE280.out⟩⟩
        have c68b0 := dgf_ c68
        have c68b1 : decide (0 < x11_3.length) = false := decide_eq_false (by omega)
        clear c68
        replace H := ite_ H
        obtain ⟨c78, H⟩ | ⟨c78, H⟩ := H
        rotate_left
        ·have c78b0 : (x42_2 == 0) = false := beq_eq_false_iff_ne.mpr c78
         have c78b1 : (x42_2 != 0) = true := bne_iff_ne.mpr c78
         have H' := Aside0.mk H
         clear H
         obtain ⟨Ao88, co88, eo88⟩ := Kd.N_slice HO_11.out
         subst eo88
         go_wp2
         go_roundg k3
         case measure => have := HJ2.out; have := HK2.out; have := HK3.out; omega
         case rel => exact ⟨(wrap64 (x42_2 + 1)), (x279000_2), (x279001_3), (u279000), sr_, H', ⟨by have := HJ2.out; have := HK2.out; have := HK3.out; omega⟩, ⟨nF_ (Kd.N_mono HO_279000.out (fun _ hk => ⟨hk.1, ⟨hk.2.2.2.1, ⟨hk.2.2.2.2.1, hk.2.2.2.2.2.1⟩⟩⟩))⟩, ⟨kb_ BK273.out⟩, ⟨kb_ BK274.out⟩, ⟨kb_ BK278.out⟩, ⟨hs4_ GE273.out GE274.out GE278.out GE280.out⟩⟩
        have c78b0 : (x42_2 == 0) = true := beq_iff_eq.mpr c78
        have c78b1 : (x42_2 != 0) = false := bne_eq_false_iff_eq.mpr c78
        clear c78
        replace H := bnd_ H
        obtain ⟨⟨t298, t299, t300⟩, A79, H⟩ := H
        replace H := red_ H
        replace H := ifs_ H
        obtain ⟨c80, H⟩ := H
        have LMc80 := Aside0.mk c80
        clear c80
        obtain ⟨y303, hy303⟩ : ∃ y_ : List (S65), y_ = (x279000_2 ++ [(⟨t298, t299, t300⟩ : S65)]) := ⟨_, rfl⟩
        replace H : (spec_TruncateTo.l0 k3 a1 l0_0 (l0_0.length : Int) (wrap64 (x42_2 + 1)) y303 x279001_3) = some (r1, r2, r3) := by first | (rw [hy303]; with_reducible exact H) | (have H2_ := (Option.bind_some _ _).symm.trans H; rw [hy303]; with_reducible exact H2_) | (have H2_ := (Option.bind_some _ _).symm.trans H; with_reducible exact H2_) | with_reducible exact H | (rw [hy303]; exact H) | exact H
        have Ny303 := Aside0.mk hy303
        clear hy303
        have H' := Aside0.mk H
        clear H
        obtain ⟨Ao81, co81, eo81⟩ := Kd.N_slice HO_11.out
        subst eo81
        try go_wp2
        replace HO_11 := Aside0.mk (Kd.N_drew HO_11.out)
        replace HO_53 := Aside0.mk (Kd.N_drew HO_53.out)
        replace HO_279000 := Aside0.mk (Kd.N_drew HO_279000.out)
        replace BK273 := qK_ BK273
        replace BK274 := qK_ BK274
        replace BK278 := qK_ BK278
        replace BK280 := qK_ BK280
        replace HB := qH_ HB
        refine start_ (n := 10) (S := fun w' => w'.cell? ⟨gb278, 0, none⟩ = some (u279000) ∧ w'.cell? ⟨gb278, 1, none⟩ = some (.int .i64 x279001_3) ∧ w'.cell? ⟨gb280, 0, none⟩ = some (.int .i64 ((rd_T65 l0_0 x42_2).f0)) ∧ w'.cell? ⟨gb280, 1, none⟩ = some (.string ((rd_T65 l0_0 x42_2).f1)) ∧ w'.cell? ⟨gb280, 2, none⟩ = some (.slice A279_2 ((rd_T65 l0_0 x42_2).f2).length c279_2)) (ds := [9]) (List.replicate 10 false).toArray (by kernel_rfl) rfl rfl ⟨bt_ BK278 0, bt_ BK278 1, bt_ BK280 0, bt_ BK280 1, bt_ BK280 2⟩ (fun hHeld => ?_); refine with_tabW spec_TruncateTo.tab17 spec_TruncateTo.bits17 (fun HT_ HW_ => ?_)
        generalize wr.drew = w82 at HO_11 HO_53 HO_279000 BK273 BK274 BK278 BK280 HB hHeld ⊢
        refine pv_ 0 86 ?_
        refine pv_ 2 88 ?_
        refine pv_ 4 90 ?_
        refine tk_ 1 87 ?_
        refine tk_ 3 89 ?_
        refine on_ 5 91 (fun K hK => ?_)
        refine gs_ Try.func74 #[.int .i64 ((rd_T65 l0_0 x42_2).f0), .slice Ao81 x11_3.length co81] rfl ma_ ?_
        with_reducible refine (spec_l2Make.calls k3 ((rd_T65 l0_0 x42_2).f0) _ _ x11_3 t298 t299 t300 _ ?side1 ?side2 A79.out).mono ?_
        (case side1 => exact cs_ ((Kd.N_reads' HO_11.out).2.2))
        (case side2 => exact (Kd.N_reads' HO_11.out).2.1)
        rintro e w83 ⟨v301, rfl, ho0, hb⟩
        refine ⟨_, rfl, ?_⟩
        replace HO_11 := Aside0.mk (Kd.N_elder' (nF_ HO_11.out) (Kd.R_base ho0) hb)
        replace HO_53 := Aside0.mk (Kd.N_elder' (nF_ HO_53.out) (Kd.R_base ho0) hb)
        replace HO_279000 := Aside0.mk (Kd.N_elder' (nF_ HO_279000.out) (Kd.R_base ho0) hb)
        have HO302 := Aside0.mk (Kd.R_lower (Kd.R_newM (M := fun k_ => (w.heap.size ≤ k_)) ho0 (below_size (hs4_ GE273.out GE274.out GE278.out GE280.out)) (fun k_ h_ => h_)) (below_size (hs4_ GE273.out GE274.out GE278.out GE280.out)))
        replace BK273 := bK_ BK273 hb
        replace BK274 := bK_ BK274 hb
        replace BK278 := bK_ BK278 hb
        replace BK280 := bK_ BK280 hb
        replace HB := nc4_ GE273 GE274 GE278 GE280 hb
        (try clear hb)
        (try clear hb2)
        (try clear hk)
        (try clear hi)
        (try clear ho0)
        obtain ⟨Ao85, co85, eo85⟩ := Kd.R_slice HO302.out
        (first | subst eo85 | (injection eo85 with f1_ f2_ f3_; have f4_ := f1_.symm; have f5_ := f3_.symm; clear f1_ f2_ f3_; subst f4_; subst f5_))
        refine hK.out _ _ ⟨bt_ BK278 0, bt_ BK278 1, bt_ BK280 0, bt_ BK280 1, bt_ BK280 2⟩ (fun hHeld => ?_)
        clear hK K
        refine no_ ?_
        refine on_ 6 92 (fun K hK => ?_)
        refine value_ (w1 := ?_) (v := ?_) (by rfl) rfl ?_ ?_
        rotate_left 2
        ·go_simp
         constructor
         ·rfl
         ·rfl
        refine hK.out _ _ ⟨(blk_cell (blk_alloc BK278.out _) 0).trans rfl, (blk_cell (blk_alloc BK278.out _) 1).trans rfl, (blk_cell (blk_alloc BK280.out _) 0).trans rfl, (blk_cell (blk_alloc BK280.out _) 1).trans rfl, (blk_cell (blk_alloc BK280.out _) 2).trans rfl⟩ (fun hHeld => ?_)
        clear hK K
        refine no_ ?_
        refine on_ 7 93 (fun K hK => ?_)
        refine Kd.N_append_step k65 (w0 := w) w.heap.size (by rfl) (.tmp 87) (.tmp 92) 22 65 (.agg #[(.int .i64 0), (.string ⟨#[]⟩), (.slice none 0 0)]) 48 rfl Try.underlying22 info65 rfl (by decide) (by omega) u279000 x279000_2 (⟨t298, t299, t300⟩ : S65) [.int .i64 t298, .string t299, .slice Ao85 t300.length co85] (fun k_ => (w.heap.size ≤ k_) ∧ some k_ ≠ (.slice Ao81 x11_3.length co81 : Value).ownBlock ∧ some k_ ≠ (.slice Ao42 t281.length co42 : Value).ownBlock ∧ k_ ≠ gb273 ∧ k_ ≠ gb274 ∧ k_ ≠ gb278 ∧ k_ ≠ gb280) (fun k_ => ((fun k_ => (w.heap.size ≤ k_) ∧ some k_ ≠ (.slice Ao81 x11_3.length co81 : Value).ownBlock ∧ some k_ ≠ (.slice Ao42 t281.length co42 : Value).ownBlock ∧ k_ ≠ gb273 ∧ k_ ≠ gb274 ∧ k_ ≠ gb278 ∧ k_ ≠ gb280)) k_ ∧ some k_ ≠ (u279000 : Value).ownBlock) rfl rfl ?aP (fun _ hk => hk) ?aF ?aO ?aB ?aS ?aL ?_
        (case aP => exact (k65_mkF _ _ (⟨t298, t299, t300⟩ : S65) (Kd.R_reads' (Kd.R_mono (ok' := (fun k_ => ((fun k_ => (w.heap.size ≤ k_) ∧ some k_ ≠ (.slice Ao81 x11_3.length co81 : Value).ownBlock ∧ some k_ ≠ (.slice Ao42 t281.length co42 : Value).ownBlock ∧ k_ ≠ gb273 ∧ k_ ≠ gb274 ∧ k_ ≠ gb278 ∧ k_ ≠ gb280)) k_ ∧ some k_ ≠ (u279000 : Value).ownBlock)) (Kd.R_types (Kd.R_types (Kd.R_types (Kd.R_types (Kd.R_apart' (Kd.R_apart' (Kd.R_apart' (HO302.out) (Kd.N_typed HO_11.out) (by decide)) (Kd.N_typed HO_53.out) (by decide)) (Kd.N_typed HO_279000.out) (by decide)) BK273.out (by decide)) BK274.out (by decide)) BK278.out (by decide)) BK280.out (by decide)) (fun k_ hk => ⟨⟨hk.1.1.1.1.1.1.1.1, ⟨hk.1.1.1.1.1.1.2, ⟨hk.1.1.1.1.1.2, ⟨hk.1.1.1.2, ⟨hk.1.1.2, ⟨hk.1.2, hk.2⟩⟩⟩⟩⟩⟩, hk.1.1.1.1.2⟩))).2.1 (Kd.R_F (Kd.R_mono (ok' := (fun k_ => ((fun k_ => (w.heap.size ≤ k_) ∧ some k_ ≠ (.slice Ao81 x11_3.length co81 : Value).ownBlock ∧ some k_ ≠ (.slice Ao42 t281.length co42 : Value).ownBlock ∧ k_ ≠ gb273 ∧ k_ ≠ gb274 ∧ k_ ≠ gb278 ∧ k_ ≠ gb280)) k_ ∧ some k_ ≠ (u279000 : Value).ownBlock)) (Kd.R_types (Kd.R_types (Kd.R_types (Kd.R_types (Kd.R_apart' (Kd.R_apart' (Kd.R_apart' (HO302.out) (Kd.N_typed HO_11.out) (by decide)) (Kd.N_typed HO_53.out) (by decide)) (Kd.N_typed HO_279000.out) (by decide)) BK273.out (by decide)) BK274.out (by decide)) BK278.out (by decide)) BK280.out (by decide)) (fun k_ hk => ⟨⟨hk.1.1.1.1.1.1.1.1, ⟨hk.1.1.1.1.1.1.2, ⟨hk.1.1.1.1.1.2, ⟨hk.1.1.1.2, ⟨hk.1.1.2, ⟨hk.1.2, hk.2⟩⟩⟩⟩⟩⟩, hk.1.1.1.1.2⟩)))))
        (case aB => exact (hs4_ GE273.out GE274.out GE278.out GE280.out))
        (case aF => exact (fun k_ hk => ⟨(Nat.le_trans (below_size (hs4_ GE273.out GE274.out GE278.out GE280.out)) hk), Kd.fresh' (Kd.N_lt (nF_ HO_11.out)) k_ hk, Kd.fresh' (Kd.N_lt (nF_ HO_53.out)) k_ hk, Kd.freshB (g := gb273) (o := .cells #[.slice (some ad277) l0_0.length c0_0, .int .i64 a0_1] 24 (0, 0)) (kb_ BK273.out) k_ hk, Kd.freshB (g := gb274) (o := .cells #[.slice none 0 0, .int .i64 0] 24 (0, 0)) (kb_ BK274.out) k_ hk, Kd.freshB (g := gb278) (o := .cells #[u279000, .int .i64 x279001_3] 24 (0, 0)) (kb_ BK278.out) k_ hk, Kd.freshB (g := gb280) (o := .cells #[.int .i64 ((rd_T65 l0_0 x42_2).f0), .string ((rd_T65 l0_0 x42_2).f1), .slice A279_2 ((rd_T65 l0_0 x42_2).f2).length c279_2] 65 (0, 0)) (kb_ BK280.out) k_ hk⟩))
        (case aO => exact (nF_ (Kd.N_mono HO_279000.out (fun _ hk => ⟨hk.1.1, ⟨hk.1.2.1, ⟨hk.1.2.2.1, ⟨hk.1.2.2.2.1, ⟨hk.1.2.2.2.2.1, ⟨hk.1.2.2.2.2.2.1, hk.1.2.2.2.2.2.2⟩⟩⟩⟩⟩⟩))))
        (case aS => exact (below_size (hs4_ GE273.out GE274.out GE278.out GE280.out)))
        (case aL => have := LMc80.out; omega)
        intro v304 w84 ho hb hg hat
        rw [← Ny303.out] at ho
        replace HO_11 := Aside0.mk (Kd.N_afterv (ok := (fun k_ => (w.heap.size ≤ k_) ∧ some k_ ≠ (.slice Ao42 t281.length co42 : Value).ownBlock ∧ some k_ ≠ (.slice Ao85 t300.length co85 : Value).ownBlock ∧ k_ ≠ gb273 ∧ k_ ≠ gb274 ∧ k_ ≠ gb278 ∧ k_ ≠ gb280)) (nF_ (Kd.N_mono HO_11.out (fun _ hk => ⟨⟨hk.1.1, ⟨hk.1.2.1, ⟨hk.2, ⟨hk.1.2.2.2.1, ⟨hk.1.2.2.2.2.1, ⟨hk.1.2.2.2.2.2.1, hk.1.2.2.2.2.2.2⟩⟩⟩⟩⟩⟩, hk.1.2.2.1⟩))) hg hat)
        replace HO_53 := Aside0.mk (Kd.N_afterv (ok := (fun k_ => (w.heap.size ≤ k_) ∧ some k_ ≠ (.slice Ao81 x11_3.length co81 : Value).ownBlock ∧ some k_ ≠ (.slice Ao85 t300.length co85 : Value).ownBlock ∧ k_ ≠ gb273 ∧ k_ ≠ gb274 ∧ k_ ≠ gb278 ∧ k_ ≠ gb280)) (nF_ (Kd.N_mono HO_53.out (fun _ hk => ⟨⟨hk.1.1, ⟨hk.1.2.1, ⟨hk.2, ⟨hk.1.2.2.2.1, ⟨hk.1.2.2.2.2.1, ⟨hk.1.2.2.2.2.2.1, hk.1.2.2.2.2.2.2⟩⟩⟩⟩⟩⟩, hk.1.2.2.1⟩))) hg hat)
        replace BK273 := Aside0.mk (blk_grown (g := gb273) (o := .cells #[.slice (some ad277) l0_0.length c0_0, .int .i64 a0_1] 24 (0, 0)) (kb_ BK273.out) hg (Kd.N_ne HO_279000.out BK273.out (by decide)))
        replace BK274 := Aside0.mk (blk_grown (g := gb274) (o := .cells #[.slice none 0 0, .int .i64 0] 24 (0, 0)) (kb_ BK274.out) hg (Kd.N_ne HO_279000.out BK274.out (by decide)))
        replace BK278 := Aside0.mk (blk_grown (g := gb278) (o := .cells #[u279000, .int .i64 x279001_3] 24 (0, 0)) (kb_ BK278.out) hg (Kd.N_ne HO_279000.out BK278.out (by decide)))
        replace BK280 := Aside0.mk (blk_grown (g := gb280) (o := .cells #[.int .i64 ((rd_T65 l0_0 x42_2).f0), .string ((rd_T65 l0_0 x42_2).f1), .slice A279_2 ((rd_T65 l0_0 x42_2).f2).length c279_2] 65 (0, 0)) (kb_ BK280.out) hg (Kd.N_away HO_279000.out (fun _ hk => hk.1.2.2.2.2.2.2)))
        replace HB := Aside0.mk (hb)
        have HO305 := Aside0.mk (ho)
        clear HO_279000 HO302
        clear ho hb hg hat
        obtain ⟨Ao86, co86, eo86⟩ := Kd.N_slice HO305.out
        (first | subst eo86 | (injection eo86 with f1_ f2_ f3_; have f4_ := f1_.symm; have f5_ := f3_.symm; clear f1_ f2_ f3_; subst f4_; subst f5_))
        refine hK.out _ _ ⟨bt_ BK278 0, bt_ BK278 1, bt_ BK280 0, bt_ BK280 1, bt_ BK280 2⟩ (fun hHeld => ?_)
        clear hK K
        refine no_ ?_
        refine pv_ 8 94 ?_
        refine last_ (i := 9) (N := none) #[true, true, true, true, true, true, true, true, true, true] rfl rfl (one_of HT_.out (by kernel_rfl)) (by decide) (fun K hK => ?_)
        obtain ⟨hs87, hfs87⟩ := cf1_ BK278.out
        have hns87_0 := NB273_278.out
        have hns87_1 := NB274_278.out
        have hns87_3 := NB280_278.out
        have hms87_0 := NB278_273.out
        have hms87_1 := NB278_274.out
        have hms87_3 := NB278_280.out
        refine skip_ (w1 := ?_) (by rfl) rfl ?_ ?_
        rotate_left
        ·go_simp
         rfl
        refine hK.out _ _ ?_
        clear hK K
        refine done_ (done_of HT_.out (by kernel_rfl)) ?_
        try go_wp2
        go_roundg k3
        case measure => have := HJ2.out; have := HK2.out; have := HK3.out; omega
        case rel => exact ⟨(wrap64 (x42_2 + 1)), (y303), (x279001_3), (.slice Ao86 y303.length co86), sr_, H', ⟨by have := HJ2.out; have := HK2.out; have := HK3.out; omega⟩, ⟨nF_ (Kd.N_mono (Kd.N_far (p := ⟨gb278, 0, none⟩) (Kd.N_mono HO305.out (fun k_ hk => (⟨hk, hk.2.2.2.2.2.1⟩ : _ ∧ k_ ≠ gb278))) (fun _ hk => hk.2) (.slice Ao86 y303.length co86)) (fun _ hk => ⟨hk.1.1, ⟨hk.1.2.2.2.1, ⟨hk.1.2.2.2.2.1, hk.1.2.2.2.2.2.1⟩⟩⟩))⟩, ⟨uf_ BK273 NB273_278.out⟩, ⟨uf_ BK274 NB274_278.out⟩, ⟨up_ BK278⟩, ⟨hs4_ GE273.out GE274.out GE278.out GE280.out⟩⟩
       have c43b0 := decide_eq_true c43
       clear c43
       replace H := ifs_ H
       obtain ⟨c44, H⟩ := H
       have c44b0 := decide_eq_true c44
       clear c44
       replace H := ifs_ H
       obtain ⟨c45, H⟩ := H
       have c45b0 := decide_eq_true c45
       clear c45
       replace H := ite_ H
       obtain ⟨c46, H⟩ | ⟨c46, H⟩ := H
       rotate_left
       ·have c46b0 := decide_eq_false c46
        clear c46
        have H' := Aside0.mk H
        clear H
        have p285 : 0 ≤ (x55_3 : Int) := oa_
        have q285 : x55_3 < (t281.length : Int) := oa_
        obtain ⟨ad285, A285_4, c285_4, e285, hx285_0, hx285_1, hx285_2, hx285_3, hx285_4, hl285_4, hi285_4⟩ := at_T43 (Kd.N_reads' HO_53.out).2.2 x55_3 p285 q285
        cases e285
        obtain ⟨ce285, hce285, hMe285, hcc285⟩ := Kd.N_get HO_53.out z43 x55_3 p285 (by first | exact q285 | exact oa_ | (have e_ := (Kd.N_reads' HO_53.out).1; omega))
        obtain ⟨ua285_4, uc285_4, rfl, ul285_4, ge285_4⟩ := k43_openF hMe285
        have hv285_4 := hcc285 4 _ rfl
        rw [add_field _ _ 4 (by omega)] at hv285_4
        replace hv285_4 := Option.some.inj (hv285_4.symm.trans hx285_4)
        injection hv285_4 with hva_ hvn_ hvc_
        rw [hva_] at ge285_4
        rw [hvc_] at ul285_4
        have HL285_4 := Aside0.mk (show Kd.V Kd.string 9 _ w.heap.size _ _ ((rd_T43 t281 x55_3).f4) from Kd.V_mk ul285_4 ge285_4)
        clear hva_ hvn_ hvc_ ge285_4 ul285_4
        clear hcc285 hce285
        have HR285_4 := Aside0.mk hi285_4
        have HC285_4 := Aside0.mk hl285_4
        clear hi285_4 hl285_4
        replace p285 := eq_true p285
        replace q285 := eq_true q285
        go_wp2_with (first | ((with_reducible refine gate_dst (N := 13) rfl ?_); refine bq_ (N := 13) #[.int .i64 0, .int .i64 0, .int .i64 0, .int .i64 0, .slice none 0 0] 43 ?_; intro gb286 hg w62 BK286 hb; replace HO_11 := Aside0.mk (Kd.N_below (Kd.N_elderB (nF_ HO_11.out) gb286 (Nat.le_of_eq hg.symm)) hb); replace HO_53 := Aside0.mk (Kd.N_below (Kd.N_elderB (nF_ HO_53.out) gb286 (Nat.le_of_eq hg.symm)) hb); replace HO_279000 := Aside0.mk (Kd.N_below (Kd.N_elderB (nF_ HO_279000.out) gb286 (Nat.le_of_eq hg.symm)) hb); replace HL285_4 := Aside0.mk (Kd.V_below (Kd.V_elderB (vF_ HL285_4.out) gb286 (Nat.le_of_eq hg.symm)) hb); replace HR285_4 := Aside0.mk (Kd.C_below (by repeat (first | (with_reducible exact HR285_4.out) | (with_reducible refine Kd.C_alloc ?_ _) | (with_reducible refine Kd.C_drewN ?_ _) | (with_reducible refine Kd.C_drew ?_) | exact HR285_4.out)) hb); have GE286 := ge4_ hg GE273 GE274 GE278 GE280; replace HB := nc4_ GE273 GE274 GE278 GE280 hb; have NB273_286 := nl_ BK273 hg; have NB286_273 := ng_ BK273 hg; replace BK273 := bK_ BK273 hb; have NB274_286 := nl_ BK274 hg; have NB286_274 := ng_ BK274 hg; replace BK274 := bK_ BK274 hb; have NB278_286 := nl_ BK278 hg; have NB286_278 := ng_ BK278 hg; replace BK278 := bK_ BK278 hb; have NB280_286 := nl_ BK280 hg; have NB286_280 := ng_ BK280 hg; replace BK280 := bK_ BK280 hb; clear hb hg; have hnb63 := NB286_273.out; have hnc63 := NB273_286.out; have hnb64 := NB286_274.out; have hnc64 := NB274_286.out; have hnb65 := NB286_278.out; have hnc65 := NB278_286.out; have hnb66 := NB286_280.out; have hnc66 := NB280_286.out; obtain ⟨hcz67_0, hcz67_1, hcz67_2, hcz67_3, hcz67_4, hfz67_0, hfz67_1, hfz67_2, hfz67_3, hfz67_4⟩ := cf5_ BK286.out))
        go_roundg k3
        case measure => have := HJ2.out; have := HK2.out; have := HK3.out; omega
        case rel => exact ⟨(x11_3), (wrap64 (x55_3 + 1)), (x279001_3), sr_, H', ⟨by have := HJ2.out; have := HK2.out; have := HK3.out; omega⟩, ⟨Kd.N_mono (nF_ (Kd.N_mono HO_11.out (fun k_ hk => (⟨hk, hk.2⟩ : _ ∧ k_ ≠ gb286)))) (fun _ hk => ⟨hk.1.1.1, ⟨hk.1.1.2.1, ⟨hk.1.1.2.2.1, ⟨hk.1.1.2.2.2.1, ⟨hk.1.1.2.2.2.2.1, ⟨hk.1.1.2.2.2.2.2.1, hk.1.1.2.2.2.2.2.2⟩⟩⟩⟩⟩⟩)⟩, ⟨Kd.N_mono (nF_ (Kd.N_mono HO_53.out (fun k_ hk => (⟨hk, hk.2⟩ : _ ∧ k_ ≠ gb286)))) (fun _ hk => ⟨hk.1.1.1, ⟨hk.1.1.2.1, ⟨hk.1.1.2.2.1, ⟨hk.1.1.2.2.2.1, ⟨hk.1.1.2.2.2.2.1, ⟨hk.1.1.2.2.2.2.2.1, hk.1.1.2.2.2.2.2.2⟩⟩⟩⟩⟩⟩)⟩, ⟨Kd.N_mono (nF_ (Kd.N_mono HO_279000.out (fun k_ hk => (⟨hk, hk.2⟩ : _ ∧ k_ ≠ gb286)))) (fun _ hk => ⟨hk.1.1.1, ⟨hk.1.1.2.1, ⟨hk.1.1.2.2.1, ⟨hk.1.1.2.2.2.1, ⟨hk.1.1.2.2.2.2.1, ⟨hk.1.1.2.2.2.2.2.1, hk.1.1.2.2.2.2.2.2⟩⟩⟩⟩⟩⟩)⟩, ⟨uf_ BK273 NB273_286.out⟩, ⟨uf_ BK274 NB274_286.out⟩, ⟨uf_ BK278 NB278_286.out⟩, ⟨uf_ BK280 NB280_286.out⟩, ⟨hs5_ GE273.out GE274.out GE278.out GE280.out GE286.out⟩⟩
       have c46b0 := decide_eq_true c46
       clear c46
       replace H := ifs_ H
       obtain ⟨c47, H⟩ := H
       have LMc47 := Aside0.mk c47
       clear c47
       obtain ⟨y287, hy287⟩ : ∃ y_ : List (S43), y_ = (x11_3 ++ [(⟨(rd_T43 t281 x55_3).f0, (rd_T43 t281 x55_3).f1, (rd_T43 t281 x55_3).f2, (rd_T43 t281 x55_3).f3, (rd_T43 t281 x55_3).f4⟩ : S43)]) := ⟨_, rfl⟩
       replace H : (spec_TruncateTo.l1 k3 a1 x42_2 y287 l0_0 (l0_0.length : Int) x42_2 t281 (t281.length : Int) (wrap64 (x55_3 + 1)) x279000_2 (wrap64 (((rd_T43 t281 x55_3).f0) + (((rd_T43 t281 x55_3).f4).length : Int))) ((rd_T65 l0_0 x42_2).f0) ((rd_T65 l0_0 x42_2).f1) ((rd_T65 l0_0 x42_2).f2)) = some (r1, r2, r3) := by first | (rw [hy287]; with_reducible exact H) | (have H2_ := (Option.bind_some _ _).symm.trans H; rw [hy287]; with_reducible exact H2_) | (have H2_ := (Option.bind_some _ _).symm.trans H; with_reducible exact H2_) | with_reducible exact H | (rw [hy287]; exact H) | exact H
       have Ny287 := Aside0.mk hy287
       clear hy287
       have H' := Aside0.mk H
       clear H
       have p285 : 0 ≤ (x55_3 : Int) := oa_
       have q285 : x55_3 < (t281.length : Int) := oa_
       obtain ⟨ad285, A285_4, c285_4, e285, hx285_0, hx285_1, hx285_2, hx285_3, hx285_4, hl285_4, hi285_4⟩ := at_T43 (Kd.N_reads' HO_53.out).2.2 x55_3 p285 q285
       cases e285
       obtain ⟨ce285, hce285, hMe285, hcc285⟩ := Kd.N_get HO_53.out z43 x55_3 p285 (by first | exact q285 | exact oa_ | (have e_ := (Kd.N_reads' HO_53.out).1; omega))
       obtain ⟨ua285_4, uc285_4, rfl, ul285_4, ge285_4⟩ := k43_openF hMe285
       have hv285_4 := hcc285 4 _ rfl
       rw [add_field _ _ 4 (by omega)] at hv285_4
       replace hv285_4 := Option.some.inj (hv285_4.symm.trans hx285_4)
       injection hv285_4 with hva_ hvn_ hvc_
       rw [hva_] at ge285_4
       rw [hvc_] at ul285_4
       have HL285_4 := Aside0.mk (show Kd.V Kd.string 9 _ w.heap.size _ _ ((rd_T43 t281 x55_3).f4) from Kd.V_mk ul285_4 ge285_4)
       clear hva_ hvn_ hvc_ ge285_4 ul285_4
       clear hcc285 hce285
       have HR285_4 := Aside0.mk hi285_4
       have HC285_4 := Aside0.mk hl285_4
       clear hi285_4 hl285_4
       replace p285 := eq_true p285
       replace q285 := eq_true q285
       go_wp2_with (first | ((with_reducible refine gate_dst (N := 13) rfl ?_); refine bq_ (N := 13) #[.int .i64 0, .int .i64 0, .int .i64 0, .int .i64 0, .slice none 0 0] 43 ?_; intro gb286 hg w48 BK286 hb; replace HO_11 := Aside0.mk (Kd.N_below (Kd.N_elderB (nF_ HO_11.out) gb286 (Nat.le_of_eq hg.symm)) hb); replace HO_53 := Aside0.mk (Kd.N_below (Kd.N_elderB (nF_ HO_53.out) gb286 (Nat.le_of_eq hg.symm)) hb); replace HO_279000 := Aside0.mk (Kd.N_below (Kd.N_elderB (nF_ HO_279000.out) gb286 (Nat.le_of_eq hg.symm)) hb); replace HL285_4 := Aside0.mk (Kd.V_below (Kd.V_elderB (vF_ HL285_4.out) gb286 (Nat.le_of_eq hg.symm)) hb); replace HR285_4 := Aside0.mk (Kd.C_below (by repeat (first | (with_reducible exact HR285_4.out) | (with_reducible refine Kd.C_alloc ?_ _) | (with_reducible refine Kd.C_drewN ?_ _) | (with_reducible refine Kd.C_drew ?_) | exact HR285_4.out)) hb); have GE286 := ge4_ hg GE273 GE274 GE278 GE280; replace HB := nc4_ GE273 GE274 GE278 GE280 hb; have NB273_286 := nl_ BK273 hg; have NB286_273 := ng_ BK273 hg; replace BK273 := bK_ BK273 hb; have NB274_286 := nl_ BK274 hg; have NB286_274 := ng_ BK274 hg; replace BK274 := bK_ BK274 hb; have NB278_286 := nl_ BK278 hg; have NB286_278 := ng_ BK278 hg; replace BK278 := bK_ BK278 hb; have NB280_286 := nl_ BK280 hg; have NB286_280 := ng_ BK280 hg; replace BK280 := bK_ BK280 hb; clear hb hg; have hnb49 := NB286_273.out; have hnc49 := NB273_286.out; have hnb50 := NB286_274.out; have hnc50 := NB274_286.out; have hnb51 := NB286_278.out; have hnc51 := NB278_286.out; have hnb52 := NB286_280.out; have hnc52 := NB280_286.out; obtain ⟨hcz53_0, hcz53_1, hcz53_2, hcz53_3, hcz53_4, hfz53_0, hfz53_1, hfz53_2, hfz53_3, hfz53_4⟩ := cf5_ BK286.out) | ((with_reducible refine gate_store (t := 43) (p := 13) rfl ?_); refine store_event (t := 43) (p := 13) (v := ?vo_w54) (w1 := (((((w48.setCell ⟨gb286, 0, none⟩ (.int .i64 ((rd_T43 t281 x55_3).f0))).setCell ⟨gb286, 1, none⟩ (.int .i64 ((rd_T43 t281 x55_3).f1))).setCell ⟨gb286, 2, none⟩ (.int .i64 ((rd_T43 t281 x55_3).f2))).setCell ⟨gb286, 3, none⟩ (.int .i64 ((rd_T43 t281 x55_3).f3))).setCell ⟨gb286, 4, none⟩ (.slice A285_4 ((rd_T43 t281 x55_3).f4).length c285_4))) ?hg ?ho ?hn ?hr ?_; (case ho => rfl); (case hg => rfl); (case hn => rfl); (case hr => first | (go_simp; done) | (go_simp; rfl)); intro w54 hw; have n0_ : Aside0 (Kd.N k43 43 w54 w.heap.size (fun k_ => (w.heap.size ≤ k_) ∧ some k_ ≠ (.slice (some ad285) t281.length co42 : Value).ownBlock ∧ some k_ ≠ (u279000 : Value).ownBlock ∧ k_ ≠ gb273 ∧ k_ ≠ gb274 ∧ k_ ≠ gb278 ∧ k_ ≠ gb280 ∧ k_ ≠ gb286) u11 x11_3) := ⟨(by rw [hw]; exact (Kd.N_mono (nF_ (Kd.N_mono HO_11.out (fun k_ hk => (⟨hk, hk.2⟩ : _ ∧ k_ ≠ gb286)))) (fun _ hk => ⟨hk.1.1.1, ⟨hk.1.1.2.1, ⟨hk.1.1.2.2.1, ⟨hk.1.1.2.2.2.1, ⟨hk.1.1.2.2.2.2.1, ⟨hk.1.1.2.2.2.2.2.1, ⟨hk.1.1.2.2.2.2.2.2, hk.1.2⟩⟩⟩⟩⟩⟩⟩)))⟩; have n1_ : Aside0 (Kd.N k43 43 w54 w.heap.size (fun k_ => (w.heap.size ≤ k_) ∧ some k_ ≠ (u11 : Value).ownBlock ∧ some k_ ≠ (u279000 : Value).ownBlock ∧ k_ ≠ gb273 ∧ k_ ≠ gb274 ∧ k_ ≠ gb278 ∧ k_ ≠ gb280 ∧ k_ ≠ gb286) (.slice (some ad285) t281.length co42) t281) := ⟨(by rw [hw]; exact (Kd.N_mono (nF_ (Kd.N_mono HO_53.out (fun k_ hk => (⟨hk, hk.2⟩ : _ ∧ k_ ≠ gb286)))) (fun _ hk => ⟨hk.1.1.1, ⟨hk.1.1.2.1, ⟨hk.1.1.2.2.1, ⟨hk.1.1.2.2.2.1, ⟨hk.1.1.2.2.2.2.1, ⟨hk.1.1.2.2.2.2.2.1, ⟨hk.1.1.2.2.2.2.2.2, hk.1.2⟩⟩⟩⟩⟩⟩⟩)))⟩; have n2_ : Aside0 (Kd.N k65 65 w54 w.heap.size (fun k_ => (w.heap.size ≤ k_) ∧ some k_ ≠ (u11 : Value).ownBlock ∧ some k_ ≠ (.slice (some ad285) t281.length co42 : Value).ownBlock ∧ k_ ≠ gb273 ∧ k_ ≠ gb274 ∧ k_ ≠ gb278 ∧ k_ ≠ gb280 ∧ k_ ≠ gb286) u279000 x279000_2) := ⟨(by rw [hw]; exact (Kd.N_mono (nF_ (Kd.N_mono HO_279000.out (fun k_ hk => (⟨hk, hk.2⟩ : _ ∧ k_ ≠ gb286)))) (fun _ hk => ⟨hk.1.1.1, ⟨hk.1.1.2.1, ⟨hk.1.1.2.2.1, ⟨hk.1.1.2.2.2.1, ⟨hk.1.1.2.2.2.2.1, ⟨hk.1.1.2.2.2.2.2.1, ⟨hk.1.1.2.2.2.2.2.2, hk.1.2⟩⟩⟩⟩⟩⟩⟩)))⟩; have n3_ : Aside0 (Kd.V Kd.string 9 w54 w.heap.size (fun k_ => (w.heap.size ≤ k_) ∧ some k_ ≠ (u11 : Value).ownBlock ∧ some k_ ≠ (.slice (some ad285) t281.length co42 : Value).ownBlock ∧ some k_ ≠ (u279000 : Value).ownBlock ∧ k_ ≠ gb273 ∧ k_ ≠ gb274 ∧ k_ ≠ gb278 ∧ k_ ≠ gb280 ∧ k_ ≠ gb286) (.slice A285_4 ((rd_T43 t281 x55_3).f4).length c285_4) ((rd_T43 t281 x55_3).f4)) := ⟨(by rw [hw]; exact (Kd.V_mono (vF_ (Kd.V_mono HL285_4.out (fun k_ hk => (⟨hk, hk.2⟩ : _ ∧ k_ ≠ gb286)))) (fun _ hk => ⟨hk.1.1.1.1, ⟨hk.1.1.1.2.1, ⟨hk.1.1.2, ⟨hk.1.1.1.2.2.1, ⟨hk.1.1.1.2.2.2.1, ⟨hk.1.1.1.2.2.2.2.1, ⟨hk.1.1.1.2.2.2.2.2.1, ⟨hk.1.1.1.2.2.2.2.2.2, hk.1.2⟩⟩⟩⟩⟩⟩⟩⟩)))⟩; have n4_ : Aside0 (w54.heap[gb273]? = some (.cells #[.slice (some ad277) l0_0.length c0_0, .int .i64 a0_1] 24 (0, 0))) := ⟨(by rw [hw]; exact (uf_ BK273 NB273_286.out))⟩; have n5_ : Aside0 (w54.heap[gb274]? = some (.cells #[.slice none 0 0, .int .i64 0] 24 (0, 0))) := ⟨(by rw [hw]; exact (uf_ BK274 NB274_286.out))⟩; have n6_ : Aside0 (w54.heap[gb278]? = some (.cells #[u279000, .int .i64 x279001_3] 24 (0, 0))) := ⟨(by rw [hw]; exact (uf_ BK278 NB278_286.out))⟩; have n7_ : Aside0 (w54.heap[gb280]? = some (.cells #[.int .i64 ((rd_T65 l0_0 x42_2).f0), .string ((rd_T65 l0_0 x42_2).f1), .slice A279_2 ((rd_T65 l0_0 x42_2).f2).length c279_2] 65 (0, 0))) := ⟨(by rw [hw]; exact (uf_ BK280 NB280_286.out))⟩; have n8_ : Aside0 (w54.heap[gb286]? = some (.cells #[.int .i64 ((rd_T43 t281 x55_3).f0), .int .i64 ((rd_T43 t281 x55_3).f1), .int .i64 ((rd_T43 t281 x55_3).f2), .int .i64 ((rd_T43 t281 x55_3).f3), .slice A285_4 ((rd_T43 t281 x55_3).f4).length c285_4] 43 (0, 0))) := ⟨(by rw [hw]; exact (up_ BK286))⟩; have n9_ : Aside0 (Below w.heap.size w w54) := ⟨(by rw [hw]; exact (hs5_ GE273.out GE274.out GE278.out GE280.out GE286.out))⟩; clear hw; clear HO_11; clear HO_53; clear HO_279000; clear HL285_4; clear BK273; clear BK274; clear BK278; clear BK280; clear BK286; clear HB; have HO_11 := n0_; have HO_53 := n1_; have HO_279000 := n2_; have HL285_4 := n3_; have BK273 := n4_; have BK274 := n5_; have BK278 := n6_; have BK280 := n7_; have BK286 := n8_; have HB := n9_; clear n0_ n1_ n2_ n3_ n4_ n5_ n6_ n7_ n8_ n9_; obtain ⟨hcz55_0, hcz55_1, hcz55_2, hcz55_3, hcz55_4, hfz55_0, hfz55_1, hfz55_2, hfz55_3, hfz55_4⟩ := cf5_ BK286.out) | ((with_reducible refine gate_builtin (b := .append) (xs := #[.tmp 67, .tmp 69]) rfl ?_); at_builtin; refine Kd.N_append k43 (w0 := w) w.heap.size rfl (.tmp 67) (.tmp 69) 48 43 (.agg #[(.int .i64 0), (.int .i64 0), (.int .i64 0), (.int .i64 0), (.slice none 0 0)]) 56 rfl Try.underlying48 info43 rfl (by decide) (by omega) u11 x11_3 (⟨(rd_T43 t281 x55_3).f0, (rd_T43 t281 x55_3).f1, (rd_T43 t281 x55_3).f2, (rd_T43 t281 x55_3).f3, (rd_T43 t281 x55_3).f4⟩ : S43) [.int .i64 ((rd_T43 t281 x55_3).f0), .int .i64 ((rd_T43 t281 x55_3).f1), .int .i64 ((rd_T43 t281 x55_3).f2), .int .i64 ((rd_T43 t281 x55_3).f3), .slice A285_4 ((rd_T43 t281 x55_3).f4).length c285_4] (fun k_ => (w.heap.size ≤ k_) ∧ some k_ ≠ (.slice (some ad285) t281.length co42 : Value).ownBlock ∧ some k_ ≠ (u279000 : Value).ownBlock ∧ k_ ≠ gb273 ∧ k_ ≠ gb274 ∧ k_ ≠ gb278 ∧ k_ ≠ gb280 ∧ k_ ≠ gb286) (fun k_ => ((fun k_ => (w.heap.size ≤ k_) ∧ some k_ ≠ (.slice (some ad285) t281.length co42 : Value).ownBlock ∧ some k_ ≠ (u279000 : Value).ownBlock ∧ k_ ≠ gb273 ∧ k_ ≠ gb274 ∧ k_ ≠ gb278 ∧ k_ ≠ gb280 ∧ k_ ≠ gb286)) k_ ∧ some k_ ≠ (u11 : Value).ownBlock) rfl rfl ?aP (fun _ hk => hk) ?aF ?aO ?aB ?aS ?aL ?_; (case aP => exact (k43_mkF _ _ (⟨(rd_T43 t281 x55_3).f0, (rd_T43 t281 x55_3).f1, (rd_T43 t281 x55_3).f2, (rd_T43 t281 x55_3).f3, (rd_T43 t281 x55_3).f4⟩ : S43) (Kd.V_reads' (Kd.V_mono (ok' := (fun k_ => ((fun k_ => (w.heap.size ≤ k_) ∧ some k_ ≠ (.slice (some ad285) t281.length co42 : Value).ownBlock ∧ some k_ ≠ (u279000 : Value).ownBlock ∧ k_ ≠ gb273 ∧ k_ ≠ gb274 ∧ k_ ≠ gb278 ∧ k_ ≠ gb280 ∧ k_ ≠ gb286)) k_ ∧ some k_ ≠ (u11 : Value).ownBlock)) (HL285_4.out) (fun k_ hk => ⟨⟨hk.1, ⟨hk.2.2.1, ⟨hk.2.2.2.1, ⟨hk.2.2.2.2.1, ⟨hk.2.2.2.2.2.1, ⟨hk.2.2.2.2.2.2.1, ⟨hk.2.2.2.2.2.2.2.1, hk.2.2.2.2.2.2.2.2⟩⟩⟩⟩⟩⟩⟩, hk.2.1⟩))).2.1 (Kd.V_F (Kd.V_mono (ok' := (fun k_ => ((fun k_ => (w.heap.size ≤ k_) ∧ some k_ ≠ (.slice (some ad285) t281.length co42 : Value).ownBlock ∧ some k_ ≠ (u279000 : Value).ownBlock ∧ k_ ≠ gb273 ∧ k_ ≠ gb274 ∧ k_ ≠ gb278 ∧ k_ ≠ gb280 ∧ k_ ≠ gb286)) k_ ∧ some k_ ≠ (u11 : Value).ownBlock)) (HL285_4.out) (fun k_ hk => ⟨⟨hk.1, ⟨hk.2.2.1, ⟨hk.2.2.2.1, ⟨hk.2.2.2.2.1, ⟨hk.2.2.2.2.2.1, ⟨hk.2.2.2.2.2.2.1, ⟨hk.2.2.2.2.2.2.2.1, hk.2.2.2.2.2.2.2.2⟩⟩⟩⟩⟩⟩⟩, hk.2.1⟩))))); (case aB => exact (hs5_ GE273.out GE274.out GE278.out GE280.out GE286.out)); (case aF => exact (fun k_ hk => ⟨(Nat.le_trans (below_size (hs5_ GE273.out GE274.out GE278.out GE280.out GE286.out)) hk), Kd.fresh' (Kd.N_lt (nF_ HO_53.out)) k_ hk, Kd.fresh' (Kd.N_lt (nF_ HO_279000.out)) k_ hk, Kd.freshB (g := gb273) (o := .cells #[.slice (some ad277) l0_0.length c0_0, .int .i64 a0_1] 24 (0, 0)) (kb_ BK273.out) k_ hk, Kd.freshB (g := gb274) (o := .cells #[.slice none 0 0, .int .i64 0] 24 (0, 0)) (kb_ BK274.out) k_ hk, Kd.freshB (g := gb278) (o := .cells #[u279000, .int .i64 x279001_3] 24 (0, 0)) (kb_ BK278.out) k_ hk, Kd.freshB (g := gb280) (o := .cells #[.int .i64 ((rd_T65 l0_0 x42_2).f0), .string ((rd_T65 l0_0 x42_2).f1), .slice A279_2 ((rd_T65 l0_0 x42_2).f2).length c279_2] 65 (0, 0)) (kb_ BK280.out) k_ hk, Kd.freshB (g := gb286) (o := .cells #[.int .i64 ((rd_T43 t281 x55_3).f0), .int .i64 ((rd_T43 t281 x55_3).f1), .int .i64 ((rd_T43 t281 x55_3).f2), .int .i64 ((rd_T43 t281 x55_3).f3), .slice A285_4 ((rd_T43 t281 x55_3).f4).length c285_4] 43 (0, 0)) (kb_ BK286.out) k_ hk⟩)); (case aO => exact (nF_ HO_11.out)); (case aS => exact (below_size (hs5_ GE273.out GE274.out GE278.out GE280.out GE286.out))); (case aL => have := LMc47.out; omega); intro v288 w56 ho hb hg hat; rw [← Ny287.out] at ho; replace HO_53 := Aside0.mk (Kd.N_afterv (ok := (fun k_ => (w.heap.size ≤ k_) ∧ some k_ ≠ (u279000 : Value).ownBlock ∧ k_ ≠ gb273 ∧ k_ ≠ gb274 ∧ k_ ≠ gb278 ∧ k_ ≠ gb280 ∧ k_ ≠ gb286)) (nF_ (Kd.N_mono HO_53.out (fun _ hk => ⟨⟨hk.1, ⟨hk.2.2.1, ⟨hk.2.2.2.1, ⟨hk.2.2.2.2.1, ⟨hk.2.2.2.2.2.1, ⟨hk.2.2.2.2.2.2.1, hk.2.2.2.2.2.2.2⟩⟩⟩⟩⟩⟩, hk.2.1⟩))) hg hat); replace HO_279000 := Aside0.mk (Kd.N_afterv (ok := (fun k_ => (w.heap.size ≤ k_) ∧ some k_ ≠ (.slice (some ad285) t281.length co42 : Value).ownBlock ∧ k_ ≠ gb273 ∧ k_ ≠ gb274 ∧ k_ ≠ gb278 ∧ k_ ≠ gb280 ∧ k_ ≠ gb286)) (nF_ (Kd.N_mono HO_279000.out (fun _ hk => ⟨⟨hk.1, ⟨hk.2.2.1, ⟨hk.2.2.2.1, ⟨hk.2.2.2.2.1, ⟨hk.2.2.2.2.2.1, ⟨hk.2.2.2.2.2.2.1, hk.2.2.2.2.2.2.2⟩⟩⟩⟩⟩⟩, hk.2.1⟩))) hg hat); replace BK273 := Aside0.mk (blk_grown (g := gb273) (o := .cells #[.slice (some ad277) l0_0.length c0_0, .int .i64 a0_1] 24 (0, 0)) (kb_ BK273.out) hg (Kd.N_ne HO_11.out BK273.out (by decide))); replace BK274 := Aside0.mk (blk_grown (g := gb274) (o := .cells #[.slice none 0 0, .int .i64 0] 24 (0, 0)) (kb_ BK274.out) hg (Kd.N_ne HO_11.out BK274.out (by decide))); replace BK278 := Aside0.mk (blk_grown (g := gb278) (o := .cells #[u279000, .int .i64 x279001_3] 24 (0, 0)) (kb_ BK278.out) hg (Kd.N_ne HO_11.out BK278.out (by decide))); replace BK280 := Aside0.mk (blk_grown (g := gb280) (o := .cells #[.int .i64 ((rd_T65 l0_0 x42_2).f0), .string ((rd_T65 l0_0 x42_2).f1), .slice A279_2 ((rd_T65 l0_0 x42_2).f2).length c279_2] 65 (0, 0)) (kb_ BK280.out) hg (Kd.N_ne HO_11.out BK280.out (by decide))); replace HL285_4 := Aside0.mk (Kd.V_afterv (ok := (fun k_ => (w.heap.size ≤ k_) ∧ some k_ ≠ (.slice (some ad285) t281.length co42 : Value).ownBlock ∧ some k_ ≠ (u279000 : Value).ownBlock ∧ k_ ≠ gb273 ∧ k_ ≠ gb274 ∧ k_ ≠ gb278 ∧ k_ ≠ gb280 ∧ k_ ≠ gb286)) (vF_ (Kd.V_mono HL285_4.out (fun _ hk => ⟨⟨hk.1, ⟨hk.2.2.1, ⟨hk.2.2.2.1, ⟨hk.2.2.2.2.1, ⟨hk.2.2.2.2.2.1, ⟨hk.2.2.2.2.2.2.1, ⟨hk.2.2.2.2.2.2.2.1, hk.2.2.2.2.2.2.2.2⟩⟩⟩⟩⟩⟩⟩, hk.2.1⟩))) hg hat); replace BK286 := Aside0.mk (blk_grown (g := gb286) (o := .cells #[.int .i64 ((rd_T43 t281 x55_3).f0), .int .i64 ((rd_T43 t281 x55_3).f1), .int .i64 ((rd_T43 t281 x55_3).f2), .int .i64 ((rd_T43 t281 x55_3).f3), .slice A285_4 ((rd_T43 t281 x55_3).f4).length c285_4] 43 (0, 0)) (kb_ BK286.out) hg (Kd.N_away HO_11.out (fun _ hk => hk.2.2.2.2.2.2.2))); replace HB := Aside0.mk (hb); have HO289 := Aside0.mk (ho); clear HO_11; clear ho hb hg hat; obtain ⟨hcz57_0, hcz57_1, hcz57_2, hcz57_3, hcz57_4, hfz57_0, hfz57_1, hfz57_2, hfz57_3, hfz57_4⟩ := cf5_ BK286.out; have hnb58 := NB278_273.out; have hnc58 := NB273_278.out; have hnb59 := NB278_274.out; have hnc59 := NB274_278.out; have hnb60 := NB278_280.out; have hnc60 := NB280_278.out; obtain ⟨hcz61_0, hcz61_1, hfz61_0, hfz61_1⟩ := cf2_ BK278.out))
       go_roundg k3
       case measure => have := HJ2.out; have := HK2.out; have := HK3.out; omega
       case rel => exact ⟨(y287), (wrap64 (x55_3 + 1)), (wrap64 (((rd_T43 t281 x55_3).f0) + (((rd_T43 t281 x55_3).f4).length : Int))), sr_, H', ⟨by have := HJ2.out; have := HK2.out; have := HK3.out; omega⟩, ⟨nF_ (Kd.N_mono (Kd.N_far (p := ⟨gb278, 1, none⟩) (Kd.N_mono HO289.out (fun k_ hk => (⟨hk, hk.2.2.2.2.2.1⟩ : _ ∧ k_ ≠ gb278))) (fun _ hk => hk.2) (.int .i64 (wrap64 (((rd_T43 t281 x55_3).f0) + (((rd_T43 t281 x55_3).f4).length : Int))))) (fun _ hk => ⟨hk.1.1, ⟨hk.1.2.1, ⟨hk.1.2.2.1, ⟨hk.1.2.2.2.1, ⟨hk.1.2.2.2.2.1, ⟨hk.1.2.2.2.2.2.1, hk.1.2.2.2.2.2.2.1⟩⟩⟩⟩⟩⟩))⟩, ⟨nF_ (Kd.N_mono (Kd.N_far (p := ⟨gb278, 1, none⟩) (Kd.N_mono HO_53.out (fun k_ hk => (⟨hk, hk.1.2.2.2.2.1⟩ : _ ∧ k_ ≠ gb278))) (fun _ hk => hk.2) (.int .i64 (wrap64 (((rd_T43 t281 x55_3).f0) + (((rd_T43 t281 x55_3).f4).length : Int))))) (fun _ hk => ⟨hk.1.1.1, ⟨hk.1.2, ⟨hk.1.1.2.1, ⟨hk.1.1.2.2.1, ⟨hk.1.1.2.2.2.1, ⟨hk.1.1.2.2.2.2.1, hk.1.1.2.2.2.2.2.1⟩⟩⟩⟩⟩⟩))⟩, ⟨nF_ (Kd.N_mono (Kd.N_far (p := ⟨gb278, 1, none⟩) (Kd.N_mono HO_279000.out (fun k_ hk => (⟨hk, hk.1.2.2.2.2.1⟩ : _ ∧ k_ ≠ gb278))) (fun _ hk => hk.2) (.int .i64 (wrap64 (((rd_T43 t281 x55_3).f0) + (((rd_T43 t281 x55_3).f4).length : Int))))) (fun _ hk => ⟨hk.1.1.1, ⟨hk.1.2, ⟨hk.1.1.2.1, ⟨hk.1.1.2.2.1, ⟨hk.1.1.2.2.2.1, ⟨hk.1.1.2.2.2.2.1, hk.1.1.2.2.2.2.2.1⟩⟩⟩⟩⟩⟩))⟩, ⟨uf_ BK273 NB273_278.out⟩, ⟨uf_ BK274 NB274_278.out⟩, ⟨up_ BK278⟩, ⟨uf_ BK280 NB280_278.out⟩, ⟨hs5_ GE273.out GE274.out GE278.out GE280.out GE286.out⟩⟩
end Go.Proofs.Ytffpeklekkpbjaa.QFnExactTruncateTo
