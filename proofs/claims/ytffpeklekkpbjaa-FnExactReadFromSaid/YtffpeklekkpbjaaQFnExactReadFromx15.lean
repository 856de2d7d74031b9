/- Functions that one statement reaches: of each a plain function, and the proof that calls come to it. Conditions: those that each contract names. Written by a program of this repository. -/
import Derived.Test.YtffpeklekkpbjaaVReadFroma
import Derived.Test.YtffpeklekkpbjaaQFnExactReadFromx2
import Derived.Test.YtffpeklekkpbjaaQFnExactReadFromx13
import Derived.Test.YtffpeklekkpbjaaQFnExactReadFromx6
import Derived.Test.YtffpeklekkpbjaaQFnExactReadFromx12
namespace Go.Proofs.Ytffpeklekkpbjaa.QFnExactReadFrom
open Go.RowKit Go.Proofs.YtffpeklekkpbjaaW.PrintWords Go.Proofs.YtffpeklekkpbjaaW.PrintLast Go.Proofs.YtffpeklekkpbjaaW.PrintMore
attribute [local go_sem] max2_int min2_int max_two min_two max_three min_three max_four min_four Go.Proofs.YtffpeklekkpbjaaW.PrintMore2.isSome_setCell   -- for this text's walks alone
set_option linter.unusedVariables false
set_option linter.unusedSimpArgs false

/-! ### spec_l2There: function 68 -/
def spec_l2There.f (k : Nat) (l0_0 : List (S65)) (a0_1 : Int) (a1 : Int) : Option (Bool) := (spec_GoodStore.f k l0_0 a0_1).bind fun t275 => (if t275 = true then (if 0 < (l0_0.length : Int) then (if a1 ≥ ((rd_T65 l0_0 0).f0) then (some (decide (a1 < a0_1))) else (some false)) else (none)) else (some false))
theorem spec_l2There.mono : ∀ a0 a1 a2 k, LeO (spec_l2There.f k a0 a1 a2) (spec_l2There.f (k + 1) a0 a1 a2) := by
 intro a0 a1 a2 k
 unfold spec_l2There.f
 repeat' first
   | (with_reducible first | apply spec_GoodStore.mono | exact LeO.refl _ | exact LeO.none _ | refine LeO.ite ?_ ?_ | refine LeO.bind ?_ (fun _ => ?_))
set_option maxHeartbeats 8000000 in
set_option maxRecDepth 100000 in
theorem spec_l2There.calls (k : Nat) (A0_0 : Option Addr) (c0_0 : Nat) (l0_0 : List (S65)) (a0_1 : Int) (a1 : Int) (r : Bool) (w : World) (hr0_0 : Kd.C k65 w A0_0 l0_0.length l0_0) (hc0_0 : l0_0.length ≤ c0_0) (h : spec_l2There.f k l0_0 a0_1 a1 = some r) :
  Calls Try.prog 68 #[.agg #[.slice A0_0 l0_0.length c0_0, .int .i64 a0_1], .int .i64 a1] w fun e w' => e = .returned (.bool r) ∧ Below w.heap.size w w' := by
 have hu24 := Try.underlying24
 have HR0_0 := Aside0.mk hr0_0
 have HC0_0 := Aside0.mk hc0_0
 clear hr0_0 hc0_0
 have HB := Aside0.mk (Below.refl w.heap.size w)
 have H : ((spec_GoodStore.f k l0_0 a0_1).bind fun t275 => (if t275 = true then (if 0 < (l0_0.length : Int) then (if a1 ≥ ((rd_T65 l0_0 0).f0) then (some (decide (a1 < a0_1))) else (some false)) else (none)) else (some false))) = some r := h
 clear h
 replace H := bnd_ H
 obtain ⟨t275, A3, H⟩ := H
 replace H := ifb_ H
 obtain ⟨rfl, H⟩ | ⟨rfl, H⟩ := H
 rotate_left
 ·obtain rfl := Option.some.inj H
  go_enter Try.func68, Try.ntmps68
  go_wp2_with (first | ((with_reducible refine gate_dst (N := 2) rfl ?_); refine bq_ (N := 2) #[.slice A0_0 l0_0.length c0_0, .int .i64 a0_1] 24 ?_; intro gb274 hg w15 BK274 hb; have GE274 := ge_ hg; replace HB := nb_ hb; clear hb hg; obtain ⟨hcz16_0, hcz16_1, hfz16_0, hfz16_1⟩ := cf2_ BK274.out) | ((with_reducible refine gate_callee (f := 20) rfl ?_); refine gl_ 6 Try.func20 #[.agg #[.slice A0_0 l0_0.length c0_0, .int .i64 a0_1]] rfl ma_ ?_; (with_reducible refine (spec_GoodStore.calls k _ _ l0_0 a0_1 false _ ?side1 ?side2 A3.out).mono ?_); (case side1 => exact cs_ ((Kd.C_below HR0_0.out HB.out))); (case side2 => exact HC0_0.out); rintro e w17 ⟨rfl, hb⟩; refine ⟨_, rfl, ?_⟩; replace BK274 := bK_ BK274 hb; replace HB := nc_ GE274 hb; (try clear hb); (try clear hb2); (try clear hk); (try clear hi)))
  go_ret
  exact ⟨er_, hs_ GE274.out⟩
 replace H := ifs_ H
 obtain ⟨c5, H⟩ := H
 have c5b0 := decide_eq_true c5
 have c5b1 : decide (0 < l0_0.length) = true := decide_eq_true (by omega)
 clear c5
 replace H := ite_ H
 obtain ⟨c6, H⟩ | ⟨c6, H⟩ := H
 ·have c6b0 := dge_ c6
  clear c6
  obtain rfl := Option.some.inj H
  go_enter Try.func68, Try.ntmps68
  go_wp2_with (first | ((with_reducible refine gate_dst (N := 2) rfl ?_); refine bq_ (N := 2) #[.slice A0_0 l0_0.length c0_0, .int .i64 a0_1] 24 ?_; intro gb274 hg w7 BK274 hb; have GE274 := ge_ hg; replace HB := nb_ hb; clear hb hg; obtain ⟨hcz8_0, hcz8_1, hfz8_0, hfz8_1⟩ := cf2_ BK274.out) | ((with_reducible refine gate_callee (f := 20) rfl ?_); refine gl_ 6 Try.func20 #[.agg #[.slice A0_0 l0_0.length c0_0, .int .i64 a0_1]] rfl ma_ ?_; (with_reducible refine (spec_GoodStore.calls k _ _ l0_0 a0_1 true _ ?side1 ?side2 A3.out).mono ?_); (case side1 => exact cs_ ((Kd.C_below HR0_0.out HB.out))); (case side2 => exact HC0_0.out); rintro e w9 ⟨rfl, hb⟩; refine ⟨_, rfl, ?_⟩; replace BK274 := bK_ BK274 hb; replace HB := nc_ GE274 hb; (try clear hb); (try clear hb2); (try clear hk); (try clear hi); obtain ⟨hcz10_0, hcz10_1, hfz10_0, hfz10_1⟩ := cf2_ BK274.out; have p276 : 0 ≤ (0 : Int) := (by omega); have q276 : 0 < (l0_0.length : Int) := oa_; obtain ⟨ad276, A276_2, c276_2, e276, hx276_0, hx276_1, hx276_2, hl276_2, hi276_2⟩ := at_T65 HR0_0.out 0 p276 q276; cases e276; have qi276 : (0 < l0_0.length) = True := eq_true (by omega); (try rw [show ((0 : Int)).toNat = 0 from rfl] at hx276_0); (try rw [show 0 * 3 = 0 from rfl] at hx276_0); (try rw [Addr.add_zero'] at hx276_0); (try rw [show ((0 : Int)).toNat = 0 from rfl] at hx276_1); (try rw [show 0 * 3 = 0 from rfl] at hx276_1); (try rw [Addr.add_zero'] at hx276_1); (try rw [show ((0 : Int)).toNat = 0 from rfl] at hx276_2); (try rw [show 0 * 3 = 0 from rfl] at hx276_2); (try rw [Addr.add_zero'] at hx276_2); replace hx276_0 := pc_ HB.out hx276_0; replace hx276_1 := pc_ HB.out hx276_1; replace hx276_2 := pc_ HB.out hx276_2; have HR276_2 := Aside0.mk hi276_2; have HC276_2 := Aside0.mk hl276_2; clear hi276_2 hl276_2; replace p276 := eq_true p276; replace q276 := eq_true q276))
  go_ret
  exact ⟨er_, hs_ GE274.out⟩
 have c6b0 := dne_ c6
 clear c6
 obtain rfl := Option.some.inj H
 go_enter Try.func68, Try.ntmps68
 go_wp2_with (first | ((with_reducible refine gate_dst (N := 2) rfl ?_); refine bq_ (N := 2) #[.slice A0_0 l0_0.length c0_0, .int .i64 a0_1] 24 ?_; intro gb274 hg w11 BK274 hb; have GE274 := ge_ hg; replace HB := nb_ hb; clear hb hg; obtain ⟨hcz12_0, hcz12_1, hfz12_0, hfz12_1⟩ := cf2_ BK274.out) | ((with_reducible refine gate_callee (f := 20) rfl ?_); refine gl_ 6 Try.func20 #[.agg #[.slice A0_0 l0_0.length c0_0, .int .i64 a0_1]] rfl ma_ ?_; (with_reducible refine (spec_GoodStore.calls k _ _ l0_0 a0_1 true _ ?side1 ?side2 A3.out).mono ?_); (case side1 => exact cs_ ((Kd.C_below HR0_0.out HB.out))); (case side2 => exact HC0_0.out); rintro e w13 ⟨rfl, hb⟩; refine ⟨_, rfl, ?_⟩; replace BK274 := bK_ BK274 hb; replace HB := nc_ GE274 hb; (try clear hb); (try clear hb2); (try clear hk); (try clear hi); obtain ⟨hcz14_0, hcz14_1, hfz14_0, hfz14_1⟩ := cf2_ BK274.out; have p276 : 0 ≤ (0 : Int) := (by omega); have q276 : 0 < (l0_0.length : Int) := oa_; obtain ⟨ad276, A276_2, c276_2, e276, hx276_0, hx276_1, hx276_2, hl276_2, hi276_2⟩ := at_T65 HR0_0.out 0 p276 q276; cases e276; have qi276 : (0 < l0_0.length) = True := eq_true (by omega); (try rw [show ((0 : Int)).toNat = 0 from rfl] at hx276_0); (try rw [show 0 * 3 = 0 from rfl] at hx276_0); (try rw [Addr.add_zero'] at hx276_0); (try rw [show ((0 : Int)).toNat = 0 from rfl] at hx276_1); (try rw [show 0 * 3 = 0 from rfl] at hx276_1); (try rw [Addr.add_zero'] at hx276_1); (try rw [show ((0 : Int)).toNat = 0 from rfl] at hx276_2); (try rw [show 0 * 3 = 0 from rfl] at hx276_2); (try rw [Addr.add_zero'] at hx276_2); replace hx276_0 := pc_ HB.out hx276_0; replace hx276_1 := pc_ HB.out hx276_1; replace hx276_2 := pc_ HB.out hx276_2; have HR276_2 := Aside0.mk hi276_2; have HC276_2 := Aside0.mk hl276_2; clear hi276_2 hl276_2; replace p276 := eq_true p276; replace q276 := eq_true q276))
 go_ret
 exact ⟨er_, hs_ GE274.out⟩

/-! ### spec_l2Seek: function 69 -/
mutual
def spec_l2Seek.j1 : Nat → Int → Int → List (S65) → Int → Option (Int × Int)
 | 0, _, _, _, _ => none
 | k + 1, x1, x6, x278000, x278001 => if 0 ≤ x6 then (if x6 < (x278000.length : Int) then (spec_l2Seek.l1 k x1 x6 0 ((rd_T65 x278000 x6).f2) (((rd_T65 x278000 x6).f2).length : Int) 0) else (none)) else (none)
def spec_l2Seek.l1 : Nat → Int → Int → Int → List (S89) → Int → Int → Option (Int × Int)
 | 0, _, _, _, _, _, _ => none
 | k + 1, x1, x6, x7, x34, x35, x36 => if x36 < x35 then (if 0 ≤ x36 then (if x36 < (x34.length : Int) then (if ((rd_T89 x34 x36).f0) ≤ x1 then (spec_l2Seek.l1 k x1 x6 ((rd_T89 x34 x36).f1) x34 x35 (wrap64 (x36 + 1))) else (spec_l2Seek.l1 k x1 x6 x7 x34 x35 (wrap64 (x36 + 1)))) else (none)) else (none)) else (some (x6, x7))
def spec_l2Seek.l0 : Nat → Int → Int → List (S65) → Int → Option (Int × Int)
 | 0, _, _, _, _ => none
 | k + 1, x1, x6, x278000, x278001 => if (wrap64 (x6 + 1)) < (x278000.length : Int) then (if 0 ≤ (wrap64 (x6 + 1)) then (if ((rd_T65 x278000 (wrap64 (x6 + 1))).f0) ≤ x1 then (spec_l2Seek.l0 k x1 (wrap64 (x6 + 1)) x278000 x278001) else (spec_l2Seek.j1 k x1 x6 x278000 x278001)) else (none)) else (spec_l2Seek.j1 k x1 x6 x278000 x278001)
end
def spec_l2Seek.f (k : Nat) (l0_0 : List (S65)) (a0_1 : Int) (a1 : Int) : Option (Int × Int) := spec_l2Seek.l0 k a1 0 l0_0 a0_1
theorem spec_l2Seek.mono_l : ∀ k, (∀ y0 y1 y2 y3, LeO (spec_l2Seek.j1 k y0 y1 y2 y3) (spec_l2Seek.j1 (k + 1) y0 y1 y2 y3)) ∧ (∀ y0 y1 y2 y3 y4 y5, LeO (spec_l2Seek.l1 k y0 y1 y2 y3 y4 y5) (spec_l2Seek.l1 (k + 1) y0 y1 y2 y3 y4 y5)) ∧ (∀ y0 y1 y2 y3, LeO (spec_l2Seek.l0 k y0 y1 y2 y3) (spec_l2Seek.l0 (k + 1) y0 y1 y2 y3))
 | 0 => ⟨fun _ _ _ _ r h => by simp [spec_l2Seek.j1] at h, fun _ _ _ _ _ _ r h => by simp [spec_l2Seek.l1] at h, fun _ _ _ _ r h => by simp [spec_l2Seek.l0] at h⟩
 | k + 1 => by
  obtain ⟨ih0, ih1, ih2⟩ := spec_l2Seek.mono_l k
  refine ⟨?_, ?_, ?_⟩
  all_goals intros; first | unfold spec_l2Seek.j1 | unfold spec_l2Seek.l1 | unfold spec_l2Seek.l0
  all_goals repeat' first | (with_reducible first | apply ih0 | apply ih1 | apply ih2 | exact LeO.refl _ | exact LeO.none _ | refine LeO.ite ?_ ?_ | refine LeO.bind ?_ (fun _ => ?_))
theorem spec_l2Seek.mono : ∀ a0 a1 a2 k, LeO (spec_l2Seek.f k a0 a1 a2) (spec_l2Seek.f (k + 1) a0 a1 a2) := by
 intro a0 a1 a2 k
 obtain ⟨ih0, ih1, ih2⟩ := spec_l2Seek.mono_l k
 unfold spec_l2Seek.f
 repeat' first
   | (with_reducible first | apply ih0 | apply ih1 | apply ih2 | exact LeO.refl _ | exact LeO.none _ | refine LeO.ite ?_ ?_ | refine LeO.bind ?_ (fun _ => ?_))
set_option maxHeartbeats 8000000 in
set_option maxRecDepth 100000 in
theorem spec_l2Seek.calls (k : Nat) (A0_0 : Option Addr) (c0_0 : Nat) (l0_0 : List (S65)) (a0_1 : Int) (a1 : Int) (r1 : Int) (r2 : Int) (w : World) (hr0_0 : Kd.C k65 w A0_0 l0_0.length l0_0) (hc0_0 : l0_0.length ≤ c0_0) (h : spec_l2Seek.f k l0_0 a0_1 a1 = some (r1, r2)) :
  Calls Try.prog 69 #[.agg #[.slice A0_0 l0_0.length c0_0, .int .i64 a0_1], .int .i64 a1] w fun e w' => e = .returned (.tuple #[.int .i64 r1, .int .i64 r2]) ∧ Below w.heap.size w w' := by
 have hu24 := Try.underlying24
 have hu89 := Try.underlying89
 have HR0_0 := Aside0.mk hr0_0
 have HC0_0 := Aside0.mk hc0_0
 clear hr0_0 hc0_0
 have HB := Aside0.mk (Below.refl w.heap.size w)
 have H : (spec_l2Seek.l0 k a1 0 l0_0 a0_1) = some (r1, r2) := h
 clear h
 have HC3 := Aside0.mk H
 clear H
 go_enter Try.func69, Try.ntmps69
 go_upto_block 0 with (first | ((with_reducible refine gate_dst (N := 2) rfl ?_); refine bq_ (N := 2) #[.slice A0_0 l0_0.length c0_0, .int .i64 a0_1] 24 ?_; intro gb277 hg w4 BK277 hb; have GE277 := ge_ hg; replace HB := nb_ hb; clear hb hg))
 (try simp only [Act.put, List.setIfInBounds_toArray, List.set_cons_zero, List.set_cons_succ])
 go_cut [6] (fun v6 wc => ∃ (kq : Nat) (x6_2 : Int), v6 = .int .i64 x6_2 ∧ Aside0 (spec_l2Seek.j1 kq a1 x6_2 l0_0 a0_1 = some (r1, r2)) ∧ Aside0 (kq ≤ k) ∧ Aside0 (wc.heap[gb277]? = some (.cells #[(.slice A0_0 l0_0.length c0_0), .int .i64 a0_1] 24 (0, 0))) ∧ Aside0 (Below w.heap.size w wc))
 case first =>
  have H := HC3.out
  clear HC3
  have H' := Aside0.mk H
  clear H
  go_wp2
  go_loopg [6] k (fun kq v6 w' => ∃ (x6_1 : Int), v6 = .int .i64 x6_1 ∧ Aside0 (spec_l2Seek.l0 kq a1 x6_1 l0_0 a0_1 = some (r1, r2)) ∧ Aside0 (kq ≤ k) ∧ Aside0 (w'.heap[gb277]? = some (.cells #[(.slice A0_0 l0_0.length c0_0), .int .i64 a0_1] 24 (0, 0))) ∧ Aside0 (Below w.heap.size w w'))
  case atStart => exact ⟨(0), sr_, H', ⟨Nat.le_refl _⟩, ⟨kb_ BK277.out⟩, ⟨hs_ GE277.out⟩⟩
  case round =>
   clear H'
   obtain ⟨x6_1, rfl, HA, HK1, BK277, HB⟩ := hrel
   cases gk with
   | zero => exact absurd HA.out (by simp [spec_l2Seek.l0])
   | succ k1 =>
    have H := HA.out
    clear HA
    simp only [spec_l2Seek.l0] at H
    replace H := ite_ H
    obtain ⟨c5, H⟩ | ⟨c5, H⟩ := H
    rotate_left
    ·have c5b0 := decide_eq_false c5
     clear c5
     (first | rw [c5b0] | (simp only [i64_w, i32_w]; rw [c5b0]) | rw [c5b1] | skip)
     have H' := Aside0.mk H
     clear H
     obtain ⟨hcz11_0, hcz11_1, hfz11_0, hfz11_1⟩ := cf2_ BK277.out
     go_wp2
     go_meet
     case rel => exact ⟨_, (x6_1), sr_, H', ⟨by have := HK1.out; first | omega | exact Nat.le_refl _⟩, ⟨kb_ BK277.out⟩, ⟨hs_ GE277.out⟩⟩
    have c5b0 := decide_eq_true c5
    clear c5
    (first | rw [c5b0] | (simp only [i64_w, i32_w]; rw [c5b0]) | rw [c5b1] | skip)
    obtain ⟨ji6, hji6⟩ : ∃ j_ : Int, (wrap64 (x6_1 + 1)) = j_ := ⟨_, rfl⟩
    first | rw [hji6] at H | simp only [hji6] at H
    (try rw [hji6] at c5b0)
    have hji6w : (IntKind.i64.wrap (x6_1 + 1)) = ji6 := (i64_w _).trans hji6
    replace H := ifs_ H
    obtain ⟨c7, H⟩ := H
    have c7b0 := decide_eq_true c7
    clear c7
    replace H := ite_ H
    obtain ⟨c8, H⟩ | ⟨c8, H⟩ := H
    rotate_left
    ·have c8b0 := decide_eq_false c8
     clear c8
     have H' := Aside0.mk H
     clear H
     obtain ⟨hcz10_0, hcz10_1, hfz10_0, hfz10_1⟩ := cf2_ BK277.out
     have p278 : 0 ≤ ((ji6) : Int) := oa_
     have q278 : (ji6) < (l0_0.length : Int) := oa_
     obtain ⟨ad278, A278_2, c278_2, e278, hx278_0, hx278_1, hx278_2, hl278_2, hi278_2⟩ := at_T65 HR0_0.out (ji6) p278 q278
     cases e278
     replace hx278_0 := pc_ HB.out hx278_0
     replace hx278_1 := pc_ HB.out hx278_1
     replace hx278_2 := pc_ HB.out hx278_2
     have HR278_2 := Aside0.mk hi278_2
     have HC278_2 := Aside0.mk hl278_2
     clear hi278_2 hl278_2
     replace p278 := eq_true p278
     replace q278 := eq_true q278
     go_wp2
     go_meet
     case rel => exact ⟨_, (x6_1), sr_, H', ⟨by have := HK1.out; first | omega | exact Nat.le_refl _⟩, ⟨kb_ BK277.out⟩, ⟨hs_ GE277.out⟩⟩
    have c8b0 := decide_eq_true c8
    clear c8
    have H' := Aside0.mk H
    clear H
    obtain ⟨hcz9_0, hcz9_1, hfz9_0, hfz9_1⟩ := cf2_ BK277.out
    have p278 : 0 ≤ ((ji6) : Int) := oa_
    have q278 : (ji6) < (l0_0.length : Int) := oa_
    obtain ⟨ad278, A278_2, c278_2, e278, hx278_0, hx278_1, hx278_2, hl278_2, hi278_2⟩ := at_T65 HR0_0.out (ji6) p278 q278
    cases e278
    replace hx278_0 := pc_ HB.out hx278_0
    replace hx278_1 := pc_ HB.out hx278_1
    replace hx278_2 := pc_ HB.out hx278_2
    have HR278_2 := Aside0.mk hi278_2
    have HC278_2 := Aside0.mk hl278_2
    clear hi278_2 hl278_2
    replace p278 := eq_true p278
    replace q278 := eq_true q278
    go_wp2
    go_roundg k1
    case measure => have := HK1.out; omega
    case rel => exact ⟨(ji6), (by first | rfl | (simp; done) | (simp only [← hji6] <;> (first | rfl | simp)) | (simp [*]; done)), H', ⟨by have := HK1.out; omega⟩, ⟨kb_ BK277.out⟩, ⟨hs_ GE277.out⟩⟩
 case rest =>
  clear HC3
  obtain ⟨kq, x6_2, rfl, HA, HJ2, BK277, HB⟩ := hcut
  cases kq with
  | zero => exact absurd HA.out (by simp [spec_l2Seek.j1])
  | succ kj2 =>
   have H := HA.out
   clear HA
   simp only [spec_l2Seek.j1] at H
   replace H := ifs_ H
   obtain ⟨c12, H⟩ := H
   have c12b0 := decide_eq_true c12
   clear c12
   replace H := ifs_ H
   obtain ⟨c13, H⟩ := H
   have c13b0 := decide_eq_true c13
   clear c13
   have H' := Aside0.mk H
   clear H
   obtain ⟨hcz14_0, hcz14_1, hfz14_0, hfz14_1⟩ := cf2_ BK277.out
   have p279 : 0 ≤ (x6_2 : Int) := oa_
   have q279 : x6_2 < (l0_0.length : Int) := oa_
   obtain ⟨ad279, A279_2, c279_2, e279, hx279_0, hx279_1, hx279_2, hl279_2, hi279_2⟩ := at_T65 HR0_0.out x6_2 p279 q279
   cases e279
   replace hx279_0 := pc_ HB.out hx279_0
   replace hx279_1 := pc_ HB.out hx279_1
   replace hx279_2 := pc_ HB.out hx279_2
   have HR279_2 := Aside0.mk hi279_2
   have HC279_2 := Aside0.mk hl279_2
   clear hi279_2 hl279_2
   replace p279 := eq_true p279
   replace q279 := eq_true q279
   go_wp2
   go_loopg [7, 36] kj2 (fun kq v7 v36 w' => ∃ (x7_2 : Int) (x36_2 : Int), v7 = .int .i64 x7_2 ∧ v36 = .int .i64 x36_2 ∧ Aside0 (spec_l2Seek.l1 kq a1 x6_2 x7_2 ((rd_T65 l0_0 x6_2).f2) (((rd_T65 l0_0 x6_2).f2).length : Int) x36_2 = some (r1, r2)) ∧ Aside0 (kq ≤ kj2) ∧ Aside0 (w'.heap[gb277]? = some (.cells #[(.slice (some ad279) l0_0.length c0_0), .int .i64 a0_1] 24 (0, 0))) ∧ Aside0 (Below w.heap.size w w'))
   case atStart => exact ⟨(0), (0), sr_, sr_, H', ⟨Nat.le_refl _⟩, ⟨kb_ BK277.out⟩, ⟨hs_ GE277.out⟩⟩
   case round =>
    clear H'
    try clear c12
    try clear c12b0
    try clear c13
    try clear c13b0
    try clear hcz14_0
    try clear hcz14_1
    try clear hfz14_0
    try clear hfz14_1
    try clear hx279_0
    try clear hx279_1
    try clear hx279_2
    try clear p279
    try clear q279
    obtain ⟨x7_2, x36_2, rfl, rfl, HA, HK2, BK277, HB⟩ := hrel
    cases gk with
    | zero => exact absurd HA.out (by simp [spec_l2Seek.l1])
    | succ k2 =>
     have H := HA.out
     clear HA
     simp only [spec_l2Seek.l1] at H
     replace H := ite_ H
     obtain ⟨c15, H⟩ | ⟨c15, H⟩ := H
     rotate_left
     ·have c15b0 := decide_eq_false c15
      clear c15
      simp only [Option.some.injEq, Prod.mk.injEq] at H
      obtain ⟨rfl, rfl⟩ := H
      go_wp2
      go_ret2
      exact ⟨er_, hs_ GE277.out⟩
     have c15b0 := decide_eq_true c15
     clear c15
     replace H := ifs_ H
     obtain ⟨c16, H⟩ := H
     have c16b0 := decide_eq_true c16
     clear c16
     replace H := ifs_ H
     obtain ⟨c17, H⟩ := H
     have c17b0 := decide_eq_true c17
     clear c17
     replace H := ite_ H
     obtain ⟨c18, H⟩ | ⟨c18, H⟩ := H
     rotate_left
     ·have c18b0 := decide_eq_false c18
      clear c18
      have H' := Aside0.mk H
      clear H
      have p280 : 0 ≤ (x36_2 : Int) := oa_
      have q280 : x36_2 < (((rd_T65 l0_0 x6_2).f2).length : Int) := oa_
      obtain ⟨ad280, e280, hx280_0, hx280_1⟩ := at_T89 HR279_2.out x36_2 p280 q280
      cases e280
      replace hx280_0 := pc_ HB.out hx280_0
      replace hx280_1 := pc_ HB.out hx280_1
      replace p280 := eq_true p280
      replace q280 := eq_true q280
      go_wp2_with (first | ((with_reducible refine gate_dst (N := 9) rfl ?_); refine bq_ (N := 9) #[.int .i64 0, .int .i64 0] 89 ?_; intro gb281 hg w22 BK281 hb; have GE281 := ge1_ hg GE277; replace HB := nc_ GE277 hb; have NB277_281 := nl_ BK277 hg; have NB281_277 := ng_ BK277 hg; replace BK277 := bK_ BK277 hb; clear hb hg; have hnb23 := NB281_277.out; have hnc23 := NB277_281.out; obtain ⟨hcz24_0, hcz24_1, hfz24_0, hfz24_1⟩ := cf2_ BK281.out))
      go_roundg k2
      case measure => have := HJ2.out; have := HK2.out; omega
      case rel => exact ⟨(x7_2), (wrap64 (x36_2 + 1)), sr_, sr_, H', ⟨by have := HJ2.out; have := HK2.out; omega⟩, ⟨uf_ BK277 NB277_281.out⟩, ⟨hs2_ GE277.out GE281.out⟩⟩
     have c18b0 := decide_eq_true c18
     clear c18
     have H' := Aside0.mk H
     clear H
     have p280 : 0 ≤ (x36_2 : Int) := oa_
     have q280 : x36_2 < (((rd_T65 l0_0 x6_2).f2).length : Int) := oa_
     obtain ⟨ad280, e280, hx280_0, hx280_1⟩ := at_T89 HR279_2.out x36_2 p280 q280
     cases e280
     replace hx280_0 := pc_ HB.out hx280_0
     replace hx280_1 := pc_ HB.out hx280_1
     replace p280 := eq_true p280
     replace q280 := eq_true q280
     go_wp2_with (first | ((with_reducible refine gate_dst (N := 9) rfl ?_); refine bq_ (N := 9) #[.int .i64 0, .int .i64 0] 89 ?_; intro gb281 hg w19 BK281 hb; have GE281 := ge1_ hg GE277; replace HB := nc_ GE277 hb; have NB277_281 := nl_ BK277 hg; have NB281_277 := ng_ BK277 hg; replace BK277 := bK_ BK277 hb; clear hb hg; have hnb20 := NB281_277.out; have hnc20 := NB277_281.out; obtain ⟨hcz21_0, hcz21_1, hfz21_0, hfz21_1⟩ := cf2_ BK281.out))
     go_roundg k2
     case measure => have := HJ2.out; have := HK2.out; omega
     case rel => exact ⟨((rd_T89 ((rd_T65 l0_0 x6_2).f2) x36_2).f1), (wrap64 (x36_2 + 1)), sr_, sr_, H', ⟨by have := HJ2.out; have := HK2.out; omega⟩, ⟨uf_ BK277 NB277_281.out⟩, ⟨hs2_ GE277.out GE281.out⟩⟩
/-! ### spec_ReadFrom: function 45 -/
mutual
def spec_ReadFrom.j0 : Nat → Int → Int → Bool → List (S65) → Int → Option ((List (S43)) × Bool)
 | 0, _, _, _, _, _ => none
 | k + 1, x1, x2, x23, x283000, x283001 => if x23 = true then (some (([] : List (S43)), false)) else ((spec_l2Seek.f k x283000 x283001 x1).bind fun bt285 => (spec_ReadFrom.l0 k x1 x2 bt285.1 bt285.2 ([] : List (S43)) x283000 x283001))
def spec_ReadFrom.l0 : Nat → Int → Int → Int → Int → List (S43) → List (S65) → Int → Option ((List (S43)) × Bool)
 | 0, _, _, _, _, _, _, _ => none
 | k + 1, x1, x2, x8, x9, x10, x283000, x283001 => if x8 < (x283000.length : Int) then (if 0 ≤ x8 then (if 0 ≤ x9 then (if x9 ≤ (((rd_T65 x283000 x8).f1).size : Int) then ((spec_l1Read.f k (((rd_T65 x283000 x8).f1).extract (x9 : Int).toNat ((rd_T65 x283000 x8).f1).size)).bind fun bt288 => (spec_ReadFrom.l1 k x1 x2 x8 x10 bt288.1 (bt288.1.length : Int) 0 x283000 x283001)) else (none)) else (none)) else (none)) else (some (x10, true))
def spec_ReadFrom.l1 : Nat → Int → Int → Int → List (S43) → List (S43) → Int → Int → List (S65) → Int → Option ((List (S43)) × Bool)
 | 0, _, _, _, _, _, _, _, _, _ => none
 | k + 1, x1, x2, x8, x10, x49, x50, x51, x283000, x283001 => if x51 < x50 then (if 0 ≤ x51 then (if x51 < (x49.length : Int) then (if (wrap64 (((rd_T43 x49 x51).f0) + (((rd_T43 x49 x51).f4).length : Int))) > x1 then (if (x10.length : Int) < x2 then (if x10.length < 2513169434916 then (spec_ReadFrom.l1 k x1 x2 x8 (x10 ++ [(⟨(rd_T43 x49 x51).f0, (rd_T43 x49 x51).f1, (rd_T43 x49 x51).f2, (rd_T43 x49 x51).f3, (rd_T43 x49 x51).f4⟩ : S43)]) x49 x50 (wrap64 (x51 + 1)) x283000 x283001) else (none)) else (spec_ReadFrom.l1 k x1 x2 x8 x10 x49 x50 (wrap64 (x51 + 1)) x283000 x283001)) else (spec_ReadFrom.l1 k x1 x2 x8 x10 x49 x50 (wrap64 (x51 + 1)) x283000 x283001)) else (none)) else (none)) else (spec_ReadFrom.l0 k x1 x2 (wrap64 (x8 + 1)) 0 x10 x283000 x283001)
end
def spec_ReadFrom.f (k : Nat) (l0_0 : List (S65)) (a0_1 : Int) (a1 : Int) (a2 : Int) : Option ((List (S43)) × Bool) := (spec_l2There.f k l0_0 a0_1 a1).bind fun t283 => (if t283 = true then ((spec_l1In.f a2 1 20).bind fun t284 => (spec_ReadFrom.j0 k a1 a2 (!t284) l0_0 a0_1)) else (spec_ReadFrom.j0 k a1 a2 true l0_0 a0_1))
theorem spec_ReadFrom.mono_l : ∀ k, (∀ y0 y1 y2 y3 y4, LeO (spec_ReadFrom.j0 k y0 y1 y2 y3 y4) (spec_ReadFrom.j0 (k + 1) y0 y1 y2 y3 y4)) ∧ (∀ y0 y1 y2 y3 y4 y5 y6, LeO (spec_ReadFrom.l0 k y0 y1 y2 y3 y4 y5 y6) (spec_ReadFrom.l0 (k + 1) y0 y1 y2 y3 y4 y5 y6)) ∧ (∀ y0 y1 y2 y3 y4 y5 y6 y7 y8, LeO (spec_ReadFrom.l1 k y0 y1 y2 y3 y4 y5 y6 y7 y8) (spec_ReadFrom.l1 (k + 1) y0 y1 y2 y3 y4 y5 y6 y7 y8))
 | 0 => ⟨fun _ _ _ _ _ r h => by simp [spec_ReadFrom.j0] at h, fun _ _ _ _ _ _ _ r h => by simp [spec_ReadFrom.l0] at h, fun _ _ _ _ _ _ _ _ _ r h => by simp [spec_ReadFrom.l1] at h⟩
 | k + 1 => by
  obtain ⟨ih0, ih1, ih2⟩ := spec_ReadFrom.mono_l k
  refine ⟨?_, ?_, ?_⟩
  all_goals intros; first | unfold spec_ReadFrom.j0 | unfold spec_ReadFrom.l0 | unfold spec_ReadFrom.l1
  all_goals repeat' first | (with_reducible first | apply ih0 | apply ih1 | apply ih2 | apply spec_l1Read.mono | apply spec_l2Seek.mono | apply spec_l2There.mono | exact LeO.refl _ | exact LeO.none _ | refine LeO.ite ?_ ?_ | refine LeO.bind ?_ (fun _ => ?_))
theorem spec_ReadFrom.mono : ∀ a0 a1 a2 a3 k, LeO (spec_ReadFrom.f k a0 a1 a2 a3) (spec_ReadFrom.f (k + 1) a0 a1 a2 a3) := by
 intro a0 a1 a2 a3 k
 obtain ⟨ih0, ih1, ih2⟩ := spec_ReadFrom.mono_l k
 unfold spec_ReadFrom.f
 repeat' first
   | (with_reducible first | apply ih0 | apply ih1 | apply ih2 | apply spec_l1Read.mono | apply spec_l2Seek.mono | apply spec_l2There.mono | exact LeO.refl _ | exact LeO.none _ | refine LeO.ite ?_ ?_ | refine LeO.bind ?_ (fun _ => ?_))
set_option maxHeartbeats 8000000 in
set_option maxRecDepth 100000 in
theorem spec_ReadFrom.calls (k : Nat) (A0_0 : Option Addr) (c0_0 : Nat) (l0_0 : List (S65)) (a0_1 : Int) (a1 : Int) (a2 : Int) (r1 : List (S43)) (r2 : Bool) (w : World) (hr0_0 : Kd.C k65 w A0_0 l0_0.length l0_0) (hc0_0 : l0_0.length ≤ c0_0) (h : spec_ReadFrom.f k l0_0 a0_1 a1 a2 = some (r1, r2)) :
  Calls Try.prog 45 #[.agg #[.slice A0_0 l0_0.length c0_0, .int .i64 a0_1], .int .i64 a1, .int .i64 a2] w fun e w' => ∃ v0_ : Value, e = .returned (.tuple #[v0_, .bool r2]) ∧ Kd.N k43 43 w' w.heap.size (fun k_ => (w.heap.size ≤ k_)) v0_ r1 ∧ Below w.heap.size w w' := by
 have hu24 := Try.underlying24
 have hu43 := Try.underlying43
 have HR0_0 := Aside0.mk hr0_0
 have HC0_0 := Aside0.mk hc0_0
 clear hr0_0 hc0_0
 have HB := Aside0.mk (Below.refl w.heap.size w)
 have H : ((spec_l2There.f k l0_0 a0_1 a1).bind fun t283 => (if t283 = true then ((spec_l1In.f a2 1 20).bind fun t284 => (spec_ReadFrom.j0 k a1 a2 (!t284) l0_0 a0_1)) else (spec_ReadFrom.j0 k a1 a2 true l0_0 a0_1))) = some (r1, r2) := h
 clear h
 have HC4 := Aside0.mk H
 clear H
 go_enter Try.func45, Try.ntmps45
 go_upto_region 1 with (first | ((with_reducible refine gate_dst (N := 3) rfl ?_); (try (refine gate_guard (by rfl) ?_; dsimp only)); refine bq_ (N := 3) #[.slice A0_0 l0_0.length c0_0, .int .i64 a0_1] 24 ?_; intro gb282 hg w5 BK282 hb; have GE282 := ge_ hg; replace HB := nb_ hb; clear hb hg))
 (try simp only [Act.put, List.setIfInBounds_toArray, List.set_cons_zero, List.set_cons_succ])
 go_cut [23] (fun v23 wc => ∃ (kq : Nat) (x23_3 : Bool), v23 = .bool x23_3 ∧ Aside0 (spec_ReadFrom.j0 kq a1 a2 x23_3 l0_0 a0_1 = some (r1, r2)) ∧ Aside0 (kq ≤ k) ∧ Aside0 (wc.heap[gb282]? = some (.cells #[(.slice A0_0 l0_0.length c0_0), .int .i64 a0_1] 24 (0, 0))) ∧ Aside0 (Below w.heap.size w wc))
 case first =>
  have H := HC4.out
  clear HC4
  replace H := bnd_ H
  obtain ⟨t283, A6, H⟩ := H
  replace H := ifb_ H
  obtain ⟨rfl, H⟩ | ⟨rfl, H⟩ := H
  rotate_left
  ·have H' := Aside0.mk H
   clear H
   obtain ⟨hcz11_0, hcz11_1, hfz11_0, hfz11_1⟩ := cf2_ BK282.out
   go_wp2_with (first | ((with_reducible refine gate_callee (f := 68) rfl ?_); refine gl_ 17 Try.func68 #[.agg #[.slice A0_0 l0_0.length c0_0, .int .i64 a0_1], .int .i64 a1] rfl ma_ ?_; (with_reducible refine (spec_l2There.calls k _ _ l0_0 a0_1 a1 false _ ?side1 ?side2 A6.out).mono ?_); (case side1 => exact cs_ ((Kd.C_below HR0_0.out HB.out))); (case side2 => exact HC0_0.out); rintro e w12 ⟨rfl, hb⟩; refine ⟨_, rfl, ?_⟩; replace BK282 := bK_ BK282 hb; replace HB := nc_ GE282 hb; (try clear hb); (try clear hb2); (try clear hk); (try clear hi)))
   go_meet
   case rel => exact ⟨_, (true), sr_, H', ⟨by first | omega | exact Nat.le_refl _⟩, ⟨kb_ BK282.out⟩, ⟨hs_ GE282.out⟩⟩
  replace H := bnd_ H
  obtain ⟨t284, A8, H⟩ := H
  have H' := Aside0.mk H
  clear H
  obtain ⟨hcz9_0, hcz9_1, hfz9_0, hfz9_1⟩ := cf2_ BK282.out
  go_wp2_with (first | ((with_reducible refine gate_callee (f := 68) rfl ?_); refine gl_ 17 Try.func68 #[.agg #[.slice A0_0 l0_0.length c0_0, .int .i64 a0_1], .int .i64 a1] rfl ma_ ?_; (with_reducible refine (spec_l2There.calls k _ _ l0_0 a0_1 a1 true _ ?side1 ?side2 A6.out).mono ?_); (case side1 => exact cs_ ((Kd.C_below HR0_0.out HB.out))); (case side2 => exact HC0_0.out); rintro e w10 ⟨rfl, hb⟩; refine ⟨_, rfl, ?_⟩; replace BK282 := bK_ BK282 hb; replace HB := nc_ GE282 hb; (try clear hb); (try clear hb2); (try clear hk); (try clear hi)) | (go_at_call 57; (with_reducible refine (spec_l1In.calls a2 1 20 t284 _ A8.out).mono ?_); rintro e w' ⟨rfl, ⟨nd, rfl⟩⟩))
  go_meet
  case rel => exact ⟨_, (!t284), sr_, H', ⟨by first | omega | exact Nat.le_refl _⟩, ⟨kb_ BK282.out⟩, ⟨hs_ GE282.out⟩⟩
 case rest =>
  clear HC4
  obtain ⟨kq, x23_3, rfl, HA, HJ3, BK282, HB⟩ := hcut
  cases kq with
  | zero => exact absurd HA.out (by simp [spec_ReadFrom.j0])
  | succ kj3 =>
   have H := HA.out
   clear HA
   simp only [spec_ReadFrom.j0] at H
   replace H := ifb_ H
   obtain ⟨rfl, H⟩ | ⟨rfl, H⟩ := H
   ·simp only [Option.some.injEq, Prod.mk.injEq] at H
    obtain ⟨rfl, rfl⟩ := H
    go_wp2
    go_ret2
    exact ⟨_, er_, by first | exact Kd.S_nil _ _ _ _ _ | exact Kd.N_nil _ _ _ _ _ | exact Kd.V_nil _ _ _ _ _ | exact Kd.Q_nil _ _ _ _ _ | exact Kd.R_nil _ _ _ _ _, hs_ GE282.out⟩
   replace H := bnd_ H
   obtain ⟨⟨t285, t286⟩, A14, H⟩ := H
   replace H := red_ H
   have H' := Aside0.mk H
   clear H
   obtain ⟨hcz15_0, hcz15_1, hfz15_0, hfz15_1⟩ := cf2_ BK282.out
   go_wp2_with (first | ((with_reducible refine gate_callee (f := 69) rfl ?_); refine gl_ 27 Try.func69 #[.agg #[.slice A0_0 l0_0.length c0_0, .int .i64 a0_1], .int .i64 a1] rfl ma_ ?_; (with_reducible refine (spec_l2Seek.calls kj3 _ _ l0_0 a0_1 a1 t285 t286 _ ?side1 ?side2 A14.out).mono ?_); (case side1 => exact cs_ ((Kd.C_below HR0_0.out HB.out))); (case side2 => exact HC0_0.out); rintro e w16 ⟨rfl, hb⟩; refine ⟨_, rfl, ?_⟩; replace BK282 := bK_ BK282 hb; replace HB := nc_ GE282 hb; (try clear hb); (try clear hb2); (try clear hk); (try clear hi)))
   go_loopg [8, 9, 10] kj3 (fun kq v8 v9 v10 w' => ∃ (x8_2 : Int) (x9_2 : Int) (x10_2 : List (S43)), v8 = .int .i64 x8_2 ∧ v9 = .int .i64 x9_2 ∧ Aside0 (spec_ReadFrom.l0 kq a1 a2 x8_2 x9_2 x10_2 l0_0 a0_1 = some (r1, r2)) ∧ Aside0 (kq ≤ kj3) ∧ Aside0 (Kd.N k43 43 w' w.heap.size (fun k_ => (w.heap.size ≤ k_) ∧ k_ ≠ gb282) v10 x10_2) ∧ Aside0 (w'.heap[gb282]? = some (.cells #[(.slice A0_0 l0_0.length c0_0), .int .i64 a0_1] 24 (0, 0))) ∧ Aside0 (Below w.heap.size w w'))
   case atStart => exact ⟨(t285), (t286), (([] : List (S43))), sr_, sr_, H', ⟨Nat.le_refl _⟩, ⟨by first | exact Kd.S_nil _ _ _ _ _ | exact Kd.N_nil _ _ _ _ _ | exact Kd.V_nil _ _ _ _ _ | exact Kd.Q_nil _ _ _ _ _ | exact Kd.R_nil _ _ _ _ _⟩, ⟨kb_ BK282.out⟩, ⟨hs_ GE282.out⟩⟩
   case round =>
    clear H'
    try clear hcz15_0
    try clear hcz15_1
    try clear hfz15_0
    try clear hfz15_1
    obtain ⟨x8_2, x9_2, x10_2, rfl, rfl, HA, HK2, HO_10, BK282, HB⟩ := hrel
    cases gk with
    | zero => exact absurd HA.out (by simp [spec_ReadFrom.l0])
    | succ k2 =>
     have H := HA.out
     clear HA
     simp only [spec_ReadFrom.l0] at H
     replace H := ite_ H
     obtain ⟨c17, H⟩ | ⟨c17, H⟩ := H
     rotate_left
     ·have c17b0 := decide_eq_false c17
      clear c17
      simp only [Option.some.injEq, Prod.mk.injEq] at H
      obtain ⟨rfl, rfl⟩ := H
      obtain ⟨hcz45_0, hcz45_1, hfz45_0, hfz45_1⟩ := cf2_ BK282.out
      go_wp2
      go_ret2
      exact ⟨_, er_, nF_ (Kd.N_mono HO_10.out (fun _ hk => hk.1)), hs_ GE282.out⟩
     have c17b0 := decide_eq_true c17
     clear c17
     replace H := ifs_ H
     obtain ⟨c18, H⟩ := H
     have c18b0 := decide_eq_true c18
     clear c18
     replace H := ifs_ H
     obtain ⟨c19, H⟩ := H
     have c19b0 := eq_true c19
     have c19b1 := decide_eq_true c19
     clear c19
     replace H := ifs_ H
     obtain ⟨c20, H⟩ := H
     have c20b0 := eq_true c20
     have c20b1 := decide_eq_true c20
     clear c20
     replace H := bnd_ H
     obtain ⟨⟨t288, t289⟩, A21, H⟩ := H
     replace H := red_ H
     have H' := Aside0.mk H
     clear H
     obtain ⟨hcz22_0, hcz22_1, hfz22_0, hfz22_1⟩ := cf2_ BK282.out
     have p287 : 0 ≤ (x8_2 : Int) := oa_
     have q287 : x8_2 < (l0_0.length : Int) := oa_
     obtain ⟨ad287, A287_2, c287_2, e287, hx287_0, hx287_1, hx287_2, hl287_2, hi287_2⟩ := at_T65 HR0_0.out x8_2 p287 q287
     cases e287
     replace hx287_0 := pc_ HB.out hx287_0
     replace hx287_1 := pc_ HB.out hx287_1
     replace hx287_2 := pc_ HB.out hx287_2
     have HR287_2 := Aside0.mk hi287_2
     have HC287_2 := Aside0.mk hl287_2
     clear hi287_2 hl287_2
     replace p287 := eq_true p287
     replace q287 := eq_true q287
     go_wp2_with (first | ((with_reducible refine gate_callee (f := 63) rfl ?_); refine gl_ 46 Try.func63 #[.string (((rd_T65 l0_0 x8_2).f1).extract (x9_2 : Int).toNat ((rd_T65 l0_0 x8_2).f1).size)] rfl ma_ ?_; (with_reducible refine (spec_l1Read.calls k2 (((rd_T65 l0_0 x8_2).f1).extract (x9_2 : Int).toNat ((rd_T65 l0_0 x8_2).f1).size) t288 t289 _ A21.out).mono ?_); rintro e w23 ⟨v290, rfl, ho0, hb⟩; refine ⟨_, rfl, ?_⟩; have HO291 := Aside0.mk (Kd.N_lower (Kd.N_mono (ok' := fun k_ => (w.heap.size ≤ k_) ∧ some k_ ≠ (u10 : Value).ownBlock ∧ k_ ≠ gb282) (Kd.S_N (Kd.S_bound ho0)) (fun k_ hk_ => ⟨(Nat.le_trans (below_size (hs_ GE282.out)) hk_.2.1), (Kd.fresh' (Kd.N_lt (nF_ HO_10.out)) k_ hk_.2.1), (Kd.freshB (g := gb282) (o := .cells #[.slice (some ad287) l0_0.length c0_0, .int .i64 a0_1] 24 (0, 0)) (kb_ BK282.out) k_ hk_.2.1)⟩)) (below_size (hs_ GE282.out))); replace HO_10 := Aside0.mk (Kd.N_elder' (nF_ HO_10.out) (Kd.N_base (Kd.S_N ho0)) hb); replace BK282 := bK_ BK282 hb; replace HB := nc_ GE282 hb; (try clear hb); (try clear hb2); (try clear hk); (try clear hi); (try clear ho0); obtain ⟨Ao24, co24, eo24⟩ := Kd.N_slice HO291.out; subst eo24))
     go_loopg [10, 51] k2 (fun kq v10 v51 w' => ∃ (x10_3 : List (S43)) (x51_3 : Int), v51 = .int .i64 x51_3 ∧ Aside0 (spec_ReadFrom.l1 kq a1 a2 x8_2 x10_3 t288 (t288.length : Int) x51_3 l0_0 a0_1 = some (r1, r2)) ∧ Aside0 (kq ≤ k2) ∧ Aside0 (Kd.N k43 43 w' w.heap.size (fun k_ => (w.heap.size ≤ k_) ∧ some k_ ≠ ((.slice Ao24 t288.length co24) : Value).ownBlock ∧ k_ ≠ gb282) v10 x10_3) ∧ Aside0 (Kd.N k43 43 w' w.heap.size (fun k_ => (w.heap.size ≤ k_) ∧ some k_ ≠ (v10 : Value).ownBlock ∧ k_ ≠ gb282) (.slice Ao24 t288.length co24) t288) ∧ Aside0 (w'.heap[gb282]? = some (.cells #[(.slice (some ad287) l0_0.length c0_0), .int .i64 a0_1] 24 (0, 0))) ∧ Aside0 (Below w.heap.size w w'))
     case atStart => exact ⟨(x10_2), (0), sr_, H', ⟨Nat.le_refl _⟩, ⟨nF_ (Kd.N_mono HO_10.out (fun _ hk => ⟨hk.1.1, ⟨hk.2, hk.1.2⟩⟩))⟩, ⟨nF_ HO291.out⟩, ⟨kb_ BK282.out⟩, ⟨hs_ GE282.out⟩⟩
     case round =>
      clear H'
      try clear c17
      try clear c17b0
      try clear c18
      try clear c18b0
      try clear c19
      try clear c19b0
      try clear c19b1
      try clear c20
      try clear c20b0
      try clear c20b1
      try clear hcz15_0
      try clear hcz15_1
      try clear hcz22_0
      try clear hcz22_1
      try clear hfz15_0
      try clear hfz15_1
      try clear hfz22_0
      try clear hfz22_1
      try clear hx287_0
      try clear hx287_1
      try clear hx287_2
      try clear p287
      try clear q287
      obtain ⟨x10_3, x51_3, rfl, HA, HK3, HO_10, HO_49, BK282, HB⟩ := hrel
      cases gk with
      | zero => exact absurd HA.out (by simp [spec_ReadFrom.l1])
      | succ k3 =>
       have H := HA.out
       clear HA
       simp only [spec_ReadFrom.l1] at H
       replace H := ite_ H
       obtain ⟨c25, H⟩ | ⟨c25, H⟩ := H
       rotate_left
       ·have c25b0 := decide_eq_false c25
        clear c25
        have H' := Aside0.mk H
        clear H
        go_wp2
        go_roundg k3
        case measure => have := HJ3.out; have := HK2.out; have := HK3.out; omega
        case rel => exact ⟨(wrap64 (x8_2 + 1)), (0), (x10_3), sr_, sr_, H', ⟨by have := HJ3.out; have := HK2.out; have := HK3.out; omega⟩, ⟨nF_ (Kd.N_mono HO_10.out (fun _ hk => ⟨hk.1, hk.2.2⟩))⟩, ⟨kb_ BK282.out⟩, ⟨hs_ GE282.out⟩⟩
       have c25b0 := decide_eq_true c25
       clear c25
       replace H := ifs_ H
       obtain ⟨c26, H⟩ := H
       have c26b0 := decide_eq_true c26
       clear c26
       replace H := ifs_ H
       obtain ⟨c27, H⟩ := H
       have c27b0 := decide_eq_true c27
       clear c27
       replace H := ite_ H
       obtain ⟨c28, H⟩ | ⟨c28, H⟩ := H
       rotate_left
       ·have c28b0 := dgf_ c28
        clear c28
        have H' := Aside0.mk H
        clear H
        have p292 : 0 ≤ (x51_3 : Int) := oa_
        have q292 : x51_3 < (t288.length : Int) := oa_
        obtain ⟨ad292, A292_4, c292_4, e292, hx292_0, hx292_1, hx292_2, hx292_3, hx292_4, hl292_4, hi292_4⟩ := at_T43 (Kd.N_reads' HO_49.out).2.2 x51_3 p292 q292
        cases e292
        obtain ⟨ce292, hce292, hMe292, hcc292⟩ := Kd.N_get HO_49.out z43 x51_3 p292 (by first | exact q292 | exact oa_ | (have e_ := (Kd.N_reads' HO_49.out).1; omega))
        obtain ⟨ua292_4, uc292_4, rfl, ul292_4, ge292_4⟩ := k43_openF hMe292
        have hv292_4 := hcc292 4 _ rfl
        rw [add_field _ _ 4 (by omega)] at hv292_4
        replace hv292_4 := Option.some.inj (hv292_4.symm.trans hx292_4)
        injection hv292_4 with hva_ hvn_ hvc_
        rw [hva_] at ge292_4
        rw [hvc_] at ul292_4
        have HL292_4 := Aside0.mk (show Kd.V Kd.string 9 _ w.heap.size _ _ ((rd_T43 t288 x51_3).f4) from Kd.V_mk ul292_4 ge292_4)
        clear hva_ hvn_ hvc_ ge292_4 ul292_4
        clear hcc292 hce292
        have HR292_4 := Aside0.mk hi292_4
        have HC292_4 := Aside0.mk hl292_4
        clear hi292_4 hl292_4
        replace p292 := eq_true p292
        replace q292 := eq_true q292
        go_wp2_with (first | ((with_reducible refine gate_dst (N := 14) rfl ?_); (try (refine gate_guard (by rfl) ?_; dsimp only)); refine bq_ (N := 14) #[.int .i64 0, .int .i64 0, .int .i64 0, .int .i64 0, .slice none 0 0] 43 ?_; intro gb293 hg w42 BK293 hb; replace HO_10 := Aside0.mk (Kd.N_below (Kd.N_elderB (nF_ HO_10.out) gb293 (Nat.le_of_eq hg.symm)) hb); replace HO_49 := Aside0.mk (Kd.N_below (Kd.N_elderB (nF_ HO_49.out) gb293 (Nat.le_of_eq hg.symm)) hb); replace HL292_4 := Aside0.mk (Kd.V_below (Kd.V_elderB (vF_ HL292_4.out) gb293 (Nat.le_of_eq hg.symm)) hb); replace HR292_4 := Aside0.mk (Kd.C_below (by repeat (first | (with_reducible exact HR292_4.out) | (with_reducible refine Kd.C_alloc ?_ _) | (with_reducible refine Kd.C_drewN ?_ _) | (with_reducible refine Kd.C_drew ?_) | exact HR292_4.out)) hb); have GE293 := ge1_ hg GE282; replace HB := nc_ GE282 hb; have NB282_293 := nl_ BK282 hg; have NB293_282 := ng_ BK282 hg; replace BK282 := bK_ BK282 hb; clear hb hg; have hnb43 := NB293_282.out; have hnc43 := NB282_293.out; obtain ⟨hcz44_0, hcz44_1, hcz44_2, hcz44_3, hcz44_4, hfz44_0, hfz44_1, hfz44_2, hfz44_3, hfz44_4⟩ := cf5_ BK293.out))
        go_roundg k3
        case measure => have := HJ3.out; have := HK2.out; have := HK3.out; omega
        case rel => exact ⟨(x10_3), (wrap64 (x51_3 + 1)), sr_, H', ⟨by have := HJ3.out; have := HK2.out; have := HK3.out; omega⟩, ⟨Kd.N_mono (nF_ (Kd.N_mono HO_10.out (fun k_ hk => (⟨hk, hk.2⟩ : _ ∧ k_ ≠ gb293)))) (fun _ hk => ⟨hk.1.1.1, ⟨hk.1.1.2.1, hk.1.1.2.2⟩⟩)⟩, ⟨Kd.N_mono (nF_ (Kd.N_mono HO_49.out (fun k_ hk => (⟨hk, hk.2⟩ : _ ∧ k_ ≠ gb293)))) (fun _ hk => ⟨hk.1.1.1, ⟨hk.1.1.2.1, hk.1.1.2.2⟩⟩)⟩, ⟨uf_ BK282 NB282_293.out⟩, ⟨hs2_ GE282.out GE293.out⟩⟩
       have c28b0 := dgt_ c28
       clear c28
       replace H := ite_ H
       obtain ⟨c29, H⟩ | ⟨c29, H⟩ := H
       rotate_left
       ·have c29b0 := decide_eq_false c29
        clear c29
        have H' := Aside0.mk H
        clear H
        have p292 : 0 ≤ (x51_3 : Int) := oa_
        have q292 : x51_3 < (t288.length : Int) := oa_
        obtain ⟨ad292, A292_4, c292_4, e292, hx292_0, hx292_1, hx292_2, hx292_3, hx292_4, hl292_4, hi292_4⟩ := at_T43 (Kd.N_reads' HO_49.out).2.2 x51_3 p292 q292
        cases e292
        obtain ⟨ce292, hce292, hMe292, hcc292⟩ := Kd.N_get HO_49.out z43 x51_3 p292 (by first | exact q292 | exact oa_ | (have e_ := (Kd.N_reads' HO_49.out).1; omega))
        obtain ⟨ua292_4, uc292_4, rfl, ul292_4, ge292_4⟩ := k43_openF hMe292
        have hv292_4 := hcc292 4 _ rfl
        rw [add_field _ _ 4 (by omega)] at hv292_4
        replace hv292_4 := Option.some.inj (hv292_4.symm.trans hx292_4)
        injection hv292_4 with hva_ hvn_ hvc_
        rw [hva_] at ge292_4
        rw [hvc_] at ul292_4
        have HL292_4 := Aside0.mk (show Kd.V Kd.string 9 _ w.heap.size _ _ ((rd_T43 t288 x51_3).f4) from Kd.V_mk ul292_4 ge292_4)
        clear hva_ hvn_ hvc_ ge292_4 ul292_4
        clear hcc292 hce292
        have HR292_4 := Aside0.mk hi292_4
        have HC292_4 := Aside0.mk hl292_4
        clear hi292_4 hl292_4
        replace p292 := eq_true p292
        replace q292 := eq_true q292
        go_wp2_with (first | ((with_reducible refine gate_dst (N := 14) rfl ?_); (try (refine gate_guard (by rfl) ?_; dsimp only)); refine bq_ (N := 14) #[.int .i64 0, .int .i64 0, .int .i64 0, .int .i64 0, .slice none 0 0] 43 ?_; intro gb293 hg w38 BK293 hb; replace HO_10 := Aside0.mk (Kd.N_below (Kd.N_elderB (nF_ HO_10.out) gb293 (Nat.le_of_eq hg.symm)) hb); replace HO_49 := Aside0.mk (Kd.N_below (Kd.N_elderB (nF_ HO_49.out) gb293 (Nat.le_of_eq hg.symm)) hb); replace HL292_4 := Aside0.mk (Kd.V_below (Kd.V_elderB (vF_ HL292_4.out) gb293 (Nat.le_of_eq hg.symm)) hb); replace HR292_4 := Aside0.mk (Kd.C_below (by repeat (first | (with_reducible exact HR292_4.out) | (with_reducible refine Kd.C_alloc ?_ _) | (with_reducible refine Kd.C_drewN ?_ _) | (with_reducible refine Kd.C_drew ?_) | exact HR292_4.out)) hb); have GE293 := ge1_ hg GE282; replace HB := nc_ GE282 hb; have NB282_293 := nl_ BK282 hg; have NB293_282 := ng_ BK282 hg; replace BK282 := bK_ BK282 hb; clear hb hg; have hnb39 := NB293_282.out; have hnc39 := NB282_293.out; obtain ⟨hcz40_0, hcz40_1, hcz40_2, hcz40_3, hcz40_4, hfz40_0, hfz40_1, hfz40_2, hfz40_3, hfz40_4⟩ := cf5_ BK293.out; obtain ⟨Ao41, co41, eo41⟩ := Kd.N_slice HO_10.out; subst eo41))
        go_roundg k3
        case measure => have := HJ3.out; have := HK2.out; have := HK3.out; omega
        case rel => exact ⟨(x10_3), (wrap64 (x51_3 + 1)), sr_, H', ⟨by have := HJ3.out; have := HK2.out; have := HK3.out; omega⟩, ⟨Kd.N_mono (nF_ (Kd.N_mono HO_10.out (fun k_ hk => (⟨hk, hk.2⟩ : _ ∧ k_ ≠ gb293)))) (fun _ hk => ⟨hk.1.1.1, ⟨hk.1.1.2.1, hk.1.1.2.2⟩⟩)⟩, ⟨Kd.N_mono (nF_ (Kd.N_mono HO_49.out (fun k_ hk => (⟨hk, hk.2⟩ : _ ∧ k_ ≠ gb293)))) (fun _ hk => ⟨hk.1.1.1, ⟨hk.1.1.2.1, hk.1.1.2.2⟩⟩)⟩, ⟨uf_ BK282 NB282_293.out⟩, ⟨hs2_ GE282.out GE293.out⟩⟩
       have c29b0 := decide_eq_true c29
       clear c29
       replace H := ifs_ H
       obtain ⟨c30, H⟩ := H
       have LMc30 := Aside0.mk c30
       clear c30
       obtain ⟨y294, hy294⟩ : ∃ y_ : List (S43), y_ = (x10_3 ++ [(⟨(rd_T43 t288 x51_3).f0, (rd_T43 t288 x51_3).f1, (rd_T43 t288 x51_3).f2, (rd_T43 t288 x51_3).f3, (rd_T43 t288 x51_3).f4⟩ : S43)]) := ⟨_, rfl⟩
       replace H : (spec_ReadFrom.l1 k3 a1 a2 x8_2 y294 t288 (t288.length : Int) (wrap64 (x51_3 + 1)) l0_0 a0_1) = some (r1, r2) := by first | (rw [hy294]; with_reducible exact H) | (have H2_ := (Option.bind_some _ _).symm.trans H; rw [hy294]; with_reducible exact H2_) | (have H2_ := (Option.bind_some _ _).symm.trans H; with_reducible exact H2_) | with_reducible exact H | (rw [hy294]; exact H) | exact H
       have Ny294 := Aside0.mk hy294
       clear hy294
       have H' := Aside0.mk H
       clear H
       have p292 : 0 ≤ (x51_3 : Int) := oa_
       have q292 : x51_3 < (t288.length : Int) := oa_
       obtain ⟨ad292, A292_4, c292_4, e292, hx292_0, hx292_1, hx292_2, hx292_3, hx292_4, hl292_4, hi292_4⟩ := at_T43 (Kd.N_reads' HO_49.out).2.2 x51_3 p292 q292
       cases e292
       obtain ⟨ce292, hce292, hMe292, hcc292⟩ := Kd.N_get HO_49.out z43 x51_3 p292 (by first | exact q292 | exact oa_ | (have e_ := (Kd.N_reads' HO_49.out).1; omega))
       obtain ⟨ua292_4, uc292_4, rfl, ul292_4, ge292_4⟩ := k43_openF hMe292
       have hv292_4 := hcc292 4 _ rfl
       rw [add_field _ _ 4 (by omega)] at hv292_4
       replace hv292_4 := Option.some.inj (hv292_4.symm.trans hx292_4)
       injection hv292_4 with hva_ hvn_ hvc_
       rw [hva_] at ge292_4
       rw [hvc_] at ul292_4
       have HL292_4 := Aside0.mk (show Kd.V Kd.string 9 _ w.heap.size _ _ ((rd_T43 t288 x51_3).f4) from Kd.V_mk ul292_4 ge292_4)
       clear hva_ hvn_ hvc_ ge292_4 ul292_4
       clear hcc292 hce292
       have HR292_4 := Aside0.mk hi292_4
       have HC292_4 := Aside0.mk hl292_4
       clear hi292_4 hl292_4
       replace p292 := eq_true p292
       replace q292 := eq_true q292
       go_wp2_with (first | ((with_reducible refine gate_dst (N := 14) rfl ?_); (try (refine gate_guard (by rfl) ?_; dsimp only)); refine bq_ (N := 14) #[.int .i64 0, .int .i64 0, .int .i64 0, .int .i64 0, .slice none 0 0] 43 ?_; intro gb293 hg w31 BK293 hb; replace HO_10 := Aside0.mk (Kd.N_below (Kd.N_elderB (nF_ HO_10.out) gb293 (Nat.le_of_eq hg.symm)) hb); replace HO_49 := Aside0.mk (Kd.N_below (Kd.N_elderB (nF_ HO_49.out) gb293 (Nat.le_of_eq hg.symm)) hb); replace HL292_4 := Aside0.mk (Kd.V_below (Kd.V_elderB (vF_ HL292_4.out) gb293 (Nat.le_of_eq hg.symm)) hb); replace HR292_4 := Aside0.mk (Kd.C_below (by repeat (first | (with_reducible exact HR292_4.out) | (with_reducible refine Kd.C_alloc ?_ _) | (with_reducible refine Kd.C_drewN ?_ _) | (with_reducible refine Kd.C_drew ?_) | exact HR292_4.out)) hb); have GE293 := ge1_ hg GE282; replace HB := nc_ GE282 hb; have NB282_293 := nl_ BK282 hg; have NB293_282 := ng_ BK282 hg; replace BK282 := bK_ BK282 hb; clear hb hg; have hnb32 := NB293_282.out; have hnc32 := NB282_293.out; obtain ⟨hcz33_0, hcz33_1, hcz33_2, hcz33_3, hcz33_4, hfz33_0, hfz33_1, hfz33_2, hfz33_3, hfz33_4⟩ := cf5_ BK293.out) | ((with_reducible refine gate_store (t := 43) (p := 14) rfl ?_); refine store_event (t := 43) (p := 14) (v := ?vo_w34) (w1 := (((((w31.setCell ⟨gb293, 0, none⟩ (.int .i64 ((rd_T43 t288 x51_3).f0))).setCell ⟨gb293, 1, none⟩ (.int .i64 ((rd_T43 t288 x51_3).f1))).setCell ⟨gb293, 2, none⟩ (.int .i64 ((rd_T43 t288 x51_3).f2))).setCell ⟨gb293, 3, none⟩ (.int .i64 ((rd_T43 t288 x51_3).f3))).setCell ⟨gb293, 4, none⟩ (.slice A292_4 ((rd_T43 t288 x51_3).f4).length c292_4))) ?hg ?ho ?hn ?hr ?_; (case ho => rfl); (case hg => rfl); (case hn => rfl); (case hr => first | (go_simp; done) | (go_simp; rfl)); intro w34 hw; have n0_ : Aside0 (Kd.N k43 43 w34 w.heap.size (fun k_ => (w.heap.size ≤ k_) ∧ some k_ ≠ (.slice (some ad292) t288.length co24 : Value).ownBlock ∧ k_ ≠ gb282 ∧ k_ ≠ gb293) u10 x10_3) := ⟨(by rw [hw]; exact (Kd.N_mono (nF_ (Kd.N_mono HO_10.out (fun k_ hk => (⟨hk, hk.2⟩ : _ ∧ k_ ≠ gb293)))) (fun _ hk => ⟨hk.1.1.1, ⟨hk.1.1.2.1, ⟨hk.1.1.2.2, hk.1.2⟩⟩⟩)))⟩; have n1_ : Aside0 (Kd.N k43 43 w34 w.heap.size (fun k_ => (w.heap.size ≤ k_) ∧ some k_ ≠ (u10 : Value).ownBlock ∧ k_ ≠ gb282 ∧ k_ ≠ gb293) (.slice (some ad292) t288.length co24) t288) := ⟨(by rw [hw]; exact (Kd.N_mono (nF_ (Kd.N_mono HO_49.out (fun k_ hk => (⟨hk, hk.2⟩ : _ ∧ k_ ≠ gb293)))) (fun _ hk => ⟨hk.1.1.1, ⟨hk.1.1.2.1, ⟨hk.1.1.2.2, hk.1.2⟩⟩⟩)))⟩; have n2_ : Aside0 (Kd.V Kd.string 9 w34 w.heap.size (fun k_ => (w.heap.size ≤ k_) ∧ some k_ ≠ (u10 : Value).ownBlock ∧ some k_ ≠ (.slice (some ad292) t288.length co24 : Value).ownBlock ∧ k_ ≠ gb282 ∧ k_ ≠ gb293) (.slice A292_4 ((rd_T43 t288 x51_3).f4).length c292_4) ((rd_T43 t288 x51_3).f4)) := ⟨(by rw [hw]; exact (Kd.V_mono (vF_ (Kd.V_mono HL292_4.out (fun k_ hk => (⟨hk, hk.2⟩ : _ ∧ k_ ≠ gb293)))) (fun _ hk => ⟨hk.1.1.1.1, ⟨hk.1.1.1.2.1, ⟨hk.1.1.2, ⟨hk.1.1.1.2.2, hk.1.2⟩⟩⟩⟩)))⟩; have n3_ : Aside0 (w34.heap[gb282]? = some (.cells #[.slice (some ad287) l0_0.length c0_0, .int .i64 a0_1] 24 (0, 0))) := ⟨(by rw [hw]; exact (uf_ BK282 NB282_293.out))⟩; have n4_ : Aside0 (w34.heap[gb293]? = some (.cells #[.int .i64 ((rd_T43 t288 x51_3).f0), .int .i64 ((rd_T43 t288 x51_3).f1), .int .i64 ((rd_T43 t288 x51_3).f2), .int .i64 ((rd_T43 t288 x51_3).f3), .slice A292_4 ((rd_T43 t288 x51_3).f4).length c292_4] 43 (0, 0))) := ⟨(by rw [hw]; exact (up_ BK293))⟩; have n5_ : Aside0 (Below w.heap.size w w34) := ⟨(by rw [hw]; exact (hs2_ GE282.out GE293.out))⟩; clear hw; clear HO_10; clear HO_49; clear HL292_4; clear BK282; clear BK293; clear HB; have HO_10 := n0_; have HO_49 := n1_; have HL292_4 := n2_; have BK282 := n3_; have BK293 := n4_; have HB := n5_; clear n0_ n1_ n2_ n3_ n4_ n5_; obtain ⟨hcz35_0, hcz35_1, hcz35_2, hcz35_3, hcz35_4, hfz35_0, hfz35_1, hfz35_2, hfz35_3, hfz35_4⟩ := cf5_ BK293.out; obtain ⟨Ao36, co36, eo36⟩ := Kd.N_slice HO_10.out; subst eo36) | ((with_reducible refine gate_builtin (b := .append) (xs := #[.tmp 69, .tmp 71]) rfl ?_); (try (refine gate_guard (by rfl) ?_; dsimp only)); at_builtin; refine Kd.N_append k43 (w0 := w) w.heap.size rfl (.tmp 69) (.tmp 71) 48 43 (.agg #[(.int .i64 0), (.int .i64 0), (.int .i64 0), (.int .i64 0), (.slice none 0 0)]) 56 rfl Try.underlying48 info43 rfl (by decide) (by omega) (.slice Ao36 x10_3.length co36) x10_3 (⟨(rd_T43 t288 x51_3).f0, (rd_T43 t288 x51_3).f1, (rd_T43 t288 x51_3).f2, (rd_T43 t288 x51_3).f3, (rd_T43 t288 x51_3).f4⟩ : S43) [.int .i64 ((rd_T43 t288 x51_3).f0), .int .i64 ((rd_T43 t288 x51_3).f1), .int .i64 ((rd_T43 t288 x51_3).f2), .int .i64 ((rd_T43 t288 x51_3).f3), .slice A292_4 ((rd_T43 t288 x51_3).f4).length c292_4] (fun k_ => (w.heap.size ≤ k_) ∧ some k_ ≠ (.slice (some ad292) t288.length co24 : Value).ownBlock ∧ k_ ≠ gb282 ∧ k_ ≠ gb293) (fun k_ => ((fun k_ => (w.heap.size ≤ k_) ∧ some k_ ≠ (.slice (some ad292) t288.length co24 : Value).ownBlock ∧ k_ ≠ gb282 ∧ k_ ≠ gb293)) k_ ∧ some k_ ≠ (.slice Ao36 x10_3.length co36 : Value).ownBlock) rfl rfl ?aP (fun _ hk => hk) ?aF ?aO ?aB ?aS ?aL ?_; (case aP => exact (k43_mkF _ _ (⟨(rd_T43 t288 x51_3).f0, (rd_T43 t288 x51_3).f1, (rd_T43 t288 x51_3).f2, (rd_T43 t288 x51_3).f3, (rd_T43 t288 x51_3).f4⟩ : S43) (Kd.V_reads' (Kd.V_mono (ok' := (fun k_ => ((fun k_ => (w.heap.size ≤ k_) ∧ some k_ ≠ (.slice (some ad292) t288.length co24 : Value).ownBlock ∧ k_ ≠ gb282 ∧ k_ ≠ gb293)) k_ ∧ some k_ ≠ (.slice Ao36 x10_3.length co36 : Value).ownBlock)) (HL292_4.out) (fun k_ hk => ⟨⟨hk.1, ⟨hk.2.2.1, ⟨hk.2.2.2.1, hk.2.2.2.2⟩⟩⟩, hk.2.1⟩))).2.1 (Kd.V_F (Kd.V_mono (ok' := (fun k_ => ((fun k_ => (w.heap.size ≤ k_) ∧ some k_ ≠ (.slice (some ad292) t288.length co24 : Value).ownBlock ∧ k_ ≠ gb282 ∧ k_ ≠ gb293)) k_ ∧ some k_ ≠ (.slice Ao36 x10_3.length co36 : Value).ownBlock)) (HL292_4.out) (fun k_ hk => ⟨⟨hk.1, ⟨hk.2.2.1, ⟨hk.2.2.2.1, hk.2.2.2.2⟩⟩⟩, hk.2.1⟩))))); (case aB => exact (hs2_ GE282.out GE293.out)); (case aF => exact (fun k_ hk => ⟨(Nat.le_trans (below_size (hs2_ GE282.out GE293.out)) hk), Kd.fresh' (Kd.N_lt (nF_ HO_49.out)) k_ hk, Kd.freshB (g := gb282) (o := .cells #[.slice (some ad287) l0_0.length c0_0, .int .i64 a0_1] 24 (0, 0)) (kb_ BK282.out) k_ hk, Kd.freshB (g := gb293) (o := .cells #[.int .i64 ((rd_T43 t288 x51_3).f0), .int .i64 ((rd_T43 t288 x51_3).f1), .int .i64 ((rd_T43 t288 x51_3).f2), .int .i64 ((rd_T43 t288 x51_3).f3), .slice A292_4 ((rd_T43 t288 x51_3).f4).length c292_4] 43 (0, 0)) (kb_ BK293.out) k_ hk⟩)); (case aO => exact (nF_ HO_10.out)); (case aS => exact (below_size (hs2_ GE282.out GE293.out))); (case aL => have := LMc30.out; omega); intro v295 w37 ho hb hg hat; rw [← Ny294.out] at ho; replace HO_49 := Aside0.mk (Kd.N_afterv (ok := (fun k_ => (w.heap.size ≤ k_) ∧ k_ ≠ gb282 ∧ k_ ≠ gb293)) (nF_ (Kd.N_mono HO_49.out (fun _ hk => ⟨⟨hk.1, ⟨hk.2.2.1, hk.2.2.2⟩⟩, hk.2.1⟩))) hg hat); replace BK282 := Aside0.mk (blk_grown (g := gb282) (o := .cells #[.slice (some ad287) l0_0.length c0_0, .int .i64 a0_1] 24 (0, 0)) (kb_ BK282.out) hg (Kd.N_ne HO_10.out BK282.out (by decide))); replace HL292_4 := Aside0.mk (Kd.V_afterv (ok := (fun k_ => (w.heap.size ≤ k_) ∧ some k_ ≠ (.slice (some ad292) t288.length co24 : Value).ownBlock ∧ k_ ≠ gb282 ∧ k_ ≠ gb293)) (vF_ (Kd.V_mono HL292_4.out (fun _ hk => ⟨⟨hk.1, ⟨hk.2.2.1, ⟨hk.2.2.2.1, hk.2.2.2.2⟩⟩⟩, hk.2.1⟩))) hg hat); replace BK293 := Aside0.mk (blk_grown (g := gb293) (o := .cells #[.int .i64 ((rd_T43 t288 x51_3).f0), .int .i64 ((rd_T43 t288 x51_3).f1), .int .i64 ((rd_T43 t288 x51_3).f2), .int .i64 ((rd_T43 t288 x51_3).f3), .slice A292_4 ((rd_T43 t288 x51_3).f4).length c292_4] 43 (0, 0)) (kb_ BK293.out) hg (Kd.N_away HO_10.out (fun _ hk => hk.2.2.2))); replace HB := Aside0.mk (hb); have HO296 := Aside0.mk (ho); clear HO_10; clear ho hb hg hat))
       go_roundg k3
       case measure => have := HJ3.out; have := HK2.out; have := HK3.out; omega
       case rel => exact ⟨(y294), (wrap64 (x51_3 + 1)), sr_, H', ⟨by have := HJ3.out; have := HK2.out; have := HK3.out; omega⟩, ⟨nF_ (Kd.N_mono HO296.out (fun _ hk => ⟨hk.1, ⟨hk.2.1, hk.2.2.1⟩⟩))⟩, ⟨nF_ (Kd.N_mono HO_49.out (fun _ hk => ⟨hk.1.1, ⟨hk.2, hk.1.2.1⟩⟩))⟩, ⟨kb_ BK282.out⟩, ⟨hs2_ GE282.out GE293.out⟩⟩

/-! ### impl_in: function 58 -/
def impl_in.f (a0 : Int) (a1 : Int) (a2 : Int) : Option (Bool) := if a0 ≥ a1 then (some (decide (a0 ≤ a2))) else (some false)
set_option maxHeartbeats 8000000 in
set_option maxRecDepth 100000 in
theorem impl_in.calls (a0 : Int) (a1 : Int) (a2 : Int) (r : Bool) (w : World) (h : impl_in.f a0 a1 a2 = some r) :
  Calls Try.prog 58 #[.int .i64 a0, .int .i64 a1, .int .i64 a2] w fun e w' => e = .returned (.bool r) ∧ Drawn0 w w' := by
 have H : (if a0 ≥ a1 then (some (decide (a0 ≤ a2))) else (some false)) = some r := h
 clear h
 replace H := ite_ H
 obtain ⟨c4, H⟩ | ⟨c4, H⟩ := H
 rotate_left
 ·have c4b0 := dne_ c4
  clear c4
  obtain rfl := Option.some.inj H
  go_enter Try.func58, Try.ntmps58
  go_wp2
  go_ret
  exact ⟨by first | rfl | (simp; done) | (simp [*]; done), dr_⟩
 have c4b0 := dge_ c4
 clear c4
 obtain rfl := Option.some.inj H
 go_enter Try.func58, Try.ntmps58
 go_wp2
 go_ret
 exact ⟨by first | rfl | (simp; done) | (simp [*]; done), dr_⟩

/-! ### impl_Batch_end: function 77 -/
def impl_Batch_end.f (a0_0 : Int) (a0_1 : Int) (a0_2 : Int) (a0_3 : Int) (l0_4 : List ByteArray) : Option (Int) := some (wrap64 (a0_0 + (l0_4.length : Int)))
set_option maxHeartbeats 8000000 in
set_option maxRecDepth 100000 in
theorem impl_Batch_end.calls (a0_0 : Int) (a0_1 : Int) (a0_2 : Int) (a0_3 : Int) (A0_4 : Option Addr) (c0_4 : Nat) (l0_4 : List ByteArray) (r : Int) (w : World) (hr0_4 : Kd.C Kd.string w A0_4 l0_4.length l0_4) (hc0_4 : l0_4.length ≤ c0_4) (h : impl_Batch_end.f a0_0 a0_1 a0_2 a0_3 l0_4 = some r) :
  Calls Try.prog 77 #[.agg #[.int .i64 a0_0, .int .i64 a0_1, .int .i64 a0_2, .int .i64 a0_3, .slice A0_4 l0_4.length c0_4]] w fun e w' => e = .returned (.int .i64 r) ∧ Below w.heap.size w w' := by
 have hu43 := Try.underlying43
 have HR0_4 := Aside0.mk hr0_4
 have HC0_4 := Aside0.mk hc0_4
 clear hr0_4 hc0_4
 have HB := Aside0.mk (Below.refl w.heap.size w)
 have H : (some (wrap64 (a0_0 + (l0_4.length : Int)))) = some r := h
 clear h
 obtain rfl := Option.some.inj H
 go_enter Try.func77, Try.ntmps77
 go_wp2_with (first | ((with_reducible refine gate_dst (N := 1) rfl ?_); refine bq_ (N := 1) #[.int .i64 a0_0, .int .i64 a0_1, .int .i64 a0_2, .int .i64 a0_3, .slice A0_4 l0_4.length c0_4] 43 ?_; intro gb297 hg w2 BK297 hb; have GE297 := ge_ hg; replace HB := nb_ hb; clear hb hg; obtain ⟨hcz3_0, hcz3_1, hcz3_2, hcz3_3, hcz3_4, hfz3_0, hfz3_1, hfz3_2, hfz3_3, hfz3_4⟩ := cf5_ BK297.out))
 go_ret
 exact ⟨er_, hs_ GE297.out⟩

/-! ### impl_put: function 111 -/
def impl_put.l0 : Nat → Int → List Int → Int → Option (ByteArray)
 | 0, _, _, _ => none
 | k + 1, x0, x5, x6 => if x6 ≥ 0 then (if 0 ≤ x6 then (if x6 < (x5.length : Int) then (impl_put.l0 k (x0 / 256) (x5.set (x6 : Int).toNat ((x0) % 256)) (wrap64 (x6 - 1))) else (none)) else (none)) else (some (strOfNums x5))
def impl_put.f (k : Nat) (a0 : Int) (a1 : Int) : Option (ByteArray) := if 0 ≤ a1 then (if (a1 : Int).toNat ≤ 281474976710656 then (impl_put.l0 k a0 (List.replicate (a1 : Int).toNat 0) (wrap64 (a1 - 1))) else (none)) else (none)
theorem impl_put.mono_l : ∀ k, (∀ y0 y1 y2, LeO (impl_put.l0 k y0 y1 y2) (impl_put.l0 (k + 1) y0 y1 y2))
 | 0 => fun _ _ _ r h => by simp [impl_put.l0] at h
 | k + 1 => by
  have ih0 := impl_put.mono_l k
  ·intro y0 y1 y2
   unfold impl_put.l0
   repeat' first
   | (with_reducible first | apply ih0 | exact LeO.refl _ | exact LeO.none _ | refine LeO.ite ?_ ?_ | refine LeO.bind ?_ (fun _ => ?_))
theorem impl_put.mono : ∀ a0 a1 k, LeO (impl_put.f k a0 a1) (impl_put.f (k + 1) a0 a1) := by
 intro a0 a1 k
 have ih0 := impl_put.mono_l k
 unfold impl_put.f
 repeat' first
   | (with_reducible first | apply ih0 | exact LeO.refl _ | exact LeO.none _ | refine LeO.ite ?_ ?_ | refine LeO.bind ?_ (fun _ => ?_))
set_option maxHeartbeats 8000000 in
set_option maxRecDepth 100000 in
theorem impl_put.calls (k : Nat) (a0 : Int) (a1 : Int) (r : ByteArray) (w : World) (h : impl_put.f k a0 a1 = some r) :
  Calls Try.prog 111 #[.int .i64 a0, .int .i64 a1] w fun e w' => e = .returned (.string r) ∧ Below w.heap.size w w' := by
 have HB := Aside0.mk (Below.refl w.heap.size w)
 have H : (if 0 ≤ a1 then (if (a1 : Int).toNat ≤ 281474976710656 then (impl_put.l0 k a0 (List.replicate (a1 : Int).toNat 0) (wrap64 (a1 - 1))) else (none)) else (none)) = some r := h
 clear h
 replace H := ifs_ H
 obtain ⟨c3, H⟩ := H
 have c3b0 := eq_true c3
 have c3b1 := decide_eq_true c3
 clear c3
 replace H := ifs_ H
 obtain ⟨c4, H⟩ := H
 have c4b0 := eq_true c4
 have c4b1 := decide_eq_true c4
 clear c4
 obtain ⟨y298, hy298⟩ : ∃ y_ : List Int, y_ = (List.replicate (a1 : Int).toNat 0) := ⟨_, rfl⟩
 replace H : (impl_put.l0 k a0 y298 (wrap64 (a1 - 1))) = some r := by first | (rw [hy298]; with_reducible exact H) | (have H2_ := (Option.bind_some _ _).symm.trans H; rw [hy298]; with_reducible exact H2_) | (have H2_ := (Option.bind_some _ _).symm.trans H; with_reducible exact H2_) | with_reducible exact H | (rw [hy298]; exact H) | exact H
 have Ny298 := Aside0.mk hy298
 clear hy298
 have H' := Aside0.mk H
 clear H
 go_enter Try.func111, Try.ntmps111
 go_wp2_with (first | ((with_reducible refine gate_dst (N := 8) rfl ?_); refine Kd.R_make (Kd.int .u8) _ 5 rfl (N := 8) rfl 60 _ _ rfl a1 rfl rfl Try.underlying60 (.int .u8 0) 1 info5 rfl (by decide) (by omega) 0 (ok := fun _ => True) (okp := fun _ => True) rfl (fun _ hk => hk) trivial (oa_) (Nat.le_trans (Nat.mul_le_mul_right _ (oa_ : a1.toNat ≤ 281474976710656)) (by omega)) (Below.refl _ _) (Nat.le_refl _) ?_; intro v299 w5 ho6 hb hg_ hnew_; clear hg_ hnew_; (first | rw [← Ny298.out] at ho6 | (simp only [Int.reduceToNat] at ho6; rw [← Ny298.out] at ho6)); have HO300 := Aside0.mk (Kd.R_lower ho6 (below_size (hb_))); replace HB := nb_ hb; clear hb ho6))
 go_loopg [0, 6] k (fun kq v0 v6 w' => ∃ (x0_1 : Int) (x5_1 : List Int) (x6_1 : Int), v0 = .int .i64 x0_1 ∧ v6 = .int .i64 x6_1 ∧ Aside0 (impl_put.l0 kq x0_1 x5_1 x6_1 = some r) ∧ Aside0 (kq ≤ k) ∧ Aside0 (Kd.R (Kd.int .u8) 5 w' w.heap.size (fun _ => True) v299 x5_1) ∧ Aside0 (Below w.heap.size w w'))
 case atStart => exact ⟨(a0), (y298), (wrap64 (a1 - 1)), sr_, sr_, H', ⟨Nat.le_refl _⟩, ⟨kr_ HO300.out⟩, ⟨hb_⟩⟩
 case round =>
  clear H'
  try clear c3
  try clear c3b0
  try clear c3b1
  try clear c4
  try clear c4b0
  try clear c4b1
  obtain ⟨x0_1, x5_1, x6_1, rfl, rfl, HA, HK1, HO_5, HB⟩ := hrel
  cases gk with
  | zero => exact absurd HA.out (by simp [impl_put.l0])
  | succ k1 =>
   have H := HA.out
   clear HA
   simp only [impl_put.l0] at H
   replace H := ite_ H
   obtain ⟨c7, H⟩ | ⟨c7, H⟩ := H
   rotate_left
   ·have c7b0 := dne_ c7
    clear c7
    obtain rfl := Option.some.inj H
    have hcv13 := own_string (P := Try.prog) Try.underlying60 Try.underlying5 Try.underlying9 (Kd.own_of_R HO_5.out)
    go_wp2
    go_ret
    exact ⟨er_, hb_⟩
   have c7b0 := dge_ c7
   clear c7
   replace H := ifs_ H
   obtain ⟨c8, H⟩ := H
   have c8b0 := decide_eq_true c8
   clear c8
   replace H := ifs_ H
   obtain ⟨c9, H⟩ := H
   have c9b0 := decide_eq_true c9
   clear c9
   obtain ⟨y301, hy301⟩ : ∃ y_ : List Int, y_ = (x5_1.set (x6_1 : Int).toNat ((x0_1) % 256)) := ⟨_, rfl⟩
   replace H : (impl_put.l0 k1 (x0_1 / 256) y301 (wrap64 (x6_1 - 1))) = some r := by first | (rw [hy301]; with_reducible exact H) | (have H2_ := (Option.bind_some _ _).symm.trans H; rw [hy301]; with_reducible exact H2_) | (have H2_ := (Option.bind_some _ _).symm.trans H; with_reducible exact H2_) | with_reducible exact H | (rw [hy301]; exact H) | exact H
   have Ny301 := Aside0.mk hy301
   clear hy301
   have H' := Aside0.mk H
   clear H
   have p10 : 0 ≤ (x6_1 : Int) := oa_
   have q10 : (x6_1 : Int) < ((x5_1.length : Int) : Int) := oa_
   obtain ⟨go10, co10, eo10, gb10, gl10, cl10, HG10⟩ := Kd.R_form HO_5.out (by omega)
   (first | cases eo10 | (injection eo10 with ea_ en_ ec_; (first | subst ea_ | (injection ea_ with ea_; subst ea_)); subst ec_; clear en_))
   have GB10 := Aside0.mk gb10
   have GG10 := Aside0.mk HG10
   clear gb10 gl10 HG10
   obtain ⟨hx10_0, hf10_0⟩ := Kd.R_celln 0 HO_5.out (x6_1 : Int) p10 q10
   replace p10 := eq_true p10
   replace q10 := eq_true q10
   have HP11 := Kd.R_putg HO_5.out (x6_1 : Int) ((x0_1) % 256)
   go_wp2_with (first | ((with_reducible refine gate_store (t := 5) (p := 19) rfl ?_); refine store_event (t := 5) (p := 19) (v := ?vo_w12) (w1 := (wr.setCell ⟨go10, (x6_1 : Int).toNat, none⟩ (.int .u8 ((x0_1) % 256)))) ?hg ?ho ?hn ?hr ?_; (case ho => rfl); (case hg => rfl); (case hn => rfl); (case hr => first | (go_simp; done) | (go_simp; rfl)); intro w12 hw; have hg : wr.grownBy w12 (some go10) := (by rw [hw]; exact HP11.2); have hp_ : Kd.R (Kd.int .u8) 5 w12 w.heap.size (fun _ => True) (.slice (some ⟨go10, 0, none⟩) x5_1.length co10) y301 := (by rw [hw, Ny301.out]; exact HP11.1); clear HP11; replace HO_5 := Aside0.mk (hp_); replace HB := Aside0.mk ((by rw [hw]; exact below_set (HB.out) GB10.out : Below w.heap.size w w12)); clear hg hw hp_))
   go_roundg k1
   case measure => have := HK1.out; omega
   case rel => exact ⟨(x0_1 / 256), (y301), (wrap64 (x6_1 - 1)), sr_, sr_, H', ⟨by have := HK1.out; omega⟩, ⟨kr_ HO_5.out⟩, ⟨hb_⟩⟩

/-! ### impl_sumOf: function 112 -/
mutual
def impl_sumOf.l0 : Nat → ByteArray → Int → Int → Int → Option (Int)
 | 0, _, _, _, _ => none
 | k + 1, x0, x3, x7, x8 => if x8 < x7 then (if 0 ≤ x8 then (if x8 < (x0.size : Int) then (impl_sumOf.l1 k x0 (Go.bits .xor .i64 x3 (wrap64 ((wrap64 (bt x0 x8)) * 256))) x7 x8 0) else (none)) else (none)) else (some x3)
def impl_sumOf.l1 : Nat → ByteArray → Int → Int → Int → Int → Option (Int)
 | 0, _, _, _, _, _ => none
 | k + 1, x0, x3, x7, x8, x18 => if x18 < 8 then (if (Go.bits .and .i64 x3 32768) = 0 then (impl_sumOf.l1 k x0 (Go.bits .and .i64 (wrap64 (x3 * 2)) 65535) x7 x8 (wrap64 (x18 + 1))) else (impl_sumOf.l1 k x0 (Go.bits .xor .i64 (Go.bits .and .i64 (wrap64 (x3 * 2)) 65535) 4129) x7 x8 (wrap64 (x18 + 1)))) else (impl_sumOf.l0 k x0 x3 x7 (wrap64 (x8 + 1)))
end
def impl_sumOf.f (k : Nat) (a0 : ByteArray) : Option (Int) := impl_sumOf.l0 k a0 65535 (a0.size : Int) 0
theorem impl_sumOf.mono_l : ∀ k, (∀ y0 y1 y2 y3, LeO (impl_sumOf.l0 k y0 y1 y2 y3) (impl_sumOf.l0 (k + 1) y0 y1 y2 y3)) ∧ (∀ y0 y1 y2 y3 y4, LeO (impl_sumOf.l1 k y0 y1 y2 y3 y4) (impl_sumOf.l1 (k + 1) y0 y1 y2 y3 y4))
 | 0 => ⟨fun _ _ _ _ r h => by simp [impl_sumOf.l0] at h, fun _ _ _ _ _ r h => by simp [impl_sumOf.l1] at h⟩
 | k + 1 => by
  obtain ⟨ih0, ih1⟩ := impl_sumOf.mono_l k
  refine ⟨?_, ?_⟩
  all_goals intros; first | unfold impl_sumOf.l0 | unfold impl_sumOf.l1
  all_goals repeat' first | (with_reducible first | apply ih0 | apply ih1 | exact LeO.refl _ | exact LeO.none _ | refine LeO.ite ?_ ?_ | refine LeO.bind ?_ (fun _ => ?_))
theorem impl_sumOf.mono : ∀ a0 k, LeO (impl_sumOf.f k a0) (impl_sumOf.f (k + 1) a0) := by
 intro a0 k
 obtain ⟨ih0, ih1⟩ := impl_sumOf.mono_l k
 unfold impl_sumOf.f
 repeat' first
   | (with_reducible first | apply ih0 | apply ih1 | exact LeO.refl _ | exact LeO.none _ | refine LeO.ite ?_ ?_ | refine LeO.bind ?_ (fun _ => ?_))
set_option maxHeartbeats 8000000 in
set_option maxRecDepth 100000 in
theorem impl_sumOf.calls (k : Nat) (a0 : ByteArray) (r : Int) (w : World) (h : impl_sumOf.f k a0 = some r) :
  Calls Try.prog 112 #[.string a0] w fun e w' => e = .returned (.int .i64 r) ∧ Drawn0 w w' := by
 have H : (impl_sumOf.l0 k a0 65535 (a0.size : Int) 0) = some r := h
 clear h
 have H' := Aside0.mk H
 clear H
 go_enter Try.func112, Try.ntmps112
 go_wp2
 go_loopg [3, 8] k (fun kq v3 v8 w' => ∃ (x3_1 : Int) (x8_1 : Int), v3 = .int .i64 x3_1 ∧ v8 = .int .i64 x8_1 ∧ Aside0 (impl_sumOf.l0 kq a0 x3_1 (a0.size : Int) x8_1 = some r) ∧ Aside0 (kq ≤ k) ∧ Drawn0 w w')
 case atStart => exact ⟨(65535), (0), sr_, sr_, H', ⟨Nat.le_refl _⟩, dr_⟩
 case round =>
  clear H'
  obtain ⟨x3_1, x8_1, rfl, rfl, HA, HK1, ⟨m1, rfl⟩⟩ := hrel
  cases gk with
  | zero => exact absurd HA.out (by simp [impl_sumOf.l0])
  | succ k1 =>
   have H := HA.out
   clear HA
   simp only [impl_sumOf.l0] at H
   replace H := ite_ H
   obtain ⟨c2, H⟩ | ⟨c2, H⟩ := H
   rotate_left
   ·have c2b0 := decide_eq_false c2
    clear c2
    obtain rfl := Option.some.inj H
    go_wp2
    go_ret
    exact ⟨by first | rfl | (simp; done) | (simp [*]; done), dr_⟩
   have c2b0 := decide_eq_true c2
   clear c2
   replace H := ifs_ H
   obtain ⟨c3, H⟩ := H
   have c3b0 := decide_eq_true c3
   clear c3
   replace H := ifs_ H
   obtain ⟨c4, H⟩ := H
   have c4b0 := decide_eq_true c4
   clear c4
   have H' := Aside0.mk H
   clear H
   have p5 : 0 ≤ (x8_1 : Int) := oa_
   have q5 : x8_1 < (a0.size : Int) := oa_
   have hx5 := bt_at a0 x8_1
   replace p5 := eq_true p5
   replace q5 := eq_true q5
   go_wp2
   go_loopg [3, 18] k1 (fun kq v3 v18 w' => ∃ (x3_2 : Int) (x18_2 : Int), v3 = .int .i64 x3_2 ∧ v18 = .int .i64 x18_2 ∧ Aside0 (impl_sumOf.l1 kq a0 x3_2 (a0.size : Int) x8_1 x18_2 = some r) ∧ Aside0 (kq ≤ k1) ∧ Drawn0 w w')
   case atStart => exact ⟨(Go.bits .xor .i64 x3_1 (wrap64 ((wrap64 (bt a0 x8_1)) * 256))), (0), sr_, sr_, H', ⟨Nat.le_refl _⟩, dr_⟩
   case round =>
    clear H'
    try clear c2
    try clear c2b0
    try clear c3
    try clear c3b0
    try clear c4
    try clear c4b0
    try clear p5
    try clear q5
    try clear hx5
    try clear p5
    try clear q5
    obtain ⟨x3_2, x18_2, rfl, rfl, HA, HK2, ⟨m2, rfl⟩⟩ := hrel
    cases gk with
    | zero => exact absurd HA.out (by simp [impl_sumOf.l1])
    | succ k2 =>
     have H := HA.out
     clear HA
     simp only [impl_sumOf.l1] at H
     replace H := ite_ H
     obtain ⟨c6, H⟩ | ⟨c6, H⟩ := H
     rotate_left
     ·have c6b0 := decide_eq_false c6
      clear c6
      have H' := Aside0.mk H
      clear H
      go_wp2
      go_roundg k2
      case measure => have := HK1.out; have := HK2.out; omega
      case rel => exact ⟨(x3_2), (wrap64 (x8_1 + 1)), sr_, sr_, H', ⟨by have := HK1.out; have := HK2.out; omega⟩, dr_⟩
     have c6b0 := decide_eq_true c6
     clear c6
     replace H := ite_ H
     obtain ⟨c7, H⟩ | ⟨c7, H⟩ := H
     ·have c7b0 : ((Go.bits .and .i64 x3_2 32768) == 0) = true := beq_iff_eq.mpr c7
      have c7b1 : ((Go.bits .and .i64 x3_2 32768) != 0) = false := bne_eq_false_iff_eq.mpr c7
      clear c7
      have H' := Aside0.mk H
      clear H
      go_wp2
      go_roundg k2
      case measure => have := HK1.out; have := HK2.out; omega
      case rel => exact ⟨(Go.bits .and .i64 (wrap64 (x3_2 * 2)) 65535), (wrap64 (x18_2 + 1)), sr_, sr_, H', ⟨by have := HK1.out; have := HK2.out; omega⟩, dr_⟩
     have c7b0 : ((Go.bits .and .i64 x3_2 32768) == 0) = false := beq_eq_false_iff_ne.mpr c7
     have c7b1 : ((Go.bits .and .i64 x3_2 32768) != 0) = true := bne_iff_ne.mpr c7
     have H' := Aside0.mk H
     clear H
     go_wp2
     go_roundg k2
     case measure => have := HK1.out; have := HK2.out; omega
     case rel => exact ⟨(Go.bits .xor .i64 (Go.bits .and .i64 (wrap64 (x3_2 * 2)) 65535) 4129), (wrap64 (x18_2 + 1)), sr_, sr_, H', ⟨by have := HK1.out; have := HK2.out; omega⟩, dr_⟩
end Go.Proofs.Ytffpeklekkpbjaa.QFnExactReadFrom
