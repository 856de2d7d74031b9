/- Functions that one statement reaches: of each a plain function, and the proof that calls come to it. Conditions: those that each contract names. Written by a program of this repository. -/
import Derived.Test.YtffpeklekkpbjaaVFindBatcha
import Derived.Test.YtffpeklekkpbjaaQFnExactFindBatchx0
import Derived.Test.YtffpeklekkpbjaaQFnExactFindBatchx11
namespace Go.Proofs.Ytffpeklekkpbjaa.QFnExactFindBatch
open Go.RowKit Go.Proofs.YtffpeklekkpbjaaW.PrintWords Go.Proofs.YtffpeklekkpbjaaW.PrintLast Go.Proofs.YtffpeklekkpbjaaW.PrintMore
attribute [local go_sem] max2_int min2_int max_two min_two max_three min_three max_four min_four Go.Proofs.YtffpeklekkpbjaaW.PrintMore2.isSome_setCell   -- for this text's walks alone
set_option linter.unusedVariables false
set_option linter.unusedSimpArgs false

/-! ### spec_l2There: function 68 -/
def spec_l2There.f (k : Nat) (l0_0 : List (S65)) (a0_1 : Int) (a1 : Int) : Option (Bool) := (spec_GoodStore.f k l0_0 a0_1).bind fun t257 => (if t257 = true then (if 0 < (l0_0.length : Int) then (if a1 ≥ ((rd_T65 l0_0 0).f0) then (some (decide (a1 < a0_1))) else (some false)) else (none)) else (some false))
theorem spec_l2There.mono : ∀ a0 a1 a2 k, LeO (spec_l2There.f k a0 a1 a2) (spec_l2There.f (k + 1) a0 a1 a2) := by
 intro a0 a1 a2 k
 unfold spec_l2There.f
 repeat' first
   | (with_reducible first | apply spec_GoodStore.mono | exact LeO.refl _ | exact LeO.none _ | refine LeO.ite ?_ ?_ | refine LeO.bind ?_ (fun _ => ?_))
set_option maxHeartbeats 8000000 in
set_option maxRecDepth 100000 in
theorem spec_l2There.calls (k : Nat) (A0_0 : Option Addr) (c0_0 : Nat) (l0_0 : List (S65)) (a0_1 : Int) (a1 : Int) (r : Bool) (w : World) (hr0_0 : Kd.C k65 w A0_0 l0_0.length l0_0) (hc0_0 : l0_0.length ≤ c0_0) (h : spec_l2There.f k l0_0 a0_1 a1 = some r) :
  Calls Try.prog 68 #[.agg #[.slice A0_0 l0_0.length c0_0, .int .i64 a0_1], .int .i64 a1] w fun e w' => e = .returned (.bool r) ∧ Below w.heap.size w w' := by
 have hu24 := Try.underlying24
 have HR0_0 := Aside0.mk hr0_0
 have HC0_0 := Aside0.mk hc0_0
 clear hr0_0 hc0_0
 have HB := Aside0.mk (Below.refl w.heap.size w)
 have H : ((spec_GoodStore.f k l0_0 a0_1).bind fun t257 => (if t257 = true then (if 0 < (l0_0.length : Int) then (if a1 ≥ ((rd_T65 l0_0 0).f0) then (some (decide (a1 < a0_1))) else (some false)) else (none)) else (some false))) = some r := h
 clear h
 replace H := bnd_ H
 obtain ⟨t257, A3, H⟩ := H
 replace H := ifb_ H
 obtain ⟨rfl, H⟩ | ⟨rfl, H⟩ := H
 rotate_left
 ·obtain rfl := Option.some.inj H
  go_enter Try.func68, Try.ntmps68
  go_wp2_with (first | ((with_reducible refine gate_dst (N := 2) rfl ?_); refine bq_ (N := 2) #[.slice A0_0 l0_0.length c0_0, .int .i64 a0_1] 24 ?_; intro gb256 hg w15 BK256 hb; have GE256 := ge_ hg; replace HB := nb_ hb; clear hb hg; obtain ⟨hcz16_0, hcz16_1, hfz16_0, hfz16_1⟩ := cf2_ BK256.out) | ((with_reducible refine gate_callee (f := 20) rfl ?_); refine gl_ 6 Try.func20 #[.agg #[.slice A0_0 l0_0.length c0_0, .int .i64 a0_1]] rfl ma_ ?_; (with_reducible refine (spec_GoodStore.calls k _ _ l0_0 a0_1 false _ ?side1 ?side2 A3.out).mono ?_); (case side1 => exact cs_ ((Kd.C_below HR0_0.out HB.out))); (case side2 => exact HC0_0.out); rintro e w17 ⟨rfl, hb⟩; refine ⟨_, rfl, ?_⟩; replace BK256 := bK_ BK256 hb; replace HB := nc_ GE256 hb; (try clear hb); (try clear hb2); (try clear hk); (try clear hi)))
  go_ret
  exact ⟨er_, hs_ GE256.out⟩
 replace H := ifs_ H
 obtain ⟨c5, H⟩ := H
 have c5b0 := decide_eq_true c5
 have c5b1 : decide (0 < l0_0.length) = true := decide_eq_true (by omega)
 clear c5
 replace H := ite_ H
 obtain ⟨c6, H⟩ | ⟨c6, H⟩ := H
 ·have c6b0 := dge_ c6
  clear c6
  obtain rfl := Option.some.inj H
  go_enter Try.func68, Try.ntmps68
  go_wp2_with (first | ((with_reducible refine gate_dst (N := 2) rfl ?_); refine bq_ (N := 2) #[.slice A0_0 l0_0.length c0_0, .int .i64 a0_1] 24 ?_; intro gb256 hg w7 BK256 hb; have GE256 := ge_ hg; replace HB := nb_ hb; clear hb hg; obtain ⟨hcz8_0, hcz8_1, hfz8_0, hfz8_1⟩ := cf2_ BK256.out) | ((with_reducible refine gate_callee (f := 20) rfl ?_); refine gl_ 6 Try.func20 #[.agg #[.slice A0_0 l0_0.length c0_0, .int .i64 a0_1]] rfl ma_ ?_; (with_reducible refine (spec_GoodStore.calls k _ _ l0_0 a0_1 true _ ?side1 ?side2 A3.out).mono ?_); (case side1 => exact cs_ ((Kd.C_below HR0_0.out HB.out))); (case side2 => exact HC0_0.out); rintro e w9 ⟨rfl, hb⟩; refine ⟨_, rfl, ?_⟩; replace BK256 := bK_ BK256 hb; replace HB := nc_ GE256 hb; (try clear hb); (try clear hb2); (try clear hk); (try clear hi); obtain ⟨hcz10_0, hcz10_1, hfz10_0, hfz10_1⟩ := cf2_ BK256.out; have p258 : 0 ≤ (0 : Int) := (by omega); have q258 : 0 < (l0_0.length : Int) := oa_; obtain ⟨ad258, A258_2, c258_2, e258, hx258_0, hx258_1, hx258_2, hl258_2, hi258_2⟩ := at_T65 HR0_0.out 0 p258 q258; cases e258; have qi258 : (0 < l0_0.length) = True := eq_true (by omega); (try rw [show ((0 : Int)).toNat = 0 from rfl] at hx258_0); (try rw [show 0 * 3 = 0 from rfl] at hx258_0); (try rw [Addr.add_zero'] at hx258_0); (try rw [show ((0 : Int)).toNat = 0 from rfl] at hx258_1); (try rw [show 0 * 3 = 0 from rfl] at hx258_1); (try rw [Addr.add_zero'] at hx258_1); (try rw [show ((0 : Int)).toNat = 0 from rfl] at hx258_2); (try rw [show 0 * 3 = 0 from rfl] at hx258_2); (try rw [Addr.add_zero'] at hx258_2); replace hx258_0 := pc_ HB.out hx258_0; replace hx258_1 := pc_ HB.out hx258_1; replace hx258_2 := pc_ HB.out hx258_2; have HR258_2 := Aside0.mk hi258_2; have HC258_2 := Aside0.mk hl258_2; clear hi258_2 hl258_2; replace p258 := eq_true p258; replace q258 := eq_true q258))
  go_ret
  exact ⟨er_, hs_ GE256.out⟩
 have c6b0 := dne_ c6
 clear c6
 obtain rfl := Option.some.inj H
 go_enter Try.func68, Try.ntmps68
 go_wp2_with (first | ((with_reducible refine gate_dst (N := 2) rfl ?_); refine bq_ (N := 2) #[.slice A0_0 l0_0.length c0_0, .int .i64 a0_1] 24 ?_; intro gb256 hg w11 BK256 hb; have GE256 := ge_ hg; replace HB := nb_ hb; clear hb hg; obtain ⟨hcz12_0, hcz12_1, hfz12_0, hfz12_1⟩ := cf2_ BK256.out) | ((with_reducible refine gate_callee (f := 20) rfl ?_); refine gl_ 6 Try.func20 #[.agg #[.slice A0_0 l0_0.length c0_0, .int .i64 a0_1]] rfl ma_ ?_; (with_reducible refine (spec_GoodStore.calls k _ _ l0_0 a0_1 true _ ?side1 ?side2 A3.out).mono ?_); (case side1 => exact cs_ ((Kd.C_below HR0_0.out HB.out))); (case side2 => exact HC0_0.out); rintro e w13 ⟨rfl, hb⟩; refine ⟨_, rfl, ?_⟩; replace BK256 := bK_ BK256 hb; replace HB := nc_ GE256 hb; (try clear hb); (try clear hb2); (try clear hk); (try clear hi); obtain ⟨hcz14_0, hcz14_1, hfz14_0, hfz14_1⟩ := cf2_ BK256.out; have p258 : 0 ≤ (0 : Int) := (by omega); have q258 : 0 < (l0_0.length : Int) := oa_; obtain ⟨ad258, A258_2, c258_2, e258, hx258_0, hx258_1, hx258_2, hl258_2, hi258_2⟩ := at_T65 HR0_0.out 0 p258 q258; cases e258; have qi258 : (0 < l0_0.length) = True := eq_true (by omega); (try rw [show ((0 : Int)).toNat = 0 from rfl] at hx258_0); (try rw [show 0 * 3 = 0 from rfl] at hx258_0); (try rw [Addr.add_zero'] at hx258_0); (try rw [show ((0 : Int)).toNat = 0 from rfl] at hx258_1); (try rw [show 0 * 3 = 0 from rfl] at hx258_1); (try rw [Addr.add_zero'] at hx258_1); (try rw [show ((0 : Int)).toNat = 0 from rfl] at hx258_2); (try rw [show 0 * 3 = 0 from rfl] at hx258_2); (try rw [Addr.add_zero'] at hx258_2); replace hx258_0 := pc_ HB.out hx258_0; replace hx258_1 := pc_ HB.out hx258_1; replace hx258_2 := pc_ HB.out hx258_2; have HR258_2 := Aside0.mk hi258_2; have HC258_2 := Aside0.mk hl258_2; clear hi258_2 hl258_2; replace p258 := eq_true p258; replace q258 := eq_true q258))
 go_ret
 exact ⟨er_, hs_ GE256.out⟩

/-! ### spec_l2Seek: function 69 -/
mutual
def spec_l2Seek.j1 : Nat → Int → Int → List (S65) → Int → Option (Int × Int)
 | 0, _, _, _, _ => none
 | k + 1, x1, x6, x260000, x260001 => if 0 ≤ x6 then (if x6 < (x260000.length : Int) then (spec_l2Seek.l1 k x1 x6 0 ((rd_T65 x260000 x6).f2) (((rd_T65 x260000 x6).f2).length : Int) 0) else (none)) else (none)
def spec_l2Seek.l1 : Nat → Int → Int → Int → List (S89) → Int → Int → Option (Int × Int)
 | 0, _, _, _, _, _, _ => none
 | k + 1, x1, x6, x7, x34, x35, x36 => if x36 < x35 then (if 0 ≤ x36 then (if x36 < (x34.length : Int) then (if ((rd_T89 x34 x36).f0) ≤ x1 then (spec_l2Seek.l1 k x1 x6 ((rd_T89 x34 x36).f1) x34 x35 (wrap64 (x36 + 1))) else (spec_l2Seek.l1 k x1 x6 x7 x34 x35 (wrap64 (x36 + 1)))) else (none)) else (none)) else (some (x6, x7))
def spec_l2Seek.l0 : Nat → Int → Int → List (S65) → Int → Option (Int × Int)
 | 0, _, _, _, _ => none
 | k + 1, x1, x6, x260000, x260001 => if (wrap64 (x6 + 1)) < (x260000.length : Int) then (if 0 ≤ (wrap64 (x6 + 1)) then (if ((rd_T65 x260000 (wrap64 (x6 + 1))).f0) ≤ x1 then (spec_l2Seek.l0 k x1 (wrap64 (x6 + 1)) x260000 x260001) else (spec_l2Seek.j1 k x1 x6 x260000 x260001)) else (none)) else (spec_l2Seek.j1 k x1 x6 x260000 x260001)
end
def spec_l2Seek.f (k : Nat) (l0_0 : List (S65)) (a0_1 : Int) (a1 : Int) : Option (Int × Int) := spec_l2Seek.l0 k a1 0 l0_0 a0_1
theorem spec_l2Seek.mono_l : ∀ k, (∀ y0 y1 y2 y3, LeO (spec_l2Seek.j1 k y0 y1 y2 y3) (spec_l2Seek.j1 (k + 1) y0 y1 y2 y3)) ∧ (∀ y0 y1 y2 y3 y4 y5, LeO (spec_l2Seek.l1 k y0 y1 y2 y3 y4 y5) (spec_l2Seek.l1 (k + 1) y0 y1 y2 y3 y4 y5)) ∧ (∀ y0 y1 y2 y3, LeO (spec_l2Seek.l0 k y0 y1 y2 y3) (spec_l2Seek.l0 (k + 1) y0 y1 y2 y3))
 | 0 => ⟨fun _ _ _ _ r h => by simp [spec_l2Seek.j1] at h, fun _ _ _ _ _ _ r h => by simp [spec_l2Seek.l1] at h, fun _ _ _ _ r h => by simp [spec_l2Seek.l0] at h⟩
 | k + 1 => by
  obtain ⟨ih0, ih1, ih2⟩ := spec_l2Seek.mono_l k
  refine ⟨?_, ?_, ?_⟩
  all_goals intros; first | unfold spec_l2Seek.j1 | unfold spec_l2Seek.l1 | unfold spec_l2Seek.l0
  all_goals repeat' first | (with_reducible first | apply ih0 | apply ih1 | apply ih2 | exact LeO.refl _ | exact LeO.none _ | refine LeO.ite ?_ ?_ | refine LeO.bind ?_ (fun _ => ?_))
theorem spec_l2Seek.mono : ∀ a0 a1 a2 k, LeO (spec_l2Seek.f k a0 a1 a2) (spec_l2Seek.f (k + 1) a0 a1 a2) := by
 intro a0 a1 a2 k
 obtain ⟨ih0, ih1, ih2⟩ := spec_l2Seek.mono_l k
 unfold spec_l2Seek.f
 repeat' first
   | (with_reducible first | apply ih0 | apply ih1 | apply ih2 | exact LeO.refl _ | exact LeO.none _ | refine LeO.ite ?_ ?_ | refine LeO.bind ?_ (fun _ => ?_))
set_option maxHeartbeats 8000000 in
set_option maxRecDepth 100000 in
theorem spec_l2Seek.calls (k : Nat) (A0_0 : Option Addr) (c0_0 : Nat) (l0_0 : List (S65)) (a0_1 : Int) (a1 : Int) (r1 : Int) (r2 : Int) (w : World) (hr0_0 : Kd.C k65 w A0_0 l0_0.length l0_0) (hc0_0 : l0_0.length ≤ c0_0) (h : spec_l2Seek.f k l0_0 a0_1 a1 = some (r1, r2)) :
  Calls Try.prog 69 #[.agg #[.slice A0_0 l0_0.length c0_0, .int .i64 a0_1], .int .i64 a1] w fun e w' => e = .returned (.tuple #[.int .i64 r1, .int .i64 r2]) ∧ Below w.heap.size w w' := by
 have hu24 := Try.underlying24
 have hu89 := Try.underlying89
 have HR0_0 := Aside0.mk hr0_0
 have HC0_0 := Aside0.mk hc0_0
 clear hr0_0 hc0_0
 have HB := Aside0.mk (Below.refl w.heap.size w)
 have H : (spec_l2Seek.l0 k a1 0 l0_0 a0_1) = some (r1, r2) := h
 clear h
 have HC3 := Aside0.mk H
 clear H
 go_enter Try.func69, Try.ntmps69
 go_upto_block 0 with (first | ((with_reducible refine gate_dst (N := 2) rfl ?_); refine bq_ (N := 2) #[.slice A0_0 l0_0.length c0_0, .int .i64 a0_1] 24 ?_; intro gb259 hg w4 BK259 hb; have GE259 := ge_ hg; replace HB := nb_ hb; clear hb hg))
 (try simp only [Act.put, List.setIfInBounds_toArray, List.set_cons_zero, List.set_cons_succ])
 go_cut [6] (fun v6 wc => ∃ (kq : Nat) (x6_2 : Int), v6 = .int .i64 x6_2 ∧ Aside0 (spec_l2Seek.j1 kq a1 x6_2 l0_0 a0_1 = some (r1, r2)) ∧ Aside0 (kq ≤ k) ∧ Aside0 (wc.heap[gb259]? = some (.cells #[(.slice A0_0 l0_0.length c0_0), .int .i64 a0_1] 24 (0, 0))) ∧ Aside0 (Below w.heap.size w wc))
 case first =>
  have H := HC3.out
  clear HC3
  have H' := Aside0.mk H
  clear H
  go_wp2
  go_loopg [6] k (fun kq v6 w' => ∃ (x6_1 : Int), v6 = .int .i64 x6_1 ∧ Aside0 (spec_l2Seek.l0 kq a1 x6_1 l0_0 a0_1 = some (r1, r2)) ∧ Aside0 (kq ≤ k) ∧ Aside0 (w'.heap[gb259]? = some (.cells #[(.slice A0_0 l0_0.length c0_0), .int .i64 a0_1] 24 (0, 0))) ∧ Aside0 (Below w.heap.size w w'))
  case atStart => exact ⟨(0), sr_, H', ⟨Nat.le_refl _⟩, ⟨kb_ BK259.out⟩, ⟨hs_ GE259.out⟩⟩
  case round =>
   clear H'
   obtain ⟨x6_1, rfl, HA, HK1, BK259, HB⟩ := hrel
   cases gk with
   | zero => exact absurd HA.out (by simp [spec_l2Seek.l0])
   | succ k1 =>
    have H := HA.out
    clear HA
    simp only [spec_l2Seek.l0] at H
    replace H := ite_ H
    obtain ⟨c5, H⟩ | ⟨c5, H⟩ := H
    rotate_left
    ·have c5b0 := decide_eq_false c5
     clear c5
     (first | rw [c5b0] | (simp only [i64_w, i32_w]; rw [c5b0]) | rw [c5b1] | skip)
     have H' := Aside0.mk H
     clear H
     obtain ⟨hcz11_0, hcz11_1, hfz11_0, hfz11_1⟩ := cf2_ BK259.out
     go_wp2
     go_meet
     case rel => exact ⟨_, (x6_1), sr_, H', ⟨by have := HK1.out; first | omega | exact Nat.le_refl _⟩, ⟨kb_ BK259.out⟩, ⟨hs_ GE259.out⟩⟩
    have c5b0 := decide_eq_true c5
    clear c5
    (first | rw [c5b0] | (simp only [i64_w, i32_w]; rw [c5b0]) | rw [c5b1] | skip)
    obtain ⟨ji6, hji6⟩ : ∃ j_ : Int, (wrap64 (x6_1 + 1)) = j_ := ⟨_, rfl⟩
    first | rw [hji6] at H | simp only [hji6] at H
    (try rw [hji6] at c5b0)
    have hji6w : (IntKind.i64.wrap (x6_1 + 1)) = ji6 := (i64_w _).trans hji6
    replace H := ifs_ H
    obtain ⟨c7, H⟩ := H
    have c7b0 := decide_eq_true c7
    clear c7
    replace H := ite_ H
    obtain ⟨c8, H⟩ | ⟨c8, H⟩ := H
    rotate_left
    ·have c8b0 := decide_eq_false c8
     clear c8
     have H' := Aside0.mk H
     clear H
     obtain ⟨hcz10_0, hcz10_1, hfz10_0, hfz10_1⟩ := cf2_ BK259.out
     have p260 : 0 ≤ ((ji6) : Int) := oa_
     have q260 : (ji6) < (l0_0.length : Int) := oa_
     obtain ⟨ad260, A260_2, c260_2, e260, hx260_0, hx260_1, hx260_2, hl260_2, hi260_2⟩ := at_T65 HR0_0.out (ji6) p260 q260
     cases e260
     replace hx260_0 := pc_ HB.out hx260_0
     replace hx260_1 := pc_ HB.out hx260_1
     replace hx260_2 := pc_ HB.out hx260_2
     have HR260_2 := Aside0.mk hi260_2
     have HC260_2 := Aside0.mk hl260_2
     clear hi260_2 hl260_2
     replace p260 := eq_true p260
     replace q260 := eq_true q260
     go_wp2
     go_meet
     case rel => exact ⟨_, (x6_1), sr_, H', ⟨by have := HK1.out; first | omega | exact Nat.le_refl _⟩, ⟨kb_ BK259.out⟩, ⟨hs_ GE259.out⟩⟩
    have c8b0 := decide_eq_true c8
    clear c8
    have H' := Aside0.mk H
    clear H
    obtain ⟨hcz9_0, hcz9_1, hfz9_0, hfz9_1⟩ := cf2_ BK259.out
    have p260 : 0 ≤ ((ji6) : Int) := oa_
    have q260 : (ji6) < (l0_0.length : Int) := oa_
    obtain ⟨ad260, A260_2, c260_2, e260, hx260_0, hx260_1, hx260_2, hl260_2, hi260_2⟩ := at_T65 HR0_0.out (ji6) p260 q260
    cases e260
    replace hx260_0 := pc_ HB.out hx260_0
    replace hx260_1 := pc_ HB.out hx260_1
    replace hx260_2 := pc_ HB.out hx260_2
    have HR260_2 := Aside0.mk hi260_2
    have HC260_2 := Aside0.mk hl260_2
    clear hi260_2 hl260_2
    replace p260 := eq_true p260
    replace q260 := eq_true q260
    go_wp2
    go_roundg k1
    case measure => have := HK1.out; omega
    case rel => exact ⟨(ji6), (by first | rfl | (simp; done) | (simp only [← hji6] <;> (first | rfl | simp)) | (simp [*]; done)), H', ⟨by have := HK1.out; omega⟩, ⟨kb_ BK259.out⟩, ⟨hs_ GE259.out⟩⟩
 case rest =>
  clear HC3
  obtain ⟨kq, x6_2, rfl, HA, HJ2, BK259, HB⟩ := hcut
  cases kq with
  | zero => exact absurd HA.out (by simp [spec_l2Seek.j1])
  | succ kj2 =>
   have H := HA.out
   clear HA
   simp only [spec_l2Seek.j1] at H
   replace H := ifs_ H
   obtain ⟨c12, H⟩ := H
   have c12b0 := decide_eq_true c12
   clear c12
   replace H := ifs_ H
   obtain ⟨c13, H⟩ := H
   have c13b0 := decide_eq_true c13
   clear c13
   have H' := Aside0.mk H
   clear H
   obtain ⟨hcz14_0, hcz14_1, hfz14_0, hfz14_1⟩ := cf2_ BK259.out
   have p261 : 0 ≤ (x6_2 : Int) := oa_
   have q261 : x6_2 < (l0_0.length : Int) := oa_
   obtain ⟨ad261, A261_2, c261_2, e261, hx261_0, hx261_1, hx261_2, hl261_2, hi261_2⟩ := at_T65 HR0_0.out x6_2 p261 q261
   cases e261
   replace hx261_0 := pc_ HB.out hx261_0
   replace hx261_1 := pc_ HB.out hx261_1
   replace hx261_2 := pc_ HB.out hx261_2
   have HR261_2 := Aside0.mk hi261_2
   have HC261_2 := Aside0.mk hl261_2
   clear hi261_2 hl261_2
   replace p261 := eq_true p261
   replace q261 := eq_true q261
   go_wp2
   go_loopg [7, 36] kj2 (fun kq v7 v36 w' => ∃ (x7_2 : Int) (x36_2 : Int), v7 = .int .i64 x7_2 ∧ v36 = .int .i64 x36_2 ∧ Aside0 (spec_l2Seek.l1 kq a1 x6_2 x7_2 ((rd_T65 l0_0 x6_2).f2) (((rd_T65 l0_0 x6_2).f2).length : Int) x36_2 = some (r1, r2)) ∧ Aside0 (kq ≤ kj2) ∧ Aside0 (w'.heap[gb259]? = some (.cells #[(.slice (some ad261) l0_0.length c0_0), .int .i64 a0_1] 24 (0, 0))) ∧ Aside0 (Below w.heap.size w w'))
   case atStart => exact ⟨(0), (0), sr_, sr_, H', ⟨Nat.le_refl _⟩, ⟨kb_ BK259.out⟩, ⟨hs_ GE259.out⟩⟩
   case round =>
    clear H'
    try clear c12
    try clear c12b0
    try clear c13
    try clear c13b0
    try clear hcz14_0
    try clear hcz14_1
    try clear hfz14_0
    try clear hfz14_1
    try clear hx261_0
    try clear hx261_1
    try clear hx261_2
    try clear p261
    try clear q261
    obtain ⟨x7_2, x36_2, rfl, rfl, HA, HK2, BK259, HB⟩ := hrel
    cases gk with
    | zero => exact absurd HA.out (by simp [spec_l2Seek.l1])
    | succ k2 =>
     have H := HA.out
     clear HA
     simp only [spec_l2Seek.l1] at H
     replace H := ite_ H
     obtain ⟨c15, H⟩ | ⟨c15, H⟩ := H
     rotate_left
     ·have c15b0 := decide_eq_false c15
      clear c15
      simp only [Option.some.injEq, Prod.mk.injEq] at H
      obtain ⟨rfl, rfl⟩ := H
      go_wp2
      go_ret2
      exact ⟨er_, hs_ GE259.out⟩
     have c15b0 := decide_eq_true c15
     clear c15
     replace H := ifs_ H
     obtain ⟨c16, H⟩ := H
     have c16b0 := decide_eq_true c16
     clear c16
     replace H := ifs_ H
     obtain ⟨c17, H⟩ := H
     have c17b0 := decide_eq_true c17
     clear c17
     replace H := ite_ H
     obtain ⟨c18, H⟩ | ⟨c18, H⟩ := H
     rotate_left
     ·have c18b0 := decide_eq_false c18
      clear c18
      have H' := Aside0.mk H
      clear H
      have p262 : 0 ≤ (x36_2 : Int) := oa_
      have q262 : x36_2 < (((rd_T65 l0_0 x6_2).f2).length : Int) := oa_
      obtain ⟨ad262, e262, hx262_0, hx262_1⟩ := at_T89 HR261_2.out x36_2 p262 q262
      cases e262
      replace hx262_0 := pc_ HB.out hx262_0
      replace hx262_1 := pc_ HB.out hx262_1
      replace p262 := eq_true p262
      replace q262 := eq_true q262
      go_wp2_with (first | ((with_reducible refine gate_dst (N := 9) rfl ?_); refine bq_ (N := 9) #[.int .i64 0, .int .i64 0] 89 ?_; intro gb263 hg w22 BK263 hb; have GE263 := ge1_ hg GE259; replace HB := nc_ GE259 hb; have NB259_263 := nl_ BK259 hg; have NB263_259 := ng_ BK259 hg; replace BK259 := bK_ BK259 hb; clear hb hg; have hnb23 := NB263_259.out; have hnc23 := NB259_263.out; obtain ⟨hcz24_0, hcz24_1, hfz24_0, hfz24_1⟩ := cf2_ BK263.out))
      go_roundg k2
      case measure => have := HJ2.out; have := HK2.out; omega
      case rel => exact ⟨(x7_2), (wrap64 (x36_2 + 1)), sr_, sr_, H', ⟨by have := HJ2.out; have := HK2.out; omega⟩, ⟨uf_ BK259 NB259_263.out⟩, ⟨hs2_ GE259.out GE263.out⟩⟩
     have c18b0 := decide_eq_true c18
     clear c18
     have H' := Aside0.mk H
     clear H
     have p262 : 0 ≤ (x36_2 : Int) := oa_
     have q262 : x36_2 < (((rd_T65 l0_0 x6_2).f2).length : Int) := oa_
     obtain ⟨ad262, e262, hx262_0, hx262_1⟩ := at_T89 HR261_2.out x36_2 p262 q262
     cases e262
     replace hx262_0 := pc_ HB.out hx262_0
     replace hx262_1 := pc_ HB.out hx262_1
     replace p262 := eq_true p262
     replace q262 := eq_true q262
     go_wp2_with (first | ((with_reducible refine gate_dst (N := 9) rfl ?_); refine bq_ (N := 9) #[.int .i64 0, .int .i64 0] 89 ?_; intro gb263 hg w19 BK263 hb; have GE263 := ge1_ hg GE259; replace HB := nc_ GE259 hb; have NB259_263 := nl_ BK259 hg; have NB263_259 := ng_ BK259 hg; replace BK259 := bK_ BK259 hb; clear hb hg; have hnb20 := NB263_259.out; have hnc20 := NB259_263.out; obtain ⟨hcz21_0, hcz21_1, hfz21_0, hfz21_1⟩ := cf2_ BK263.out))
     go_roundg k2
     case measure => have := HJ2.out; have := HK2.out; omega
     case rel => exact ⟨((rd_T89 ((rd_T65 l0_0 x6_2).f2) x36_2).f1), (wrap64 (x36_2 + 1)), sr_, sr_, H', ⟨by have := HJ2.out; have := HK2.out; omega⟩, ⟨uf_ BK259 NB259_263.out⟩, ⟨hs2_ GE259.out GE263.out⟩⟩

end Go.Proofs.Ytffpeklekkpbjaa.QFnExactFindBatch
