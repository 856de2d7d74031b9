/- Functions that one statement reaches: of each a plain function, and the proof that calls come to it. Conditions: those that each contract names. Written by a program of this repository. -/
import Derived.Test.YtojdaolclcmalaaVRecordsOfa
import Derived.Test.YtojdaolclcmalaaQFnExactRecordsOfx0
import Derived.Test.YtojdaolclcmalaaQFnExactRecordsOfx1
namespace Go.Proofs.Ytojdaolclcmalaa.QFnExactRecordsOf
open Go.RowKit Go.Proofs.YtojdaolclcmalaaW.PrintWords Go.Proofs.YtojdaolclcmalaaW.PrintLast Go.Proofs.YtojdaolclcmalaaW.PrintMore
attribute [local go_sem] max2_int min2_int max_two min_two max_three min_three max_four min_four Go.Proofs.YtojdaolclcmalaaW.PrintMore2.isSome_setCell   -- for this text's walks alone
set_option linter.unusedVariables false
set_option linter.unusedSimpArgs false

attribute [local go_sem high] eqA112
/-! ### spec_l5Same: function 69 -/
mutual
def spec_l5Same.j0 : Nat → Bool → Int → Int → Int → List (S112) → Int → Int → Int → List (S112) → Option (Bool)
 | 0, _, _, _, _, _, _, _, _, _ => none
 | k + 1, x33, x156000, x156001, x156002, x156003, x157000, x157001, x157002, x157003 => if x33 = true then (some false) else (spec_l5Same.l0 k (x156003.length : Int) 0 x156000 x156001 x156002 x156003 x157000 x157001 x157002 x157003)
def spec_l5Same.l0 : Nat → Int → Int → Int → Int → Int → List (S112) → Int → Int → Int → List (S112) → Option (Bool)
 | 0, _, _, _, _, _, _, _, _, _, _ => none
 | k + 1, x36, x37, x156000, x156001, x156002, x156003, x157000, x157001, x157002, x157003 => if x37 < x36 then (if 0 ≤ x37 then (if x37 < (x156003.length : Int) then (if x37 < (x157003.length : Int) then (if (!(((rd_T112 x156003 x37).f0) == ((rd_T112 x157003 x37).f0)) || (!(((rd_T112 x156003 x37).f1) == ((rd_T112 x157003 x37).f1)) || (!(((rd_T112 x156003 x37).f2) == ((rd_T112 x157003 x37).f2))))) = true then (some false) else (spec_l5Same.l0 k x36 (wrap64 (x37 + 1)) x156000 x156001 x156002 x156003 x157000 x157001 x157002 x157003)) else (none)) else (none)) else (none)) else (some true)
end
def spec_l5Same.f (k : Nat) (a0_0 : Int) (a0_1 : Int) (a0_2 : Int) (l0_3 : List (S112)) (a1_0 : Int) (a1_1 : Int) (a1_2 : Int) (l1_3 : List (S112)) : Option (Bool) := if a0_0 = a1_0 then (if a0_1 = a1_1 then (if a0_2 = a1_2 then (spec_l5Same.j0 k ((l0_3.length : Int) != (l1_3.length : Int)) a0_0 a0_1 a0_2 l0_3 a1_0 a1_1 a1_2 l1_3) else (spec_l5Same.j0 k true a0_0 a0_1 a0_2 l0_3 a1_0 a1_1 a1_2 l1_3)) else (spec_l5Same.j0 k true a0_0 a0_1 a0_2 l0_3 a1_0 a1_1 a1_2 l1_3)) else (spec_l5Same.j0 k true a0_0 a0_1 a0_2 l0_3 a1_0 a1_1 a1_2 l1_3)
theorem spec_l5Same.mono_l : ∀ k, (∀ y0 y1 y2 y3 y4 y5 y6 y7 y8, LeO (spec_l5Same.j0 k y0 y1 y2 y3 y4 y5 y6 y7 y8) (spec_l5Same.j0 (k + 1) y0 y1 y2 y3 y4 y5 y6 y7 y8)) ∧ (∀ y0 y1 y2 y3 y4 y5 y6 y7 y8 y9, LeO (spec_l5Same.l0 k y0 y1 y2 y3 y4 y5 y6 y7 y8 y9) (spec_l5Same.l0 (k + 1) y0 y1 y2 y3 y4 y5 y6 y7 y8 y9))
 | 0 => ⟨fun _ _ _ _ _ _ _ _ _ r h => by simp [spec_l5Same.j0] at h, fun _ _ _ _ _ _ _ _ _ _ r h => by simp [spec_l5Same.l0] at h⟩
 | k + 1 => by
  obtain ⟨ih0, ih1⟩ := spec_l5Same.mono_l k
  refine ⟨?_, ?_⟩
  all_goals intros; first | unfold spec_l5Same.j0 | unfold spec_l5Same.l0
  all_goals repeat' first | (with_reducible first | apply ih0 | apply ih1 | exact LeO.refl _ | exact LeO.none _ | refine LeO.ite ?_ ?_ | refine LeO.bind ?_ (fun _ => ?_))
theorem spec_l5Same.mono : ∀ a0 a1 a2 a3 a4 a5 a6 a7 k, LeO (spec_l5Same.f k a0 a1 a2 a3 a4 a5 a6 a7) (spec_l5Same.f (k + 1) a0 a1 a2 a3 a4 a5 a6 a7) := by
 intro a0 a1 a2 a3 a4 a5 a6 a7 k
 obtain ⟨ih0, ih1⟩ := spec_l5Same.mono_l k
 unfold spec_l5Same.f
 repeat' first
   | (with_reducible first | apply ih0 | apply ih1 | exact LeO.refl _ | exact LeO.none _ | refine LeO.ite ?_ ?_ | refine LeO.bind ?_ (fun _ => ?_))
set_option maxHeartbeats 8000000 in
set_option maxRecDepth 100000 in
theorem spec_l5Same.calls (k : Nat) (a0_0 : Int) (a0_1 : Int) (a0_2 : Int) (A0_3 : Option Addr) (c0_3 : Nat) (l0_3 : List (S112)) (a1_0 : Int) (a1_1 : Int) (a1_2 : Int) (A1_3 : Option Addr) (c1_3 : Nat) (l1_3 : List (S112)) (r : Bool) (w : World) (hr0_3 : Kd.C k112 w A0_3 l0_3.length l0_3) (hc0_3 : l0_3.length ≤ c0_3) (hr1_3 : Kd.C k112 w A1_3 l1_3.length l1_3) (hc1_3 : l1_3.length ≤ c1_3) (h : spec_l5Same.f k a0_0 a0_1 a0_2 l0_3 a1_0 a1_1 a1_2 l1_3 = some r) :
  Calls Try.prog 69 #[.agg #[.int .i64 a0_0, .int .i64 a0_1, .int .i64 a0_2, .slice A0_3 l0_3.length c0_3], .agg #[.int .i64 a1_0, .int .i64 a1_1, .int .i64 a1_2, .slice A1_3 l1_3.length c1_3]] w fun e w' => e = .returned (.bool r) ∧ Below w.heap.size w w' := by
 have hu81 := Try.underlying81
 have hu112 := Try.underlying112
 have HR0_3 := am_ hr0_3
 have HC0_3 := am_ hc0_3
 clear hr0_3 hc0_3
 have HR1_3 := am_ hr1_3
 have HC1_3 := am_ hc1_3
 clear hr1_3 hc1_3
 have HB := am_ (Below.refl w.heap.size w)
 have H : (if a0_0 = a1_0 then (if a0_1 = a1_1 then (if a0_2 = a1_2 then (spec_l5Same.j0 k ((l0_3.length : Int) != (l1_3.length : Int)) a0_0 a0_1 a0_2 l0_3 a1_0 a1_1 a1_2 l1_3) else (spec_l5Same.j0 k true a0_0 a0_1 a0_2 l0_3 a1_0 a1_1 a1_2 l1_3)) else (spec_l5Same.j0 k true a0_0 a0_1 a0_2 l0_3 a1_0 a1_1 a1_2 l1_3)) else (spec_l5Same.j0 k true a0_0 a0_1 a0_2 l0_3 a1_0 a1_1 a1_2 l1_3)) = some r := h
 clear h
 have HC3 := am_ H
 clear H
 go_enter Try.func69, Try.ntmps69
 go_upto_region 1 with (first | ((with_reducible refine gate_dst (N := 2) rfl ?_); (try (refine gate_guard (by rfl) ?_; dsimp only)); refine bq_ (N := 2) #[.int .i64 a0_0, .int .i64 a0_1, .int .i64 a0_2, .slice A0_3 l0_3.length c0_3] 81 ?_; intro gb155 hg w4 BK155 hb; have GE155 := ge_ hg; replace HB := nb_ hb; clear hb hg) | ((with_reducible refine gate_dst (N := 3) rfl ?_); (try (refine gate_guard (by rfl) ?_; dsimp only)); refine bq_ (N := 3) #[.int .i64 a1_0, .int .i64 a1_1, .int .i64 a1_2, .slice A1_3 l1_3.length c1_3] 81 ?_; intro gb156 hg w5 BK156 hb; have GE156 := ge1_ hg GE155; replace HB := nc_ GE155 hb; have NB155_156 := nl_ BK155 hg; have NB156_155 := ng_ BK155 hg; replace BK155 := bK_ BK155 hb; clear hb hg))
 repeat (go_quiet (first | ((with_reducible refine gate_dst (N := 2) rfl ?_); (try (refine gate_guard (by rfl) ?_; dsimp only)); refine bq_ (N := 2) #[.int .i64 a0_0, .int .i64 a0_1, .int .i64 a0_2, .slice A0_3 l0_3.length c0_3] 81 ?_; intro gb155 hg w4 BK155 hb; have GE155 := ge_ hg; replace HB := nb_ hb; clear hb hg) | ((with_reducible refine gate_dst (N := 3) rfl ?_); (try (refine gate_guard (by rfl) ?_; dsimp only)); refine bq_ (N := 3) #[.int .i64 a1_0, .int .i64 a1_1, .int .i64 a1_2, .slice A1_3 l1_3.length c1_3] 81 ?_; intro gb156 hg w5 BK156 hb; have GE156 := ge1_ hg GE155; replace HB := nc_ GE155 hb; have NB155_156 := nl_ BK155 hg; have NB156_155 := ng_ BK155 hg; replace BK155 := bK_ BK155 hb; clear hb hg)); go_upto_region 1 with (first | ((with_reducible refine gate_dst (N := 2) rfl ?_); (try (refine gate_guard (by rfl) ?_; dsimp only)); refine bq_ (N := 2) #[.int .i64 a0_0, .int .i64 a0_1, .int .i64 a0_2, .slice A0_3 l0_3.length c0_3] 81 ?_; intro gb155 hg w4 BK155 hb; have GE155 := ge_ hg; replace HB := nb_ hb; clear hb hg) | ((with_reducible refine gate_dst (N := 3) rfl ?_); (try (refine gate_guard (by rfl) ?_; dsimp only)); refine bq_ (N := 3) #[.int .i64 a1_0, .int .i64 a1_1, .int .i64 a1_2, .slice A1_3 l1_3.length c1_3] 81 ?_; intro gb156 hg w5 BK156 hb; have GE156 := ge1_ hg GE155; replace HB := nc_ GE155 hb; have NB155_156 := nl_ BK155 hg; have NB156_155 := ng_ BK155 hg; replace BK155 := bK_ BK155 hb; clear hb hg)))
 (try simp only [Act.put, List.setIfInBounds_toArray, List.set_cons_zero, List.set_cons_succ])
 go_cut [33] (fun v33 wc => ∃ (kq : Nat) (x33_2 : Bool), v33 = .bool x33_2 ∧ Aside0 (spec_l5Same.j0 kq x33_2 a0_0 a0_1 a0_2 l0_3 a1_0 a1_1 a1_2 l1_3 = some r) ∧ Aside0 (kq ≤ k) ∧ Aside0 (wc.heap[gb155]? = some (.cells #[.int .i64 a0_0, .int .i64 a0_1, .int .i64 a0_2, (.slice A0_3 l0_3.length c0_3)] 81 (0, 0))) ∧ Aside0 (wc.heap[gb156]? = some (.cells #[.int .i64 a1_0, .int .i64 a1_1, .int .i64 a1_2, (.slice A1_3 l1_3.length c1_3)] 81 (0, 0))) ∧ Aside0 (Below w.heap.size w wc))
 case first =>
  have H := HC3.out
  clear HC3
  replace H := ite_ H
  obtain ⟨c6, H⟩ | ⟨c6, H⟩ := H
  rotate_left
  ·have c6b0 : (a0_0 == a1_0) = false := beq_eq_false_iff_ne.mpr c6
   have c6b1 : (a0_0 != a1_0) = true := bne_iff_ne.mpr c6
   (first | rw [c6b0] | (simp only [i64_w, i32_w]; rw [c6b0]) | rw [c6b1] | skip)
   have H' := am_ H
   clear H
   have hnb18 := NB155_156.out
   have hnc18 := NB156_155.out
   obtain ⟨hcz19_0, hcz19_1, hcz19_2, hcz19_3, hfz19_0, hfz19_1, hfz19_2, hfz19_3⟩ := cf4_ BK155.out
   obtain ⟨hcz20_0, hcz20_1, hcz20_2, hcz20_3, hfz20_0, hfz20_1, hfz20_2, hfz20_3⟩ := cf4_ BK156.out
   go_wp2
   repeat (go_quiet (fail); try go_wp2)
   go_meet
   case rel => exact ⟨_, (true), sr_, H', ⟨by first | omega | exact Nat.le_refl _⟩, ⟨kb_ BK155.out⟩, ⟨kb_ BK156.out⟩, ⟨hs2_ GE155.out GE156.out⟩⟩
  have c6b0 : (a0_0 == a1_0) = true := beq_iff_eq.mpr c6
  have c6b1 : (a0_0 != a1_0) = false := bne_eq_false_iff_eq.mpr c6
  clear c6
  (first | rw [c6b0] | (simp only [i64_w, i32_w]; rw [c6b0]) | rw [c6b1] | skip)
  replace H := ite_ H
  obtain ⟨c7, H⟩ | ⟨c7, H⟩ := H
  rotate_left
  ·have c7b0 : (a0_1 == a1_1) = false := beq_eq_false_iff_ne.mpr c7
   have c7b1 : (a0_1 != a1_1) = true := bne_iff_ne.mpr c7
   have H' := am_ H
   clear H
   have hnb15 := NB155_156.out
   have hnc15 := NB156_155.out
   obtain ⟨hcz16_0, hcz16_1, hcz16_2, hcz16_3, hfz16_0, hfz16_1, hfz16_2, hfz16_3⟩ := cf4_ BK155.out
   obtain ⟨hcz17_0, hcz17_1, hcz17_2, hcz17_3, hfz17_0, hfz17_1, hfz17_2, hfz17_3⟩ := cf4_ BK156.out
   go_wp2
   repeat (go_quiet (fail); try go_wp2)
   go_meet
   case rel => exact ⟨_, (true), sr_, H', ⟨by first | omega | exact Nat.le_refl _⟩, ⟨kb_ BK155.out⟩, ⟨kb_ BK156.out⟩, ⟨hs2_ GE155.out GE156.out⟩⟩
  have c7b0 : (a0_1 == a1_1) = true := beq_iff_eq.mpr c7
  have c7b1 : (a0_1 != a1_1) = false := bne_eq_false_iff_eq.mpr c7
  clear c7
  replace H := ite_ H
  obtain ⟨c8, H⟩ | ⟨c8, H⟩ := H
  rotate_left
  ·have c8b0 : (a0_2 == a1_2) = false := beq_eq_false_iff_ne.mpr c8
   have c8b1 : (a0_2 != a1_2) = true := bne_iff_ne.mpr c8
   have H' := am_ H
   clear H
   have hnb12 := NB155_156.out
   have hnc12 := NB156_155.out
   obtain ⟨hcz13_0, hcz13_1, hcz13_2, hcz13_3, hfz13_0, hfz13_1, hfz13_2, hfz13_3⟩ := cf4_ BK155.out
   obtain ⟨hcz14_0, hcz14_1, hcz14_2, hcz14_3, hfz14_0, hfz14_1, hfz14_2, hfz14_3⟩ := cf4_ BK156.out
   go_wp2
   repeat (go_quiet (fail); try go_wp2)
   go_meet
   case rel => exact ⟨_, (true), sr_, H', ⟨by first | omega | exact Nat.le_refl _⟩, ⟨kb_ BK155.out⟩, ⟨kb_ BK156.out⟩, ⟨hs2_ GE155.out GE156.out⟩⟩
  have c8b0 : (a0_2 == a1_2) = true := beq_iff_eq.mpr c8
  have c8b1 : (a0_2 != a1_2) = false := bne_eq_false_iff_eq.mpr c8
  clear c8
  have H' := am_ H
  clear H
  have hnb9 := NB155_156.out
  have hnc9 := NB156_155.out
  obtain ⟨hcz10_0, hcz10_1, hcz10_2, hcz10_3, hfz10_0, hfz10_1, hfz10_2, hfz10_3⟩ := cf4_ BK155.out
  obtain ⟨hcz11_0, hcz11_1, hcz11_2, hcz11_3, hfz11_0, hfz11_1, hfz11_2, hfz11_3⟩ := cf4_ BK156.out
  go_wp2
  repeat (go_quiet (fail); try go_wp2)
  go_meet
  case rel => exact ⟨_, (((l0_3.length : Int) != (l1_3.length : Int))), sr_, H', ⟨by first | omega | exact Nat.le_refl _⟩, ⟨kb_ BK155.out⟩, ⟨kb_ BK156.out⟩, ⟨hs2_ GE155.out GE156.out⟩⟩
 case rest =>
  clear HC3
  obtain ⟨kq, x33_2, rfl, HA, HJ2, BK155, BK156, HB⟩ := hcut
  cases kq with
  | zero => exact absurd HA.out (by simp [spec_l5Same.j0])
  | succ kj2 =>
   have H := HA.out
   clear HA
   simp only [spec_l5Same.j0] at H
   replace H := ifb_ H
   obtain ⟨rfl, H⟩ | ⟨rfl, H⟩ := H
   ·obtain rfl := Option.some.inj H
    go_wp2
    repeat (go_quiet (fail); try go_wp2)
    go_ret
    exact ⟨er_, hs2_ GE155.out GE156.out⟩
   have H' := am_ H
   clear H
   have hnb22 := NB155_156.out
   have hnc22 := NB156_155.out
   obtain ⟨hcz23_0, hcz23_1, hcz23_2, hcz23_3, hfz23_0, hfz23_1, hfz23_2, hfz23_3⟩ := cf4_ BK155.out
   go_wp2
   repeat (go_quiet (fail); try go_wp2)
   go_loopg [37] kj2 (fun kq v37 w' => ∃ (x37_2 : Int), v37 = .int .i64 x37_2 ∧ Aside0 (spec_l5Same.l0 kq (l0_3.length : Int) x37_2 a0_0 a0_1 a0_2 l0_3 a1_0 a1_1 a1_2 l1_3 = some r) ∧ Aside0 (kq ≤ kj2) ∧ Aside0 (w'.heap[gb155]? = some (.cells #[.int .i64 a0_0, .int .i64 a0_1, .int .i64 a0_2, (.slice A0_3 l0_3.length c0_3)] 81 (0, 0))) ∧ Aside0 (w'.heap[gb156]? = some (.cells #[.int .i64 a1_0, .int .i64 a1_1, .int .i64 a1_2, (.slice A1_3 l1_3.length c1_3)] 81 (0, 0))) ∧ Aside0 (Below w.heap.size w w'))
   case atStart => exact ⟨(0), sr_, H', ⟨Nat.le_refl _⟩, ⟨kb_ BK155.out⟩, ⟨kb_ BK156.out⟩, ⟨hs2_ GE155.out GE156.out⟩⟩
   case round =>
    clear H'
    try clear hcz23_0
    try clear hcz23_1
    try clear hcz23_2
    try clear hcz23_3
    try clear hfz23_0
    try clear hfz23_1
    try clear hfz23_2
    try clear hfz23_3
    obtain ⟨x37_2, rfl, HA, HK2, BK155, BK156, HB⟩ := hrel
    cases gk with
    | zero => exact absurd HA.out (by simp [spec_l5Same.l0])
    | succ k2 =>
     have H := HA.out
     clear HA
     simp only [spec_l5Same.l0] at H
     replace H := ite_ H
     obtain ⟨c24, H⟩ | ⟨c24, H⟩ := H
     rotate_left
     ·have c24b0 := decide_eq_false c24
      clear c24
      obtain rfl := Option.some.inj H
      go_wp2
      repeat (go_quiet (fail); try go_wp2)
      go_ret
      exact ⟨er_, hs2_ GE155.out GE156.out⟩
     have c24b0 := decide_eq_true c24
     clear c24
     replace H := ifs_ H
     obtain ⟨c25, H⟩ := H
     have c25b0 := decide_eq_true c25
     clear c25
     replace H := ifs_ H
     obtain ⟨c26, H⟩ := H
     have c26b0 := decide_eq_true c26
     clear c26
     replace H := ifs_ H
     obtain ⟨c27, H⟩ := H
     have c27b0 := decide_eq_true c27
     clear c27
     replace H := ite_ H
     obtain ⟨c28, H⟩ | ⟨c28, H⟩ := H
     ·have c28b0 : (!(((rd_T112 l0_3 x37_2).f0) == ((rd_T112 l1_3 x37_2).f0)) || (!(((rd_T112 l0_3 x37_2).f1) == ((rd_T112 l1_3 x37_2).f1)) || (!(((rd_T112 l0_3 x37_2).f2) == ((rd_T112 l1_3 x37_2).f2))))) = true := c28
      clear c28
      obtain rfl := Option.some.inj H
      have hnb29 := NB155_156.out
      have hnc29 := NB156_155.out
      obtain ⟨hcz30_0, hcz30_1, hcz30_2, hcz30_3, hfz30_0, hfz30_1, hfz30_2, hfz30_3⟩ := cf4_ BK155.out
      have p157 : 0 ≤ (x37_2 : Int) := oa_
      have q157 : x37_2 < (l0_3.length : Int) := oa_
      obtain ⟨ad157, e157, hx157_0, hx157_1, hx157_2⟩ := at_T112 HR0_3.out x37_2 p157 q157
      cases e157
      replace hx157_0 := pc_ HB.out hx157_0
      replace hx157_1 := pc_ HB.out hx157_1
      replace hx157_2 := pc_ HB.out hx157_2
      replace p157 := eq_true p157
      replace q157 := eq_true q157
      obtain ⟨hcz31_0, hcz31_1, hcz31_2, hcz31_3, hfz31_0, hfz31_1, hfz31_2, hfz31_3⟩ := cf4_ BK156.out
      have p158 : 0 ≤ (x37_2 : Int) := oa_
      have q158 : x37_2 < (l1_3.length : Int) := oa_
      obtain ⟨ad158, e158, hx158_0, hx158_1, hx158_2⟩ := at_T112 HR1_3.out x37_2 p158 q158
      cases e158
      replace hx158_0 := pc_ HB.out hx158_0
      replace hx158_1 := pc_ HB.out hx158_1
      replace hx158_2 := pc_ HB.out hx158_2
      replace p158 := eq_true p158
      replace q158 := eq_true q158
      go_wp2
      repeat (go_quiet (fail); try go_wp2)
      go_ret
      exact ⟨er_, hs2_ GE155.out GE156.out⟩
     have c28b0 : (!(((rd_T112 l0_3 x37_2).f0) == ((rd_T112 l1_3 x37_2).f0)) || (!(((rd_T112 l0_3 x37_2).f1) == ((rd_T112 l1_3 x37_2).f1)) || (!(((rd_T112 l0_3 x37_2).f2) == ((rd_T112 l1_3 x37_2).f2))))) = false := by simpa using c28
     clear c28
     have H' := am_ H
     clear H
     have hnb32 := NB155_156.out
     have hnc32 := NB156_155.out
     obtain ⟨hcz33_0, hcz33_1, hcz33_2, hcz33_3, hfz33_0, hfz33_1, hfz33_2, hfz33_3⟩ := cf4_ BK155.out
     have p157 : 0 ≤ (x37_2 : Int) := oa_
     have q157 : x37_2 < (l0_3.length : Int) := oa_
     obtain ⟨ad157, e157, hx157_0, hx157_1, hx157_2⟩ := at_T112 HR0_3.out x37_2 p157 q157
     cases e157
     replace hx157_0 := pc_ HB.out hx157_0
     replace hx157_1 := pc_ HB.out hx157_1
     replace hx157_2 := pc_ HB.out hx157_2
     replace p157 := eq_true p157
     replace q157 := eq_true q157
     obtain ⟨hcz34_0, hcz34_1, hcz34_2, hcz34_3, hfz34_0, hfz34_1, hfz34_2, hfz34_3⟩ := cf4_ BK156.out
     have p158 : 0 ≤ (x37_2 : Int) := oa_
     have q158 : x37_2 < (l1_3.length : Int) := oa_
     obtain ⟨ad158, e158, hx158_0, hx158_1, hx158_2⟩ := at_T112 HR1_3.out x37_2 p158 q158
     cases e158
     replace hx158_0 := pc_ HB.out hx158_0
     replace hx158_1 := pc_ HB.out hx158_1
     replace hx158_2 := pc_ HB.out hx158_2
     replace p158 := eq_true p158
     replace q158 := eq_true q158
     go_wp2
     repeat (go_quiet (fail); try go_wp2)
     go_roundg k2
     case measure => have := HJ2.out; have := HK2.out; omega
     case rel => exact ⟨(wrap64 (x37_2 + 1)), sr_, H', ⟨by have := HJ2.out; have := HK2.out; omega⟩, ⟨kb_ BK155.out⟩, ⟨kb_ BK156.out⟩, ⟨hs2_ GE155.out GE156.out⟩⟩

end Go.Proofs.Ytojdaolclcmalaa.QFnExactRecordsOf
