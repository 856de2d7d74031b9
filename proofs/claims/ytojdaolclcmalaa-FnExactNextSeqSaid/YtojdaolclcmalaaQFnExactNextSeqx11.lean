/- Functions that one statement reaches: of each a plain function, and the proof that calls come to it. Conditions: those that each contract names. Written by a program of this repository. -/
import Derived.Test.YtojdaolclcmalaaVNextSeqa
import Derived.Test.YtojdaolclcmalaaQFnExactNextSeqx0
import Derived.Test.YtojdaolclcmalaaQFnExactNextSeqx6
import Derived.Test.YtojdaolclcmalaaQFnExactNextSeqx9
import Derived.Test.YtojdaolclcmalaaQFnExactNextSeqx10
namespace Go.Proofs.Ytojdaolclcmalaa.QFnExactNextSeq
open Go.RowKit Go.Proofs.YtojdaolclcmalaaW.PrintWords Go.Proofs.YtojdaolclcmalaaW.PrintLast Go.Proofs.YtojdaolclcmalaaW.PrintMore
attribute [local go_sem] max2_int min2_int max_two min_two max_three min_three max_four min_four Go.Proofs.YtojdaolclcmalaaW.PrintMore2.isSome_setCell   -- for this text's walks alone
set_option linter.unusedVariables false
set_option linter.unusedSimpArgs false

/-! ### spec_GoodPart: function 37 -/
mutual
def spec_GoodPart.j0 : Nat → Bool → List (S81) → List (S78) → Int → List (S81) → List (S78) → Int → Option (Bool)
 | 0, _, _, _, _, _, _, _ => none
 | k + 1, x29, x243000, x243001, x243002, x252000, x252001, x252002 => if x29 = true then (some false) else (spec_GoodPart.l0 k (x252000.length : Int) 0 x243000 x243001 x243002 x252000 x252001 x252002)
def spec_GoodPart.l0 : Nat → Int → Int → List (S81) → List (S78) → Int → List (S81) → List (S78) → Int → Option (Bool)
 | 0, _, _, _, _, _, _, _, _ => none
 | k + 1, x32, x33, x243000, x243001, x243002, x252000, x252001, x252002 => if x33 < x32 then (if 0 ≤ x33 then (if x33 < (x252000.length : Int) then (if x33 < (x243000.length : Int) then ((spec_l5Same.f k ((rd_T81 x252000 x33).f0) ((rd_T81 x252000 x33).f1) ((rd_T81 x252000 x33).f2) ((rd_T81 x252000 x33).f3) ((rd_T81 x243000 x33).f0) ((rd_T81 x243000 x33).f1) ((rd_T81 x243000 x33).f2) ((rd_T81 x243000 x33).f3)).bind fun t254 => (if t254 = true then (spec_GoodPart.l0 k x32 (wrap64 (x33 + 1)) x243000 x243001 x243002 x252000 x252001 x252002) else (some false))) else (none)) else (none)) else (none)) else (some true)
end
def spec_GoodPart.f (k : Nat) (l0_0 : List (S81)) (l0_1 : List (S78)) (a0_2 : Int) : Option (Bool) := (spec_l5Rebuild.f k l0_1).bind fun bt243 => (if bt243.2.2.2 = true then (if bt243.2.2.1 = a0_2 then (spec_GoodPart.j0 k ((bt243.1.length : Int) != (l0_0.length : Int)) l0_0 l0_1 a0_2 bt243.1 bt243.2.1 bt243.2.2.1) else (spec_GoodPart.j0 k true l0_0 l0_1 a0_2 bt243.1 bt243.2.1 bt243.2.2.1)) else (spec_GoodPart.j0 k true l0_0 l0_1 a0_2 bt243.1 bt243.2.1 bt243.2.2.1))
theorem spec_GoodPart.mono_l : ∀ k, (∀ y0 y1 y2 y3 y4 y5 y6, LeO (spec_GoodPart.j0 k y0 y1 y2 y3 y4 y5 y6) (spec_GoodPart.j0 (k + 1) y0 y1 y2 y3 y4 y5 y6)) ∧ (∀ y0 y1 y2 y3 y4 y5 y6 y7, LeO (spec_GoodPart.l0 k y0 y1 y2 y3 y4 y5 y6 y7) (spec_GoodPart.l0 (k + 1) y0 y1 y2 y3 y4 y5 y6 y7))
 | 0 => ⟨fun _ _ _ _ _ _ _ r h => by simp [spec_GoodPart.j0] at h, fun _ _ _ _ _ _ _ _ r h => by simp [spec_GoodPart.l0] at h⟩
 | k + 1 => by
  obtain ⟨ih0, ih1⟩ := spec_GoodPart.mono_l k
  refine ⟨?_, ?_⟩
  all_goals intros; first | unfold spec_GoodPart.j0 | unfold spec_GoodPart.l0
  all_goals repeat' first | (with_reducible first | apply ih0 | apply ih1 | apply spec_l5Rebuild.mono | apply spec_l5Same.mono | exact LeO.refl _ | exact LeO.none _ | refine LeO.ite ?_ ?_ | refine LeO.bind ?_ (fun _ => ?_))
theorem spec_GoodPart.mono : ∀ a0 a1 a2 k, LeO (spec_GoodPart.f k a0 a1 a2) (spec_GoodPart.f (k + 1) a0 a1 a2) := by
 intro a0 a1 a2 k
 obtain ⟨ih0, ih1⟩ := spec_GoodPart.mono_l k
 unfold spec_GoodPart.f
 repeat' first
   | (with_reducible first | apply ih0 | apply ih1 | apply spec_l5Rebuild.mono | apply spec_l5Same.mono | exact LeO.refl _ | exact LeO.none _ | refine LeO.ite ?_ ?_ | refine LeO.bind ?_ (fun _ => ?_))
def spec_GoodPart.T7 : Bool × List (List Nat × List Nat) := (true, [([], []), ([0], [0]), ([], []), ([1, 2], [1, 2]), ([3], [3]), ([], []), ([5], [5]), ([], []), ([6, 7], [6, 7]), ([8], [8]), ([4, 9], [4, 9]), ([10], [10])])
def spec_GoodPart.B7 : List Nat := [0, 1, 0, 7, 15, 0, 32, 0, 224, 480, 1023, 2047]
theorem spec_GoodPart.tab7 : rtab .any (opsOf Try.f37 7) = spec_GoodPart.T7 := by kernel_rfl
theorem spec_GoodPart.bits7 : waitsOk spec_GoodPart.T7.2 spec_GoodPart.B7 = true := by kernel_rfl
set_option maxHeartbeats 8000000 in
set_option maxRecDepth 100000 in
theorem spec_GoodPart.calls (k : Nat) (A0_0 : Option Addr) (c0_0 : Nat) (l0_0 : List (S81)) (A0_1 : Option Addr) (c0_1 : Nat) (l0_1 : List (S78)) (a0_2 : Int) (r : Bool) (w : World) (hr0_0 : Kd.C k81 w A0_0 l0_0.length l0_0) (hc0_0 : l0_0.length ≤ c0_0) (hr0_1 : Kd.C k78 w A0_1 l0_1.length l0_1) (hc0_1 : l0_1.length ≤ c0_1) (h : spec_GoodPart.f k l0_0 l0_1 a0_2 = some r) :
  Calls Try.prog 37 #[.agg #[.slice A0_0 l0_0.length c0_0, .slice A0_1 l0_1.length c0_1, .int .i64 a0_2]] w fun e w' => e = .returned (.bool r) ∧ Below w.heap.size w w' := by
 have hu33 := Try.underlying33
 have hu81 := Try.underlying81
 have HR0_0 := am_ hr0_0
 have HC0_0 := am_ hc0_0
 clear hr0_0 hc0_0
 have HR0_1 := am_ hr0_1
 have HC0_1 := am_ hc0_1
 clear hr0_1 hc0_1
 have HB := am_ (Below.refl w.heap.size w)
 have H : ((spec_l5Rebuild.f k l0_1).bind fun bt243 => (if bt243.2.2.2 = true then (if bt243.2.2.1 = a0_2 then (spec_GoodPart.j0 k ((bt243.1.length : Int) != (l0_0.length : Int)) l0_0 l0_1 a0_2 bt243.1 bt243.2.1 bt243.2.2.1) else (spec_GoodPart.j0 k true l0_0 l0_1 a0_2 bt243.1 bt243.2.1 bt243.2.2.1)) else (spec_GoodPart.j0 k true l0_0 l0_1 a0_2 bt243.1 bt243.2.1 bt243.2.2.1))) = some r := h
 clear h
 replace H := bnd_ H
 obtain ⟨⟨t243, t246, t249, t250⟩, A2, H⟩ := H
 replace H := red_ H
 have HC3 := am_ H
 clear H
 go_enter Try.func37, Try.ntmps37
 go_upto_region 2 with (first | ((with_reducible refine gate_dst (N := 1) rfl ?_); (try (refine gate_guard (by rfl) ?_; dsimp only)); refine bq_ (N := 1) #[.slice A0_0 l0_0.length c0_0, .slice A0_1 l0_1.length c0_1, .int .i64 a0_2] 33 ?_; intro gb242 hg w4 BK242 hb; have GE242 := ge_ hg; replace HB := nb_ hb; clear hb hg; obtain ⟨hcz5_0, hcz5_1, hcz5_2, hfz5_0, hfz5_1, hfz5_2⟩ := cf3_ BK242.out) | ((with_reducible refine gate_callee (f := 67) rfl ?_); refine gl_ 9 Try.func67 #[.slice A0_1 l0_1.length c0_1] rfl ma_ ?_; (with_reducible refine (spec_l5Rebuild.calls k _ _ l0_1 t243 t246 t249 t250 _ ?side1 ?side2 A2.out).mono ?_); (case side1 => exact cs_ ((Kd.C_below HR0_1.out HB.out))); (case side2 => exact HC0_1.out); rintro e w6 ⟨v244, v247, rfl, ho0, ho1, hb⟩; refine ⟨_, rfl, ?_⟩; have HO245 := am_ (Kd.V_lower (Kd.V_mono (ok' := fun k_ => k_ ≠ gb242) ho0 (fun k_ hk_ => (Kd.freshB (g := gb242) (o := .cells #[.slice A0_0 l0_0.length c0_0, .slice A0_1 l0_1.length c0_1, .int .i64 a0_2] 33 (0, 0)) (kb_ BK242.out) k_ hk_))) (below_size (hs_ GE242.out))); have HO248 := am_ (Kd.V_lower (Kd.V_mono (ok' := fun k_ => k_ ≠ gb242) ho1 (fun k_ hk_ => (Kd.freshB (g := gb242) (o := .cells #[.slice A0_0 l0_0.length c0_0, .slice A0_1 l0_1.length c0_1, .int .i64 a0_2] 33 (0, 0)) (kb_ BK242.out) k_ hk_))) (below_size (hs_ GE242.out))); replace BK242 := bK_ BK242 hb; replace HB := nc_ GE242 hb; (try clear hb); (try clear hb2); (try clear hk); (try clear hi); (try clear ho0); (try clear ho1)) | ((with_reducible refine gate_dst (N := 3) rfl ?_); (try (refine gate_guard (by rfl) ?_; dsimp only)); refine bq_ (N := 3) #[.slice none 0 0, .slice none 0 0, .int .i64 0] 33 ?_; intro gb251 hg w7 BK251 hb; replace HO245 := am_ (Kd.V_below (Kd.V_elderB (vF_ HO245.out) gb251 (Nat.le_of_eq hg.symm)) hb); replace HO248 := am_ (Kd.V_below (Kd.V_elderB (vF_ HO248.out) gb251 (Nat.le_of_eq hg.symm)) hb); have GE251 := ge1_ hg GE242; replace HB := nc_ GE242 hb; have NB242_251 := nl_ BK242 hg; have NB251_242 := ng_ BK242 hg; replace BK242 := bK_ BK242 hb; clear hb hg; obtain ⟨Ao8, co8, eo8⟩ := Kd.V_slice HO245.out; subst eo8; have hnb9 := NB251_242.out; have hnc9 := NB242_251.out; obtain ⟨hcz10_0, hcz10_1, hcz10_2, hfz10_0, hfz10_1, hfz10_2⟩ := cf3_ BK251.out; obtain ⟨Ao11, co11, eo11⟩ := Kd.V_slice HO248.out; subst eo11))
 (try simp only [Act.put, List.setIfInBounds_toArray, List.set_cons_zero, List.set_cons_succ])
 go_cut [29] (fun v29 wc => ∃ (kq : Nat) (x29_2 : Bool), v29 = .bool x29_2 ∧ Aside0 (spec_GoodPart.j0 kq x29_2 l0_0 l0_1 a0_2 t243 t246 t249 = some r) ∧ Aside0 (kq ≤ k) ∧ Aside0 (Kd.V k81 81 wc w.heap.size (fun k_ => k_ ≠ gb242 ∧ k_ ≠ gb251) (.slice Ao8 t243.length co8) t243) ∧ Aside0 (Kd.V k78 78 wc w.heap.size (fun k_ => k_ ≠ gb242 ∧ k_ ≠ gb251) (.slice Ao11 t246.length co11) t246) ∧ Aside0 (wc.heap[gb242]? = some (.cells #[(.slice A0_0 l0_0.length c0_0), (.slice A0_1 l0_1.length c0_1), .int .i64 a0_2] 33 (0, 0))) ∧ Aside0 (wc.heap[gb251]? = some (.cells #[(.slice Ao8 t243.length co8), (.slice Ao11 t246.length co11), .int .i64 t249] 33 (0, 0))) ∧ Aside0 (Below w.heap.size w wc))
 case first =>
  have H := HC3.out
  clear HC3
  replace H := ifb_ H
  obtain ⟨rfl, H⟩ | ⟨rfl, H⟩ := H
  rotate_left
  ·have H' := am_ H
   clear H
   go_wp2
   go_meet
   case rel => exact ⟨_, (true), sr_, H', ⟨by first | omega | exact Nat.le_refl _⟩, ⟨Kd.V_mono (vF_ (Kd.V_mono HO245.out (fun k_ hk => (⟨hk, hk.2⟩ : _ ∧ k_ ≠ gb251)))) (fun _ hk => ⟨hk.1.1, hk.1.2⟩)⟩, ⟨Kd.V_mono (vF_ (Kd.V_mono HO248.out (fun k_ hk => (⟨hk, hk.2⟩ : _ ∧ k_ ≠ gb251)))) (fun _ hk => ⟨hk.1.1, hk.1.2⟩)⟩, ⟨uf_ BK242 NB242_251.out⟩, ⟨up_ BK251⟩, ⟨hs2_ GE242.out GE251.out⟩⟩
  replace H := ite_ H
  obtain ⟨c13, H⟩ | ⟨c13, H⟩ := H
  rotate_left
  ·have c13b0 : (t249 == a0_2) = false := beq_eq_false_iff_ne.mpr c13
   have c13b1 : (t249 != a0_2) = true := bne_iff_ne.mpr c13
   (first | rw [c13b0] | (simp only [i64_w, i32_w]; rw [c13b0]) | rw [c13b1] | skip)
   have H' := am_ H
   clear H
   have hnb17 := NB251_242.out
   have hnc17 := NB242_251.out
   obtain ⟨hcz18_0, hcz18_1, hcz18_2, hfz18_0, hfz18_1, hfz18_2⟩ := cf3_ BK251.out
   obtain ⟨hcz19_0, hcz19_1, hcz19_2, hfz19_0, hfz19_1, hfz19_2⟩ := cf3_ BK242.out
   go_wp2
   go_meet
   case rel => exact ⟨_, (true), sr_, H', ⟨by first | omega | exact Nat.le_refl _⟩, ⟨Kd.V_mono (vF_ (Kd.V_mono HO245.out (fun k_ hk => (⟨hk, hk.2⟩ : _ ∧ k_ ≠ gb251)))) (fun _ hk => ⟨hk.1.1, hk.1.2⟩)⟩, ⟨Kd.V_mono (vF_ (Kd.V_mono HO248.out (fun k_ hk => (⟨hk, hk.2⟩ : _ ∧ k_ ≠ gb251)))) (fun _ hk => ⟨hk.1.1, hk.1.2⟩)⟩, ⟨uf_ BK242 NB242_251.out⟩, ⟨up_ BK251⟩, ⟨hs2_ GE242.out GE251.out⟩⟩
  have c13b0 : (t249 == a0_2) = true := beq_iff_eq.mpr c13
  have c13b1 : (t249 != a0_2) = false := bne_eq_false_iff_eq.mpr c13
  clear c13
  (first | rw [c13b0] | (simp only [i64_w, i32_w]; rw [c13b0]) | rw [c13b1] | skip)
  have H' := am_ H
  clear H
  have hnb14 := NB251_242.out
  have hnc14 := NB242_251.out
  obtain ⟨hcz15_0, hcz15_1, hcz15_2, hfz15_0, hfz15_1, hfz15_2⟩ := cf3_ BK251.out
  obtain ⟨hcz16_0, hcz16_1, hcz16_2, hfz16_0, hfz16_1, hfz16_2⟩ := cf3_ BK242.out
  go_wp2
  go_meet
  case rel => exact ⟨_, (((t243.length : Int) != (l0_0.length : Int))), sr_, H', ⟨by first | omega | exact Nat.le_refl _⟩, ⟨Kd.V_mono (vF_ (Kd.V_mono HO245.out (fun k_ hk => (⟨hk, hk.2⟩ : _ ∧ k_ ≠ gb251)))) (fun _ hk => ⟨hk.1.1, hk.1.2⟩)⟩, ⟨Kd.V_mono (vF_ (Kd.V_mono HO248.out (fun k_ hk => (⟨hk, hk.2⟩ : _ ∧ k_ ≠ gb251)))) (fun _ hk => ⟨hk.1.1, hk.1.2⟩)⟩, ⟨uf_ BK242 NB242_251.out⟩, ⟨up_ BK251⟩, ⟨hs2_ GE242.out GE251.out⟩⟩
 case rest =>
  clear HC3
  try clear hcz10_0
  try clear hcz10_1
  try clear hcz10_2
  try clear hcz5_0
  try clear hcz5_1
  try clear hcz5_2
  try clear hfz10_0
  try clear hfz10_1
  try clear hfz10_2
  try clear hfz5_0
  try clear hfz5_1
  try clear hfz5_2
  obtain ⟨kq, x29_2, rfl, HA, HJ2, HO_252000, HO_252001, BK242, BK251, HB⟩ := hcut
  cases kq with
  | zero => exact absurd HA.out (by simp [spec_GoodPart.j0])
  | succ kj2 =>
   have H := HA.out
   clear HA
   simp only [spec_GoodPart.j0] at H
   replace H := ifb_ H
   obtain ⟨rfl, H⟩ | ⟨rfl, H⟩ := H
   ·obtain rfl := Option.some.inj H
    go_wp2
    go_ret
    exact ⟨er_, hs2_ GE242.out GE251.out⟩
   have H' := am_ H
   clear H
   have hnb21 := NB251_242.out
   have hnc21 := NB242_251.out
   obtain ⟨hcz22_0, hcz22_1, hcz22_2, hfz22_0, hfz22_1, hfz22_2⟩ := cf3_ BK251.out
   go_wp2
   go_loopg [33] kj2 (fun kq v33 w' => ∃ (x33_2 : Int), v33 = .int .i64 x33_2 ∧ Aside0 (spec_GoodPart.l0 kq (t243.length : Int) x33_2 l0_0 l0_1 a0_2 t243 t246 t249 = some r) ∧ Aside0 (kq ≤ kj2) ∧ Aside0 (Kd.V k81 81 w' w.heap.size (fun k_ => k_ ≠ gb242 ∧ k_ ≠ gb251) (.slice Ao8 t243.length co8) t243) ∧ Aside0 (Kd.V k78 78 w' w.heap.size (fun k_ => k_ ≠ gb242 ∧ k_ ≠ gb251) (.slice Ao11 t246.length co11) t246) ∧ Aside0 (w'.heap[gb242]? = some (.cells #[(.slice A0_0 l0_0.length c0_0), (.slice A0_1 l0_1.length c0_1), .int .i64 a0_2] 33 (0, 0))) ∧ Aside0 (w'.heap[gb251]? = some (.cells #[(.slice Ao8 t243.length co8), (.slice Ao11 t246.length co11), .int .i64 t249] 33 (0, 0))) ∧ Aside0 (Below w.heap.size w w'))
   case atStart => exact ⟨(0), sr_, H', ⟨Nat.le_refl _⟩, ⟨vF_ HO_252000.out⟩, ⟨vF_ HO_252001.out⟩, ⟨kb_ BK242.out⟩, ⟨kb_ BK251.out⟩, ⟨hs2_ GE242.out GE251.out⟩⟩
   case round =>
    clear H'
    try clear hcz10_0
    try clear hcz10_1
    try clear hcz10_2
    try clear hcz22_0
    try clear hcz22_1
    try clear hcz22_2
    try clear hcz5_0
    try clear hcz5_1
    try clear hcz5_2
    try clear hfz10_0
    try clear hfz10_1
    try clear hfz10_2
    try clear hfz22_0
    try clear hfz22_1
    try clear hfz22_2
    try clear hfz5_0
    try clear hfz5_1
    try clear hfz5_2
    obtain ⟨x33_2, rfl, HA, HK2, HO_252000, HO_252001, BK242, BK251, HB⟩ := hrel
    cases gk with
    | zero => exact absurd HA.out (by simp [spec_GoodPart.l0])
    | succ k2 =>
     have H := HA.out
     clear HA
     simp only [spec_GoodPart.l0] at H
     replace H := ite_ H
     obtain ⟨c23, H⟩ | ⟨c23, H⟩ := H
     rotate_left
     ·have c23b0 := decide_eq_false c23
      clear c23
      obtain rfl := Option.some.inj H
      go_wp2
      go_ret
      exact ⟨er_, hs2_ GE242.out GE251.out⟩
     have c23b0 := decide_eq_true c23
     clear c23
     replace H := ifs_ H
     obtain ⟨c24, H⟩ := H
     have c24b0 := decide_eq_true c24
     clear c24
     replace H := ifs_ H
     obtain ⟨c25, H⟩ := H
     have c25b0 := decide_eq_true c25
     clear c25
     replace H := ifs_ H
     obtain ⟨c26, H⟩ := H
     have c26b0 := decide_eq_true c26
     clear c26
     replace H := bnd_ H
     obtain ⟨t254, A27, H⟩ := H
     replace H := ifb_ H
     obtain ⟨rfl, H⟩ | ⟨rfl, H⟩ := H
     rotate_left
     ·obtain rfl := Option.some.inj H
      try go_wp2
      replace HO_252000 := am_ (Kd.V_drew HO_252000.out)
      replace HO_252001 := am_ (Kd.V_drew HO_252001.out)
      replace BK242 := qK_ BK242
      replace BK251 := qK_ BK251
      replace HB := qH_ HB
      have p252 : 0 ≤ (x33_2 : Int) := oa_
      have q252 : x33_2 < (t243.length : Int) := oa_
      obtain ⟨ad252, A252_3, c252_3, e252, hx252_0, hx252_1, hx252_2, hx252_3, hl252_3, hi252_3⟩ := at_T81 (Kd.V_reads' HO_252000.out).2.2 x33_2 p252 q252
      cases e252
      obtain ⟨ce252, hce252, hMe252, hcc252⟩ := Kd.V_get HO_252000.out z81 x33_2 p252 (by first | exact q252 | exact oa_ | (have e_ := (Kd.V_reads' HO_252000.out).1; omega))
      obtain ⟨ua252_3, uc252_3, rfl, ul252_3, ge252_3⟩ := k81_openF hMe252
      have hv252_3 := hcc252 3 _ rfl
      rw [add_field _ _ 3 (by omega)] at hv252_3
      replace hv252_3 := Option.some.inj (hv252_3.symm.trans hx252_3)
      injection hv252_3 with hva_ hvn_ hvc_
      rw [hva_] at ge252_3
      rw [hvc_] at ul252_3
      have HL252_3 := am_ (show Kd.V k112 112 _ w.heap.size _ _ ((rd_T81 t243 x33_2).f3) from Kd.V_mk ul252_3 ge252_3)
      clear hva_ hvn_ hvc_ ge252_3 ul252_3
      clear hcc252 hce252
      have HR252_3 := am_ hi252_3
      have HC252_3 := am_ hl252_3
      clear hi252_3 hl252_3
      replace p252 := eq_true p252
      replace q252 := eq_true q252
      have p253 : 0 ≤ (x33_2 : Int) := oa_
      have q253 : x33_2 < (l0_0.length : Int) := oa_
      obtain ⟨ad253, A253_3, c253_3, e253, hx253_0, hx253_1, hx253_2, hx253_3, hl253_3, hi253_3⟩ := at_T81 HR0_0.out x33_2 p253 q253
      have hw253_3 := hx253_3
      have hw253_2 := hx253_2
      have hw253_1 := hx253_1
      have hw253_0 := hx253_0
      cases e253
      replace hx253_0 := pc_ HB.out hx253_0
      replace hx253_1 := pc_ HB.out hx253_1
      replace hx253_2 := pc_ HB.out hx253_2
      replace hx253_3 := pc_ HB.out hx253_3
      have HR253_3 := am_ hi253_3
      have HC253_3 := am_ hl253_3
      clear hi253_3 hl253_3
      replace p253 := eq_true p253
      replace q253 := eq_true q253
      refine start_ (n := 12) (S := fun w' => w'.cell? ⟨gb251, 0, none⟩ = some (.slice (some ad252) t243.length co8) ∧ w'.cell? ⟨gb251, 1, none⟩ = some (.slice Ao11 t246.length co11) ∧ w'.cell? ⟨gb251, 2, none⟩ = some (.int .i64 t249) ∧ w'.cell? ⟨gb242, 0, none⟩ = some (.slice (some ad253) l0_0.length c0_0) ∧ w'.cell? ⟨gb242, 1, none⟩ = some (.slice A0_1 l0_1.length c0_1) ∧ w'.cell? ⟨gb242, 2, none⟩ = some (.int .i64 a0_2) ∧ w'.cell? (ad252.add ((x33_2).toNat * 4)) = some (.int .i64 ((rd_T81 t243 x33_2).f0)) ∧ w'.cell? ⟨(ad252.add ((x33_2).toNat * 4)).block, (ad252.add ((x33_2).toNat * 4)).off + 1, none⟩ = some (.int .i64 ((rd_T81 t243 x33_2).f1)) ∧ w'.cell? ⟨(ad252.add ((x33_2).toNat * 4)).block, (ad252.add ((x33_2).toNat * 4)).off + 2, none⟩ = some (.int .i64 ((rd_T81 t243 x33_2).f2)) ∧ w'.cell? ⟨(ad252.add ((x33_2).toNat * 4)).block, (ad252.add ((x33_2).toNat * 4)).off + 3, none⟩ = some (.slice A252_3 ((rd_T81 t243 x33_2).f3).length c252_3) ∧ w'.cell? (ad253.add ((x33_2).toNat * 4)) = some (.int .i64 ((rd_T81 l0_0 x33_2).f0)) ∧ w'.cell? ⟨(ad253.add ((x33_2).toNat * 4)).block, (ad253.add ((x33_2).toNat * 4)).off + 1, none⟩ = some (.int .i64 ((rd_T81 l0_0 x33_2).f1)) ∧ w'.cell? ⟨(ad253.add ((x33_2).toNat * 4)).block, (ad253.add ((x33_2).toNat * 4)).off + 2, none⟩ = some (.int .i64 ((rd_T81 l0_0 x33_2).f2)) ∧ w'.cell? ⟨(ad253.add ((x33_2).toNat * 4)).block, (ad253.add ((x33_2).toNat * 4)).off + 3, none⟩ = some (.slice A253_3 ((rd_T81 l0_0 x33_2).f3).length c253_3)) (ds := []) (List.replicate 12 false).toArray (by kernel_rfl) rfl rfl ⟨bt_ BK251 0, bt_ BK251 1, bt_ BK251 2, bt_ BK242 0, bt_ BK242 1, bt_ BK242 2, hx252_0, hx252_1, hx252_2, hx252_3, (pc_ HB.out hw253_0), (pc_ HB.out hw253_1), (pc_ HB.out hw253_2), (pc_ HB.out hw253_3)⟩ (fun hHeld => ?_); refine with_tabW spec_GoodPart.tab7 spec_GoodPart.bits7 (fun HT_ HW_ => ?_)
      generalize wr.drew = w31 at HO_252000 HO_252001 BK242 BK251 HB HL252_3 HR252_3 HR253_3 hx252_0 hx252_1 hx252_2 hx252_3 hx253_0 hx253_1 hx253_2 hx253_3 hHeld ⊢
      refine pv_ 0 36 ?_
      refine pv_ 2 38 ?_
      refine pv_ 5 41 ?_
      refine pv_ 7 43 ?_
      refine tk_ 1 37 ?_
      refine pv_ 3 39 ?_
      refine tk_ 4 40 ?_
      refine tk_ 6 42 ?_
      refine pv_ 8 44 ?_
      refine tk_ 9 45 ?_
      refine on_ 10 46 (fun K hK => ?_)
      refine gs_ Try.func69 #[.agg #[.int .i64 ((rd_T81 t243 x33_2).f0), .int .i64 ((rd_T81 t243 x33_2).f1), .int .i64 ((rd_T81 t243 x33_2).f2), .slice A252_3 ((rd_T81 t243 x33_2).f3).length c252_3], .agg #[.int .i64 ((rd_T81 l0_0 x33_2).f0), .int .i64 ((rd_T81 l0_0 x33_2).f1), .int .i64 ((rd_T81 l0_0 x33_2).f2), .slice A253_3 ((rd_T81 l0_0 x33_2).f3).length c253_3]] rfl ma_ ?_
      with_reducible refine (spec_l5Same.calls k2 ((rd_T81 t243 x33_2).f0) ((rd_T81 t243 x33_2).f1) ((rd_T81 t243 x33_2).f2) _ _ ((rd_T81 t243 x33_2).f3) ((rd_T81 l0_0 x33_2).f0) ((rd_T81 l0_0 x33_2).f1) ((rd_T81 l0_0 x33_2).f2) _ _ ((rd_T81 l0_0 x33_2).f3) false _ ?side1 ?side2 ?side3 ?side4 A27.out).mono ?_
      (case side1 => repeat (first | exact (by repeat (first | (with_reducible exact HR252_3.out) | (with_reducible refine Kd.C_alloc ?_ _) | (with_reducible refine Kd.C_drewN ?_ _) | (with_reducible refine Kd.C_drew ?_) | exact HR252_3.out)) | (with_reducible refine Kd.C_alloc ?_ _) | (with_reducible refine Kd.C_drewN ?_ _) | (with_reducible refine Kd.C_drew ?_)))
      (case side2 => exact HC252_3.out)
      (case side3 => exact cs_ ((Kd.C_below HR253_3.out HB.out)))
      (case side4 => exact HC253_3.out)
      rintro e w32 ⟨rfl, hb⟩
      have HS6_ := (hb.cell (World.block_lt_of_cell? _ _ (hHeld.2.2.2.2.2.2.1))).trans (hHeld.2.2.2.2.2.2.1)
      have HS7_ := (hb.cell (World.block_lt_of_cell? _ _ (hHeld.2.2.2.2.2.2.2.1))).trans (hHeld.2.2.2.2.2.2.2.1)
      have HS8_ := (hb.cell (World.block_lt_of_cell? _ _ (hHeld.2.2.2.2.2.2.2.2.1))).trans (hHeld.2.2.2.2.2.2.2.2.1)
      have HS9_ := (hb.cell (World.block_lt_of_cell? _ _ (hHeld.2.2.2.2.2.2.2.2.2.1))).trans (hHeld.2.2.2.2.2.2.2.2.2.1)
      refine ⟨_, rfl, ?_⟩
      replace HO_252000 := am_ (Kd.V_below (vF_ HO_252000.out) hb)
      replace HO_252001 := am_ (Kd.V_below (vF_ HO_252001.out) hb)
      replace HL252_3 := am_ (Kd.V_below (vF_ HL252_3.out) hb)
      replace BK242 := bK_ BK242 hb
      replace BK251 := bK_ BK251 hb
      replace HR252_3 := am_ (Kd.C_below (by repeat (first | (with_reducible exact HR252_3.out) | (with_reducible refine Kd.C_alloc ?_ _) | (with_reducible refine Kd.C_drewN ?_ _) | (with_reducible refine Kd.C_drew ?_) | exact HR252_3.out)) hb)
      replace HB := nc2_ GE242 GE251 hb
      (try clear hb)
      (try clear hb2)
      (try clear hk)
      (try clear hi)
      refine hK.out _ _ ⟨bt_ BK251 0, bt_ BK251 1, bt_ BK251 2, bt_ BK242 0, bt_ BK242 1, bt_ BK242 2, HS6_, HS7_, HS8_, HS9_, (pc_ HB.out hw253_0), (pc_ HB.out hw253_1), (pc_ HB.out hw253_2), (pc_ HB.out hw253_3)⟩ (fun hHeld => ?_)
      clear hK K
      refine no_ ?_
      refine pv_ 11 47 ?_
      refine done_ (done_of HT_.out (by kernel_rfl)) ?_
      try go_wp2
      go_ret
      exact ⟨er_, hs2_ GE242.out GE251.out⟩
     have H' := am_ H
     clear H
     try go_wp2
     replace HO_252000 := am_ (Kd.V_drew HO_252000.out)
     replace HO_252001 := am_ (Kd.V_drew HO_252001.out)
     replace BK242 := qK_ BK242
     replace BK251 := qK_ BK251
     replace HB := qH_ HB
     have p252 : 0 ≤ (x33_2 : Int) := oa_
     have q252 : x33_2 < (t243.length : Int) := oa_
     obtain ⟨ad252, A252_3, c252_3, e252, hx252_0, hx252_1, hx252_2, hx252_3, hl252_3, hi252_3⟩ := at_T81 (Kd.V_reads' HO_252000.out).2.2 x33_2 p252 q252
     cases e252
     obtain ⟨ce252, hce252, hMe252, hcc252⟩ := Kd.V_get HO_252000.out z81 x33_2 p252 (by first | exact q252 | exact oa_ | (have e_ := (Kd.V_reads' HO_252000.out).1; omega))
     obtain ⟨ua252_3, uc252_3, rfl, ul252_3, ge252_3⟩ := k81_openF hMe252
     have hv252_3 := hcc252 3 _ rfl
     rw [add_field _ _ 3 (by omega)] at hv252_3
     replace hv252_3 := Option.some.inj (hv252_3.symm.trans hx252_3)
     injection hv252_3 with hva_ hvn_ hvc_
     rw [hva_] at ge252_3
     rw [hvc_] at ul252_3
     have HL252_3 := am_ (show Kd.V k112 112 _ w.heap.size _ _ ((rd_T81 t243 x33_2).f3) from Kd.V_mk ul252_3 ge252_3)
     clear hva_ hvn_ hvc_ ge252_3 ul252_3
     clear hcc252 hce252
     have HR252_3 := am_ hi252_3
     have HC252_3 := am_ hl252_3
     clear hi252_3 hl252_3
     replace p252 := eq_true p252
     replace q252 := eq_true q252
     have p253 : 0 ≤ (x33_2 : Int) := oa_
     have q253 : x33_2 < (l0_0.length : Int) := oa_
     obtain ⟨ad253, A253_3, c253_3, e253, hx253_0, hx253_1, hx253_2, hx253_3, hl253_3, hi253_3⟩ := at_T81 HR0_0.out x33_2 p253 q253
     have hw253_3 := hx253_3
     have hw253_2 := hx253_2
     have hw253_1 := hx253_1
     have hw253_0 := hx253_0
     cases e253
     replace hx253_0 := pc_ HB.out hx253_0
     replace hx253_1 := pc_ HB.out hx253_1
     replace hx253_2 := pc_ HB.out hx253_2
     replace hx253_3 := pc_ HB.out hx253_3
     have HR253_3 := am_ hi253_3
     have HC253_3 := am_ hl253_3
     clear hi253_3 hl253_3
     replace p253 := eq_true p253
     replace q253 := eq_true q253
     refine start_ (n := 12) (S := fun w' => w'.cell? ⟨gb251, 0, none⟩ = some (.slice (some ad252) t243.length co8) ∧ w'.cell? ⟨gb251, 1, none⟩ = some (.slice Ao11 t246.length co11) ∧ w'.cell? ⟨gb251, 2, none⟩ = some (.int .i64 t249) ∧ w'.cell? ⟨gb242, 0, none⟩ = some (.slice (some ad253) l0_0.length c0_0) ∧ w'.cell? ⟨gb242, 1, none⟩ = some (.slice A0_1 l0_1.length c0_1) ∧ w'.cell? ⟨gb242, 2, none⟩ = some (.int .i64 a0_2) ∧ w'.cell? (ad252.add ((x33_2).toNat * 4)) = some (.int .i64 ((rd_T81 t243 x33_2).f0)) ∧ w'.cell? ⟨(ad252.add ((x33_2).toNat * 4)).block, (ad252.add ((x33_2).toNat * 4)).off + 1, none⟩ = some (.int .i64 ((rd_T81 t243 x33_2).f1)) ∧ w'.cell? ⟨(ad252.add ((x33_2).toNat * 4)).block, (ad252.add ((x33_2).toNat * 4)).off + 2, none⟩ = some (.int .i64 ((rd_T81 t243 x33_2).f2)) ∧ w'.cell? ⟨(ad252.add ((x33_2).toNat * 4)).block, (ad252.add ((x33_2).toNat * 4)).off + 3, none⟩ = some (.slice A252_3 ((rd_T81 t243 x33_2).f3).length c252_3) ∧ w'.cell? (ad253.add ((x33_2).toNat * 4)) = some (.int .i64 ((rd_T81 l0_0 x33_2).f0)) ∧ w'.cell? ⟨(ad253.add ((x33_2).toNat * 4)).block, (ad253.add ((x33_2).toNat * 4)).off + 1, none⟩ = some (.int .i64 ((rd_T81 l0_0 x33_2).f1)) ∧ w'.cell? ⟨(ad253.add ((x33_2).toNat * 4)).block, (ad253.add ((x33_2).toNat * 4)).off + 2, none⟩ = some (.int .i64 ((rd_T81 l0_0 x33_2).f2)) ∧ w'.cell? ⟨(ad253.add ((x33_2).toNat * 4)).block, (ad253.add ((x33_2).toNat * 4)).off + 3, none⟩ = some (.slice A253_3 ((rd_T81 l0_0 x33_2).f3).length c253_3)) (ds := []) (List.replicate 12 false).toArray (by kernel_rfl) rfl rfl ⟨bt_ BK251 0, bt_ BK251 1, bt_ BK251 2, bt_ BK242 0, bt_ BK242 1, bt_ BK242 2, hx252_0, hx252_1, hx252_2, hx252_3, (pc_ HB.out hw253_0), (pc_ HB.out hw253_1), (pc_ HB.out hw253_2), (pc_ HB.out hw253_3)⟩ (fun hHeld => ?_); refine with_tabW spec_GoodPart.tab7 spec_GoodPart.bits7 (fun HT_ HW_ => ?_)
     generalize wr.drew = w29 at HO_252000 HO_252001 BK242 BK251 HB HL252_3 HR252_3 HR253_3 hx252_0 hx252_1 hx252_2 hx252_3 hx253_0 hx253_1 hx253_2 hx253_3 hHeld ⊢
     refine pv_ 0 36 ?_
     refine pv_ 2 38 ?_
     refine pv_ 5 41 ?_
     refine pv_ 7 43 ?_
     refine tk_ 1 37 ?_
     refine pv_ 3 39 ?_
     refine tk_ 4 40 ?_
     refine tk_ 6 42 ?_
     refine pv_ 8 44 ?_
     refine tk_ 9 45 ?_
     refine on_ 10 46 (fun K hK => ?_)
     refine gs_ Try.func69 #[.agg #[.int .i64 ((rd_T81 t243 x33_2).f0), .int .i64 ((rd_T81 t243 x33_2).f1), .int .i64 ((rd_T81 t243 x33_2).f2), .slice A252_3 ((rd_T81 t243 x33_2).f3).length c252_3], .agg #[.int .i64 ((rd_T81 l0_0 x33_2).f0), .int .i64 ((rd_T81 l0_0 x33_2).f1), .int .i64 ((rd_T81 l0_0 x33_2).f2), .slice A253_3 ((rd_T81 l0_0 x33_2).f3).length c253_3]] rfl ma_ ?_
     with_reducible refine (spec_l5Same.calls k2 ((rd_T81 t243 x33_2).f0) ((rd_T81 t243 x33_2).f1) ((rd_T81 t243 x33_2).f2) _ _ ((rd_T81 t243 x33_2).f3) ((rd_T81 l0_0 x33_2).f0) ((rd_T81 l0_0 x33_2).f1) ((rd_T81 l0_0 x33_2).f2) _ _ ((rd_T81 l0_0 x33_2).f3) true _ ?side1 ?side2 ?side3 ?side4 A27.out).mono ?_
     (case side1 => repeat (first | exact (by repeat (first | (with_reducible exact HR252_3.out) | (with_reducible refine Kd.C_alloc ?_ _) | (with_reducible refine Kd.C_drewN ?_ _) | (with_reducible refine Kd.C_drew ?_) | exact HR252_3.out)) | (with_reducible refine Kd.C_alloc ?_ _) | (with_reducible refine Kd.C_drewN ?_ _) | (with_reducible refine Kd.C_drew ?_)))
     (case side2 => exact HC252_3.out)
     (case side3 => exact cs_ ((Kd.C_below HR253_3.out HB.out)))
     (case side4 => exact HC253_3.out)
     rintro e w30 ⟨rfl, hb⟩
     have HS6_ := (hb.cell (World.block_lt_of_cell? _ _ (hHeld.2.2.2.2.2.2.1))).trans (hHeld.2.2.2.2.2.2.1)
     have HS7_ := (hb.cell (World.block_lt_of_cell? _ _ (hHeld.2.2.2.2.2.2.2.1))).trans (hHeld.2.2.2.2.2.2.2.1)
     have HS8_ := (hb.cell (World.block_lt_of_cell? _ _ (hHeld.2.2.2.2.2.2.2.2.1))).trans (hHeld.2.2.2.2.2.2.2.2.1)
     have HS9_ := (hb.cell (World.block_lt_of_cell? _ _ (hHeld.2.2.2.2.2.2.2.2.2.1))).trans (hHeld.2.2.2.2.2.2.2.2.2.1)
     refine ⟨_, rfl, ?_⟩
     replace HO_252000 := am_ (Kd.V_below (vF_ HO_252000.out) hb)
     replace HO_252001 := am_ (Kd.V_below (vF_ HO_252001.out) hb)
     replace HL252_3 := am_ (Kd.V_below (vF_ HL252_3.out) hb)
     replace BK242 := bK_ BK242 hb
     replace BK251 := bK_ BK251 hb
     replace HR252_3 := am_ (Kd.C_below (by repeat (first | (with_reducible exact HR252_3.out) | (with_reducible refine Kd.C_alloc ?_ _) | (with_reducible refine Kd.C_drewN ?_ _) | (with_reducible refine Kd.C_drew ?_) | exact HR252_3.out)) hb)
     replace HB := nc2_ GE242 GE251 hb
     (try clear hb)
     (try clear hb2)
     (try clear hk)
     (try clear hi)
     refine hK.out _ _ ⟨bt_ BK251 0, bt_ BK251 1, bt_ BK251 2, bt_ BK242 0, bt_ BK242 1, bt_ BK242 2, HS6_, HS7_, HS8_, HS9_, (pc_ HB.out hw253_0), (pc_ HB.out hw253_1), (pc_ HB.out hw253_2), (pc_ HB.out hw253_3)⟩ (fun hHeld => ?_)
     clear hK K
     refine no_ ?_
     refine pv_ 11 47 ?_
     refine done_ (done_of HT_.out (by kernel_rfl)) ?_
     try go_wp2
     go_roundg k2
     case measure => have := HJ2.out; have := HK2.out; omega
     case rel => exact ⟨(wrap64 (x33_2 + 1)), sr_, H', ⟨by have := HJ2.out; have := HK2.out; omega⟩, ⟨vF_ HO_252000.out⟩, ⟨vF_ HO_252001.out⟩, ⟨kb_ BK242.out⟩, ⟨kb_ BK251.out⟩, ⟨hs2_ GE242.out GE251.out⟩⟩

/-! ### spec_NextSeq: function 39 -/
def spec_NextSeq.f (k : Nat) (l0_0 : List (S81)) (l0_1 : List (S78)) (a0_2 : Int) (a1 : Int) : Option (Int × Bool) := (spec_l5At.f k l0_0 a1).bind fun t256 => ((spec_GoodPart.f k l0_0 l0_1 a0_2).bind fun t257 => (if t257 = true then (if t256 < 0 then (some (0, false)) else (if 0 ≤ t256 then (if t256 < (l0_0.length : Int) then (some ((rd_T81 l0_0 t256).f2, true)) else (none)) else (none))) else (some (0, false))))
theorem spec_NextSeq.mono : ∀ a0 a1 a2 a3 k, LeO (spec_NextSeq.f k a0 a1 a2 a3) (spec_NextSeq.f (k + 1) a0 a1 a2 a3) := by
 intro a0 a1 a2 a3 k
 unfold spec_NextSeq.f
 repeat' first
   | (with_reducible first | apply spec_GoodPart.mono | apply spec_l5At.mono | exact LeO.refl _ | exact LeO.none _ | refine LeO.ite ?_ ?_ | refine LeO.bind ?_ (fun _ => ?_))
set_option maxHeartbeats 8000000 in
set_option maxRecDepth 100000 in
theorem spec_NextSeq.calls (k : Nat) (A0_0 : Option Addr) (c0_0 : Nat) (l0_0 : List (S81)) (A0_1 : Option Addr) (c0_1 : Nat) (l0_1 : List (S78)) (a0_2 : Int) (a1 : Int) (r1 : Int) (r2 : Bool) (w : World) (hr0_0 : Kd.C k81 w A0_0 l0_0.length l0_0) (hc0_0 : l0_0.length ≤ c0_0) (hr0_1 : Kd.C k78 w A0_1 l0_1.length l0_1) (hc0_1 : l0_1.length ≤ c0_1) (h : spec_NextSeq.f k l0_0 l0_1 a0_2 a1 = some (r1, r2)) :
  Calls Try.prog 39 #[.agg #[.slice A0_0 l0_0.length c0_0, .slice A0_1 l0_1.length c0_1, .int .i64 a0_2], .int .i64 a1] w fun e w' => e = .returned (.tuple #[.int .i64 r1, .bool r2]) ∧ Below w.heap.size w w' := by
 have hu33 := Try.underlying33
 have HR0_0 := am_ hr0_0
 have HC0_0 := am_ hc0_0
 clear hr0_0 hc0_0
 have HR0_1 := am_ hr0_1
 have HC0_1 := am_ hc0_1
 clear hr0_1 hc0_1
 have HB := am_ (Below.refl w.heap.size w)
 have H : ((spec_l5At.f k l0_0 a1).bind fun t256 => ((spec_GoodPart.f k l0_0 l0_1 a0_2).bind fun t257 => (if t257 = true then (if t256 < 0 then (some (0, false)) else (if 0 ≤ t256 then (if t256 < (l0_0.length : Int) then (some ((rd_T81 l0_0 t256).f2, true)) else (none)) else (none))) else (some (0, false))))) = some (r1, r2) := h
 clear h
 replace H := bnd_ H
 obtain ⟨t256, A3, H⟩ := H
 replace H := bnd_ H
 obtain ⟨t257, A4, H⟩ := H
 replace H := ifb_ H
 obtain ⟨rfl, H⟩ | ⟨rfl, H⟩ := H
 rotate_left
 ·simp only [Option.some.injEq, Prod.mk.injEq] at H
  obtain ⟨rfl, rfl⟩ := H
  go_enter Try.func39, Try.ntmps39
  go_wp2_with (first | ((with_reducible refine gate_dst (N := 2) rfl ?_); refine bq_ (N := 2) #[.slice A0_0 l0_0.length c0_0, .slice A0_1 l0_1.length c0_1, .int .i64 a0_2] 33 ?_; intro gb255 hg w20 BK255 hb; have GE255 := ge_ hg; replace HB := nb_ hb; clear hb hg; obtain ⟨hcz21_0, hcz21_1, hcz21_2, hfz21_0, hfz21_1, hfz21_2⟩ := cf3_ BK255.out) | ((with_reducible refine gate_callee (f := 48) rfl ?_); refine gl_ 10 Try.func48 #[.slice A0_0 l0_0.length c0_0, .int .i64 a1] rfl ma_ ?_; (with_reducible refine (spec_l5At.calls k _ _ l0_0 a1 t256 _ ?side1 ?side2 A3.out).mono ?_); (case side1 => exact cs_ ((Kd.C_below HR0_0.out HB.out))); (case side2 => exact HC0_0.out); rintro e w22 ⟨rfl, hb⟩; refine ⟨_, rfl, ?_⟩; replace BK255 := bK_ BK255 hb; replace HB := nc_ GE255 hb; (try clear hb); (try clear hb2); (try clear hk); (try clear hi); obtain ⟨hcz23_0, hcz23_1, hcz23_2, hfz23_0, hfz23_1, hfz23_2⟩ := cf3_ BK255.out) | ((with_reducible refine gate_callee (f := 37) rfl ?_); refine gl_ 12 Try.func37 #[.agg #[.slice A0_0 l0_0.length c0_0, .slice A0_1 l0_1.length c0_1, .int .i64 a0_2]] rfl ma_ ?_; (with_reducible refine (spec_GoodPart.calls k _ _ l0_0 _ _ l0_1 a0_2 false _ ?side1 ?side2 ?side3 ?side4 A4.out).mono ?_); (case side1 => exact cs_ ((Kd.C_below HR0_0.out HB.out))); (case side2 => exact HC0_0.out); (case side3 => exact cs_ ((Kd.C_below HR0_1.out HB.out))); (case side4 => exact HC0_1.out); rintro e w24 ⟨rfl, hb⟩; refine ⟨_, rfl, ?_⟩; replace BK255 := bK_ BK255 hb; replace HB := nc_ GE255 hb; (try clear hb); (try clear hb2); (try clear hk); (try clear hi)))
  go_ret2
  exact ⟨er_, hs_ GE255.out⟩
 replace H := ite_ H
 obtain ⟨c6, H⟩ | ⟨c6, H⟩ := H
 ·have c6b0 := decide_eq_true c6
  clear c6
  simp only [Option.some.injEq, Prod.mk.injEq] at H
  obtain ⟨rfl, rfl⟩ := H
  go_enter Try.func39, Try.ntmps39
  go_wp2_with (first | ((with_reducible refine gate_dst (N := 2) rfl ?_); refine bq_ (N := 2) #[.slice A0_0 l0_0.length c0_0, .slice A0_1 l0_1.length c0_1, .int .i64 a0_2] 33 ?_; intro gb255 hg w7 BK255 hb; have GE255 := ge_ hg; replace HB := nb_ hb; clear hb hg; obtain ⟨hcz8_0, hcz8_1, hcz8_2, hfz8_0, hfz8_1, hfz8_2⟩ := cf3_ BK255.out) | ((with_reducible refine gate_callee (f := 48) rfl ?_); refine gl_ 10 Try.func48 #[.slice A0_0 l0_0.length c0_0, .int .i64 a1] rfl ma_ ?_; (with_reducible refine (spec_l5At.calls k _ _ l0_0 a1 t256 _ ?side1 ?side2 A3.out).mono ?_); (case side1 => exact cs_ ((Kd.C_below HR0_0.out HB.out))); (case side2 => exact HC0_0.out); rintro e w9 ⟨rfl, hb⟩; refine ⟨_, rfl, ?_⟩; replace BK255 := bK_ BK255 hb; replace HB := nc_ GE255 hb; (try clear hb); (try clear hb2); (try clear hk); (try clear hi); obtain ⟨hcz10_0, hcz10_1, hcz10_2, hfz10_0, hfz10_1, hfz10_2⟩ := cf3_ BK255.out) | ((with_reducible refine gate_callee (f := 37) rfl ?_); refine gl_ 12 Try.func37 #[.agg #[.slice A0_0 l0_0.length c0_0, .slice A0_1 l0_1.length c0_1, .int .i64 a0_2]] rfl ma_ ?_; (with_reducible refine (spec_GoodPart.calls k _ _ l0_0 _ _ l0_1 a0_2 true _ ?side1 ?side2 ?side3 ?side4 A4.out).mono ?_); (case side1 => exact cs_ ((Kd.C_below HR0_0.out HB.out))); (case side2 => exact HC0_0.out); (case side3 => exact cs_ ((Kd.C_below HR0_1.out HB.out))); (case side4 => exact HC0_1.out); rintro e w11 ⟨rfl, hb⟩; refine ⟨_, rfl, ?_⟩; replace BK255 := bK_ BK255 hb; replace HB := nc_ GE255 hb; (try clear hb); (try clear hb2); (try clear hk); (try clear hi)))
  go_ret2
  exact ⟨er_, hs_ GE255.out⟩
 have c6b0 := decide_eq_false c6
 clear c6
 replace H := ifs_ H
 obtain ⟨c12, H⟩ := H
 have c12b0 := decide_eq_true c12
 clear c12
 replace H := ifs_ H
 obtain ⟨c13, H⟩ := H
 have c13b0 := decide_eq_true c13
 clear c13
 simp only [Option.some.injEq, Prod.mk.injEq] at H
 obtain ⟨rfl, rfl⟩ := H
 go_enter Try.func39, Try.ntmps39
 go_wp2_with (first | ((with_reducible refine gate_dst (N := 2) rfl ?_); refine bq_ (N := 2) #[.slice A0_0 l0_0.length c0_0, .slice A0_1 l0_1.length c0_1, .int .i64 a0_2] 33 ?_; intro gb255 hg w14 BK255 hb; have GE255 := ge_ hg; replace HB := nb_ hb; clear hb hg; obtain ⟨hcz15_0, hcz15_1, hcz15_2, hfz15_0, hfz15_1, hfz15_2⟩ := cf3_ BK255.out) | ((with_reducible refine gate_callee (f := 48) rfl ?_); refine gl_ 10 Try.func48 #[.slice A0_0 l0_0.length c0_0, .int .i64 a1] rfl ma_ ?_; (with_reducible refine (spec_l5At.calls k _ _ l0_0 a1 t256 _ ?side1 ?side2 A3.out).mono ?_); (case side1 => exact cs_ ((Kd.C_below HR0_0.out HB.out))); (case side2 => exact HC0_0.out); rintro e w16 ⟨rfl, hb⟩; refine ⟨_, rfl, ?_⟩; replace BK255 := bK_ BK255 hb; replace HB := nc_ GE255 hb; (try clear hb); (try clear hb2); (try clear hk); (try clear hi); obtain ⟨hcz17_0, hcz17_1, hcz17_2, hfz17_0, hfz17_1, hfz17_2⟩ := cf3_ BK255.out) | ((with_reducible refine gate_callee (f := 37) rfl ?_); refine gl_ 12 Try.func37 #[.agg #[.slice A0_0 l0_0.length c0_0, .slice A0_1 l0_1.length c0_1, .int .i64 a0_2]] rfl ma_ ?_; (with_reducible refine (spec_GoodPart.calls k _ _ l0_0 _ _ l0_1 a0_2 true _ ?side1 ?side2 ?side3 ?side4 A4.out).mono ?_); (case side1 => exact cs_ ((Kd.C_below HR0_0.out HB.out))); (case side2 => exact HC0_0.out); (case side3 => exact cs_ ((Kd.C_below HR0_1.out HB.out))); (case side4 => exact HC0_1.out); rintro e w18 ⟨rfl, hb⟩; refine ⟨_, rfl, ?_⟩; replace BK255 := bK_ BK255 hb; replace HB := nc_ GE255 hb; (try clear hb); (try clear hb2); (try clear hk); (try clear hi); obtain ⟨hcz19_0, hcz19_1, hcz19_2, hfz19_0, hfz19_1, hfz19_2⟩ := cf3_ BK255.out; have p258 : 0 ≤ (t256 : Int) := oa_; have q258 : t256 < (l0_0.length : Int) := oa_; obtain ⟨ad258, A258_3, c258_3, e258, hx258_0, hx258_1, hx258_2, hx258_3, hl258_3, hi258_3⟩ := at_T81 HR0_0.out t256 p258 q258; cases e258; replace hx258_0 := pc_ HB.out hx258_0; replace hx258_1 := pc_ HB.out hx258_1; replace hx258_2 := pc_ HB.out hx258_2; replace hx258_3 := pc_ HB.out hx258_3; have HR258_3 := am_ hi258_3; have HC258_3 := am_ hl258_3; clear hi258_3 hl258_3; replace p258 := eq_true p258; replace q258 := eq_true q258))
 go_ret2
 exact ⟨er_, hs_ GE255.out⟩

-- NOT PRINTED: function 75 (slices_IndexFunc_Producer)

end Go.Proofs.Ytojdaolclcmalaa.QFnExactNextSeq
