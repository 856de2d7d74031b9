/- Functions that one statement reaches: of each a plain function, and the proof that calls come to it. Conditions: those that each contract names. Written by a program of this repository. -/
import Derived.Test.YtojdaolclcmalaaVRecordsOfa
import Derived.Test.YtojdaolclcmalaaQFnExactRecordsOfx0
import Derived.Test.YtojdaolclcmalaaQFnExactRecordsOfx6
import Derived.Test.YtojdaolclcmalaaQFnExactRecordsOfx7
namespace Go.Proofs.Ytojdaolclcmalaa.QFnExactRecordsOf
open Go.RowKit Go.Proofs.YtojdaolclcmalaaW.PrintWords Go.Proofs.YtojdaolclcmalaaW.PrintLast Go.Proofs.YtojdaolclcmalaaW.PrintMore
attribute [local go_sem] max2_int min2_int max_two min_two max_three min_three max_four min_four Go.Proofs.YtojdaolclcmalaaW.PrintMore2.isSome_setCell   -- for this text's walks alone
set_option linter.unusedVariables false
set_option linter.unusedSimpArgs false

/-! ### spec_GoodPart: function 37 -/
mutual
def spec_GoodPart.j0 : Nat → Bool → List (S81) → List (S78) → Int → List (S81) → List (S78) → Int → Option (Bool)
 | 0, _, _, _, _, _, _, _ => none
 | k + 1, x29, x160000, x160001, x160002, x169000, x169001, x169002 => if x29 = true then (some false) else (spec_GoodPart.l0 k (x169000.length : Int) 0 x160000 x160001 x160002 x169000 x169001 x169002)
def spec_GoodPart.l0 : Nat → Int → Int → List (S81) → List (S78) → Int → List (S81) → List (S78) → Int → Option (Bool)
 | 0, _, _, _, _, _, _, _, _ => none
 | k + 1, x32, x33, x160000, x160001, x160002, x169000, x169001, x169002 => if x33 < x32 then (if 0 ≤ x33 then (if x33 < (x169000.length : Int) then (if x33 < (x160000.length : Int) then ((spec_l5Same.f k ((rd_T81 x169000 x33).f0) ((rd_T81 x169000 x33).f1) ((rd_T81 x169000 x33).f2) ((rd_T81 x169000 x33).f3) ((rd_T81 x160000 x33).f0) ((rd_T81 x160000 x33).f1) ((rd_T81 x160000 x33).f2) ((rd_T81 x160000 x33).f3)).bind fun t171 => (if t171 = true then (spec_GoodPart.l0 k x32 (wrap64 (x33 + 1)) x160000 x160001 x160002 x169000 x169001 x169002) else (some false))) else (none)) else (none)) else (none)) else (some true)
end
def spec_GoodPart.f (k : Nat) (l0_0 : List (S81)) (l0_1 : List (S78)) (a0_2 : Int) : Option (Bool) := (spec_l5Rebuild.f k l0_1).bind fun bt160 => (if bt160.2.2.2 = true then (if bt160.2.2.1 = a0_2 then (spec_GoodPart.j0 k ((bt160.1.length : Int) != (l0_0.length : Int)) l0_0 l0_1 a0_2 bt160.1 bt160.2.1 bt160.2.2.1) else (spec_GoodPart.j0 k true l0_0 l0_1 a0_2 bt160.1 bt160.2.1 bt160.2.2.1)) else (spec_GoodPart.j0 k true l0_0 l0_1 a0_2 bt160.1 bt160.2.1 bt160.2.2.1))
theorem spec_GoodPart.mono_l : ∀ k, (∀ y0 y1 y2 y3 y4 y5 y6, LeO (spec_GoodPart.j0 k y0 y1 y2 y3 y4 y5 y6) (spec_GoodPart.j0 (k + 1) y0 y1 y2 y3 y4 y5 y6)) ∧ (∀ y0 y1 y2 y3 y4 y5 y6 y7, LeO (spec_GoodPart.l0 k y0 y1 y2 y3 y4 y5 y6 y7) (spec_GoodPart.l0 (k + 1) y0 y1 y2 y3 y4 y5 y6 y7))
 | 0 => ⟨fun _ _ _ _ _ _ _ r h => by simp [spec_GoodPart.j0] at h, fun _ _ _ _ _ _ _ _ r h => by simp [spec_GoodPart.l0] at h⟩
 | k + 1 => by
  obtain ⟨ih0, ih1⟩ := spec_GoodPart.mono_l k
  refine ⟨?_, ?_⟩
  all_goals intros; first | unfold spec_GoodPart.j0 | unfold spec_GoodPart.l0
  all_goals repeat' first | (with_reducible first | apply ih0 | apply ih1 | apply spec_l5Rebuild.mono | apply spec_l5Same.mono | exact LeO.refl _ | exact LeO.none _ | refine LeO.ite ?_ ?_ | refine LeO.bind ?_ (fun _ => ?_))
theorem spec_GoodPart.mono : ∀ a0 a1 a2 k, LeO (spec_GoodPart.f k a0 a1 a2) (spec_GoodPart.f (k + 1) a0 a1 a2) := by
 intro a0 a1 a2 k
 obtain ⟨ih0, ih1⟩ := spec_GoodPart.mono_l k
 unfold spec_GoodPart.f
 repeat' first
   | (with_reducible first | apply ih0 | apply ih1 | apply spec_l5Rebuild.mono | apply spec_l5Same.mono | exact LeO.refl _ | exact LeO.none _ | refine LeO.ite ?_ ?_ | refine LeO.bind ?_ (fun _ => ?_))
def spec_GoodPart.T7 : Bool × List (List Nat × List Nat) := (true, [([], []), ([0], [0]), ([], []), ([1, 2], [1, 2]), ([3], [3]), ([], []), ([5], [5]), ([], []), ([6, 7], [6, 7]), ([8], [8]), ([4, 9], [4, 9]), ([10], [10])])
def spec_GoodPart.B7 : List Nat := [0, 1, 0, 7, 15, 0, 32, 0, 224, 480, 1023, 2047]
theorem spec_GoodPart.tab7 : rtab .any (opsOf Try.f37 7) = spec_GoodPart.T7 := by kernel_rfl
theorem spec_GoodPart.bits7 : waitsOk spec_GoodPart.T7.2 spec_GoodPart.B7 = true := by kernel_rfl
set_option maxHeartbeats 8000000 in
set_option maxRecDepth 100000 in
theorem spec_GoodPart.calls (k : Nat) (A0_0 : Option Addr) (c0_0 : Nat) (l0_0 : List (S81)) (A0_1 : Option Addr) (c0_1 : Nat) (l0_1 : List (S78)) (a0_2 : Int) (r : Bool) (w : World) (hr0_0 : Kd.C k81 w A0_0 l0_0.length l0_0) (hc0_0 : l0_0.length ≤ c0_0) (hr0_1 : Kd.C k78 w A0_1 l0_1.length l0_1) (hc0_1 : l0_1.length ≤ c0_1) (h : spec_GoodPart.f k l0_0 l0_1 a0_2 = some r) :
  Calls Try.prog 37 #[.agg #[.slice A0_0 l0_0.length c0_0, .slice A0_1 l0_1.length c0_1, .int .i64 a0_2]] w fun e w' => e = .returned (.bool r) ∧ Below w.heap.size w w' := by
 have hu33 := Try.underlying33
 have hu81 := Try.underlying81
 have HR0_0 := am_ hr0_0
 have HC0_0 := am_ hc0_0
 clear hr0_0 hc0_0
 have HR0_1 := am_ hr0_1
 have HC0_1 := am_ hc0_1
 clear hr0_1 hc0_1
 have HB := am_ (Below.refl w.heap.size w)
 have H : ((spec_l5Rebuild.f k l0_1).bind fun bt160 => (if bt160.2.2.2 = true then (if bt160.2.2.1 = a0_2 then (spec_GoodPart.j0 k ((bt160.1.length : Int) != (l0_0.length : Int)) l0_0 l0_1 a0_2 bt160.1 bt160.2.1 bt160.2.2.1) else (spec_GoodPart.j0 k true l0_0 l0_1 a0_2 bt160.1 bt160.2.1 bt160.2.2.1)) else (spec_GoodPart.j0 k true l0_0 l0_1 a0_2 bt160.1 bt160.2.1 bt160.2.2.1))) = some r := h
 clear h
 replace H := bnd_ H
 obtain ⟨⟨t160, t163, t166, t167⟩, A2, H⟩ := H
 replace H := red_ H
 have HC3 := am_ H
 clear H
 go_enter Try.func37, Try.ntmps37
 go_upto_region 2 with (first | ((with_reducible refine gate_dst (N := 1) rfl ?_); (try (refine gate_guard (by rfl) ?_; dsimp only)); refine bq_ (N := 1) #[.slice A0_0 l0_0.length c0_0, .slice A0_1 l0_1.length c0_1, .int .i64 a0_2] 33 ?_; intro gb159 hg w4 BK159 hb; have GE159 := ge_ hg; replace HB := nb_ hb; clear hb hg; obtain ⟨hcz5_0, hcz5_1, hcz5_2, hfz5_0, hfz5_1, hfz5_2⟩ := cf3_ BK159.out) | ((with_reducible refine gate_callee (f := 67) rfl ?_); refine gl_ 9 Try.func67 #[.slice A0_1 l0_1.length c0_1] rfl ma_ ?_; (with_reducible refine (spec_l5Rebuild.calls k _ _ l0_1 t160 t163 t166 t167 _ ?side1 ?side2 A2.out).mono ?_); (case side1 => exact cs_ ((Kd.C_below HR0_1.out HB.out))); (case side2 => exact HC0_1.out); rintro e w6 ⟨v161, v164, rfl, ho0, ho1, hb⟩; refine ⟨_, rfl, ?_⟩; have HO162 := am_ (Kd.V_lower (Kd.V_mono (ok' := fun k_ => k_ ≠ gb159) ho0 (fun k_ hk_ => (Kd.freshB (g := gb159) (o := .cells #[.slice A0_0 l0_0.length c0_0, .slice A0_1 l0_1.length c0_1, .int .i64 a0_2] 33 (0, 0)) (kb_ BK159.out) k_ hk_))) (below_size (hs_ GE159.out))); have HO165 := am_ (Kd.V_lower (Kd.V_mono (ok' := fun k_ => k_ ≠ gb159) ho1 (fun k_ hk_ => (Kd.freshB (g := gb159) (o := .cells #[.slice A0_0 l0_0.length c0_0, .slice A0_1 l0_1.length c0_1, .int .i64 a0_2] 33 (0, 0)) (kb_ BK159.out) k_ hk_))) (below_size (hs_ GE159.out))); replace BK159 := bK_ BK159 hb; replace HB := nc_ GE159 hb; (try clear hb); (try clear hb2); (try clear hk); (try clear hi); (try clear ho0); (try clear ho1)) | ((with_reducible refine gate_dst (N := 3) rfl ?_); (try (refine gate_guard (by rfl) ?_; dsimp only)); refine bq_ (N := 3) #[.slice none 0 0, .slice none 0 0, .int .i64 0] 33 ?_; intro gb168 hg w7 BK168 hb; replace HO162 := am_ (Kd.V_below (Kd.V_elderB (vF_ HO162.out) gb168 (Nat.le_of_eq hg.symm)) hb); replace HO165 := am_ (Kd.V_below (Kd.V_elderB (vF_ HO165.out) gb168 (Nat.le_of_eq hg.symm)) hb); have GE168 := ge1_ hg GE159; replace HB := nc_ GE159 hb; have NB159_168 := nl_ BK159 hg; have NB168_159 := ng_ BK159 hg; replace BK159 := bK_ BK159 hb; clear hb hg; obtain ⟨Ao8, co8, eo8⟩ := Kd.V_slice HO162.out; subst eo8; have hnb9 := NB168_159.out; have hnc9 := NB159_168.out; obtain ⟨hcz10_0, hcz10_1, hcz10_2, hfz10_0, hfz10_1, hfz10_2⟩ := cf3_ BK168.out; obtain ⟨Ao11, co11, eo11⟩ := Kd.V_slice HO165.out; subst eo11))
 (try simp only [Act.put, List.setIfInBounds_toArray, List.set_cons_zero, List.set_cons_succ])
 go_cut [29] (fun v29 wc => ∃ (kq : Nat) (x29_2 : Bool), v29 = .bool x29_2 ∧ Aside0 (spec_GoodPart.j0 kq x29_2 l0_0 l0_1 a0_2 t160 t163 t166 = some r) ∧ Aside0 (kq ≤ k) ∧ Aside0 (Kd.V k81 81 wc w.heap.size (fun k_ => k_ ≠ gb159 ∧ k_ ≠ gb168) (.slice Ao8 t160.length co8) t160) ∧ Aside0 (Kd.V k78 78 wc w.heap.size (fun k_ => k_ ≠ gb159 ∧ k_ ≠ gb168) (.slice Ao11 t163.length co11) t163) ∧ Aside0 (wc.heap[gb159]? = some (.cells #[(.slice A0_0 l0_0.length c0_0), (.slice A0_1 l0_1.length c0_1), .int .i64 a0_2] 33 (0, 0))) ∧ Aside0 (wc.heap[gb168]? = some (.cells #[(.slice Ao8 t160.length co8), (.slice Ao11 t163.length co11), .int .i64 t166] 33 (0, 0))) ∧ Aside0 (Below w.heap.size w wc))
 case first =>
  have H := HC3.out
  clear HC3
  replace H := ifb_ H
  obtain ⟨rfl, H⟩ | ⟨rfl, H⟩ := H
  rotate_left
  ·have H' := am_ H
   clear H
   go_wp2
   go_meet
   case rel => exact ⟨_, (true), sr_, H', ⟨by first | omega | exact Nat.le_refl _⟩, ⟨Kd.V_mono (vF_ (Kd.V_mono HO162.out (fun k_ hk => (⟨hk, hk.2⟩ : _ ∧ k_ ≠ gb168)))) (fun _ hk => ⟨hk.1.1, hk.1.2⟩)⟩, ⟨Kd.V_mono (vF_ (Kd.V_mono HO165.out (fun k_ hk => (⟨hk, hk.2⟩ : _ ∧ k_ ≠ gb168)))) (fun _ hk => ⟨hk.1.1, hk.1.2⟩)⟩, ⟨uf_ BK159 NB159_168.out⟩, ⟨up_ BK168⟩, ⟨hs2_ GE159.out GE168.out⟩⟩
  replace H := ite_ H
  obtain ⟨c13, H⟩ | ⟨c13, H⟩ := H
  rotate_left
  ·have c13b0 : (t166 == a0_2) = false := beq_eq_false_iff_ne.mpr c13
   have c13b1 : (t166 != a0_2) = true := bne_iff_ne.mpr c13
   (first | rw [c13b0] | (simp only [i64_w, i32_w]; rw [c13b0]) | rw [c13b1] | skip)
   have H' := am_ H
   clear H
   have hnb17 := NB168_159.out
   have hnc17 := NB159_168.out
   obtain ⟨hcz18_0, hcz18_1, hcz18_2, hfz18_0, hfz18_1, hfz18_2⟩ := cf3_ BK168.out
   obtain ⟨hcz19_0, hcz19_1, hcz19_2, hfz19_0, hfz19_1, hfz19_2⟩ := cf3_ BK159.out
   go_wp2
   go_meet
   case rel => exact ⟨_, (true), sr_, H', ⟨by first | omega | exact Nat.le_refl _⟩, ⟨Kd.V_mono (vF_ (Kd.V_mono HO162.out (fun k_ hk => (⟨hk, hk.2⟩ : _ ∧ k_ ≠ gb168)))) (fun _ hk => ⟨hk.1.1, hk.1.2⟩)⟩, ⟨Kd.V_mono (vF_ (Kd.V_mono HO165.out (fun k_ hk => (⟨hk, hk.2⟩ : _ ∧ k_ ≠ gb168)))) (fun _ hk => ⟨hk.1.1, hk.1.2⟩)⟩, ⟨uf_ BK159 NB159_168.out⟩, ⟨up_ BK168⟩, ⟨hs2_ GE159.out GE168.out⟩⟩
  have c13b0 : (t166 == a0_2) = true := beq_iff_eq.mpr c13
  have c13b1 : (t166 != a0_2) = false := bne_eq_false_iff_eq.mpr c13
  clear c13
  (first | rw [c13b0] | (simp only [i64_w, i32_w]; rw [c13b0]) | rw [c13b1] | skip)
  have H' := am_ H
  clear H
  have hnb14 := NB168_159.out
  have hnc14 := NB159_168.out
  obtain ⟨hcz15_0, hcz15_1, hcz15_2, hfz15_0, hfz15_1, hfz15_2⟩ := cf3_ BK168.out
  obtain ⟨hcz16_0, hcz16_1, hcz16_2, hfz16_0, hfz16_1, hfz16_2⟩ := cf3_ BK159.out
  go_wp2
  go_meet
  case rel => exact ⟨_, (((t160.length : Int) != (l0_0.length : Int))), sr_, H', ⟨by first | omega | exact Nat.le_refl _⟩, ⟨Kd.V_mono (vF_ (Kd.V_mono HO162.out (fun k_ hk => (⟨hk, hk.2⟩ : _ ∧ k_ ≠ gb168)))) (fun _ hk => ⟨hk.1.1, hk.1.2⟩)⟩, ⟨Kd.V_mono (vF_ (Kd.V_mono HO165.out (fun k_ hk => (⟨hk, hk.2⟩ : _ ∧ k_ ≠ gb168)))) (fun _ hk => ⟨hk.1.1, hk.1.2⟩)⟩, ⟨uf_ BK159 NB159_168.out⟩, ⟨up_ BK168⟩, ⟨hs2_ GE159.out GE168.out⟩⟩
 case rest =>
  clear HC3
  try clear hcz10_0
  try clear hcz10_1
  try clear hcz10_2
  try clear hcz5_0
  try clear hcz5_1
  try clear hcz5_2
  try clear hfz10_0
  try clear hfz10_1
  try clear hfz10_2
  try clear hfz5_0
  try clear hfz5_1
  try clear hfz5_2
  obtain ⟨kq, x29_2, rfl, HA, HJ2, HO_169000, HO_169001, BK159, BK168, HB⟩ := hcut
  cases kq with
  | zero => exact absurd HA.out (by simp [spec_GoodPart.j0])
  | succ kj2 =>
   have H := HA.out
   clear HA
   simp only [spec_GoodPart.j0] at H
   replace H := ifb_ H
   obtain ⟨rfl, H⟩ | ⟨rfl, H⟩ := H
   ·obtain rfl := Option.some.inj H
    go_wp2
    go_ret
    exact ⟨er_, hs2_ GE159.out GE168.out⟩
   have H' := am_ H
   clear H
   have hnb21 := NB168_159.out
   have hnc21 := NB159_168.out
   obtain ⟨hcz22_0, hcz22_1, hcz22_2, hfz22_0, hfz22_1, hfz22_2⟩ := cf3_ BK168.out
   go_wp2
   go_loopg [33] kj2 (fun kq v33 w' => ∃ (x33_2 : Int), v33 = .int .i64 x33_2 ∧ Aside0 (spec_GoodPart.l0 kq (t160.length : Int) x33_2 l0_0 l0_1 a0_2 t160 t163 t166 = some r) ∧ Aside0 (kq ≤ kj2) ∧ Aside0 (Kd.V k81 81 w' w.heap.size (fun k_ => k_ ≠ gb159 ∧ k_ ≠ gb168) (.slice Ao8 t160.length co8) t160) ∧ Aside0 (Kd.V k78 78 w' w.heap.size (fun k_ => k_ ≠ gb159 ∧ k_ ≠ gb168) (.slice Ao11 t163.length co11) t163) ∧ Aside0 (w'.heap[gb159]? = some (.cells #[(.slice A0_0 l0_0.length c0_0), (.slice A0_1 l0_1.length c0_1), .int .i64 a0_2] 33 (0, 0))) ∧ Aside0 (w'.heap[gb168]? = some (.cells #[(.slice Ao8 t160.length co8), (.slice Ao11 t163.length co11), .int .i64 t166] 33 (0, 0))) ∧ Aside0 (Below w.heap.size w w'))
   case atStart => exact ⟨(0), sr_, H', ⟨Nat.le_refl _⟩, ⟨vF_ HO_169000.out⟩, ⟨vF_ HO_169001.out⟩, ⟨kb_ BK159.out⟩, ⟨kb_ BK168.out⟩, ⟨hs2_ GE159.out GE168.out⟩⟩
   case round =>
    clear H'
    try clear hcz10_0
    try clear hcz10_1
    try clear hcz10_2
    try clear hcz22_0
    try clear hcz22_1
    try clear hcz22_2
    try clear hcz5_0
    try clear hcz5_1
    try clear hcz5_2
    try clear hfz10_0
    try clear hfz10_1
    try clear hfz10_2
    try clear hfz22_0
    try clear hfz22_1
    try clear hfz22_2
    try clear hfz5_0
    try clear hfz5_1
    try clear hfz5_2
    obtain ⟨x33_2, rfl, HA, HK2, HO_169000, HO_169001, BK159, BK168, HB⟩ := hrel
    cases gk with
    | zero => exact absurd HA.out (by simp [spec_GoodPart.l0])
    | succ k2 =>
     have H := HA.out
     clear HA
     simp only [spec_GoodPart.l0] at H
     replace H := ite_ H
     obtain ⟨c23, H⟩ | ⟨c23, H⟩ := H
     rotate_left
     ·have c23b0 := decide_eq_false c23
      clear c23
      obtain rfl := Option.some.inj H
      go_wp2
      go_ret
      exact ⟨er_, hs2_ GE159.out GE168.out⟩
     have c23b0 := decide_eq_true c23
     clear c23
     replace H := ifs_ H
     obtain ⟨c24, H⟩ := H
     have c24b0 := decide_eq_true c24
     clear c24
     replace H := ifs_ H
     obtain ⟨c25, H⟩ := H
     have c25b0 := decide_eq_true c25
     clear c25
     replace H := ifs_ H
     obtain ⟨c26, H⟩ := H
     have c26b0 := decide_eq_true c26
     clear c26
     replace H := bnd_ H
     obtain ⟨t171, A27, H⟩ := H
     replace H := ifb_ H
     obtain ⟨rfl, H⟩ | ⟨rfl, H⟩ := H
     rotate_left
     ·obtain rfl := Option.some.inj H
      try go_wp2
      replace HO_169000 := am_ (Kd.V_drew HO_169000.out)
      replace HO_169001 := am_ (Kd.V_drew HO_169001.out)
      replace BK159 := qK_ BK159
      replace BK168 := qK_ BK168
      replace HB := qH_ HB
      have p169 : 0 ≤ (x33_2 : Int) := oa_
      have q169 : x33_2 < (t160.length : Int) := oa_
      obtain ⟨ad169, A169_3, c169_3, e169, hx169_0, hx169_1, hx169_2, hx169_3, hl169_3, hi169_3⟩ := at_T81 (Kd.V_reads' HO_169000.out).2.2 x33_2 p169 q169
      cases e169
      obtain ⟨ce169, hce169, hMe169, hcc169⟩ := Kd.V_get HO_169000.out z81 x33_2 p169 (by first | exact q169 | exact oa_ | (have e_ := (Kd.V_reads' HO_169000.out).1; omega))
      obtain ⟨ua169_3, uc169_3, rfl, ul169_3, ge169_3⟩ := k81_openF hMe169
      have hv169_3 := hcc169 3 _ rfl
      rw [add_field _ _ 3 (by omega)] at hv169_3
      replace hv169_3 := Option.some.inj (hv169_3.symm.trans hx169_3)
      injection hv169_3 with hva_ hvn_ hvc_
      rw [hva_] at ge169_3
      rw [hvc_] at ul169_3
      have HL169_3 := am_ (show Kd.V k112 112 _ w.heap.size _ _ ((rd_T81 t160 x33_2).f3) from Kd.V_mk ul169_3 ge169_3)
      clear hva_ hvn_ hvc_ ge169_3 ul169_3
      clear hcc169 hce169
      have HR169_3 := am_ hi169_3
      have HC169_3 := am_ hl169_3
      clear hi169_3 hl169_3
      replace p169 := eq_true p169
      replace q169 := eq_true q169
      have p170 : 0 ≤ (x33_2 : Int) := oa_
      have q170 : x33_2 < (l0_0.length : Int) := oa_
      obtain ⟨ad170, A170_3, c170_3, e170, hx170_0, hx170_1, hx170_2, hx170_3, hl170_3, hi170_3⟩ := at_T81 HR0_0.out x33_2 p170 q170
      have hw170_3 := hx170_3
      have hw170_2 := hx170_2
      have hw170_1 := hx170_1
      have hw170_0 := hx170_0
      cases e170
      replace hx170_0 := pc_ HB.out hx170_0
      replace hx170_1 := pc_ HB.out hx170_1
      replace hx170_2 := pc_ HB.out hx170_2
      replace hx170_3 := pc_ HB.out hx170_3
      have HR170_3 := am_ hi170_3
      have HC170_3 := am_ hl170_3
      clear hi170_3 hl170_3
      replace p170 := eq_true p170
      replace q170 := eq_true q170
      refine start_ (n := 12) (S := fun w' => w'.cell? ⟨gb168, 0, none⟩ = some (.slice (some ad169) t160.length co8) ∧ w'.cell? ⟨gb168, 1, none⟩ = some (.slice Ao11 t163.length co11) ∧ w'.cell? ⟨gb168, 2, none⟩ = some (.int .i64 t166) ∧ w'.cell? ⟨gb159, 0, none⟩ = some (.slice (some ad170) l0_0.length c0_0) ∧ w'.cell? ⟨gb159, 1, none⟩ = some (.slice A0_1 l0_1.length c0_1) ∧ w'.cell? ⟨gb159, 2, none⟩ = some (.int .i64 a0_2) ∧ w'.cell? (ad169.add ((x33_2).toNat * 4)) = some (.int .i64 ((rd_T81 t160 x33_2).f0)) ∧ w'.cell? ⟨(ad169.add ((x33_2).toNat * 4)).block, (ad169.add ((x33_2).toNat * 4)).off + 1, none⟩ = some (.int .i64 ((rd_T81 t160 x33_2).f1)) ∧ w'.cell? ⟨(ad169.add ((x33_2).toNat * 4)).block, (ad169.add ((x33_2).toNat * 4)).off + 2, none⟩ = some (.int .i64 ((rd_T81 t160 x33_2).f2)) ∧ w'.cell? ⟨(ad169.add ((x33_2).toNat * 4)).block, (ad169.add ((x33_2).toNat * 4)).off + 3, none⟩ = some (.slice A169_3 ((rd_T81 t160 x33_2).f3).length c169_3) ∧ w'.cell? (ad170.add ((x33_2).toNat * 4)) = some (.int .i64 ((rd_T81 l0_0 x33_2).f0)) ∧ w'.cell? ⟨(ad170.add ((x33_2).toNat * 4)).block, (ad170.add ((x33_2).toNat * 4)).off + 1, none⟩ = some (.int .i64 ((rd_T81 l0_0 x33_2).f1)) ∧ w'.cell? ⟨(ad170.add ((x33_2).toNat * 4)).block, (ad170.add ((x33_2).toNat * 4)).off + 2, none⟩ = some (.int .i64 ((rd_T81 l0_0 x33_2).f2)) ∧ w'.cell? ⟨(ad170.add ((x33_2).toNat * 4)).block, (ad170.add ((x33_2).toNat * 4)).off + 3, none⟩ = some (.slice A170_3 ((rd_T81 l0_0 x33_2).f3).length c170_3)) (ds := []) (List.replicate 12 false).toArray (by kernel_rfl) rfl rfl ⟨bt_ BK168 0, bt_ BK168 1, bt_ BK168 2, bt_ BK159 0, bt_ BK159 1, bt_ BK159 2, hx169_0, hx169_1, hx169_2, hx169_3, (pc_ HB.out hw170_0), (pc_ HB.out hw170_1), (pc_ HB.out hw170_2), (pc_ HB.out hw170_3)⟩ (fun hHeld => ?_); refine with_tabW spec_GoodPart.tab7 spec_GoodPart.bits7 (fun HT_ HW_ => ?_)
      generalize wr.drew = w31 at HO_169000 HO_169001 BK159 BK168 HB HL169_3 HR169_3 HR170_3 hx169_0 hx169_1 hx169_2 hx169_3 hx170_0 hx170_1 hx170_2 hx170_3 hHeld ⊢
      refine pv_ 0 36 ?_
      refine pv_ 2 38 ?_
      refine pv_ 5 41 ?_
      refine pv_ 7 43 ?_
      refine tk_ 1 37 ?_
      refine pv_ 3 39 ?_
      refine tk_ 4 40 ?_
      refine tk_ 6 42 ?_
      refine pv_ 8 44 ?_
      refine tk_ 9 45 ?_
      refine on_ 10 46 (fun K hK => ?_)
      refine gs_ Try.func69 #[.agg #[.int .i64 ((rd_T81 t160 x33_2).f0), .int .i64 ((rd_T81 t160 x33_2).f1), .int .i64 ((rd_T81 t160 x33_2).f2), .slice A169_3 ((rd_T81 t160 x33_2).f3).length c169_3], .agg #[.int .i64 ((rd_T81 l0_0 x33_2).f0), .int .i64 ((rd_T81 l0_0 x33_2).f1), .int .i64 ((rd_T81 l0_0 x33_2).f2), .slice A170_3 ((rd_T81 l0_0 x33_2).f3).length c170_3]] rfl ma_ ?_
      with_reducible refine (spec_l5Same.calls k2 ((rd_T81 t160 x33_2).f0) ((rd_T81 t160 x33_2).f1) ((rd_T81 t160 x33_2).f2) _ _ ((rd_T81 t160 x33_2).f3) ((rd_T81 l0_0 x33_2).f0) ((rd_T81 l0_0 x33_2).f1) ((rd_T81 l0_0 x33_2).f2) _ _ ((rd_T81 l0_0 x33_2).f3) false _ ?side1 ?side2 ?side3 ?side4 A27.out).mono ?_
      (case side1 => repeat (first | exact (by repeat (first | (with_reducible exact HR169_3.out) | (with_reducible refine Kd.C_alloc ?_ _) | (with_reducible refine Kd.C_drewN ?_ _) | (with_reducible refine Kd.C_drew ?_) | exact HR169_3.out)) | (with_reducible refine Kd.C_alloc ?_ _) | (with_reducible refine Kd.C_drewN ?_ _) | (with_reducible refine Kd.C_drew ?_)))
      (case side2 => exact HC169_3.out)
      (case side3 => exact cs_ ((Kd.C_below HR170_3.out HB.out)))
      (case side4 => exact HC170_3.out)
      rintro e w32 ⟨rfl, hb⟩
      have HS6_ := (hb.cell (World.block_lt_of_cell? _ _ (hHeld.2.2.2.2.2.2.1))).trans (hHeld.2.2.2.2.2.2.1)
      have HS7_ := (hb.cell (World.block_lt_of_cell? _ _ (hHeld.2.2.2.2.2.2.2.1))).trans (hHeld.2.2.2.2.2.2.2.1)
      have HS8_ := (hb.cell (World.block_lt_of_cell? _ _ (hHeld.2.2.2.2.2.2.2.2.1))).trans (hHeld.2.2.2.2.2.2.2.2.1)
      have HS9_ := (hb.cell (World.block_lt_of_cell? _ _ (hHeld.2.2.2.2.2.2.2.2.2.1))).trans (hHeld.2.2.2.2.2.2.2.2.2.1)
      refine ⟨_, rfl, ?_⟩
      replace HO_169000 := am_ (Kd.V_below (vF_ HO_169000.out) hb)
      replace HO_169001 := am_ (Kd.V_below (vF_ HO_169001.out) hb)
      replace HL169_3 := am_ (Kd.V_below (vF_ HL169_3.out) hb)
      replace BK159 := bK_ BK159 hb
      replace BK168 := bK_ BK168 hb
      replace HR169_3 := am_ (Kd.C_below (by repeat (first | (with_reducible exact HR169_3.out) | (with_reducible refine Kd.C_alloc ?_ _) | (with_reducible refine Kd.C_drewN ?_ _) | (with_reducible refine Kd.C_drew ?_) | exact HR169_3.out)) hb)
      replace HB := nc2_ GE159 GE168 hb
      (try clear hb)
      (try clear hb2)
      (try clear hk)
      (try clear hi)
      refine hK.out _ _ ⟨bt_ BK168 0, bt_ BK168 1, bt_ BK168 2, bt_ BK159 0, bt_ BK159 1, bt_ BK159 2, HS6_, HS7_, HS8_, HS9_, (pc_ HB.out hw170_0), (pc_ HB.out hw170_1), (pc_ HB.out hw170_2), (pc_ HB.out hw170_3)⟩ (fun hHeld => ?_)
      clear hK K
      refine no_ ?_
      refine pv_ 11 47 ?_
      refine done_ (done_of HT_.out (by kernel_rfl)) ?_
      try go_wp2
      go_ret
      exact ⟨er_, hs2_ GE159.out GE168.out⟩
     have H' := am_ H
     clear H
     try go_wp2
     replace HO_169000 := am_ (Kd.V_drew HO_169000.out)
     replace HO_169001 := am_ (Kd.V_drew HO_169001.out)
     replace BK159 := qK_ BK159
     replace BK168 := qK_ BK168
     replace HB := qH_ HB
     have p169 : 0 ≤ (x33_2 : Int) := oa_
     have q169 : x33_2 < (t160.length : Int) := oa_
     obtain ⟨ad169, A169_3, c169_3, e169, hx169_0, hx169_1, hx169_2, hx169_3, hl169_3, hi169_3⟩ := at_T81 (Kd.V_reads' HO_169000.out).2.2 x33_2 p169 q169
     cases e169
     obtain ⟨ce169, hce169, hMe169, hcc169⟩ := Kd.V_get HO_169000.out z81 x33_2 p169 (by first | exact q169 | exact oa_ | (have e_ := (Kd.V_reads' HO_169000.out).1; omega))
     obtain ⟨ua169_3, uc169_3, rfl, ul169_3, ge169_3⟩ := k81_openF hMe169
     have hv169_3 := hcc169 3 _ rfl
     rw [add_field _ _ 3 (by omega)] at hv169_3
     replace hv169_3 := Option.some.inj (hv169_3.symm.trans hx169_3)
     injection hv169_3 with hva_ hvn_ hvc_
     rw [hva_] at ge169_3
     rw [hvc_] at ul169_3
     have HL169_3 := am_ (show Kd.V k112 112 _ w.heap.size _ _ ((rd_T81 t160 x33_2).f3) from Kd.V_mk ul169_3 ge169_3)
     clear hva_ hvn_ hvc_ ge169_3 ul169_3
     clear hcc169 hce169
     have HR169_3 := am_ hi169_3
     have HC169_3 := am_ hl169_3
     clear hi169_3 hl169_3
     replace p169 := eq_true p169
     replace q169 := eq_true q169
     have p170 : 0 ≤ (x33_2 : Int) := oa_
     have q170 : x33_2 < (l0_0.length : Int) := oa_
     obtain ⟨ad170, A170_3, c170_3, e170, hx170_0, hx170_1, hx170_2, hx170_3, hl170_3, hi170_3⟩ := at_T81 HR0_0.out x33_2 p170 q170
     have hw170_3 := hx170_3
     have hw170_2 := hx170_2
     have hw170_1 := hx170_1
     have hw170_0 := hx170_0
     cases e170
     replace hx170_0 := pc_ HB.out hx170_0
     replace hx170_1 := pc_ HB.out hx170_1
     replace hx170_2 := pc_ HB.out hx170_2
     replace hx170_3 := pc_ HB.out hx170_3
     have HR170_3 := am_ hi170_3
     have HC170_3 := am_ hl170_3
     clear hi170_3 hl170_3
     replace p170 := eq_true p170
     replace q170 := eq_true q170
     refine start_ (n := 12) (S := fun w' => w'.cell? ⟨gb168, 0, none⟩ = some (.slice (some ad169) t160.length co8) ∧ w'.cell? ⟨gb168, 1, none⟩ = some (.slice Ao11 t163.length co11) ∧ w'.cell? ⟨gb168, 2, none⟩ = some (.int .i64 t166) ∧ w'.cell? ⟨gb159, 0, none⟩ = some (.slice (some ad170) l0_0.length c0_0) ∧ w'.cell? ⟨gb159, 1, none⟩ = some (.slice A0_1 l0_1.length c0_1) ∧ w'.cell? ⟨gb159, 2, none⟩ = some (.int .i64 a0_2) ∧ w'.cell? (ad169.add ((x33_2).toNat * 4)) = some (.int .i64 ((rd_T81 t160 x33_2).f0)) ∧ w'.cell? ⟨(ad169.add ((x33_2).toNat * 4)).block, (ad169.add ((x33_2).toNat * 4)).off + 1, none⟩ = some (.int .i64 ((rd_T81 t160 x33_2).f1)) ∧ w'.cell? ⟨(ad169.add ((x33_2).toNat * 4)).block, (ad169.add ((x33_2).toNat * 4)).off + 2, none⟩ = some (.int .i64 ((rd_T81 t160 x33_2).f2)) ∧ w'.cell? ⟨(ad169.add ((x33_2).toNat * 4)).block, (ad169.add ((x33_2).toNat * 4)).off + 3, none⟩ = some (.slice A169_3 ((rd_T81 t160 x33_2).f3).length c169_3) ∧ w'.cell? (ad170.add ((x33_2).toNat * 4)) = some (.int .i64 ((rd_T81 l0_0 x33_2).f0)) ∧ w'.cell? ⟨(ad170.add ((x33_2).toNat * 4)).block, (ad170.add ((x33_2).toNat * 4)).off + 1, none⟩ = some (.int .i64 ((rd_T81 l0_0 x33_2).f1)) ∧ w'.cell? ⟨(ad170.add ((x33_2).toNat * 4)).block, (ad170.add ((x33_2).toNat * 4)).off + 2, none⟩ = some (.int .i64 ((rd_T81 l0_0 x33_2).f2)) ∧ w'.cell? ⟨(ad170.add ((x33_2).toNat * 4)).block, (ad170.add ((x33_2).toNat * 4)).off + 3, none⟩ = some (.slice A170_3 ((rd_T81 l0_0 x33_2).f3).length c170_3)) (ds := []) (List.replicate 12 false).toArray (by kernel_rfl) rfl rfl ⟨bt_ BK168 0, bt_ BK168 1, bt_ BK168 2, bt_ BK159 0, bt_ BK159 1, bt_ BK159 2, hx169_0, hx169_1, hx169_2, hx169_3, (pc_ HB.out hw170_0), (pc_ HB.out hw170_1), (pc_ HB.out hw170_2), (pc_ HB.out hw170_3)⟩ (fun hHeld => ?_); refine with_tabW spec_GoodPart.tab7 spec_GoodPart.bits7 (fun HT_ HW_ => ?_)
     generalize wr.drew = w29 at HO_169000 HO_169001 BK159 BK168 HB HL169_3 HR169_3 HR170_3 hx169_0 hx169_1 hx169_2 hx169_3 hx170_0 hx170_1 hx170_2 hx170_3 hHeld ⊢
     refine pv_ 0 36 ?_
     refine pv_ 2 38 ?_
     refine pv_ 5 41 ?_
     refine pv_ 7 43 ?_
     refine tk_ 1 37 ?_
     refine pv_ 3 39 ?_
     refine tk_ 4 40 ?_
     refine tk_ 6 42 ?_
     refine pv_ 8 44 ?_
     refine tk_ 9 45 ?_
     refine on_ 10 46 (fun K hK => ?_)
     refine gs_ Try.func69 #[.agg #[.int .i64 ((rd_T81 t160 x33_2).f0), .int .i64 ((rd_T81 t160 x33_2).f1), .int .i64 ((rd_T81 t160 x33_2).f2), .slice A169_3 ((rd_T81 t160 x33_2).f3).length c169_3], .agg #[.int .i64 ((rd_T81 l0_0 x33_2).f0), .int .i64 ((rd_T81 l0_0 x33_2).f1), .int .i64 ((rd_T81 l0_0 x33_2).f2), .slice A170_3 ((rd_T81 l0_0 x33_2).f3).length c170_3]] rfl ma_ ?_
     with_reducible refine (spec_l5Same.calls k2 ((rd_T81 t160 x33_2).f0) ((rd_T81 t160 x33_2).f1) ((rd_T81 t160 x33_2).f2) _ _ ((rd_T81 t160 x33_2).f3) ((rd_T81 l0_0 x33_2).f0) ((rd_T81 l0_0 x33_2).f1) ((rd_T81 l0_0 x33_2).f2) _ _ ((rd_T81 l0_0 x33_2).f3) true _ ?side1 ?side2 ?side3 ?side4 A27.out).mono ?_
     (case side1 => repeat (first | exact (by repeat (first | (with_reducible exact HR169_3.out) | (with_reducible refine Kd.C_alloc ?_ _) | (with_reducible refine Kd.C_drewN ?_ _) | (with_reducible refine Kd.C_drew ?_) | exact HR169_3.out)) | (with_reducible refine Kd.C_alloc ?_ _) | (with_reducible refine Kd.C_drewN ?_ _) | (with_reducible refine Kd.C_drew ?_)))
     (case side2 => exact HC169_3.out)
     (case side3 => exact cs_ ((Kd.C_below HR170_3.out HB.out)))
     (case side4 => exact HC170_3.out)
     rintro e w30 ⟨rfl, hb⟩
     have HS6_ := (hb.cell (World.block_lt_of_cell? _ _ (hHeld.2.2.2.2.2.2.1))).trans (hHeld.2.2.2.2.2.2.1)
     have HS7_ := (hb.cell (World.block_lt_of_cell? _ _ (hHeld.2.2.2.2.2.2.2.1))).trans (hHeld.2.2.2.2.2.2.2.1)
     have HS8_ := (hb.cell (World.block_lt_of_cell? _ _ (hHeld.2.2.2.2.2.2.2.2.1))).trans (hHeld.2.2.2.2.2.2.2.2.1)
     have HS9_ := (hb.cell (World.block_lt_of_cell? _ _ (hHeld.2.2.2.2.2.2.2.2.2.1))).trans (hHeld.2.2.2.2.2.2.2.2.2.1)
     refine ⟨_, rfl, ?_⟩
     replace HO_169000 := am_ (Kd.V_below (vF_ HO_169000.out) hb)
     replace HO_169001 := am_ (Kd.V_below (vF_ HO_169001.out) hb)
     replace HL169_3 := am_ (Kd.V_below (vF_ HL169_3.out) hb)
     replace BK159 := bK_ BK159 hb
     replace BK168 := bK_ BK168 hb
     replace HR169_3 := am_ (Kd.C_below (by repeat (first | (with_reducible exact HR169_3.out) | (with_reducible refine Kd.C_alloc ?_ _) | (with_reducible refine Kd.C_drewN ?_ _) | (with_reducible refine Kd.C_drew ?_) | exact HR169_3.out)) hb)
     replace HB := nc2_ GE159 GE168 hb
     (try clear hb)
     (try clear hb2)
     (try clear hk)
     (try clear hi)
     refine hK.out _ _ ⟨bt_ BK168 0, bt_ BK168 1, bt_ BK168 2, bt_ BK159 0, bt_ BK159 1, bt_ BK159 2, HS6_, HS7_, HS8_, HS9_, (pc_ HB.out hw170_0), (pc_ HB.out hw170_1), (pc_ HB.out hw170_2), (pc_ HB.out hw170_3)⟩ (fun hHeld => ?_)
     clear hK K
     refine no_ ?_
     refine pv_ 11 47 ?_
     refine done_ (done_of HT_.out (by kernel_rfl)) ?_
     try go_wp2
     go_roundg k2
     case measure => have := HJ2.out; have := HK2.out; omega
     case rel => exact ⟨(wrap64 (x33_2 + 1)), sr_, H', ⟨by have := HJ2.out; have := HK2.out; omega⟩, ⟨vF_ HO_169000.out⟩, ⟨vF_ HO_169001.out⟩, ⟨kb_ BK159.out⟩, ⟨kb_ BK168.out⟩, ⟨hs2_ GE159.out GE168.out⟩⟩

end Go.Proofs.Ytojdaolclcmalaa.QFnExactRecordsOf
