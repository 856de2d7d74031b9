/- Functions that one statement reaches: of each a plain function, and the proof that calls come to it. Conditions: those that each contract names. Written by a program of this repository. -/
import Derived.Test.YtojdaolclcmalaaVPlayAsksa
import Derived.Test.YtojdaolclcmalaaQFnExactPlayAsksx2
import Derived.Test.YtojdaolclcmalaaQFnExactPlayAsksx6
namespace Go.Proofs.Ytojdaolclcmalaa.QFnExactPlayAsks
open Go.RowKit Go.Proofs.YtojdaolclcmalaaW.PrintWords Go.Proofs.YtojdaolclcmalaaW.PrintLast Go.Proofs.YtojdaolclcmalaaW.PrintMore
attribute [local go_sem] max2_int min2_int max_two min_two max_three min_three max_four min_four Go.Proofs.YtojdaolclcmalaaW.PrintMore2.isSome_setCell   -- for this text's walks alone
set_option linter.unusedVariables false
set_option linter.unusedSimpArgs false

/-! ### spec_l5Code: function 83 -/
mutual
def spec_l5Code.j0 : Nat → Int → Bool → List (S81) → List (S78) → Int → Int → Int → Int → List ByteArray → Option (Int × Int)
 | 0, _, _, _, _, _, _, _, _, _ => none
 | k + 1, x6, x60, x156000, x156001, x156002, x157000, x157001, x157002, x157003 => if x60 = true then (some (4, 0)) else (if x6 < 0 then (spec_l5Code.j1 k x6 true x156000 x156001 x156002 x157000 x157001 x157002 x157003) else (if 0 ≤ x6 then (if x6 < (x156000.length : Int) then (spec_l5Code.j1 k x6 (decide (((rd_T81 x156000 x6).f1) < x157001)) x156000 x156001 x156002 x157000 x157001 x157002 x157003) else (none)) else (none)))
def spec_l5Code.j1 : Nat → Int → Bool → List (S81) → List (S78) → Int → Int → Int → Int → List ByteArray → Option (Int × Int)
 | 0, _, _, _, _, _, _, _, _, _ => none
 | k + 1, x6, x74, x156000, x156001, x156002, x157000, x157001, x157002, x157003 => if x74 = true then (if x157002 = 0 then (if x6 < 0 then (if (x156000.length : Int) = 4 then (some (5, 0)) else (if (x156001.length : Int) = 60 then (some (5, 0)) else (if (wrap64 ((wrap64 (x157002 + (x157003.length : Int))) - 1)) > 65535 then (some (5, 0)) else (some (0, x156002))))) else (if (x156001.length : Int) = 60 then (some (5, 0)) else (if (wrap64 ((wrap64 (x157002 + (x157003.length : Int))) - 1)) > 65535 then (some (5, 0)) else (some (0, x156002))))) else (some (3, 0))) else (if 0 ≤ x6 then (if x6 < (x156000.length : Int) then (spec_l5Code.l0 k x6 ((rd_T81 x156000 x6).f3) (((rd_T81 x156000 x6).f3).length : Int) 0 x156000 x156001 x156002 x157000 x157001 x157002 x157003 ((rd_T81 x156000 x6).f0) ((rd_T81 x156000 x6).f1) ((rd_T81 x156000 x6).f2) ((rd_T81 x156000 x6).f3)) else (none)) else (none))
def spec_l5Code.l0 : Nat → Int → List (S112) → Int → Int → List (S81) → List (S78) → Int → Int → Int → Int → List ByteArray → Int → Int → Int → List (S112) → Option (Int × Int)
 | 0, _, _, _, _, _, _, _, _, _, _, _, _, _, _, _ => none
 | k + 1, x6, x21, x22, x23, x156000, x156001, x156002, x157000, x157001, x157002, x157003, x162000, x162001, x162002, x162003 => if x23 < x22 then (if 0 ≤ x23 then (if x23 < (x21.length : Int) then (if x157002 = x162002 then (spec_l5Code.l0 k x6 x21 x22 (wrap64 (x23 + 1)) x156000 x156001 x156002 x157000 x157001 x157002 x157003 x162000 x162001 x162002 x162003) else (if ((rd_T112 x21 x23).f0) = x157002 then (if ((rd_T112 x21 x23).f1) = (x157003.length : Int) then (some (1, (rd_T112 x21 x23).f2)) else (spec_l5Code.l0 k x6 x21 x22 (wrap64 (x23 + 1)) x156000 x156001 x156002 x157000 x157001 x157002 x157003 x162000 x162001 x162002 x162003)) else (spec_l5Code.l0 k x6 x21 x22 (wrap64 (x23 + 1)) x156000 x156001 x156002 x157000 x157001 x157002 x157003 x162000 x162001 x162002 x162003))) else (none)) else (none)) else (if x157002 < x162002 then (some (2, 0)) else (if x157002 > x162002 then (some (3, 0)) else (if x6 < 0 then (if (x156000.length : Int) = 4 then (some (5, 0)) else (if (x156001.length : Int) = 60 then (some (5, 0)) else (if (wrap64 ((wrap64 (x157002 + (x157003.length : Int))) - 1)) > 65535 then (some (5, 0)) else (some (0, x156002))))) else (if (x156001.length : Int) = 60 then (some (5, 0)) else (if (wrap64 ((wrap64 (x157002 + (x157003.length : Int))) - 1)) > 65535 then (some (5, 0)) else (some (0, x156002)))))))
end
def spec_l5Code.f (k : Nat) (l0_0 : List (S81)) (l0_1 : List (S78)) (a0_2 : Int) (a1_0 : Int) (a1_1 : Int) (a1_2 : Int) (l1_3 : List ByteArray) : Option (Int × Int) := (spec_l5At.f k l0_0 a1_0).bind fun t157 => (if t157 ≥ 0 then (if 0 ≤ t157 then (if t157 < (l0_0.length : Int) then (spec_l5Code.j0 k t157 (decide (((rd_T81 l0_0 t157).f1) > a1_1)) l0_0 l0_1 a0_2 a1_0 a1_1 a1_2 l1_3) else (none)) else (none)) else (spec_l5Code.j0 k t157 false l0_0 l0_1 a0_2 a1_0 a1_1 a1_2 l1_3))
theorem spec_l5Code.mono_l : ∀ k, (∀ y0 y1 y2 y3 y4 y5 y6 y7 y8, LeO (spec_l5Code.j0 k y0 y1 y2 y3 y4 y5 y6 y7 y8) (spec_l5Code.j0 (k + 1) y0 y1 y2 y3 y4 y5 y6 y7 y8)) ∧ (∀ y0 y1 y2 y3 y4 y5 y6 y7 y8, LeO (spec_l5Code.j1 k y0 y1 y2 y3 y4 y5 y6 y7 y8) (spec_l5Code.j1 (k + 1) y0 y1 y2 y3 y4 y5 y6 y7 y8)) ∧ (∀ y0 y1 y2 y3 y4 y5 y6 y7 y8 y9 y10 y11 y12 y13 y14, LeO (spec_l5Code.l0 k y0 y1 y2 y3 y4 y5 y6 y7 y8 y9 y10 y11 y12 y13 y14) (spec_l5Code.l0 (k + 1) y0 y1 y2 y3 y4 y5 y6 y7 y8 y9 y10 y11 y12 y13 y14))
 | 0 => ⟨fun _ _ _ _ _ _ _ _ _ r h => by simp [spec_l5Code.j0] at h, fun _ _ _ _ _ _ _ _ _ r h => by simp [spec_l5Code.j1] at h, fun _ _ _ _ _ _ _ _ _ _ _ _ _ _ _ r h => by simp [spec_l5Code.l0] at h⟩
 | k + 1 => by
  obtain ⟨ih0, ih1, ih2⟩ := spec_l5Code.mono_l k
  refine ⟨?_, ?_, ?_⟩
  all_goals intros; first | unfold spec_l5Code.j0 | unfold spec_l5Code.j1 | unfold spec_l5Code.l0
  all_goals repeat' first | (with_reducible first | apply ih0 | apply ih1 | apply ih2 | apply spec_l5At.mono | exact LeO.refl _ | exact LeO.none _ | refine LeO.ite ?_ ?_ | refine LeO.bind ?_ (fun _ => ?_))
theorem spec_l5Code.mono : ∀ a0 a1 a2 a3 a4 a5 a6 k, LeO (spec_l5Code.f k a0 a1 a2 a3 a4 a5 a6) (spec_l5Code.f (k + 1) a0 a1 a2 a3 a4 a5 a6) := by
 intro a0 a1 a2 a3 a4 a5 a6 k
 obtain ⟨ih0, ih1, ih2⟩ := spec_l5Code.mono_l k
 unfold spec_l5Code.f
 repeat' first
   | (with_reducible first | apply ih0 | apply ih1 | apply ih2 | apply spec_l5At.mono | exact LeO.refl _ | exact LeO.none _ | refine LeO.ite ?_ ?_ | refine LeO.bind ?_ (fun _ => ?_))
set_option maxHeartbeats 8000000 in
set_option maxRecDepth 100000 in
theorem spec_l5Code.calls (k : Nat) (A0_0 : Option Addr) (c0_0 : Nat) (l0_0 : List (S81)) (A0_1 : Option Addr) (c0_1 : Nat) (l0_1 : List (S78)) (a0_2 : Int) (a1_0 : Int) (a1_1 : Int) (a1_2 : Int) (A1_3 : Option Addr) (c1_3 : Nat) (l1_3 : List ByteArray) (r1 : Int) (r2 : Int) (w : World) (hr0_0 : Kd.C k81 w A0_0 l0_0.length l0_0) (hc0_0 : l0_0.length ≤ c0_0) (hr0_1 : Kd.C k78 w A0_1 l0_1.length l0_1) (hc0_1 : l0_1.length ≤ c0_1) (hr1_3 : Kd.C Kd.string w A1_3 l1_3.length l1_3) (hc1_3 : l1_3.length ≤ c1_3) (h : spec_l5Code.f k l0_0 l0_1 a0_2 a1_0 a1_1 a1_2 l1_3 = some (r1, r2)) :
  Calls Try.prog 83 #[.agg #[.slice A0_0 l0_0.length c0_0, .slice A0_1 l0_1.length c0_1, .int .i64 a0_2], .agg #[.int .i64 a1_0, .int .i64 a1_1, .int .i64 a1_2, .slice A1_3 l1_3.length c1_3]] w fun e w' => e = .returned (.tuple #[.int .i64 r1, .int .i64 r2]) ∧ Below w.heap.size w w' := by
 have hu33 := Try.underlying33
 have hu57 := Try.underlying57
 have hu81 := Try.underlying81
 have hu112 := Try.underlying112
 have HR0_0 := am_ hr0_0
 have HC0_0 := am_ hc0_0
 clear hr0_0 hc0_0
 have HR0_1 := am_ hr0_1
 have HC0_1 := am_ hc0_1
 clear hr0_1 hc0_1
 have HR1_3 := am_ hr1_3
 have HC1_3 := am_ hc1_3
 clear hr1_3 hc1_3
 have HB := am_ (Below.refl w.heap.size w)
 have H : ((spec_l5At.f k l0_0 a1_0).bind fun t157 => (if t157 ≥ 0 then (if 0 ≤ t157 then (if t157 < (l0_0.length : Int) then (spec_l5Code.j0 k t157 (decide (((rd_T81 l0_0 t157).f1) > a1_1)) l0_0 l0_1 a0_2 a1_0 a1_1 a1_2 l1_3) else (none)) else (none)) else (spec_l5Code.j0 k t157 false l0_0 l0_1 a0_2 a1_0 a1_1 a1_2 l1_3))) = some (r1, r2) := h
 clear h
 replace H := bnd_ H
 obtain ⟨t157, A3, H⟩ := H
 have HC4 := am_ H
 clear H
 go_enter Try.func83, Try.ntmps83
 go_upto_region 13 with (first | ((with_reducible refine gate_dst (N := 2) rfl ?_); (try (refine gate_guard (by rfl) ?_; dsimp only)); refine bq_ (N := 2) #[.slice A0_0 l0_0.length c0_0, .slice A0_1 l0_1.length c0_1, .int .i64 a0_2] 33 ?_; intro gb155 hg w5 BK155 hb; have GE155 := ge_ hg; replace HB := nb_ hb; clear hb hg) | ((with_reducible refine gate_dst (N := 3) rfl ?_); (try (refine gate_guard (by rfl) ?_; dsimp only)); refine bq_ (N := 3) #[.int .i64 a1_0, .int .i64 a1_1, .int .i64 a1_2, .slice A1_3 l1_3.length c1_3] 57 ?_; intro gb156 hg w6 BK156 hb; have GE156 := ge1_ hg GE155; replace HB := nc_ GE155 hb; have NB155_156 := nl_ BK155 hg; have NB156_155 := ng_ BK155 hg; replace BK155 := bK_ BK155 hb; clear hb hg; have hnb7 := NB155_156.out; have hnc7 := NB156_155.out; obtain ⟨hcz8_0, hcz8_1, hcz8_2, hfz8_0, hfz8_1, hfz8_2⟩ := cf3_ BK155.out; obtain ⟨hcz9_0, hcz9_1, hcz9_2, hcz9_3, hfz9_0, hfz9_1, hfz9_2, hfz9_3⟩ := cf4_ BK156.out) | (go_at_call 48; (with_reducible refine (spec_l5At.calls k _ _ l0_0 a1_0 t157 _ ?side1 ?side2 A3.out).mono ?_); (case side1 => exact cs_ ((Kd.C_below HR0_0.out HB.out))); (case side2 => exact HC0_0.out); rintro e w10 ⟨rfl, hb⟩; replace BK155 := bK_ BK155 hb; replace BK156 := bK_ BK156 hb; replace HB := nc2_ GE155 GE156 hb; (try clear hb); (try clear hb2); (try clear hk); (try clear hi)))
 repeat (go_quiet (first | ((with_reducible refine gate_dst (N := 2) rfl ?_); (try (refine gate_guard (by rfl) ?_; dsimp only)); refine bq_ (N := 2) #[.slice A0_0 l0_0.length c0_0, .slice A0_1 l0_1.length c0_1, .int .i64 a0_2] 33 ?_; intro gb155 hg w5 BK155 hb; have GE155 := ge_ hg; replace HB := nb_ hb; clear hb hg) | ((with_reducible refine gate_dst (N := 3) rfl ?_); (try (refine gate_guard (by rfl) ?_; dsimp only)); refine bq_ (N := 3) #[.int .i64 a1_0, .int .i64 a1_1, .int .i64 a1_2, .slice A1_3 l1_3.length c1_3] 57 ?_; intro gb156 hg w6 BK156 hb; have GE156 := ge1_ hg GE155; replace HB := nc_ GE155 hb; have NB155_156 := nl_ BK155 hg; have NB156_155 := ng_ BK155 hg; replace BK155 := bK_ BK155 hb; clear hb hg; have hnb7 := NB155_156.out; have hnc7 := NB156_155.out; obtain ⟨hcz8_0, hcz8_1, hcz8_2, hfz8_0, hfz8_1, hfz8_2⟩ := cf3_ BK155.out; obtain ⟨hcz9_0, hcz9_1, hcz9_2, hcz9_3, hfz9_0, hfz9_1, hfz9_2, hfz9_3⟩ := cf4_ BK156.out) | (go_at_call 48; (with_reducible refine (spec_l5At.calls k _ _ l0_0 a1_0 t157 _ ?side1 ?side2 A3.out).mono ?_); (case side1 => exact cs_ ((Kd.C_below HR0_0.out HB.out))); (case side2 => exact HC0_0.out); rintro e w10 ⟨rfl, hb⟩; replace BK155 := bK_ BK155 hb; replace BK156 := bK_ BK156 hb; replace HB := nc2_ GE155 GE156 hb; (try clear hb); (try clear hb2); (try clear hk); (try clear hi))); go_upto_region 13 with (first | ((with_reducible refine gate_dst (N := 2) rfl ?_); (try (refine gate_guard (by rfl) ?_; dsimp only)); refine bq_ (N := 2) #[.slice A0_0 l0_0.length c0_0, .slice A0_1 l0_1.length c0_1, .int .i64 a0_2] 33 ?_; intro gb155 hg w5 BK155 hb; have GE155 := ge_ hg; replace HB := nb_ hb; clear hb hg) | ((with_reducible refine gate_dst (N := 3) rfl ?_); (try (refine gate_guard (by rfl) ?_; dsimp only)); refine bq_ (N := 3) #[.int .i64 a1_0, .int .i64 a1_1, .int .i64 a1_2, .slice A1_3 l1_3.length c1_3] 57 ?_; intro gb156 hg w6 BK156 hb; have GE156 := ge1_ hg GE155; replace HB := nc_ GE155 hb; have NB155_156 := nl_ BK155 hg; have NB156_155 := ng_ BK155 hg; replace BK155 := bK_ BK155 hb; clear hb hg; have hnb7 := NB155_156.out; have hnc7 := NB156_155.out; obtain ⟨hcz8_0, hcz8_1, hcz8_2, hfz8_0, hfz8_1, hfz8_2⟩ := cf3_ BK155.out; obtain ⟨hcz9_0, hcz9_1, hcz9_2, hcz9_3, hfz9_0, hfz9_1, hfz9_2, hfz9_3⟩ := cf4_ BK156.out) | (go_at_call 48; (with_reducible refine (spec_l5At.calls k _ _ l0_0 a1_0 t157 _ ?side1 ?side2 A3.out).mono ?_); (case side1 => exact cs_ ((Kd.C_below HR0_0.out HB.out))); (case side2 => exact HC0_0.out); rintro e w10 ⟨rfl, hb⟩; replace BK155 := bK_ BK155 hb; replace BK156 := bK_ BK156 hb; replace HB := nc2_ GE155 GE156 hb; (try clear hb); (try clear hb2); (try clear hk); (try clear hi))))
 (try simp only [Act.put, List.setIfInBounds_toArray, List.set_cons_zero, List.set_cons_succ])
 go_cut [60] (fun v60 wc => ∃ (kq : Nat) (x60_3 : Bool), v60 = .bool x60_3 ∧ Aside0 (spec_l5Code.j0 kq t157 x60_3 l0_0 l0_1 a0_2 a1_0 a1_1 a1_2 l1_3 = some (r1, r2)) ∧ Aside0 (kq ≤ k) ∧ Aside0 (wc.heap[gb155]? = some (.cells #[(.slice A0_0 l0_0.length c0_0), (.slice A0_1 l0_1.length c0_1), .int .i64 a0_2] 33 (0, 0))) ∧ Aside0 (wc.heap[gb156]? = some (.cells #[.int .i64 a1_0, .int .i64 a1_1, .int .i64 a1_2, (.slice A1_3 l1_3.length c1_3)] 57 (0, 0))) ∧ Aside0 (Below w.heap.size w wc))
 case first =>
  have H := HC4.out
  clear HC4
  replace H := ite_ H
  obtain ⟨c11, H⟩ | ⟨c11, H⟩ := H
  rotate_left
  ·have c11b0 := dne_ c11
   clear c11
   (first | rw [c11b0] | (simp only [i64_w, i32_w]; rw [c11b0]) | rw [c11b1] | skip)
   have H' := am_ H
   clear H
   go_wp2
   repeat (go_quiet (fail); try go_wp2)
   go_meet
   case rel => exact ⟨_, (false), sr_, H', ⟨by first | omega | exact Nat.le_refl _⟩, ⟨kb_ BK155.out⟩, ⟨kb_ BK156.out⟩, ⟨hs2_ GE155.out GE156.out⟩⟩
  have c11b0 := dge_ c11
  clear c11
  (first | rw [c11b0] | (simp only [i64_w, i32_w]; rw [c11b0]) | rw [c11b1] | skip)
  replace H := ifs_ H
  obtain ⟨c12, H⟩ := H
  have c12b0 := decide_eq_true c12
  clear c12
  replace H := ifs_ H
  obtain ⟨c13, H⟩ := H
  have c13b0 := decide_eq_true c13
  clear c13
  have H' := am_ H
  clear H
  have hnb14 := NB155_156.out
  have hnc14 := NB156_155.out
  obtain ⟨hcz15_0, hcz15_1, hcz15_2, hfz15_0, hfz15_1, hfz15_2⟩ := cf3_ BK155.out
  have p158 : 0 ≤ (t157 : Int) := oa_
  have q158 : t157 < (l0_0.length : Int) := oa_
  obtain ⟨ad158, A158_3, c158_3, e158, hx158_0, hx158_1, hx158_2, hx158_3, hl158_3, hi158_3⟩ := at_T81 HR0_0.out t157 p158 q158
  cases e158
  replace hx158_0 := pc_ HB.out hx158_0
  replace hx158_1 := pc_ HB.out hx158_1
  replace hx158_2 := pc_ HB.out hx158_2
  replace hx158_3 := pc_ HB.out hx158_3
  have HR158_3 := am_ hi158_3
  have HC158_3 := am_ hl158_3
  clear hi158_3 hl158_3
  replace p158 := eq_true p158
  replace q158 := eq_true q158
  obtain ⟨hcz16_0, hcz16_1, hcz16_2, hcz16_3, hfz16_0, hfz16_1, hfz16_2, hfz16_3⟩ := cf4_ BK156.out
  go_wp2
  repeat (go_quiet (fail); try go_wp2)
  go_meet
  case rel => exact ⟨_, (decide (((rd_T81 l0_0 t157).f1) > a1_1)), sr_, H', ⟨by first | omega | exact Nat.le_refl _⟩, ⟨kb_ BK155.out⟩, ⟨kb_ BK156.out⟩, ⟨hs2_ GE155.out GE156.out⟩⟩
 case rest =>
  clear HC4
  try clear hcz8_0
  try clear hcz8_1
  try clear hcz8_2
  try clear hcz9_0
  try clear hcz9_1
  try clear hcz9_2
  try clear hcz9_3
  try clear hfz8_0
  try clear hfz8_1
  try clear hfz8_2
  try clear hfz9_0
  try clear hfz9_1
  try clear hfz9_2
  try clear hfz9_3
  obtain ⟨kq, x60_3, rfl, HA, HJ3, BK155, BK156, HB⟩ := hcut
  cases kq with
  | zero => exact absurd HA.out (by simp [spec_l5Code.j0])
  | succ kj3 =>
   have H := HA.out
   clear HA
   simp only [spec_l5Code.j0] at H
   replace H := ifb_ H
   obtain ⟨rfl, H⟩ | ⟨rfl, H⟩ := H
   ·simp only [Option.some.injEq, Prod.mk.injEq] at H
    obtain ⟨rfl, rfl⟩ := H
    go_wp2
    repeat (go_quiet (fail); try go_wp2)
    go_ret2
    exact ⟨er_, hs2_ GE155.out GE156.out⟩
   have HC18 := am_ H
   clear H
   go_upto_region 15 with (fail)
   repeat (go_quiet (fail); go_upto_region 15 with (fail))
   go_cut [74] (fun v74 wc => ∃ (kq : Nat) (x74_17 : Bool), v74 = .bool x74_17 ∧ Aside0 (spec_l5Code.j1 kq t157 x74_17 l0_0 l0_1 a0_2 a1_0 a1_1 a1_2 l1_3 = some (r1, r2)) ∧ Aside0 (kq ≤ kj3) ∧ Aside0 (wc.heap[gb155]? = some (.cells #[(.slice A0_0 l0_0.length c0_0), (.slice A0_1 l0_1.length c0_1), .int .i64 a0_2] 33 (0, 0))) ∧ Aside0 (wc.heap[gb156]? = some (.cells #[.int .i64 a1_0, .int .i64 a1_1, .int .i64 a1_2, (.slice A1_3 l1_3.length c1_3)] 57 (0, 0))) ∧ Aside0 (Below w.heap.size w wc))
   case first =>
    have H := HC18.out
    clear HC18
    replace H := ite_ H
    obtain ⟨c19, H⟩ | ⟨c19, H⟩ := H
    ·have c19b0 := decide_eq_true c19
     clear c19
     (first | rw [c19b0] | (simp only [i64_w, i32_w]; rw [c19b0]) | rw [c19b1] | skip)
     have H' := am_ H
     clear H
     go_wp2
     repeat (go_quiet (fail); try go_wp2)
     go_meet
     case rel => exact ⟨_, (true), sr_, H', ⟨by have := HJ3.out; first | omega | exact Nat.le_refl _⟩, ⟨kb_ BK155.out⟩, ⟨kb_ BK156.out⟩, ⟨hs2_ GE155.out GE156.out⟩⟩
    have c19b0 := decide_eq_false c19
    clear c19
    (first | rw [c19b0] | (simp only [i64_w, i32_w]; rw [c19b0]) | rw [c19b1] | skip)
    replace H := ifs_ H
    obtain ⟨c20, H⟩ := H
    have c20b0 := decide_eq_true c20
    clear c20
    replace H := ifs_ H
    obtain ⟨c21, H⟩ := H
    have c21b0 := decide_eq_true c21
    clear c21
    have H' := am_ H
    clear H
    have hnb22 := NB155_156.out
    have hnc22 := NB156_155.out
    obtain ⟨hcz23_0, hcz23_1, hcz23_2, hfz23_0, hfz23_1, hfz23_2⟩ := cf3_ BK155.out
    have p159 : 0 ≤ (t157 : Int) := oa_
    have q159 : t157 < (l0_0.length : Int) := oa_
    obtain ⟨ad159, A159_3, c159_3, e159, hx159_0, hx159_1, hx159_2, hx159_3, hl159_3, hi159_3⟩ := at_T81 HR0_0.out t157 p159 q159
    cases e159
    replace hx159_0 := pc_ HB.out hx159_0
    replace hx159_1 := pc_ HB.out hx159_1
    replace hx159_2 := pc_ HB.out hx159_2
    replace hx159_3 := pc_ HB.out hx159_3
    have HR159_3 := am_ hi159_3
    have HC159_3 := am_ hl159_3
    clear hi159_3 hl159_3
    replace p159 := eq_true p159
    replace q159 := eq_true q159
    obtain ⟨hcz24_0, hcz24_1, hcz24_2, hcz24_3, hfz24_0, hfz24_1, hfz24_2, hfz24_3⟩ := cf4_ BK156.out
    go_wp2
    repeat (go_quiet (fail); try go_wp2)
    go_meet
    case rel => exact ⟨_, (decide (((rd_T81 l0_0 t157).f1) < a1_1)), sr_, H', ⟨by have := HJ3.out; first | omega | exact Nat.le_refl _⟩, ⟨kb_ BK155.out⟩, ⟨kb_ BK156.out⟩, ⟨hs2_ GE155.out GE156.out⟩⟩
   case rest =>
    clear HC18
    try clear hcz8_0
    try clear hcz8_1
    try clear hcz8_2
    try clear hcz9_0
    try clear hcz9_1
    try clear hcz9_2
    try clear hcz9_3
    try clear hfz8_0
    try clear hfz8_1
    try clear hfz8_2
    try clear hfz9_0
    try clear hfz9_1
    try clear hfz9_2
    try clear hfz9_3
    obtain ⟨kq, x74_17, rfl, HA, HJ17, BK155, BK156, HB⟩ := hcut
    cases kq with
    | zero => exact absurd HA.out (by simp [spec_l5Code.j1])
    | succ kj17 =>
     have H := HA.out
     clear HA
     simp only [spec_l5Code.j1] at H
     replace H := ifb_ H
     obtain ⟨rfl, H⟩ | ⟨rfl, H⟩ := H
     ·replace H := ite_ H
      obtain ⟨c26, H⟩ | ⟨c26, H⟩ := H
      rotate_left
      ·have c26b0 : (a1_2 == 0) = false := beq_eq_false_iff_ne.mpr c26
       have c26b1 : (a1_2 != 0) = true := bne_iff_ne.mpr c26
       simp only [Option.some.injEq, Prod.mk.injEq] at H
       obtain ⟨rfl, rfl⟩ := H
       have hnb54 := NB156_155.out
       have hnc54 := NB155_156.out
       obtain ⟨hcz55_0, hcz55_1, hcz55_2, hcz55_3, hfz55_0, hfz55_1, hfz55_2, hfz55_3⟩ := cf4_ BK156.out
       go_wp2
       repeat (go_quiet (fail); try go_wp2)
       go_ret2
       exact ⟨er_, hs2_ GE155.out GE156.out⟩
      have c26b0 : (a1_2 == 0) = true := beq_iff_eq.mpr c26
      have c26b1 : (a1_2 != 0) = false := bne_eq_false_iff_eq.mpr c26
      clear c26
      replace H := ite_ H
      obtain ⟨c27, H⟩ | ⟨c27, H⟩ := H
      rotate_left
      ·have c27b0 := decide_eq_false c27
       clear c27
       replace H := ite_ H
       obtain ⟨c43, H⟩ | ⟨c43, H⟩ := H
       ·have c43b0 : ((l0_1.length : Int) == 60) = true := beq_iff_eq.mpr c43
        have c43b1 : ((l0_1.length : Int) != 60) = false := bne_eq_false_iff_eq.mpr c43
        clear c43
        simp only [Option.some.injEq, Prod.mk.injEq] at H
        obtain ⟨rfl, rfl⟩ := H
        have hnb44 := NB156_155.out
        have hnc44 := NB155_156.out
        obtain ⟨hcz45_0, hcz45_1, hcz45_2, hcz45_3, hfz45_0, hfz45_1, hfz45_2, hfz45_3⟩ := cf4_ BK156.out
        obtain ⟨hcz46_0, hcz46_1, hcz46_2, hfz46_0, hfz46_1, hfz46_2⟩ := cf3_ BK155.out
        go_wp2
        repeat (go_quiet (fail); try go_wp2)
        go_ret2
        exact ⟨er_, hs2_ GE155.out GE156.out⟩
       have c43b0 : ((l0_1.length : Int) == 60) = false := beq_eq_false_iff_ne.mpr c43
       have c43b1 : ((l0_1.length : Int) != 60) = true := bne_iff_ne.mpr c43
       replace H := ite_ H
       obtain ⟨c47, H⟩ | ⟨c47, H⟩ := H
       rotate_left
       ·have c47b0 := dgf_ c47
        clear c47
        simp only [Option.some.injEq, Prod.mk.injEq] at H
        obtain ⟨rfl, rfl⟩ := H
        have hnb51 := NB156_155.out
        have hnc51 := NB155_156.out
        obtain ⟨hcz52_0, hcz52_1, hcz52_2, hcz52_3, hfz52_0, hfz52_1, hfz52_2, hfz52_3⟩ := cf4_ BK156.out
        obtain ⟨hcz53_0, hcz53_1, hcz53_2, hfz53_0, hfz53_1, hfz53_2⟩ := cf3_ BK155.out
        go_wp2
        repeat (go_quiet (fail); try go_wp2)
        go_ret2
        exact ⟨er_, hs2_ GE155.out GE156.out⟩
       have c47b0 := dgt_ c47
       clear c47
       simp only [Option.some.injEq, Prod.mk.injEq] at H
       obtain ⟨rfl, rfl⟩ := H
       have hnb48 := NB156_155.out
       have hnc48 := NB155_156.out
       obtain ⟨hcz49_0, hcz49_1, hcz49_2, hcz49_3, hfz49_0, hfz49_1, hfz49_2, hfz49_3⟩ := cf4_ BK156.out
       obtain ⟨hcz50_0, hcz50_1, hcz50_2, hfz50_0, hfz50_1, hfz50_2⟩ := cf3_ BK155.out
       go_wp2
       repeat (go_quiet (fail); try go_wp2)
       go_ret2
       exact ⟨er_, hs2_ GE155.out GE156.out⟩
      have c27b0 := decide_eq_true c27
      clear c27
      replace H := ite_ H
      obtain ⟨c28, H⟩ | ⟨c28, H⟩ := H
      ·have c28b0 : ((l0_0.length : Int) == 4) = true := beq_iff_eq.mpr c28
       have c28b1 : ((l0_0.length : Int) != 4) = false := bne_eq_false_iff_eq.mpr c28
       clear c28
       simp only [Option.some.injEq, Prod.mk.injEq] at H
       obtain ⟨rfl, rfl⟩ := H
       have hnb29 := NB156_155.out
       have hnc29 := NB155_156.out
       obtain ⟨hcz30_0, hcz30_1, hcz30_2, hcz30_3, hfz30_0, hfz30_1, hfz30_2, hfz30_3⟩ := cf4_ BK156.out
       obtain ⟨hcz31_0, hcz31_1, hcz31_2, hfz31_0, hfz31_1, hfz31_2⟩ := cf3_ BK155.out
       go_wp2
       repeat (go_quiet (fail); try go_wp2)
       go_ret2
       exact ⟨er_, hs2_ GE155.out GE156.out⟩
      have c28b0 : ((l0_0.length : Int) == 4) = false := beq_eq_false_iff_ne.mpr c28
      have c28b1 : ((l0_0.length : Int) != 4) = true := bne_iff_ne.mpr c28
      replace H := ite_ H
      obtain ⟨c32, H⟩ | ⟨c32, H⟩ := H
      ·have c32b0 : ((l0_1.length : Int) == 60) = true := beq_iff_eq.mpr c32
       have c32b1 : ((l0_1.length : Int) != 60) = false := bne_eq_false_iff_eq.mpr c32
       clear c32
       simp only [Option.some.injEq, Prod.mk.injEq] at H
       obtain ⟨rfl, rfl⟩ := H
       have hnb33 := NB156_155.out
       have hnc33 := NB155_156.out
       obtain ⟨hcz34_0, hcz34_1, hcz34_2, hcz34_3, hfz34_0, hfz34_1, hfz34_2, hfz34_3⟩ := cf4_ BK156.out
       obtain ⟨hcz35_0, hcz35_1, hcz35_2, hfz35_0, hfz35_1, hfz35_2⟩ := cf3_ BK155.out
       go_wp2
       repeat (go_quiet (fail); try go_wp2)
       go_ret2
       exact ⟨er_, hs2_ GE155.out GE156.out⟩
      have c32b0 : ((l0_1.length : Int) == 60) = false := beq_eq_false_iff_ne.mpr c32
      have c32b1 : ((l0_1.length : Int) != 60) = true := bne_iff_ne.mpr c32
      replace H := ite_ H
      obtain ⟨c36, H⟩ | ⟨c36, H⟩ := H
      rotate_left
      ·have c36b0 := dgf_ c36
       clear c36
       simp only [Option.some.injEq, Prod.mk.injEq] at H
       obtain ⟨rfl, rfl⟩ := H
       have hnb40 := NB156_155.out
       have hnc40 := NB155_156.out
       obtain ⟨hcz41_0, hcz41_1, hcz41_2, hcz41_3, hfz41_0, hfz41_1, hfz41_2, hfz41_3⟩ := cf4_ BK156.out
       obtain ⟨hcz42_0, hcz42_1, hcz42_2, hfz42_0, hfz42_1, hfz42_2⟩ := cf3_ BK155.out
       go_wp2
       repeat (go_quiet (fail); try go_wp2)
       go_ret2
       exact ⟨er_, hs2_ GE155.out GE156.out⟩
      have c36b0 := dgt_ c36
      clear c36
      simp only [Option.some.injEq, Prod.mk.injEq] at H
      obtain ⟨rfl, rfl⟩ := H
      have hnb37 := NB156_155.out
      have hnc37 := NB155_156.out
      obtain ⟨hcz38_0, hcz38_1, hcz38_2, hcz38_3, hfz38_0, hfz38_1, hfz38_2, hfz38_3⟩ := cf4_ BK156.out
      obtain ⟨hcz39_0, hcz39_1, hcz39_2, hfz39_0, hfz39_1, hfz39_2⟩ := cf3_ BK155.out
      go_wp2
      repeat (go_quiet (fail); try go_wp2)
      go_ret2
      exact ⟨er_, hs2_ GE155.out GE156.out⟩
     replace H := ifs_ H
     obtain ⟨c56, H⟩ := H
     have c56b0 := decide_eq_true c56
     clear c56
     replace H := ifs_ H
     obtain ⟨c57, H⟩ := H
     have c57b0 := decide_eq_true c57
     clear c57
     have H' := am_ H
     clear H
     have hnb58 := NB155_156.out
     have hnc58 := NB156_155.out
     obtain ⟨hcz59_0, hcz59_1, hcz59_2, hfz59_0, hfz59_1, hfz59_2⟩ := cf3_ BK155.out
     have p160 : 0 ≤ (t157 : Int) := oa_
     have q160 : t157 < (l0_0.length : Int) := oa_
     obtain ⟨ad160, A160_3, c160_3, e160, hx160_0, hx160_1, hx160_2, hx160_3, hl160_3, hi160_3⟩ := at_T81 HR0_0.out t157 p160 q160
     cases e160
     replace hx160_0 := pc_ HB.out hx160_0
     replace hx160_1 := pc_ HB.out hx160_1
     replace hx160_2 := pc_ HB.out hx160_2
     replace hx160_3 := pc_ HB.out hx160_3
     have HR160_3 := am_ hi160_3
     have HC160_3 := am_ hl160_3
     clear hi160_3 hl160_3
     replace p160 := eq_true p160
     replace q160 := eq_true q160
     go_wp2_with (first | ((with_reducible refine gate_dst (N := 7) rfl ?_); (try (refine gate_guard (by rfl) ?_; dsimp only)); refine bq_ (N := 7) #[.int .i64 0, .int .i64 0, .int .i64 0, .slice none 0 0] 81 ?_; intro gb161 hg w60 BK161 hb; have GE161 := ge2_ hg GE155 GE156; replace HB := nc2_ GE155 GE156 hb; have NB155_161 := nl_ BK155 hg; have NB161_155 := ng_ BK155 hg; replace BK155 := bK_ BK155 hb; have NB156_161 := nl_ BK156 hg; have NB161_156 := ng_ BK156 hg; replace BK156 := bK_ BK156 hb; clear hb hg; have hnb61 := NB161_155.out; have hnc61 := NB155_161.out; have hnb62 := NB161_156.out; have hnc62 := NB156_161.out; obtain ⟨hcz63_0, hcz63_1, hcz63_2, hcz63_3, hfz63_0, hfz63_1, hfz63_2, hfz63_3⟩ := cf4_ BK161.out))
     repeat (go_quiet (first | ((with_reducible refine gate_dst (N := 7) rfl ?_); (try (refine gate_guard (by rfl) ?_; dsimp only)); refine bq_ (N := 7) #[.int .i64 0, .int .i64 0, .int .i64 0, .slice none 0 0] 81 ?_; intro gb161 hg w60 BK161 hb; have GE161 := ge2_ hg GE155 GE156; replace HB := nc2_ GE155 GE156 hb; have NB155_161 := nl_ BK155 hg; have NB161_155 := ng_ BK155 hg; replace BK155 := bK_ BK155 hb; have NB156_161 := nl_ BK156 hg; have NB161_156 := ng_ BK156 hg; replace BK156 := bK_ BK156 hb; clear hb hg; have hnb61 := NB161_155.out; have hnc61 := NB155_161.out; have hnb62 := NB161_156.out; have hnc62 := NB156_161.out; obtain ⟨hcz63_0, hcz63_1, hcz63_2, hcz63_3, hfz63_0, hfz63_1, hfz63_2, hfz63_3⟩ := cf4_ BK161.out)); try go_wp2_with (first | ((with_reducible refine gate_dst (N := 7) rfl ?_); (try (refine gate_guard (by rfl) ?_; dsimp only)); refine bq_ (N := 7) #[.int .i64 0, .int .i64 0, .int .i64 0, .slice none 0 0] 81 ?_; intro gb161 hg w60 BK161 hb; have GE161 := ge2_ hg GE155 GE156; replace HB := nc2_ GE155 GE156 hb; have NB155_161 := nl_ BK155 hg; have NB161_155 := ng_ BK155 hg; replace BK155 := bK_ BK155 hb; have NB156_161 := nl_ BK156 hg; have NB161_156 := ng_ BK156 hg; replace BK156 := bK_ BK156 hb; clear hb hg; have hnb61 := NB161_155.out; have hnc61 := NB155_161.out; have hnb62 := NB161_156.out; have hnc62 := NB156_161.out; obtain ⟨hcz63_0, hcz63_1, hcz63_2, hcz63_3, hfz63_0, hfz63_1, hfz63_2, hfz63_3⟩ := cf4_ BK161.out)))
     go_loopg [23] kj17 (fun kq v23 w' => ∃ (x23_3 : Int), v23 = .int .i64 x23_3 ∧ Aside0 (spec_l5Code.l0 kq t157 ((rd_T81 l0_0 t157).f3) (((rd_T81 l0_0 t157).f3).length : Int) x23_3 l0_0 l0_1 a0_2 a1_0 a1_1 a1_2 l1_3 ((rd_T81 l0_0 t157).f0) ((rd_T81 l0_0 t157).f1) ((rd_T81 l0_0 t157).f2) ((rd_T81 l0_0 t157).f3) = some (r1, r2)) ∧ Aside0 (kq ≤ kj17) ∧ Aside0 (w'.heap[gb155]? = some (.cells #[(.slice (some ad160) l0_0.length c0_0), (.slice A0_1 l0_1.length c0_1), .int .i64 a0_2] 33 (0, 0))) ∧ Aside0 (w'.heap[gb156]? = some (.cells #[.int .i64 a1_0, .int .i64 a1_1, .int .i64 a1_2, (.slice A1_3 l1_3.length c1_3)] 57 (0, 0))) ∧ Aside0 (w'.heap[gb161]? = some (.cells #[.int .i64 ((rd_T81 l0_0 t157).f0), .int .i64 ((rd_T81 l0_0 t157).f1), .int .i64 ((rd_T81 l0_0 t157).f2), (.slice A160_3 ((rd_T81 l0_0 t157).f3).length c160_3)] 81 (0, 0))) ∧ Aside0 (Below w.heap.size w w'))
     case atStart => exact ⟨(0), sr_, H', ⟨Nat.le_refl _⟩, ⟨uf_ BK155 NB155_161.out⟩, ⟨uf_ BK156 NB156_161.out⟩, ⟨up_ BK161⟩, ⟨hs3_ GE155.out GE156.out GE161.out⟩⟩
     case round =>
      clear H'
      try clear c56
      try clear c56b0
      try clear c57
      try clear c57b0
      try clear hcz59_0
      try clear hcz59_1
      try clear hcz59_2
      try clear hcz63_0
      try clear hcz63_1
      try clear hcz63_2
      try clear hcz63_3
      try clear hcz8_0
      try clear hcz8_1
      try clear hcz8_2
      try clear hcz9_0
      try clear hcz9_1
      try clear hcz9_2
      try clear hcz9_3
      try clear hfz59_0
      try clear hfz59_1
      try clear hfz59_2
      try clear hfz63_0
      try clear hfz63_1
      try clear hfz63_2
      try clear hfz63_3
      try clear hfz8_0
      try clear hfz8_1
      try clear hfz8_2
      try clear hfz9_0
      try clear hfz9_1
      try clear hfz9_2
      try clear hfz9_3
      try clear hx160_0
      try clear hx160_1
      try clear hx160_2
      try clear hx160_3
      try clear p160
      try clear q160
      obtain ⟨x23_3, rfl, HA, HK3, BK155, BK156, BK161, HB⟩ := hrel
      cases gk with
      | zero => exact absurd HA.out (by simp [spec_l5Code.l0])
      | succ k3 =>
       have H := HA.out
       clear HA
       simp only [spec_l5Code.l0] at H
       replace H := ite_ H
       obtain ⟨c64, H⟩ | ⟨c64, H⟩ := H
       rotate_left
       ·have c64b0 := decide_eq_false c64
        clear c64
        replace H := ite_ H
        obtain ⟨c110, H⟩ | ⟨c110, H⟩ := H
        ·have c110b0 := decide_eq_true c110
         clear c110
         simp only [Option.some.injEq, Prod.mk.injEq] at H
         obtain ⟨rfl, rfl⟩ := H
         have hnb111 := NB156_155.out
         have hnc111 := NB155_156.out
         have hnb112 := NB156_161.out
         have hnc112 := NB161_156.out
         obtain ⟨hcz113_0, hcz113_1, hcz113_2, hcz113_3, hfz113_0, hfz113_1, hfz113_2, hfz113_3⟩ := cf4_ BK156.out
         have hnb114 := NB161_155.out
         have hnc114 := NB155_161.out
         obtain ⟨hcz115_0, hcz115_1, hcz115_2, hcz115_3, hfz115_0, hfz115_1, hfz115_2, hfz115_3⟩ := cf4_ BK161.out
         go_wp2
         repeat (go_quiet (fail); try go_wp2)
         go_ret2
         exact ⟨er_, hs3_ GE155.out GE156.out GE161.out⟩
        have c110b0 := decide_eq_false c110
        clear c110
        replace H := ite_ H
        obtain ⟨c116, H⟩ | ⟨c116, H⟩ := H
        ·have c116b0 := dgt_ c116
         clear c116
         simp only [Option.some.injEq, Prod.mk.injEq] at H
         obtain ⟨rfl, rfl⟩ := H
         have hnb117 := NB156_155.out
         have hnc117 := NB155_156.out
         have hnb118 := NB156_161.out
         have hnc118 := NB161_156.out
         obtain ⟨hcz119_0, hcz119_1, hcz119_2, hcz119_3, hfz119_0, hfz119_1, hfz119_2, hfz119_3⟩ := cf4_ BK156.out
         have hnb120 := NB161_155.out
         have hnc120 := NB155_161.out
         obtain ⟨hcz121_0, hcz121_1, hcz121_2, hcz121_3, hfz121_0, hfz121_1, hfz121_2, hfz121_3⟩ := cf4_ BK161.out
         go_wp2
         repeat (go_quiet (fail); try go_wp2)
         go_ret2
         exact ⟨er_, hs3_ GE155.out GE156.out GE161.out⟩
        have c116b0 := dgf_ c116
        clear c116
        replace H := ite_ H
        obtain ⟨c122, H⟩ | ⟨c122, H⟩ := H
        rotate_left
        ·have c122b0 := decide_eq_false c122
         clear c122
         replace H := ite_ H
         obtain ⟨c150, H⟩ | ⟨c150, H⟩ := H
         ·have c150b0 : ((l0_1.length : Int) == 60) = true := beq_iff_eq.mpr c150
          have c150b1 : ((l0_1.length : Int) != 60) = false := bne_eq_false_iff_eq.mpr c150
          clear c150
          simp only [Option.some.injEq, Prod.mk.injEq] at H
          obtain ⟨rfl, rfl⟩ := H
          have hnb151 := NB156_155.out
          have hnc151 := NB155_156.out
          have hnb152 := NB156_161.out
          have hnc152 := NB161_156.out
          obtain ⟨hcz153_0, hcz153_1, hcz153_2, hcz153_3, hfz153_0, hfz153_1, hfz153_2, hfz153_3⟩ := cf4_ BK156.out
          have hnb154 := NB161_155.out
          have hnc154 := NB155_161.out
          obtain ⟨hcz155_0, hcz155_1, hcz155_2, hcz155_3, hfz155_0, hfz155_1, hfz155_2, hfz155_3⟩ := cf4_ BK161.out
          obtain ⟨hcz156_0, hcz156_1, hcz156_2, hfz156_0, hfz156_1, hfz156_2⟩ := cf3_ BK155.out
          go_wp2
          repeat (go_quiet (fail); try go_wp2)
          go_ret2
          exact ⟨er_, hs3_ GE155.out GE156.out GE161.out⟩
         have c150b0 : ((l0_1.length : Int) == 60) = false := beq_eq_false_iff_ne.mpr c150
         have c150b1 : ((l0_1.length : Int) != 60) = true := bne_iff_ne.mpr c150
         replace H := ite_ H
         obtain ⟨c157, H⟩ | ⟨c157, H⟩ := H
         rotate_left
         ·have c157b0 := dgf_ c157
          clear c157
          simp only [Option.some.injEq, Prod.mk.injEq] at H
          obtain ⟨rfl, rfl⟩ := H
          have hnb164 := NB156_155.out
          have hnc164 := NB155_156.out
          have hnb165 := NB156_161.out
          have hnc165 := NB161_156.out
          obtain ⟨hcz166_0, hcz166_1, hcz166_2, hcz166_3, hfz166_0, hfz166_1, hfz166_2, hfz166_3⟩ := cf4_ BK156.out
          have hnb167 := NB161_155.out
          have hnc167 := NB155_161.out
          obtain ⟨hcz168_0, hcz168_1, hcz168_2, hcz168_3, hfz168_0, hfz168_1, hfz168_2, hfz168_3⟩ := cf4_ BK161.out
          obtain ⟨hcz169_0, hcz169_1, hcz169_2, hfz169_0, hfz169_1, hfz169_2⟩ := cf3_ BK155.out
          go_wp2
          repeat (go_quiet (fail); try go_wp2)
          go_ret2
          exact ⟨er_, hs3_ GE155.out GE156.out GE161.out⟩
         have c157b0 := dgt_ c157
         clear c157
         simp only [Option.some.injEq, Prod.mk.injEq] at H
         obtain ⟨rfl, rfl⟩ := H
         have hnb158 := NB156_155.out
         have hnc158 := NB155_156.out
         have hnb159 := NB156_161.out
         have hnc159 := NB161_156.out
         obtain ⟨hcz160_0, hcz160_1, hcz160_2, hcz160_3, hfz160_0, hfz160_1, hfz160_2, hfz160_3⟩ := cf4_ BK156.out
         have hnb161 := NB161_155.out
         have hnc161 := NB155_161.out
         obtain ⟨hcz162_0, hcz162_1, hcz162_2, hcz162_3, hfz162_0, hfz162_1, hfz162_2, hfz162_3⟩ := cf4_ BK161.out
         obtain ⟨hcz163_0, hcz163_1, hcz163_2, hfz163_0, hfz163_1, hfz163_2⟩ := cf3_ BK155.out
         go_wp2
         repeat (go_quiet (fail); try go_wp2)
         go_ret2
         exact ⟨er_, hs3_ GE155.out GE156.out GE161.out⟩
        have c122b0 := decide_eq_true c122
        clear c122
        replace H := ite_ H
        obtain ⟨c123, H⟩ | ⟨c123, H⟩ := H
        ·have c123b0 : ((l0_0.length : Int) == 4) = true := beq_iff_eq.mpr c123
         have c123b1 : ((l0_0.length : Int) != 4) = false := bne_eq_false_iff_eq.mpr c123
         clear c123
         simp only [Option.some.injEq, Prod.mk.injEq] at H
         obtain ⟨rfl, rfl⟩ := H
         have hnb124 := NB156_155.out
         have hnc124 := NB155_156.out
         have hnb125 := NB156_161.out
         have hnc125 := NB161_156.out
         obtain ⟨hcz126_0, hcz126_1, hcz126_2, hcz126_3, hfz126_0, hfz126_1, hfz126_2, hfz126_3⟩ := cf4_ BK156.out
         have hnb127 := NB161_155.out
         have hnc127 := NB155_161.out
         obtain ⟨hcz128_0, hcz128_1, hcz128_2, hcz128_3, hfz128_0, hfz128_1, hfz128_2, hfz128_3⟩ := cf4_ BK161.out
         obtain ⟨hcz129_0, hcz129_1, hcz129_2, hfz129_0, hfz129_1, hfz129_2⟩ := cf3_ BK155.out
         go_wp2
         repeat (go_quiet (fail); try go_wp2)
         go_ret2
         exact ⟨er_, hs3_ GE155.out GE156.out GE161.out⟩
        have c123b0 : ((l0_0.length : Int) == 4) = false := beq_eq_false_iff_ne.mpr c123
        have c123b1 : ((l0_0.length : Int) != 4) = true := bne_iff_ne.mpr c123
        replace H := ite_ H
        obtain ⟨c130, H⟩ | ⟨c130, H⟩ := H
        ·have c130b0 : ((l0_1.length : Int) == 60) = true := beq_iff_eq.mpr c130
         have c130b1 : ((l0_1.length : Int) != 60) = false := bne_eq_false_iff_eq.mpr c130
         clear c130
         simp only [Option.some.injEq, Prod.mk.injEq] at H
         obtain ⟨rfl, rfl⟩ := H
         have hnb131 := NB156_155.out
         have hnc131 := NB155_156.out
         have hnb132 := NB156_161.out
         have hnc132 := NB161_156.out
         obtain ⟨hcz133_0, hcz133_1, hcz133_2, hcz133_3, hfz133_0, hfz133_1, hfz133_2, hfz133_3⟩ := cf4_ BK156.out
         have hnb134 := NB161_155.out
         have hnc134 := NB155_161.out
         obtain ⟨hcz135_0, hcz135_1, hcz135_2, hcz135_3, hfz135_0, hfz135_1, hfz135_2, hfz135_3⟩ := cf4_ BK161.out
         obtain ⟨hcz136_0, hcz136_1, hcz136_2, hfz136_0, hfz136_1, hfz136_2⟩ := cf3_ BK155.out
         go_wp2
         repeat (go_quiet (fail); try go_wp2)
         go_ret2
         exact ⟨er_, hs3_ GE155.out GE156.out GE161.out⟩
        have c130b0 : ((l0_1.length : Int) == 60) = false := beq_eq_false_iff_ne.mpr c130
        have c130b1 : ((l0_1.length : Int) != 60) = true := bne_iff_ne.mpr c130
        replace H := ite_ H
        obtain ⟨c137, H⟩ | ⟨c137, H⟩ := H
        rotate_left
        ·have c137b0 := dgf_ c137
         clear c137
         simp only [Option.some.injEq, Prod.mk.injEq] at H
         obtain ⟨rfl, rfl⟩ := H
         have hnb144 := NB156_155.out
         have hnc144 := NB155_156.out
         have hnb145 := NB156_161.out
         have hnc145 := NB161_156.out
         obtain ⟨hcz146_0, hcz146_1, hcz146_2, hcz146_3, hfz146_0, hfz146_1, hfz146_2, hfz146_3⟩ := cf4_ BK156.out
         have hnb147 := NB161_155.out
         have hnc147 := NB155_161.out
         obtain ⟨hcz148_0, hcz148_1, hcz148_2, hcz148_3, hfz148_0, hfz148_1, hfz148_2, hfz148_3⟩ := cf4_ BK161.out
         obtain ⟨hcz149_0, hcz149_1, hcz149_2, hfz149_0, hfz149_1, hfz149_2⟩ := cf3_ BK155.out
         go_wp2
         repeat (go_quiet (fail); try go_wp2)
         go_ret2
         exact ⟨er_, hs3_ GE155.out GE156.out GE161.out⟩
        have c137b0 := dgt_ c137
        clear c137
        simp only [Option.some.injEq, Prod.mk.injEq] at H
        obtain ⟨rfl, rfl⟩ := H
        have hnb138 := NB156_155.out
        have hnc138 := NB155_156.out
        have hnb139 := NB156_161.out
        have hnc139 := NB161_156.out
        obtain ⟨hcz140_0, hcz140_1, hcz140_2, hcz140_3, hfz140_0, hfz140_1, hfz140_2, hfz140_3⟩ := cf4_ BK156.out
        have hnb141 := NB161_155.out
        have hnc141 := NB155_161.out
        obtain ⟨hcz142_0, hcz142_1, hcz142_2, hcz142_3, hfz142_0, hfz142_1, hfz142_2, hfz142_3⟩ := cf4_ BK161.out
        obtain ⟨hcz143_0, hcz143_1, hcz143_2, hfz143_0, hfz143_1, hfz143_2⟩ := cf3_ BK155.out
        go_wp2
        repeat (go_quiet (fail); try go_wp2)
        go_ret2
        exact ⟨er_, hs3_ GE155.out GE156.out GE161.out⟩
       have c64b0 := decide_eq_true c64
       clear c64
       replace H := ifs_ H
       obtain ⟨c65, H⟩ := H
       have c65b0 := decide_eq_true c65
       clear c65
       replace H := ifs_ H
       obtain ⟨c66, H⟩ := H
       have c66b0 := decide_eq_true c66
       clear c66
       replace H := ite_ H
       obtain ⟨c67, H⟩ | ⟨c67, H⟩ := H
       ·have c67b0 : (a1_2 == ((rd_T81 l0_0 t157).f2)) = true := beq_iff_eq.mpr c67
        have c67b1 : (a1_2 != ((rd_T81 l0_0 t157).f2)) = false := bne_eq_false_iff_eq.mpr c67
        clear c67
        have H' := am_ H
        clear H
        have p162 : 0 ≤ (x23_3 : Int) := oa_
        have q162 : x23_3 < (((rd_T81 l0_0 t157).f3).length : Int) := oa_
        obtain ⟨ad162, e162, hx162_0, hx162_1, hx162_2⟩ := at_T112 HR160_3.out x23_3 p162 q162
        cases e162
        replace hx162_0 := pc_ HB.out hx162_0
        replace hx162_1 := pc_ HB.out hx162_1
        replace hx162_2 := pc_ HB.out hx162_2
        replace p162 := eq_true p162
        replace q162 := eq_true q162
        go_wp2_with (first | ((with_reducible refine gate_dst (N := 9) rfl ?_); (try (refine gate_guard (by rfl) ?_; dsimp only)); refine bq_ (N := 9) #[.int .i64 0, .int .i64 0, .int .i64 0] 112 ?_; intro gb163 hg w68 BK163 hb; have GE163 := ge3_ hg GE155 GE156 GE161; replace HB := nc3_ GE155 GE156 GE161 hb; have NB155_163 := nl_ BK155 hg; have NB163_155 := ng_ BK155 hg; replace BK155 := bK_ BK155 hb; have NB156_163 := nl_ BK156 hg; have NB163_156 := ng_ BK156 hg; replace BK156 := bK_ BK156 hb; have NB161_163 := nl_ BK161 hg; have NB163_161 := ng_ BK161 hg; replace BK161 := bK_ BK161 hb; clear hb hg; have hnb69 := NB163_155.out; have hnc69 := NB155_163.out; have hnb70 := NB163_156.out; have hnc70 := NB156_163.out; have hnb71 := NB163_161.out; have hnc71 := NB161_163.out; obtain ⟨hcz72_0, hcz72_1, hcz72_2, hfz72_0, hfz72_1, hfz72_2⟩ := cf3_ BK163.out; have hnb73 := NB156_155.out; have hnc73 := NB155_156.out; have hnb74 := NB156_161.out; have hnc74 := NB161_156.out; obtain ⟨hcz75_0, hcz75_1, hcz75_2, hcz75_3, hfz75_0, hfz75_1, hfz75_2, hfz75_3⟩ := cf4_ BK156.out; have hnb76 := NB161_155.out; have hnc76 := NB155_161.out; obtain ⟨hcz77_0, hcz77_1, hcz77_2, hcz77_3, hfz77_0, hfz77_1, hfz77_2, hfz77_3⟩ := cf4_ BK161.out))
        repeat (go_quiet (first | ((with_reducible refine gate_dst (N := 9) rfl ?_); (try (refine gate_guard (by rfl) ?_; dsimp only)); refine bq_ (N := 9) #[.int .i64 0, .int .i64 0, .int .i64 0] 112 ?_; intro gb163 hg w68 BK163 hb; have GE163 := ge3_ hg GE155 GE156 GE161; replace HB := nc3_ GE155 GE156 GE161 hb; have NB155_163 := nl_ BK155 hg; have NB163_155 := ng_ BK155 hg; replace BK155 := bK_ BK155 hb; have NB156_163 := nl_ BK156 hg; have NB163_156 := ng_ BK156 hg; replace BK156 := bK_ BK156 hb; have NB161_163 := nl_ BK161 hg; have NB163_161 := ng_ BK161 hg; replace BK161 := bK_ BK161 hb; clear hb hg; have hnb69 := NB163_155.out; have hnc69 := NB155_163.out; have hnb70 := NB163_156.out; have hnc70 := NB156_163.out; have hnb71 := NB163_161.out; have hnc71 := NB161_163.out; obtain ⟨hcz72_0, hcz72_1, hcz72_2, hfz72_0, hfz72_1, hfz72_2⟩ := cf3_ BK163.out; have hnb73 := NB156_155.out; have hnc73 := NB155_156.out; have hnb74 := NB156_161.out; have hnc74 := NB161_156.out; obtain ⟨hcz75_0, hcz75_1, hcz75_2, hcz75_3, hfz75_0, hfz75_1, hfz75_2, hfz75_3⟩ := cf4_ BK156.out; have hnb76 := NB161_155.out; have hnc76 := NB155_161.out; obtain ⟨hcz77_0, hcz77_1, hcz77_2, hcz77_3, hfz77_0, hfz77_1, hfz77_2, hfz77_3⟩ := cf4_ BK161.out)); try go_wp2_with (first | ((with_reducible refine gate_dst (N := 9) rfl ?_); (try (refine gate_guard (by rfl) ?_; dsimp only)); refine bq_ (N := 9) #[.int .i64 0, .int .i64 0, .int .i64 0] 112 ?_; intro gb163 hg w68 BK163 hb; have GE163 := ge3_ hg GE155 GE156 GE161; replace HB := nc3_ GE155 GE156 GE161 hb; have NB155_163 := nl_ BK155 hg; have NB163_155 := ng_ BK155 hg; replace BK155 := bK_ BK155 hb; have NB156_163 := nl_ BK156 hg; have NB163_156 := ng_ BK156 hg; replace BK156 := bK_ BK156 hb; have NB161_163 := nl_ BK161 hg; have NB163_161 := ng_ BK161 hg; replace BK161 := bK_ BK161 hb; clear hb hg; have hnb69 := NB163_155.out; have hnc69 := NB155_163.out; have hnb70 := NB163_156.out; have hnc70 := NB156_163.out; have hnb71 := NB163_161.out; have hnc71 := NB161_163.out; obtain ⟨hcz72_0, hcz72_1, hcz72_2, hfz72_0, hfz72_1, hfz72_2⟩ := cf3_ BK163.out; have hnb73 := NB156_155.out; have hnc73 := NB155_156.out; have hnb74 := NB156_161.out; have hnc74 := NB161_156.out; obtain ⟨hcz75_0, hcz75_1, hcz75_2, hcz75_3, hfz75_0, hfz75_1, hfz75_2, hfz75_3⟩ := cf4_ BK156.out; have hnb76 := NB161_155.out; have hnc76 := NB155_161.out; obtain ⟨hcz77_0, hcz77_1, hcz77_2, hcz77_3, hfz77_0, hfz77_1, hfz77_2, hfz77_3⟩ := cf4_ BK161.out)))
        go_roundg k3
        case measure => have := HJ3.out; have := HJ17.out; have := HK3.out; omega
        case rel => exact ⟨(wrap64 (x23_3 + 1)), sr_, H', ⟨by have := HJ3.out; have := HJ17.out; have := HK3.out; omega⟩, ⟨uf_ BK155 NB155_163.out⟩, ⟨uf_ BK156 NB156_163.out⟩, ⟨uf_ BK161 NB161_163.out⟩, ⟨hs4_ GE155.out GE156.out GE161.out GE163.out⟩⟩
       have c67b0 : (a1_2 == ((rd_T81 l0_0 t157).f2)) = false := beq_eq_false_iff_ne.mpr c67
       have c67b1 : (a1_2 != ((rd_T81 l0_0 t157).f2)) = true := bne_iff_ne.mpr c67
       replace H := ite_ H
       obtain ⟨c78, H⟩ | ⟨c78, H⟩ := H
       rotate_left
       ·have c78b0 : (((rd_T112 ((rd_T81 l0_0 t157).f3) x23_3).f0) == a1_2) = false := beq_eq_false_iff_ne.mpr c78
        have c78b1 : (((rd_T112 ((rd_T81 l0_0 t157).f3) x23_3).f0) != a1_2) = true := bne_iff_ne.mpr c78
        have H' := am_ H
        clear H
        have p162 : 0 ≤ (x23_3 : Int) := oa_
        have q162 : x23_3 < (((rd_T81 l0_0 t157).f3).length : Int) := oa_
        obtain ⟨ad162, e162, hx162_0, hx162_1, hx162_2⟩ := at_T112 HR160_3.out x23_3 p162 q162
        cases e162
        replace hx162_0 := pc_ HB.out hx162_0
        replace hx162_1 := pc_ HB.out hx162_1
        replace hx162_2 := pc_ HB.out hx162_2
        replace p162 := eq_true p162
        replace q162 := eq_true q162
        go_wp2_with (first | ((with_reducible refine gate_dst (N := 9) rfl ?_); (try (refine gate_guard (by rfl) ?_; dsimp only)); refine bq_ (N := 9) #[.int .i64 0, .int .i64 0, .int .i64 0] 112 ?_; intro gb163 hg w100 BK163 hb; have GE163 := ge3_ hg GE155 GE156 GE161; replace HB := nc3_ GE155 GE156 GE161 hb; have NB155_163 := nl_ BK155 hg; have NB163_155 := ng_ BK155 hg; replace BK155 := bK_ BK155 hb; have NB156_163 := nl_ BK156 hg; have NB163_156 := ng_ BK156 hg; replace BK156 := bK_ BK156 hb; have NB161_163 := nl_ BK161 hg; have NB163_161 := ng_ BK161 hg; replace BK161 := bK_ BK161 hb; clear hb hg; have hnb101 := NB163_155.out; have hnc101 := NB155_163.out; have hnb102 := NB163_156.out; have hnc102 := NB156_163.out; have hnb103 := NB163_161.out; have hnc103 := NB161_163.out; obtain ⟨hcz104_0, hcz104_1, hcz104_2, hfz104_0, hfz104_1, hfz104_2⟩ := cf3_ BK163.out; have hnb105 := NB156_155.out; have hnc105 := NB155_156.out; have hnb106 := NB156_161.out; have hnc106 := NB161_156.out; obtain ⟨hcz107_0, hcz107_1, hcz107_2, hcz107_3, hfz107_0, hfz107_1, hfz107_2, hfz107_3⟩ := cf4_ BK156.out; have hnb108 := NB161_155.out; have hnc108 := NB155_161.out; obtain ⟨hcz109_0, hcz109_1, hcz109_2, hcz109_3, hfz109_0, hfz109_1, hfz109_2, hfz109_3⟩ := cf4_ BK161.out))
        repeat (go_quiet (first | ((with_reducible refine gate_dst (N := 9) rfl ?_); (try (refine gate_guard (by rfl) ?_; dsimp only)); refine bq_ (N := 9) #[.int .i64 0, .int .i64 0, .int .i64 0] 112 ?_; intro gb163 hg w100 BK163 hb; have GE163 := ge3_ hg GE155 GE156 GE161; replace HB := nc3_ GE155 GE156 GE161 hb; have NB155_163 := nl_ BK155 hg; have NB163_155 := ng_ BK155 hg; replace BK155 := bK_ BK155 hb; have NB156_163 := nl_ BK156 hg; have NB163_156 := ng_ BK156 hg; replace BK156 := bK_ BK156 hb; have NB161_163 := nl_ BK161 hg; have NB163_161 := ng_ BK161 hg; replace BK161 := bK_ BK161 hb; clear hb hg; have hnb101 := NB163_155.out; have hnc101 := NB155_163.out; have hnb102 := NB163_156.out; have hnc102 := NB156_163.out; have hnb103 := NB163_161.out; have hnc103 := NB161_163.out; obtain ⟨hcz104_0, hcz104_1, hcz104_2, hfz104_0, hfz104_1, hfz104_2⟩ := cf3_ BK163.out; have hnb105 := NB156_155.out; have hnc105 := NB155_156.out; have hnb106 := NB156_161.out; have hnc106 := NB161_156.out; obtain ⟨hcz107_0, hcz107_1, hcz107_2, hcz107_3, hfz107_0, hfz107_1, hfz107_2, hfz107_3⟩ := cf4_ BK156.out; have hnb108 := NB161_155.out; have hnc108 := NB155_161.out; obtain ⟨hcz109_0, hcz109_1, hcz109_2, hcz109_3, hfz109_0, hfz109_1, hfz109_2, hfz109_3⟩ := cf4_ BK161.out)); try go_wp2_with (first | ((with_reducible refine gate_dst (N := 9) rfl ?_); (try (refine gate_guard (by rfl) ?_; dsimp only)); refine bq_ (N := 9) #[.int .i64 0, .int .i64 0, .int .i64 0] 112 ?_; intro gb163 hg w100 BK163 hb; have GE163 := ge3_ hg GE155 GE156 GE161; replace HB := nc3_ GE155 GE156 GE161 hb; have NB155_163 := nl_ BK155 hg; have NB163_155 := ng_ BK155 hg; replace BK155 := bK_ BK155 hb; have NB156_163 := nl_ BK156 hg; have NB163_156 := ng_ BK156 hg; replace BK156 := bK_ BK156 hb; have NB161_163 := nl_ BK161 hg; have NB163_161 := ng_ BK161 hg; replace BK161 := bK_ BK161 hb; clear hb hg; have hnb101 := NB163_155.out; have hnc101 := NB155_163.out; have hnb102 := NB163_156.out; have hnc102 := NB156_163.out; have hnb103 := NB163_161.out; have hnc103 := NB161_163.out; obtain ⟨hcz104_0, hcz104_1, hcz104_2, hfz104_0, hfz104_1, hfz104_2⟩ := cf3_ BK163.out; have hnb105 := NB156_155.out; have hnc105 := NB155_156.out; have hnb106 := NB156_161.out; have hnc106 := NB161_156.out; obtain ⟨hcz107_0, hcz107_1, hcz107_2, hcz107_3, hfz107_0, hfz107_1, hfz107_2, hfz107_3⟩ := cf4_ BK156.out; have hnb108 := NB161_155.out; have hnc108 := NB155_161.out; obtain ⟨hcz109_0, hcz109_1, hcz109_2, hcz109_3, hfz109_0, hfz109_1, hfz109_2, hfz109_3⟩ := cf4_ BK161.out)))
        go_roundg k3
        case measure => have := HJ3.out; have := HJ17.out; have := HK3.out; omega
        case rel => exact ⟨(wrap64 (x23_3 + 1)), sr_, H', ⟨by have := HJ3.out; have := HJ17.out; have := HK3.out; omega⟩, ⟨uf_ BK155 NB155_163.out⟩, ⟨uf_ BK156 NB156_163.out⟩, ⟨uf_ BK161 NB161_163.out⟩, ⟨hs4_ GE155.out GE156.out GE161.out GE163.out⟩⟩
       have c78b0 : (((rd_T112 ((rd_T81 l0_0 t157).f3) x23_3).f0) == a1_2) = true := beq_iff_eq.mpr c78
       have c78b1 : (((rd_T112 ((rd_T81 l0_0 t157).f3) x23_3).f0) != a1_2) = false := bne_eq_false_iff_eq.mpr c78
       clear c78
       replace H := ite_ H
       obtain ⟨c79, H⟩ | ⟨c79, H⟩ := H
       ·have c79b0 : (((rd_T112 ((rd_T81 l0_0 t157).f3) x23_3).f1) == (l1_3.length : Int)) = true := beq_iff_eq.mpr c79
        have c79b1 : (((rd_T112 ((rd_T81 l0_0 t157).f3) x23_3).f1) != (l1_3.length : Int)) = false := bne_eq_false_iff_eq.mpr c79
        clear c79
        simp only [Option.some.injEq, Prod.mk.injEq] at H
        obtain ⟨rfl, rfl⟩ := H
        have p162 : 0 ≤ (x23_3 : Int) := oa_
        have q162 : x23_3 < (((rd_T81 l0_0 t157).f3).length : Int) := oa_
        obtain ⟨ad162, e162, hx162_0, hx162_1, hx162_2⟩ := at_T112 HR160_3.out x23_3 p162 q162
        cases e162
        replace hx162_0 := pc_ HB.out hx162_0
        replace hx162_1 := pc_ HB.out hx162_1
        replace hx162_2 := pc_ HB.out hx162_2
        replace p162 := eq_true p162
        replace q162 := eq_true q162
        go_wp2_with (first | ((with_reducible refine gate_dst (N := 9) rfl ?_); (try (refine gate_guard (by rfl) ?_; dsimp only)); refine bq_ (N := 9) #[.int .i64 0, .int .i64 0, .int .i64 0] 112 ?_; intro gb163 hg w80 BK163 hb; have GE163 := ge3_ hg GE155 GE156 GE161; replace HB := nc3_ GE155 GE156 GE161 hb; have NB155_163 := nl_ BK155 hg; have NB163_155 := ng_ BK155 hg; replace BK155 := bK_ BK155 hb; have NB156_163 := nl_ BK156 hg; have NB163_156 := ng_ BK156 hg; replace BK156 := bK_ BK156 hb; have NB161_163 := nl_ BK161 hg; have NB163_161 := ng_ BK161 hg; replace BK161 := bK_ BK161 hb; clear hb hg; have hnb81 := NB163_155.out; have hnc81 := NB155_163.out; have hnb82 := NB163_156.out; have hnc82 := NB156_163.out; have hnb83 := NB163_161.out; have hnc83 := NB161_163.out; obtain ⟨hcz84_0, hcz84_1, hcz84_2, hfz84_0, hfz84_1, hfz84_2⟩ := cf3_ BK163.out; have hnb85 := NB156_155.out; have hnc85 := NB155_156.out; have hnb86 := NB156_161.out; have hnc86 := NB161_156.out; obtain ⟨hcz87_0, hcz87_1, hcz87_2, hcz87_3, hfz87_0, hfz87_1, hfz87_2, hfz87_3⟩ := cf4_ BK156.out; have hnb88 := NB161_155.out; have hnc88 := NB155_161.out; obtain ⟨hcz89_0, hcz89_1, hcz89_2, hcz89_3, hfz89_0, hfz89_1, hfz89_2, hfz89_3⟩ := cf4_ BK161.out))
        repeat (go_quiet (first | ((with_reducible refine gate_dst (N := 9) rfl ?_); (try (refine gate_guard (by rfl) ?_; dsimp only)); refine bq_ (N := 9) #[.int .i64 0, .int .i64 0, .int .i64 0] 112 ?_; intro gb163 hg w80 BK163 hb; have GE163 := ge3_ hg GE155 GE156 GE161; replace HB := nc3_ GE155 GE156 GE161 hb; have NB155_163 := nl_ BK155 hg; have NB163_155 := ng_ BK155 hg; replace BK155 := bK_ BK155 hb; have NB156_163 := nl_ BK156 hg; have NB163_156 := ng_ BK156 hg; replace BK156 := bK_ BK156 hb; have NB161_163 := nl_ BK161 hg; have NB163_161 := ng_ BK161 hg; replace BK161 := bK_ BK161 hb; clear hb hg; have hnb81 := NB163_155.out; have hnc81 := NB155_163.out; have hnb82 := NB163_156.out; have hnc82 := NB156_163.out; have hnb83 := NB163_161.out; have hnc83 := NB161_163.out; obtain ⟨hcz84_0, hcz84_1, hcz84_2, hfz84_0, hfz84_1, hfz84_2⟩ := cf3_ BK163.out; have hnb85 := NB156_155.out; have hnc85 := NB155_156.out; have hnb86 := NB156_161.out; have hnc86 := NB161_156.out; obtain ⟨hcz87_0, hcz87_1, hcz87_2, hcz87_3, hfz87_0, hfz87_1, hfz87_2, hfz87_3⟩ := cf4_ BK156.out; have hnb88 := NB161_155.out; have hnc88 := NB155_161.out; obtain ⟨hcz89_0, hcz89_1, hcz89_2, hcz89_3, hfz89_0, hfz89_1, hfz89_2, hfz89_3⟩ := cf4_ BK161.out)); try go_wp2_with (first | ((with_reducible refine gate_dst (N := 9) rfl ?_); (try (refine gate_guard (by rfl) ?_; dsimp only)); refine bq_ (N := 9) #[.int .i64 0, .int .i64 0, .int .i64 0] 112 ?_; intro gb163 hg w80 BK163 hb; have GE163 := ge3_ hg GE155 GE156 GE161; replace HB := nc3_ GE155 GE156 GE161 hb; have NB155_163 := nl_ BK155 hg; have NB163_155 := ng_ BK155 hg; replace BK155 := bK_ BK155 hb; have NB156_163 := nl_ BK156 hg; have NB163_156 := ng_ BK156 hg; replace BK156 := bK_ BK156 hb; have NB161_163 := nl_ BK161 hg; have NB163_161 := ng_ BK161 hg; replace BK161 := bK_ BK161 hb; clear hb hg; have hnb81 := NB163_155.out; have hnc81 := NB155_163.out; have hnb82 := NB163_156.out; have hnc82 := NB156_163.out; have hnb83 := NB163_161.out; have hnc83 := NB161_163.out; obtain ⟨hcz84_0, hcz84_1, hcz84_2, hfz84_0, hfz84_1, hfz84_2⟩ := cf3_ BK163.out; have hnb85 := NB156_155.out; have hnc85 := NB155_156.out; have hnb86 := NB156_161.out; have hnc86 := NB161_156.out; obtain ⟨hcz87_0, hcz87_1, hcz87_2, hcz87_3, hfz87_0, hfz87_1, hfz87_2, hfz87_3⟩ := cf4_ BK156.out; have hnb88 := NB161_155.out; have hnc88 := NB155_161.out; obtain ⟨hcz89_0, hcz89_1, hcz89_2, hcz89_3, hfz89_0, hfz89_1, hfz89_2, hfz89_3⟩ := cf4_ BK161.out)))
        go_ret2
        exact ⟨er_, hs4_ GE155.out GE156.out GE161.out GE163.out⟩
       have c79b0 : (((rd_T112 ((rd_T81 l0_0 t157).f3) x23_3).f1) == (l1_3.length : Int)) = false := beq_eq_false_iff_ne.mpr c79
       have c79b1 : (((rd_T112 ((rd_T81 l0_0 t157).f3) x23_3).f1) != (l1_3.length : Int)) = true := bne_iff_ne.mpr c79
       have H' := am_ H
       clear H
       have p162 : 0 ≤ (x23_3 : Int) := oa_
       have q162 : x23_3 < (((rd_T81 l0_0 t157).f3).length : Int) := oa_
       obtain ⟨ad162, e162, hx162_0, hx162_1, hx162_2⟩ := at_T112 HR160_3.out x23_3 p162 q162
       cases e162
       replace hx162_0 := pc_ HB.out hx162_0
       replace hx162_1 := pc_ HB.out hx162_1
       replace hx162_2 := pc_ HB.out hx162_2
       replace p162 := eq_true p162
       replace q162 := eq_true q162
       go_wp2_with (first | ((with_reducible refine gate_dst (N := 9) rfl ?_); (try (refine gate_guard (by rfl) ?_; dsimp only)); refine bq_ (N := 9) #[.int .i64 0, .int .i64 0, .int .i64 0] 112 ?_; intro gb163 hg w90 BK163 hb; have GE163 := ge3_ hg GE155 GE156 GE161; replace HB := nc3_ GE155 GE156 GE161 hb; have NB155_163 := nl_ BK155 hg; have NB163_155 := ng_ BK155 hg; replace BK155 := bK_ BK155 hb; have NB156_163 := nl_ BK156 hg; have NB163_156 := ng_ BK156 hg; replace BK156 := bK_ BK156 hb; have NB161_163 := nl_ BK161 hg; have NB163_161 := ng_ BK161 hg; replace BK161 := bK_ BK161 hb; clear hb hg; have hnb91 := NB163_155.out; have hnc91 := NB155_163.out; have hnb92 := NB163_156.out; have hnc92 := NB156_163.out; have hnb93 := NB163_161.out; have hnc93 := NB161_163.out; obtain ⟨hcz94_0, hcz94_1, hcz94_2, hfz94_0, hfz94_1, hfz94_2⟩ := cf3_ BK163.out; have hnb95 := NB156_155.out; have hnc95 := NB155_156.out; have hnb96 := NB156_161.out; have hnc96 := NB161_156.out; obtain ⟨hcz97_0, hcz97_1, hcz97_2, hcz97_3, hfz97_0, hfz97_1, hfz97_2, hfz97_3⟩ := cf4_ BK156.out; have hnb98 := NB161_155.out; have hnc98 := NB155_161.out; obtain ⟨hcz99_0, hcz99_1, hcz99_2, hcz99_3, hfz99_0, hfz99_1, hfz99_2, hfz99_3⟩ := cf4_ BK161.out))
       repeat (go_quiet (first | ((with_reducible refine gate_dst (N := 9) rfl ?_); (try (refine gate_guard (by rfl) ?_; dsimp only)); refine bq_ (N := 9) #[.int .i64 0, .int .i64 0, .int .i64 0] 112 ?_; intro gb163 hg w90 BK163 hb; have GE163 := ge3_ hg GE155 GE156 GE161; replace HB := nc3_ GE155 GE156 GE161 hb; have NB155_163 := nl_ BK155 hg; have NB163_155 := ng_ BK155 hg; replace BK155 := bK_ BK155 hb; have NB156_163 := nl_ BK156 hg; have NB163_156 := ng_ BK156 hg; replace BK156 := bK_ BK156 hb; have NB161_163 := nl_ BK161 hg; have NB163_161 := ng_ BK161 hg; replace BK161 := bK_ BK161 hb; clear hb hg; have hnb91 := NB163_155.out; have hnc91 := NB155_163.out; have hnb92 := NB163_156.out; have hnc92 := NB156_163.out; have hnb93 := NB163_161.out; have hnc93 := NB161_163.out; obtain ⟨hcz94_0, hcz94_1, hcz94_2, hfz94_0, hfz94_1, hfz94_2⟩ := cf3_ BK163.out; have hnb95 := NB156_155.out; have hnc95 := NB155_156.out; have hnb96 := NB156_161.out; have hnc96 := NB161_156.out; obtain ⟨hcz97_0, hcz97_1, hcz97_2, hcz97_3, hfz97_0, hfz97_1, hfz97_2, hfz97_3⟩ := cf4_ BK156.out; have hnb98 := NB161_155.out; have hnc98 := NB155_161.out; obtain ⟨hcz99_0, hcz99_1, hcz99_2, hcz99_3, hfz99_0, hfz99_1, hfz99_2, hfz99_3⟩ := cf4_ BK161.out)); try go_wp2_with (first | ((with_reducible refine gate_dst (N := 9) rfl ?_); (try (refine gate_guard (by rfl) ?_; dsimp only)); refine bq_ (N := 9) #[.int .i64 0, .int .i64 0, .int .i64 0] 112 ?_; intro gb163 hg w90 BK163 hb; have GE163 := ge3_ hg GE155 GE156 GE161; replace HB := nc3_ GE155 GE156 GE161 hb; have NB155_163 := nl_ BK155 hg; have NB163_155 := ng_ BK155 hg; replace BK155 := bK_ BK155 hb; have NB156_163 := nl_ BK156 hg; have NB163_156 := ng_ BK156 hg; replace BK156 := bK_ BK156 hb; have NB161_163 := nl_ BK161 hg; have NB163_161 := ng_ BK161 hg; replace BK161 := bK_ BK161 hb; clear hb hg; have hnb91 := NB163_155.out; have hnc91 := NB155_163.out; have hnb92 := NB163_156.out; have hnc92 := NB156_163.out; have hnb93 := NB163_161.out; have hnc93 := NB161_163.out; obtain ⟨hcz94_0, hcz94_1, hcz94_2, hfz94_0, hfz94_1, hfz94_2⟩ := cf3_ BK163.out; have hnb95 := NB156_155.out; have hnc95 := NB155_156.out; have hnb96 := NB156_161.out; have hnc96 := NB161_156.out; obtain ⟨hcz97_0, hcz97_1, hcz97_2, hcz97_3, hfz97_0, hfz97_1, hfz97_2, hfz97_3⟩ := cf4_ BK156.out; have hnb98 := NB161_155.out; have hnc98 := NB155_161.out; obtain ⟨hcz99_0, hcz99_1, hcz99_2, hcz99_3, hfz99_0, hfz99_1, hfz99_2, hfz99_3⟩ := cf4_ BK161.out)))
       go_roundg k3
       case measure => have := HJ3.out; have := HJ17.out; have := HK3.out; omega
       case rel => exact ⟨(wrap64 (x23_3 + 1)), sr_, H', ⟨by have := HJ3.out; have := HJ17.out; have := HK3.out; omega⟩, ⟨uf_ BK155 NB155_163.out⟩, ⟨uf_ BK156 NB156_163.out⟩, ⟨uf_ BK161 NB161_163.out⟩, ⟨hs4_ GE155.out GE156.out GE161.out GE163.out⟩⟩
end Go.Proofs.Ytojdaolclcmalaa.QFnExactPlayAsks
