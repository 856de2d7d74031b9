/- Functions that one statement reaches: of each a plain function, and the proof that calls come to it. Conditions: those that each contract names. Written by a program of this repository. -/
import Derived.Test.YtojdaolclcmalaaVRecordsOfa
import Derived.Test.YtojdaolclcmalaaQFnExactRecordsOfx0
import Derived.Test.YtojdaolclcmalaaQFnExactRecordsOfx3
import Derived.Test.YtojdaolclcmalaaQFnExactRecordsOfx8
namespace Go.Proofs.Ytojdaolclcmalaa.QFnExactRecordsOf
open Go.RowKit Go.Proofs.YtojdaolclcmalaaW.PrintWords Go.Proofs.YtojdaolclcmalaaW.PrintLast Go.Proofs.YtojdaolclcmalaaW.PrintMore
attribute [local go_sem] max2_int min2_int max_two min_two max_three min_three max_four min_four Go.Proofs.YtojdaolclcmalaaW.PrintMore2.isSome_setCell   -- for this text's walks alone
set_option linter.unusedVariables false
set_option linter.unusedSimpArgs false

/-! ### spec_RecordsOf: function 11 -/
mutual
def spec_RecordsOf.j0 : Nat → Int → Int → Bool → List (S81) → List (S78) → Int → Option (List ByteArray × Bool)
 | 0, _, _, _, _, _, _ => none
 | k + 1, x1, x6, x20, x173000, x173001, x173002 => if x20 = true then (some (([] : List ByteArray), false)) else (spec_RecordsOf.l0 k x1 x6 ([] : List ByteArray) x173001 (x173001.length : Int) 0 x173000 x173001 x173002)
def spec_RecordsOf.l0 : Nat → Int → Int → List ByteArray → List (S78) → Int → Int → List (S81) → List (S78) → Int → Option (List ByteArray × Bool)
 | 0, _, _, _, _, _, _, _, _, _ => none
 | k + 1, x1, x6, x7, x22, x23, x24, x173000, x173001, x173002 => if x24 < x23 then (if 0 ≤ x24 then (if x24 < (x22.length : Int) then (if ((rd_T78 x22 x24).f2) = x1 then (if 0 ≤ x6 then (if x6 < (x173000.length : Int) then (if ((rd_T78 x22 x24).f1) = ((rd_T81 x173000 x6).f1) then (if x7.length + ((rd_T78 x22 x24).f4).length < 8796093022208 then (spec_RecordsOf.l0 k x1 x6 (x7 ++ ((rd_T78 x22 x24).f4)) x22 x23 (wrap64 (x24 + 1)) x173000 x173001 x173002) else (none)) else (spec_RecordsOf.l0 k x1 x6 x7 x22 x23 (wrap64 (x24 + 1)) x173000 x173001 x173002)) else (none)) else (none)) else (spec_RecordsOf.l0 k x1 x6 x7 x22 x23 (wrap64 (x24 + 1)) x173000 x173001 x173002)) else (none)) else (none)) else (some (x7, true))
end
def spec_RecordsOf.f (k : Nat) (l0_0 : List (S81)) (l0_1 : List (S78)) (a0_2 : Int) (a1 : Int) : Option (List ByteArray × Bool) := (spec_l5At.f k l0_0 a1).bind fun t173 => ((spec_GoodPart.f k l0_0 l0_1 a0_2).bind fun t174 => (if t174 = true then (spec_RecordsOf.j0 k a1 t173 (decide (t173 < 0)) l0_0 l0_1 a0_2) else (spec_RecordsOf.j0 k a1 t173 true l0_0 l0_1 a0_2)))
theorem spec_RecordsOf.mono_l : ∀ k, (∀ y0 y1 y2 y3 y4 y5, LeO (spec_RecordsOf.j0 k y0 y1 y2 y3 y4 y5) (spec_RecordsOf.j0 (k + 1) y0 y1 y2 y3 y4 y5)) ∧ (∀ y0 y1 y2 y3 y4 y5 y6 y7 y8, LeO (spec_RecordsOf.l0 k y0 y1 y2 y3 y4 y5 y6 y7 y8) (spec_RecordsOf.l0 (k + 1) y0 y1 y2 y3 y4 y5 y6 y7 y8))
 | 0 => ⟨fun _ _ _ _ _ _ r h => by simp [spec_RecordsOf.j0] at h, fun _ _ _ _ _ _ _ _ _ r h => by simp [spec_RecordsOf.l0] at h⟩
 | k + 1 => by
  obtain ⟨ih0, ih1⟩ := spec_RecordsOf.mono_l k
  refine ⟨?_, ?_⟩
  all_goals intros; first | unfold spec_RecordsOf.j0 | unfold spec_RecordsOf.l0
  all_goals repeat' first | (with_reducible first | apply ih0 | apply ih1 | apply spec_GoodPart.mono | apply spec_l5At.mono | exact LeO.refl _ | exact LeO.none _ | refine LeO.ite ?_ ?_ | refine LeO.bind ?_ (fun _ => ?_))
theorem spec_RecordsOf.mono : ∀ a0 a1 a2 a3 k, LeO (spec_RecordsOf.f k a0 a1 a2 a3) (spec_RecordsOf.f (k + 1) a0 a1 a2 a3) := by
 intro a0 a1 a2 a3 k
 obtain ⟨ih0, ih1⟩ := spec_RecordsOf.mono_l k
 unfold spec_RecordsOf.f
 repeat' first
   | (with_reducible first | apply ih0 | apply ih1 | apply spec_GoodPart.mono | apply spec_l5At.mono | exact LeO.refl _ | exact LeO.none _ | refine LeO.ite ?_ ?_ | refine LeO.bind ?_ (fun _ => ?_))
set_option maxHeartbeats 8000000 in
set_option maxRecDepth 100000 in
theorem spec_RecordsOf.calls (k : Nat) (A0_0 : Option Addr) (c0_0 : Nat) (l0_0 : List (S81)) (A0_1 : Option Addr) (c0_1 : Nat) (l0_1 : List (S78)) (a0_2 : Int) (a1 : Int) (r1 : List ByteArray) (r2 : Bool) (w : World) (hr0_0 : Kd.C k81 w A0_0 l0_0.length l0_0) (hc0_0 : l0_0.length ≤ c0_0) (hr0_1 : Kd.C k78 w A0_1 l0_1.length l0_1) (hc0_1 : l0_1.length ≤ c0_1) (h : spec_RecordsOf.f k l0_0 l0_1 a0_2 a1 = some (r1, r2)) :
  Calls Try.prog 11 #[.agg #[.slice A0_0 l0_0.length c0_0, .slice A0_1 l0_1.length c0_1, .int .i64 a0_2], .int .i64 a1] w fun e w' => ∃ v0_ : Value, e = .returned (.tuple #[v0_, .bool r2]) ∧ Kd.R Kd.string 9 w' w.heap.size (fun _ => True) v0_ r1 ∧ Below w.heap.size w w' := by
 have hu33 := Try.underlying33
 have hu78 := Try.underlying78
 have HR0_0 := am_ hr0_0
 have HC0_0 := am_ hc0_0
 clear hr0_0 hc0_0
 have HR0_1 := am_ hr0_1
 have HC0_1 := am_ hc0_1
 clear hr0_1 hc0_1
 have HB := am_ (Below.refl w.heap.size w)
 have H : ((spec_l5At.f k l0_0 a1).bind fun t173 => ((spec_GoodPart.f k l0_0 l0_1 a0_2).bind fun t174 => (if t174 = true then (spec_RecordsOf.j0 k a1 t173 (decide (t173 < 0)) l0_0 l0_1 a0_2) else (spec_RecordsOf.j0 k a1 t173 true l0_0 l0_1 a0_2)))) = some (r1, r2) := h
 clear h
 replace H := bnd_ H
 obtain ⟨t173, A3, H⟩ := H
 have HC4 := am_ H
 clear H
 go_enter Try.func11, Try.ntmps11
 go_upto_region 2 with (first | ((with_reducible refine gate_dst (N := 2) rfl ?_); refine bq_ (N := 2) #[.slice A0_0 l0_0.length c0_0, .slice A0_1 l0_1.length c0_1, .int .i64 a0_2] 33 ?_; intro gb172 hg w5 BK172 hb; have GE172 := ge_ hg; replace HB := nb_ hb; clear hb hg; obtain ⟨hcz6_0, hcz6_1, hcz6_2, hfz6_0, hfz6_1, hfz6_2⟩ := cf3_ BK172.out) | (go_at_call 48; (with_reducible refine (spec_l5At.calls k _ _ l0_0 a1 t173 _ ?side1 ?side2 A3.out).mono ?_); (case side1 => exact cs_ ((Kd.C_below HR0_0.out HB.out))); (case side2 => exact HC0_0.out); rintro e w7 ⟨rfl, hb⟩; replace BK172 := bK_ BK172 hb; replace HB := nc_ GE172 hb; (try clear hb); (try clear hb2); (try clear hk); (try clear hi)))
 repeat (go_quiet (first | ((with_reducible refine gate_dst (N := 2) rfl ?_); refine bq_ (N := 2) #[.slice A0_0 l0_0.length c0_0, .slice A0_1 l0_1.length c0_1, .int .i64 a0_2] 33 ?_; intro gb172 hg w5 BK172 hb; have GE172 := ge_ hg; replace HB := nb_ hb; clear hb hg; obtain ⟨hcz6_0, hcz6_1, hcz6_2, hfz6_0, hfz6_1, hfz6_2⟩ := cf3_ BK172.out) | (go_at_call 48; (with_reducible refine (spec_l5At.calls k _ _ l0_0 a1 t173 _ ?side1 ?side2 A3.out).mono ?_); (case side1 => exact cs_ ((Kd.C_below HR0_0.out HB.out))); (case side2 => exact HC0_0.out); rintro e w7 ⟨rfl, hb⟩; replace BK172 := bK_ BK172 hb; replace HB := nc_ GE172 hb; (try clear hb); (try clear hb2); (try clear hk); (try clear hi))); go_upto_region 2 with (first | ((with_reducible refine gate_dst (N := 2) rfl ?_); refine bq_ (N := 2) #[.slice A0_0 l0_0.length c0_0, .slice A0_1 l0_1.length c0_1, .int .i64 a0_2] 33 ?_; intro gb172 hg w5 BK172 hb; have GE172 := ge_ hg; replace HB := nb_ hb; clear hb hg; obtain ⟨hcz6_0, hcz6_1, hcz6_2, hfz6_0, hfz6_1, hfz6_2⟩ := cf3_ BK172.out) | (go_at_call 48; (with_reducible refine (spec_l5At.calls k _ _ l0_0 a1 t173 _ ?side1 ?side2 A3.out).mono ?_); (case side1 => exact cs_ ((Kd.C_below HR0_0.out HB.out))); (case side2 => exact HC0_0.out); rintro e w7 ⟨rfl, hb⟩; replace BK172 := bK_ BK172 hb; replace HB := nc_ GE172 hb; (try clear hb); (try clear hb2); (try clear hk); (try clear hi))))
 (try simp only [Act.put, List.setIfInBounds_toArray, List.set_cons_zero, List.set_cons_succ])
 go_cut [20] (fun v20 wc => ∃ (kq : Nat) (x20_3 : Bool), v20 = .bool x20_3 ∧ Aside0 (spec_RecordsOf.j0 kq a1 t173 x20_3 l0_0 l0_1 a0_2 = some (r1, r2)) ∧ Aside0 (kq ≤ k) ∧ Aside0 (wc.heap[gb172]? = some (.cells #[(.slice A0_0 l0_0.length c0_0), (.slice A0_1 l0_1.length c0_1), .int .i64 a0_2] 33 (0, 0))) ∧ Aside0 (Below w.heap.size w wc))
 case first =>
  have H := HC4.out
  clear HC4
  replace H := bnd_ H
  obtain ⟨t174, A8, H⟩ := H
  replace H := ifb_ H
  obtain ⟨rfl, H⟩ | ⟨rfl, H⟩ := H
  rotate_left
  ·have H' := am_ H
   clear H
   obtain ⟨hcz12_0, hcz12_1, hcz12_2, hfz12_0, hfz12_1, hfz12_2⟩ := cf3_ BK172.out
   go_wp2_with (first | (go_at_call 37; (with_reducible refine (spec_GoodPart.calls k _ _ l0_0 _ _ l0_1 a0_2 false _ ?side1 ?side2 ?side3 ?side4 A8.out).mono ?_); (case side1 => exact cs_ ((Kd.C_below HR0_0.out HB.out))); (case side2 => exact HC0_0.out); (case side3 => exact cs_ ((Kd.C_below HR0_1.out HB.out))); (case side4 => exact HC0_1.out); rintro e w13 ⟨rfl, hb⟩; replace BK172 := bK_ BK172 hb; replace HB := nc_ GE172 hb; (try clear hb); (try clear hb2); (try clear hk); (try clear hi)))
   repeat (go_quiet (first | (go_at_call 37; (with_reducible refine (spec_GoodPart.calls k _ _ l0_0 _ _ l0_1 a0_2 false _ ?side1 ?side2 ?side3 ?side4 A8.out).mono ?_); (case side1 => exact cs_ ((Kd.C_below HR0_0.out HB.out))); (case side2 => exact HC0_0.out); (case side3 => exact cs_ ((Kd.C_below HR0_1.out HB.out))); (case side4 => exact HC0_1.out); rintro e w13 ⟨rfl, hb⟩; replace BK172 := bK_ BK172 hb; replace HB := nc_ GE172 hb; (try clear hb); (try clear hb2); (try clear hk); (try clear hi))); try go_wp2_with (first | (go_at_call 37; (with_reducible refine (spec_GoodPart.calls k _ _ l0_0 _ _ l0_1 a0_2 false _ ?side1 ?side2 ?side3 ?side4 A8.out).mono ?_); (case side1 => exact cs_ ((Kd.C_below HR0_0.out HB.out))); (case side2 => exact HC0_0.out); (case side3 => exact cs_ ((Kd.C_below HR0_1.out HB.out))); (case side4 => exact HC0_1.out); rintro e w13 ⟨rfl, hb⟩; replace BK172 := bK_ BK172 hb; replace HB := nc_ GE172 hb; (try clear hb); (try clear hb2); (try clear hk); (try clear hi))))
   go_meet
   case rel => exact ⟨_, (true), sr_, H', ⟨by first | omega | exact Nat.le_refl _⟩, ⟨kb_ BK172.out⟩, ⟨hs_ GE172.out⟩⟩
  have H' := am_ H
  clear H
  obtain ⟨hcz10_0, hcz10_1, hcz10_2, hfz10_0, hfz10_1, hfz10_2⟩ := cf3_ BK172.out
  go_wp2_with (first | (go_at_call 37; (with_reducible refine (spec_GoodPart.calls k _ _ l0_0 _ _ l0_1 a0_2 true _ ?side1 ?side2 ?side3 ?side4 A8.out).mono ?_); (case side1 => exact cs_ ((Kd.C_below HR0_0.out HB.out))); (case side2 => exact HC0_0.out); (case side3 => exact cs_ ((Kd.C_below HR0_1.out HB.out))); (case side4 => exact HC0_1.out); rintro e w11 ⟨rfl, hb⟩; replace BK172 := bK_ BK172 hb; replace HB := nc_ GE172 hb; (try clear hb); (try clear hb2); (try clear hk); (try clear hi)))
  repeat (go_quiet (first | (go_at_call 37; (with_reducible refine (spec_GoodPart.calls k _ _ l0_0 _ _ l0_1 a0_2 true _ ?side1 ?side2 ?side3 ?side4 A8.out).mono ?_); (case side1 => exact cs_ ((Kd.C_below HR0_0.out HB.out))); (case side2 => exact HC0_0.out); (case side3 => exact cs_ ((Kd.C_below HR0_1.out HB.out))); (case side4 => exact HC0_1.out); rintro e w11 ⟨rfl, hb⟩; replace BK172 := bK_ BK172 hb; replace HB := nc_ GE172 hb; (try clear hb); (try clear hb2); (try clear hk); (try clear hi))); try go_wp2_with (first | (go_at_call 37; (with_reducible refine (spec_GoodPart.calls k _ _ l0_0 _ _ l0_1 a0_2 true _ ?side1 ?side2 ?side3 ?side4 A8.out).mono ?_); (case side1 => exact cs_ ((Kd.C_below HR0_0.out HB.out))); (case side2 => exact HC0_0.out); (case side3 => exact cs_ ((Kd.C_below HR0_1.out HB.out))); (case side4 => exact HC0_1.out); rintro e w11 ⟨rfl, hb⟩; replace BK172 := bK_ BK172 hb; replace HB := nc_ GE172 hb; (try clear hb); (try clear hb2); (try clear hk); (try clear hi))))
  go_meet
  case rel => exact ⟨_, (decide (t173 < 0)), sr_, H', ⟨by first | omega | exact Nat.le_refl _⟩, ⟨kb_ BK172.out⟩, ⟨hs_ GE172.out⟩⟩
 case rest =>
  clear HC4
  try clear hcz6_0
  try clear hcz6_1
  try clear hcz6_2
  try clear hfz6_0
  try clear hfz6_1
  try clear hfz6_2
  obtain ⟨kq, x20_3, rfl, HA, HJ3, BK172, HB⟩ := hcut
  cases kq with
  | zero => exact absurd HA.out (by simp [spec_RecordsOf.j0])
  | succ kj3 =>
   have H := HA.out
   clear HA
   simp only [spec_RecordsOf.j0] at H
   replace H := ifb_ H
   obtain ⟨rfl, H⟩ | ⟨rfl, H⟩ := H
   ·simp only [Option.some.injEq, Prod.mk.injEq] at H
    obtain ⟨rfl, rfl⟩ := H
    go_wp2
    repeat (go_quiet (fail); try go_wp2)
    go_ret2
    exact ⟨_, er_, ni_, hs_ GE172.out⟩
   have H' := am_ H
   clear H
   obtain ⟨hcz15_0, hcz15_1, hcz15_2, hfz15_0, hfz15_1, hfz15_2⟩ := cf3_ BK172.out
   go_wp2
   repeat (go_quiet (fail); try go_wp2)
   go_loopg [7, 24] kj3 (fun kq v7 v24 w' => ∃ (x7_2 : List ByteArray) (x24_2 : Int), v24 = .int .i64 x24_2 ∧ Aside0 (spec_RecordsOf.l0 kq a1 t173 x7_2 l0_1 (l0_1.length : Int) x24_2 l0_0 l0_1 a0_2 = some (r1, r2)) ∧ Aside0 (kq ≤ kj3) ∧ Aside0 (Kd.R Kd.string 9 w' w.heap.size (fun _ => True) v7 x7_2) ∧ Aside0 (w'.heap[gb172]? = some (.cells #[(.slice A0_0 l0_0.length c0_0), (.slice A0_1 l0_1.length c0_1), .int .i64 a0_2] 33 (0, 0))) ∧ Aside0 (Below w.heap.size w w'))
   case atStart => exact ⟨(([] : List ByteArray)), (0), sr_, H', ⟨Nat.le_refl _⟩, ⟨ni_⟩, ⟨kb_ BK172.out⟩, ⟨hs_ GE172.out⟩⟩
   case round =>
    clear H'
    try clear hcz15_0
    try clear hcz15_1
    try clear hcz15_2
    try clear hcz6_0
    try clear hcz6_1
    try clear hcz6_2
    try clear hfz15_0
    try clear hfz15_1
    try clear hfz15_2
    try clear hfz6_0
    try clear hfz6_1
    try clear hfz6_2
    obtain ⟨x7_2, x24_2, rfl, HA, HK2, HO_7, BK172, HB⟩ := hrel
    cases gk with
    | zero => exact absurd HA.out (by simp [spec_RecordsOf.l0])
    | succ k2 =>
     have H := HA.out
     clear HA
     simp only [spec_RecordsOf.l0] at H
     replace H := ite_ H
     obtain ⟨c16, H⟩ | ⟨c16, H⟩ := H
     rotate_left
     ·have c16b0 := decide_eq_false c16
      clear c16
      simp only [Option.some.injEq, Prod.mk.injEq] at H
      obtain ⟨rfl, rfl⟩ := H
      go_wp2
      repeat (go_quiet (fail); try go_wp2)
      go_ret2
      exact ⟨_, er_, kr_ HO_7.out, hs_ GE172.out⟩
     have c16b0 := decide_eq_true c16
     clear c16
     replace H := ifs_ H
     obtain ⟨c17, H⟩ := H
     have c17b0 := decide_eq_true c17
     clear c17
     replace H := ifs_ H
     obtain ⟨c18, H⟩ := H
     have c18b0 := decide_eq_true c18
     clear c18
     replace H := ite_ H
     obtain ⟨c19, H⟩ | ⟨c19, H⟩ := H
     rotate_left
     ·have c19b0 : (((rd_T78 l0_1 x24_2).f2) == a1) = false := beq_eq_false_iff_ne.mpr c19
      have c19b1 : (((rd_T78 l0_1 x24_2).f2) != a1) = true := bne_iff_ne.mpr c19
      have H' := am_ H
      clear H
      have p175 : 0 ≤ (x24_2 : Int) := oa_
      have q175 : x24_2 < (l0_1.length : Int) := oa_
      obtain ⟨ad175, A175_4, c175_4, e175, hx175_0, hx175_1, hx175_2, hx175_3, hx175_4, hl175_4, hi175_4⟩ := at_T78 HR0_1.out x24_2 p175 q175
      cases e175
      replace hx175_0 := pc_ HB.out hx175_0
      replace hx175_1 := pc_ HB.out hx175_1
      replace hx175_2 := pc_ HB.out hx175_2
      replace hx175_3 := pc_ HB.out hx175_3
      replace hx175_4 := pc_ HB.out hx175_4
      have HR175_4 := am_ hi175_4
      have HC175_4 := am_ hl175_4
      clear hi175_4 hl175_4
      replace p175 := eq_true p175
      replace q175 := eq_true q175
      go_wp2_with (first | ((with_reducible refine gate_dst (N := 9) rfl ?_); refine bq_ (N := 9) #[.int .i64 0, .int .i64 0, .int .i64 0, .int .i64 0, .slice none 0 0] 78 ?_; intro gb176 hg w33 BK176 hb; replace HO_7 := rB_ HO_7 hb; have GW176 := ge1_ hg GE172; have GE176 := ge1_ hg GE172; replace HB := nc_ GE172 hb; have NB172_176 := nl_ BK172 hg; have NB176_172 := ng_ BK172 hg; replace BK172 := bK_ BK172 hb; clear hb hg; have hnb34 := NB176_172.out; have hnc34 := NB172_176.out; obtain ⟨hcz35_0, hcz35_1, hcz35_2, hcz35_3, hcz35_4, hfz35_0, hfz35_1, hfz35_2, hfz35_3, hfz35_4⟩ := cf5_ BK176.out))
      repeat (go_quiet (first | ((with_reducible refine gate_dst (N := 9) rfl ?_); refine bq_ (N := 9) #[.int .i64 0, .int .i64 0, .int .i64 0, .int .i64 0, .slice none 0 0] 78 ?_; intro gb176 hg w33 BK176 hb; replace HO_7 := rB_ HO_7 hb; have GW176 := ge1_ hg GE172; have GE176 := ge1_ hg GE172; replace HB := nc_ GE172 hb; have NB172_176 := nl_ BK172 hg; have NB176_172 := ng_ BK172 hg; replace BK172 := bK_ BK172 hb; clear hb hg; have hnb34 := NB176_172.out; have hnc34 := NB172_176.out; obtain ⟨hcz35_0, hcz35_1, hcz35_2, hcz35_3, hcz35_4, hfz35_0, hfz35_1, hfz35_2, hfz35_3, hfz35_4⟩ := cf5_ BK176.out)); try go_wp2_with (first | ((with_reducible refine gate_dst (N := 9) rfl ?_); refine bq_ (N := 9) #[.int .i64 0, .int .i64 0, .int .i64 0, .int .i64 0, .slice none 0 0] 78 ?_; intro gb176 hg w33 BK176 hb; replace HO_7 := rB_ HO_7 hb; have GW176 := ge1_ hg GE172; have GE176 := ge1_ hg GE172; replace HB := nc_ GE172 hb; have NB172_176 := nl_ BK172 hg; have NB176_172 := ng_ BK172 hg; replace BK172 := bK_ BK172 hb; clear hb hg; have hnb34 := NB176_172.out; have hnc34 := NB172_176.out; obtain ⟨hcz35_0, hcz35_1, hcz35_2, hcz35_3, hcz35_4, hfz35_0, hfz35_1, hfz35_2, hfz35_3, hfz35_4⟩ := cf5_ BK176.out)))
      go_roundg k2
      case measure => have := HJ3.out; have := HK2.out; omega
      case rel => exact ⟨(x7_2), (wrap64 (x24_2 + 1)), sr_, H', ⟨by have := HJ3.out; have := HK2.out; omega⟩, ⟨Kd.R_mono (rF_ (Kd.R_types HO_7.out BK176.out (by decide))) (fun _ hk => trivial)⟩, ⟨uf_ BK172 NB172_176.out⟩, ⟨hs2_ GE172.out GE176.out⟩⟩
     have c19b0 : (((rd_T78 l0_1 x24_2).f2) == a1) = true := beq_iff_eq.mpr c19
     have c19b1 : (((rd_T78 l0_1 x24_2).f2) != a1) = false := bne_eq_false_iff_eq.mpr c19
     clear c19
     replace H := ifs_ H
     obtain ⟨c20, H⟩ := H
     have c20b0 := decide_eq_true c20
     clear c20
     replace H := ifs_ H
     obtain ⟨c21, H⟩ := H
     have c21b0 := decide_eq_true c21
     clear c21
     replace H := ite_ H
     obtain ⟨c22, H⟩ | ⟨c22, H⟩ := H
     rotate_left
     ·have c22b0 : (((rd_T78 l0_1 x24_2).f1) == ((rd_T81 l0_0 t173).f1)) = false := beq_eq_false_iff_ne.mpr c22
      have c22b1 : (((rd_T78 l0_1 x24_2).f1) != ((rd_T81 l0_0 t173).f1)) = true := bne_iff_ne.mpr c22
      have H' := am_ H
      clear H
      have p175 : 0 ≤ (x24_2 : Int) := oa_
      have q175 : x24_2 < (l0_1.length : Int) := oa_
      obtain ⟨ad175, A175_4, c175_4, e175, hx175_0, hx175_1, hx175_2, hx175_3, hx175_4, hl175_4, hi175_4⟩ := at_T78 HR0_1.out x24_2 p175 q175
      cases e175
      replace hx175_0 := pc_ HB.out hx175_0
      replace hx175_1 := pc_ HB.out hx175_1
      replace hx175_2 := pc_ HB.out hx175_2
      replace hx175_3 := pc_ HB.out hx175_3
      replace hx175_4 := pc_ HB.out hx175_4
      have HR175_4 := am_ hi175_4
      have HC175_4 := am_ hl175_4
      clear hi175_4 hl175_4
      replace p175 := eq_true p175
      replace q175 := eq_true q175
      go_wp2_with (first | ((with_reducible refine gate_dst (N := 9) rfl ?_); refine bq_ (N := 9) #[.int .i64 0, .int .i64 0, .int .i64 0, .int .i64 0, .slice none 0 0] 78 ?_; intro gb176 hg w29 BK176 hb; replace HO_7 := rB_ HO_7 hb; have GW176 := ge1_ hg GE172; have GE176 := ge1_ hg GE172; replace HB := nc_ GE172 hb; have NB172_176 := nl_ BK172 hg; have NB176_172 := ng_ BK172 hg; replace BK172 := bK_ BK172 hb; clear hb hg; have hnb30 := NB176_172.out; have hnc30 := NB172_176.out; obtain ⟨hcz31_0, hcz31_1, hcz31_2, hcz31_3, hcz31_4, hfz31_0, hfz31_1, hfz31_2, hfz31_3, hfz31_4⟩ := cf5_ BK176.out; obtain ⟨hcz32_0, hcz32_1, hcz32_2, hfz32_0, hfz32_1, hfz32_2⟩ := cf3_ BK172.out; have p177 : 0 ≤ (t173 : Int) := oa_; have q177 : t173 < (l0_0.length : Int) := oa_; obtain ⟨ad177, A177_3, c177_3, e177, hx177_0, hx177_1, hx177_2, hx177_3, hl177_3, hi177_3⟩ := at_T81 HR0_0.out t173 p177 q177; cases e177; have hn177_0 : ad177.block ≠ gb176 := Nat.ne_of_lt (Nat.lt_of_lt_of_le (by have := World.block_lt_of_cell? _ _ hx177_0; first | rwa [add_block] at this | exact this) GW176.out); have hn177_1 : ad177.block ≠ gb176 := Nat.ne_of_lt (Nat.lt_of_lt_of_le (by have := World.block_lt_of_cell? _ _ hx177_0; first | rwa [add_block] at this | exact this) GW176.out); have hn177_2 : ad177.block ≠ gb176 := Nat.ne_of_lt (Nat.lt_of_lt_of_le (by have := World.block_lt_of_cell? _ _ hx177_0; first | rwa [add_block] at this | exact this) GW176.out); have hn177_3 : ad177.block ≠ gb176 := Nat.ne_of_lt (Nat.lt_of_lt_of_le (by have := World.block_lt_of_cell? _ _ hx177_0; first | rwa [add_block] at this | exact this) GW176.out); have hn177_4 : ad177.block ≠ gb176 := Nat.ne_of_lt (Nat.lt_of_lt_of_le (by have := World.block_lt_of_cell? _ _ hx177_0; first | rwa [add_block] at this | exact this) GW176.out); replace hx177_0 := pc_ HB.out hx177_0; replace hx177_1 := pc_ HB.out hx177_1; replace hx177_2 := pc_ HB.out hx177_2; replace hx177_3 := pc_ HB.out hx177_3; have HR177_3 := am_ hi177_3; have HC177_3 := am_ hl177_3; clear hi177_3 hl177_3; replace hx177_0 := (cell_far (p := ⟨gb176, 0, none⟩) (by first | (rw [add_block]; exact hn177_0) | (show (Addr.add _ _).block ≠ _; rw [add_block]; exact hn177_0) | exact hn177_0) (.int .i64 ((rd_T78 l0_1 x24_2).f0))).trans hx177_0; replace hx177_1 := (cell_far (p := ⟨gb176, 0, none⟩) (by first | (rw [add_block]; exact hn177_0) | (show (Addr.add _ _).block ≠ _; rw [add_block]; exact hn177_0) | exact hn177_0) (.int .i64 ((rd_T78 l0_1 x24_2).f0))).trans hx177_1; replace hx177_2 := (cell_far (p := ⟨gb176, 0, none⟩) (by first | (rw [add_block]; exact hn177_0) | (show (Addr.add _ _).block ≠ _; rw [add_block]; exact hn177_0) | exact hn177_0) (.int .i64 ((rd_T78 l0_1 x24_2).f0))).trans hx177_2; replace hx177_3 := (cell_far (p := ⟨gb176, 0, none⟩) (by first | (rw [add_block]; exact hn177_0) | (show (Addr.add _ _).block ≠ _; rw [add_block]; exact hn177_0) | exact hn177_0) (.int .i64 ((rd_T78 l0_1 x24_2).f0))).trans hx177_3; replace hx177_0 := (cell_far (p := ⟨gb176, 1, none⟩) (by first | (rw [add_block]; exact hn177_1) | (show (Addr.add _ _).block ≠ _; rw [add_block]; exact hn177_1) | exact hn177_1) (.int .i64 ((rd_T78 l0_1 x24_2).f1))).trans hx177_0; replace hx177_1 := (cell_far (p := ⟨gb176, 1, none⟩) (by first | (rw [add_block]; exact hn177_1) | (show (Addr.add _ _).block ≠ _; rw [add_block]; exact hn177_1) | exact hn177_1) (.int .i64 ((rd_T78 l0_1 x24_2).f1))).trans hx177_1; replace hx177_2 := (cell_far (p := ⟨gb176, 1, none⟩) (by first | (rw [add_block]; exact hn177_1) | (show (Addr.add _ _).block ≠ _; rw [add_block]; exact hn177_1) | exact hn177_1) (.int .i64 ((rd_T78 l0_1 x24_2).f1))).trans hx177_2; replace hx177_3 := (cell_far (p := ⟨gb176, 1, none⟩) (by first | (rw [add_block]; exact hn177_1) | (show (Addr.add _ _).block ≠ _; rw [add_block]; exact hn177_1) | exact hn177_1) (.int .i64 ((rd_T78 l0_1 x24_2).f1))).trans hx177_3; replace hx177_0 := (cell_far (p := ⟨gb176, 2, none⟩) (by first | (rw [add_block]; exact hn177_2) | (show (Addr.add _ _).block ≠ _; rw [add_block]; exact hn177_2) | exact hn177_2) (.int .i64 ((rd_T78 l0_1 x24_2).f2))).trans hx177_0; replace hx177_1 := (cell_far (p := ⟨gb176, 2, none⟩) (by first | (rw [add_block]; exact hn177_2) | (show (Addr.add _ _).block ≠ _; rw [add_block]; exact hn177_2) | exact hn177_2) (.int .i64 ((rd_T78 l0_1 x24_2).f2))).trans hx177_1; replace hx177_2 := (cell_far (p := ⟨gb176, 2, none⟩) (by first | (rw [add_block]; exact hn177_2) | (show (Addr.add _ _).block ≠ _; rw [add_block]; exact hn177_2) | exact hn177_2) (.int .i64 ((rd_T78 l0_1 x24_2).f2))).trans hx177_2; replace hx177_3 := (cell_far (p := ⟨gb176, 2, none⟩) (by first | (rw [add_block]; exact hn177_2) | (show (Addr.add _ _).block ≠ _; rw [add_block]; exact hn177_2) | exact hn177_2) (.int .i64 ((rd_T78 l0_1 x24_2).f2))).trans hx177_3; replace hx177_0 := (cell_far (p := ⟨gb176, 3, none⟩) (by first | (rw [add_block]; exact hn177_3) | (show (Addr.add _ _).block ≠ _; rw [add_block]; exact hn177_3) | exact hn177_3) (.int .i64 ((rd_T78 l0_1 x24_2).f3))).trans hx177_0; replace hx177_1 := (cell_far (p := ⟨gb176, 3, none⟩) (by first | (rw [add_block]; exact hn177_3) | (show (Addr.add _ _).block ≠ _; rw [add_block]; exact hn177_3) | exact hn177_3) (.int .i64 ((rd_T78 l0_1 x24_2).f3))).trans hx177_1; replace hx177_2 := (cell_far (p := ⟨gb176, 3, none⟩) (by first | (rw [add_block]; exact hn177_3) | (show (Addr.add _ _).block ≠ _; rw [add_block]; exact hn177_3) | exact hn177_3) (.int .i64 ((rd_T78 l0_1 x24_2).f3))).trans hx177_2; replace hx177_3 := (cell_far (p := ⟨gb176, 3, none⟩) (by first | (rw [add_block]; exact hn177_3) | (show (Addr.add _ _).block ≠ _; rw [add_block]; exact hn177_3) | exact hn177_3) (.int .i64 ((rd_T78 l0_1 x24_2).f3))).trans hx177_3; replace hx177_0 := (cell_far (p := ⟨gb176, 4, none⟩) (by first | (rw [add_block]; exact hn177_4) | (show (Addr.add _ _).block ≠ _; rw [add_block]; exact hn177_4) | exact hn177_4) (.slice A175_4 ((rd_T78 l0_1 x24_2).f4).length c175_4)).trans hx177_0; replace hx177_1 := (cell_far (p := ⟨gb176, 4, none⟩) (by first | (rw [add_block]; exact hn177_4) | (show (Addr.add _ _).block ≠ _; rw [add_block]; exact hn177_4) | exact hn177_4) (.slice A175_4 ((rd_T78 l0_1 x24_2).f4).length c175_4)).trans hx177_1; replace hx177_2 := (cell_far (p := ⟨gb176, 4, none⟩) (by first | (rw [add_block]; exact hn177_4) | (show (Addr.add _ _).block ≠ _; rw [add_block]; exact hn177_4) | exact hn177_4) (.slice A175_4 ((rd_T78 l0_1 x24_2).f4).length c175_4)).trans hx177_2; replace hx177_3 := (cell_far (p := ⟨gb176, 4, none⟩) (by first | (rw [add_block]; exact hn177_4) | (show (Addr.add _ _).block ≠ _; rw [add_block]; exact hn177_4) | exact hn177_4) (.slice A175_4 ((rd_T78 l0_1 x24_2).f4).length c175_4)).trans hx177_3; (try have hy177_0 := fun (n_ : Nat) => (show (((((((w29.drewN n_).setCell ⟨gb176, 0, none⟩ (.int .i64 ((rd_T78 l0_1 x24_2).f0))).setCell ⟨gb176, 1, none⟩ (.int .i64 ((rd_T78 l0_1 x24_2).f1))).setCell ⟨gb176, 2, none⟩ (.int .i64 ((rd_T78 l0_1 x24_2).f2))).setCell ⟨gb176, 3, none⟩ (.int .i64 ((rd_T78 l0_1 x24_2).f3))).setCell ⟨gb176, 4, none⟩ (.slice A175_4 ((rd_T78 l0_1 x24_2).f4).length c175_4))).cell? _ = some _ from hx177_0)); (try have hy177_1 := fun (n_ : Nat) => (show (((((((w29.drewN n_).setCell ⟨gb176, 0, none⟩ (.int .i64 ((rd_T78 l0_1 x24_2).f0))).setCell ⟨gb176, 1, none⟩ (.int .i64 ((rd_T78 l0_1 x24_2).f1))).setCell ⟨gb176, 2, none⟩ (.int .i64 ((rd_T78 l0_1 x24_2).f2))).setCell ⟨gb176, 3, none⟩ (.int .i64 ((rd_T78 l0_1 x24_2).f3))).setCell ⟨gb176, 4, none⟩ (.slice A175_4 ((rd_T78 l0_1 x24_2).f4).length c175_4))).cell? _ = some _ from hx177_1)); (try have hy177_2 := fun (n_ : Nat) => (show (((((((w29.drewN n_).setCell ⟨gb176, 0, none⟩ (.int .i64 ((rd_T78 l0_1 x24_2).f0))).setCell ⟨gb176, 1, none⟩ (.int .i64 ((rd_T78 l0_1 x24_2).f1))).setCell ⟨gb176, 2, none⟩ (.int .i64 ((rd_T78 l0_1 x24_2).f2))).setCell ⟨gb176, 3, none⟩ (.int .i64 ((rd_T78 l0_1 x24_2).f3))).setCell ⟨gb176, 4, none⟩ (.slice A175_4 ((rd_T78 l0_1 x24_2).f4).length c175_4))).cell? _ = some _ from hx177_2)); (try have hy177_3 := fun (n_ : Nat) => (show (((((((w29.drewN n_).setCell ⟨gb176, 0, none⟩ (.int .i64 ((rd_T78 l0_1 x24_2).f0))).setCell ⟨gb176, 1, none⟩ (.int .i64 ((rd_T78 l0_1 x24_2).f1))).setCell ⟨gb176, 2, none⟩ (.int .i64 ((rd_T78 l0_1 x24_2).f2))).setCell ⟨gb176, 3, none⟩ (.int .i64 ((rd_T78 l0_1 x24_2).f3))).setCell ⟨gb176, 4, none⟩ (.slice A175_4 ((rd_T78 l0_1 x24_2).f4).length c175_4))).cell? _ = some _ from hx177_3)); clear hn177_0; clear hn177_1; clear hn177_2; clear hn177_3; clear hn177_4; replace p177 := eq_true p177; replace q177 := eq_true q177))
      repeat (go_quiet (first | ((with_reducible refine gate_dst (N := 9) rfl ?_); refine bq_ (N := 9) #[.int .i64 0, .int .i64 0, .int .i64 0, .int .i64 0, .slice none 0 0] 78 ?_; intro gb176 hg w29 BK176 hb; replace HO_7 := rB_ HO_7 hb; have GW176 := ge1_ hg GE172; have GE176 := ge1_ hg GE172; replace HB := nc_ GE172 hb; have NB172_176 := nl_ BK172 hg; have NB176_172 := ng_ BK172 hg; replace BK172 := bK_ BK172 hb; clear hb hg; have hnb30 := NB176_172.out; have hnc30 := NB172_176.out; obtain ⟨hcz31_0, hcz31_1, hcz31_2, hcz31_3, hcz31_4, hfz31_0, hfz31_1, hfz31_2, hfz31_3, hfz31_4⟩ := cf5_ BK176.out; obtain ⟨hcz32_0, hcz32_1, hcz32_2, hfz32_0, hfz32_1, hfz32_2⟩ := cf3_ BK172.out; have p177 : 0 ≤ (t173 : Int) := oa_; have q177 : t173 < (l0_0.length : Int) := oa_; obtain ⟨ad177, A177_3, c177_3, e177, hx177_0, hx177_1, hx177_2, hx177_3, hl177_3, hi177_3⟩ := at_T81 HR0_0.out t173 p177 q177; cases e177; have hn177_0 : ad177.block ≠ gb176 := Nat.ne_of_lt (Nat.lt_of_lt_of_le (by have := World.block_lt_of_cell? _ _ hx177_0; first | rwa [add_block] at this | exact this) GW176.out); have hn177_1 : ad177.block ≠ gb176 := Nat.ne_of_lt (Nat.lt_of_lt_of_le (by have := World.block_lt_of_cell? _ _ hx177_0; first | rwa [add_block] at this | exact this) GW176.out); have hn177_2 : ad177.block ≠ gb176 := Nat.ne_of_lt (Nat.lt_of_lt_of_le (by have := World.block_lt_of_cell? _ _ hx177_0; first | rwa [add_block] at this | exact this) GW176.out); have hn177_3 : ad177.block ≠ gb176 := Nat.ne_of_lt (Nat.lt_of_lt_of_le (by have := World.block_lt_of_cell? _ _ hx177_0; first | rwa [add_block] at this | exact this) GW176.out); have hn177_4 : ad177.block ≠ gb176 := Nat.ne_of_lt (Nat.lt_of_lt_of_le (by have := World.block_lt_of_cell? _ _ hx177_0; first | rwa [add_block] at this | exact this) GW176.out); replace hx177_0 := pc_ HB.out hx177_0; replace hx177_1 := pc_ HB.out hx177_1; replace hx177_2 := pc_ HB.out hx177_2; replace hx177_3 := pc_ HB.out hx177_3; have HR177_3 := am_ hi177_3; have HC177_3 := am_ hl177_3; clear hi177_3 hl177_3; replace hx177_0 := (cell_far (p := ⟨gb176, 0, none⟩) (by first | (rw [add_block]; exact hn177_0) | (show (Addr.add _ _).block ≠ _; rw [add_block]; exact hn177_0) | exact hn177_0) (.int .i64 ((rd_T78 l0_1 x24_2).f0))).trans hx177_0; replace hx177_1 := (cell_far (p := ⟨gb176, 0, none⟩) (by first | (rw [add_block]; exact hn177_0) | (show (Addr.add _ _).block ≠ _; rw [add_block]; exact hn177_0) | exact hn177_0) (.int .i64 ((rd_T78 l0_1 x24_2).f0))).trans hx177_1; replace hx177_2 := (cell_far (p := ⟨gb176, 0, none⟩) (by first | (rw [add_block]; exact hn177_0) | (show (Addr.add _ _).block ≠ _; rw [add_block]; exact hn177_0) | exact hn177_0) (.int .i64 ((rd_T78 l0_1 x24_2).f0))).trans hx177_2; replace hx177_3 := (cell_far (p := ⟨gb176, 0, none⟩) (by first | (rw [add_block]; exact hn177_0) | (show (Addr.add _ _).block ≠ _; rw [add_block]; exact hn177_0) | exact hn177_0) (.int .i64 ((rd_T78 l0_1 x24_2).f0))).trans hx177_3; replace hx177_0 := (cell_far (p := ⟨gb176, 1, none⟩) (by first | (rw [add_block]; exact hn177_1) | (show (Addr.add _ _).block ≠ _; rw [add_block]; exact hn177_1) | exact hn177_1) (.int .i64 ((rd_T78 l0_1 x24_2).f1))).trans hx177_0; replace hx177_1 := (cell_far (p := ⟨gb176, 1, none⟩) (by first | (rw [add_block]; exact hn177_1) | (show (Addr.add _ _).block ≠ _; rw [add_block]; exact hn177_1) | exact hn177_1) (.int .i64 ((rd_T78 l0_1 x24_2).f1))).trans hx177_1; replace hx177_2 := (cell_far (p := ⟨gb176, 1, none⟩) (by first | (rw [add_block]; exact hn177_1) | (show (Addr.add _ _).block ≠ _; rw [add_block]; exact hn177_1) | exact hn177_1) (.int .i64 ((rd_T78 l0_1 x24_2).f1))).trans hx177_2; replace hx177_3 := (cell_far (p := ⟨gb176, 1, none⟩) (by first | (rw [add_block]; exact hn177_1) | (show (Addr.add _ _).block ≠ _; rw [add_block]; exact hn177_1) | exact hn177_1) (.int .i64 ((rd_T78 l0_1 x24_2).f1))).trans hx177_3; replace hx177_0 := (cell_far (p := ⟨gb176, 2, none⟩) (by first | (rw [add_block]; exact hn177_2) | (show (Addr.add _ _).block ≠ _; rw [add_block]; exact hn177_2) | exact hn177_2) (.int .i64 ((rd_T78 l0_1 x24_2).f2))).trans hx177_0; replace hx177_1 := (cell_far (p := ⟨gb176, 2, none⟩) (by first | (rw [add_block]; exact hn177_2) | (show (Addr.add _ _).block ≠ _; rw [add_block]; exact hn177_2) | exact hn177_2) (.int .i64 ((rd_T78 l0_1 x24_2).f2))).trans hx177_1; replace hx177_2 := (cell_far (p := ⟨gb176, 2, none⟩) (by first | (rw [add_block]; exact hn177_2) | (show (Addr.add _ _).block ≠ _; rw [add_block]; exact hn177_2) | exact hn177_2) (.int .i64 ((rd_T78 l0_1 x24_2).f2))).trans hx177_2; replace hx177_3 := (cell_far (p := ⟨gb176, 2, none⟩) (by first | (rw [add_block]; exact hn177_2) | (show (Addr.add _ _).block ≠ _; rw [add_block]; exact hn177_2) | exact hn177_2) (.int .i64 ((rd_T78 l0_1 x24_2).f2))).trans hx177_3; replace hx177_0 := (cell_far (p := ⟨gb176, 3, none⟩) (by first | (rw [add_block]; exact hn177_3) | (show (Addr.add _ _).block ≠ _; rw [add_block]; exact hn177_3) | exact hn177_3) (.int .i64 ((rd_T78 l0_1 x24_2).f3))).trans hx177_0; replace hx177_1 := (cell_far (p := ⟨gb176, 3, none⟩) (by first | (rw [add_block]; exact hn177_3) | (show (Addr.add _ _).block ≠ _; rw [add_block]; exact hn177_3) | exact hn177_3) (.int .i64 ((rd_T78 l0_1 x24_2).f3))).trans hx177_1; replace hx177_2 := (cell_far (p := ⟨gb176, 3, none⟩) (by first | (rw [add_block]; exact hn177_3) | (show (Addr.add _ _).block ≠ _; rw [add_block]; exact hn177_3) | exact hn177_3) (.int .i64 ((rd_T78 l0_1 x24_2).f3))).trans hx177_2; replace hx177_3 := (cell_far (p := ⟨gb176, 3, none⟩) (by first | (rw [add_block]; exact hn177_3) | (show (Addr.add _ _).block ≠ _; rw [add_block]; exact hn177_3) | exact hn177_3) (.int .i64 ((rd_T78 l0_1 x24_2).f3))).trans hx177_3; replace hx177_0 := (cell_far (p := ⟨gb176, 4, none⟩) (by first | (rw [add_block]; exact hn177_4) | (show (Addr.add _ _).block ≠ _; rw [add_block]; exact hn177_4) | exact hn177_4) (.slice A175_4 ((rd_T78 l0_1 x24_2).f4).length c175_4)).trans hx177_0; replace hx177_1 := (cell_far (p := ⟨gb176, 4, none⟩) (by first | (rw [add_block]; exact hn177_4) | (show (Addr.add _ _).block ≠ _; rw [add_block]; exact hn177_4) | exact hn177_4) (.slice A175_4 ((rd_T78 l0_1 x24_2).f4).length c175_4)).trans hx177_1; replace hx177_2 := (cell_far (p := ⟨gb176, 4, none⟩) (by first | (rw [add_block]; exact hn177_4) | (show (Addr.add _ _).block ≠ _; rw [add_block]; exact hn177_4) | exact hn177_4) (.slice A175_4 ((rd_T78 l0_1 x24_2).f4).length c175_4)).trans hx177_2; replace hx177_3 := (cell_far (p := ⟨gb176, 4, none⟩) (by first | (rw [add_block]; exact hn177_4) | (show (Addr.add _ _).block ≠ _; rw [add_block]; exact hn177_4) | exact hn177_4) (.slice A175_4 ((rd_T78 l0_1 x24_2).f4).length c175_4)).trans hx177_3; (try have hy177_0 := fun (n_ : Nat) => (show (((((((w29.drewN n_).setCell ⟨gb176, 0, none⟩ (.int .i64 ((rd_T78 l0_1 x24_2).f0))).setCell ⟨gb176, 1, none⟩ (.int .i64 ((rd_T78 l0_1 x24_2).f1))).setCell ⟨gb176, 2, none⟩ (.int .i64 ((rd_T78 l0_1 x24_2).f2))).setCell ⟨gb176, 3, none⟩ (.int .i64 ((rd_T78 l0_1 x24_2).f3))).setCell ⟨gb176, 4, none⟩ (.slice A175_4 ((rd_T78 l0_1 x24_2).f4).length c175_4))).cell? _ = some _ from hx177_0)); (try have hy177_1 := fun (n_ : Nat) => (show (((((((w29.drewN n_).setCell ⟨gb176, 0, none⟩ (.int .i64 ((rd_T78 l0_1 x24_2).f0))).setCell ⟨gb176, 1, none⟩ (.int .i64 ((rd_T78 l0_1 x24_2).f1))).setCell ⟨gb176, 2, none⟩ (.int .i64 ((rd_T78 l0_1 x24_2).f2))).setCell ⟨gb176, 3, none⟩ (.int .i64 ((rd_T78 l0_1 x24_2).f3))).setCell ⟨gb176, 4, none⟩ (.slice A175_4 ((rd_T78 l0_1 x24_2).f4).length c175_4))).cell? _ = some _ from hx177_1)); (try have hy177_2 := fun (n_ : Nat) => (show (((((((w29.drewN n_).setCell ⟨gb176, 0, none⟩ (.int .i64 ((rd_T78 l0_1 x24_2).f0))).setCell ⟨gb176, 1, none⟩ (.int .i64 ((rd_T78 l0_1 x24_2).f1))).setCell ⟨gb176, 2, none⟩ (.int .i64 ((rd_T78 l0_1 x24_2).f2))).setCell ⟨gb176, 3, none⟩ (.int .i64 ((rd_T78 l0_1 x24_2).f3))).setCell ⟨gb176, 4, none⟩ (.slice A175_4 ((rd_T78 l0_1 x24_2).f4).length c175_4))).cell? _ = some _ from hx177_2)); (try have hy177_3 := fun (n_ : Nat) => (show (((((((w29.drewN n_).setCell ⟨gb176, 0, none⟩ (.int .i64 ((rd_T78 l0_1 x24_2).f0))).setCell ⟨gb176, 1, none⟩ (.int .i64 ((rd_T78 l0_1 x24_2).f1))).setCell ⟨gb176, 2, none⟩ (.int .i64 ((rd_T78 l0_1 x24_2).f2))).setCell ⟨gb176, 3, none⟩ (.int .i64 ((rd_T78 l0_1 x24_2).f3))).setCell ⟨gb176, 4, none⟩ (.slice A175_4 ((rd_T78 l0_1 x24_2).f4).length c175_4))).cell? _ = some _ from hx177_3)); clear hn177_0; clear hn177_1; clear hn177_2; clear hn177_3; clear hn177_4; replace p177 := eq_true p177; replace q177 := eq_true q177)); try go_wp2_with (first | ((with_reducible refine gate_dst (N := 9) rfl ?_); refine bq_ (N := 9) #[.int .i64 0, .int .i64 0, .int .i64 0, .int .i64 0, .slice none 0 0] 78 ?_; intro gb176 hg w29 BK176 hb; replace HO_7 := rB_ HO_7 hb; have GW176 := ge1_ hg GE172; have GE176 := ge1_ hg GE172; replace HB := nc_ GE172 hb; have NB172_176 := nl_ BK172 hg; have NB176_172 := ng_ BK172 hg; replace BK172 := bK_ BK172 hb; clear hb hg; have hnb30 := NB176_172.out; have hnc30 := NB172_176.out; obtain ⟨hcz31_0, hcz31_1, hcz31_2, hcz31_3, hcz31_4, hfz31_0, hfz31_1, hfz31_2, hfz31_3, hfz31_4⟩ := cf5_ BK176.out; obtain ⟨hcz32_0, hcz32_1, hcz32_2, hfz32_0, hfz32_1, hfz32_2⟩ := cf3_ BK172.out; have p177 : 0 ≤ (t173 : Int) := oa_; have q177 : t173 < (l0_0.length : Int) := oa_; obtain ⟨ad177, A177_3, c177_3, e177, hx177_0, hx177_1, hx177_2, hx177_3, hl177_3, hi177_3⟩ := at_T81 HR0_0.out t173 p177 q177; cases e177; have hn177_0 : ad177.block ≠ gb176 := Nat.ne_of_lt (Nat.lt_of_lt_of_le (by have := World.block_lt_of_cell? _ _ hx177_0; first | rwa [add_block] at this | exact this) GW176.out); have hn177_1 : ad177.block ≠ gb176 := Nat.ne_of_lt (Nat.lt_of_lt_of_le (by have := World.block_lt_of_cell? _ _ hx177_0; first | rwa [add_block] at this | exact this) GW176.out); have hn177_2 : ad177.block ≠ gb176 := Nat.ne_of_lt (Nat.lt_of_lt_of_le (by have := World.block_lt_of_cell? _ _ hx177_0; first | rwa [add_block] at this | exact this) GW176.out); have hn177_3 : ad177.block ≠ gb176 := Nat.ne_of_lt (Nat.lt_of_lt_of_le (by have := World.block_lt_of_cell? _ _ hx177_0; first | rwa [add_block] at this | exact this) GW176.out); have hn177_4 : ad177.block ≠ gb176 := Nat.ne_of_lt (Nat.lt_of_lt_of_le (by have := World.block_lt_of_cell? _ _ hx177_0; first | rwa [add_block] at this | exact this) GW176.out); replace hx177_0 := pc_ HB.out hx177_0; replace hx177_1 := pc_ HB.out hx177_1; replace hx177_2 := pc_ HB.out hx177_2; replace hx177_3 := pc_ HB.out hx177_3; have HR177_3 := am_ hi177_3; have HC177_3 := am_ hl177_3; clear hi177_3 hl177_3; replace hx177_0 := (cell_far (p := ⟨gb176, 0, none⟩) (by first | (rw [add_block]; exact hn177_0) | (show (Addr.add _ _).block ≠ _; rw [add_block]; exact hn177_0) | exact hn177_0) (.int .i64 ((rd_T78 l0_1 x24_2).f0))).trans hx177_0; replace hx177_1 := (cell_far (p := ⟨gb176, 0, none⟩) (by first | (rw [add_block]; exact hn177_0) | (show (Addr.add _ _).block ≠ _; rw [add_block]; exact hn177_0) | exact hn177_0) (.int .i64 ((rd_T78 l0_1 x24_2).f0))).trans hx177_1; replace hx177_2 := (cell_far (p := ⟨gb176, 0, none⟩) (by first | (rw [add_block]; exact hn177_0) | (show (Addr.add _ _).block ≠ _; rw [add_block]; exact hn177_0) | exact hn177_0) (.int .i64 ((rd_T78 l0_1 x24_2).f0))).trans hx177_2; replace hx177_3 := (cell_far (p := ⟨gb176, 0, none⟩) (by first | (rw [add_block]; exact hn177_0) | (show (Addr.add _ _).block ≠ _; rw [add_block]; exact hn177_0) | exact hn177_0) (.int .i64 ((rd_T78 l0_1 x24_2).f0))).trans hx177_3; replace hx177_0 := (cell_far (p := ⟨gb176, 1, none⟩) (by first | (rw [add_block]; exact hn177_1) | (show (Addr.add _ _).block ≠ _; rw [add_block]; exact hn177_1) | exact hn177_1) (.int .i64 ((rd_T78 l0_1 x24_2).f1))).trans hx177_0; replace hx177_1 := (cell_far (p := ⟨gb176, 1, none⟩) (by first | (rw [add_block]; exact hn177_1) | (show (Addr.add _ _).block ≠ _; rw [add_block]; exact hn177_1) | exact hn177_1) (.int .i64 ((rd_T78 l0_1 x24_2).f1))).trans hx177_1; replace hx177_2 := (cell_far (p := ⟨gb176, 1, none⟩) (by first | (rw [add_block]; exact hn177_1) | (show (Addr.add _ _).block ≠ _; rw [add_block]; exact hn177_1) | exact hn177_1) (.int .i64 ((rd_T78 l0_1 x24_2).f1))).trans hx177_2; replace hx177_3 := (cell_far (p := ⟨gb176, 1, none⟩) (by first | (rw [add_block]; exact hn177_1) | (show (Addr.add _ _).block ≠ _; rw [add_block]; exact hn177_1) | exact hn177_1) (.int .i64 ((rd_T78 l0_1 x24_2).f1))).trans hx177_3; replace hx177_0 := (cell_far (p := ⟨gb176, 2, none⟩) (by first | (rw [add_block]; exact hn177_2) | (show (Addr.add _ _).block ≠ _; rw [add_block]; exact hn177_2) | exact hn177_2) (.int .i64 ((rd_T78 l0_1 x24_2).f2))).trans hx177_0; replace hx177_1 := (cell_far (p := ⟨gb176, 2, none⟩) (by first | (rw [add_block]; exact hn177_2) | (show (Addr.add _ _).block ≠ _; rw [add_block]; exact hn177_2) | exact hn177_2) (.int .i64 ((rd_T78 l0_1 x24_2).f2))).trans hx177_1; replace hx177_2 := (cell_far (p := ⟨gb176, 2, none⟩) (by first | (rw [add_block]; exact hn177_2) | (show (Addr.add _ _).block ≠ _; rw [add_block]; exact hn177_2) | exact hn177_2) (.int .i64 ((rd_T78 l0_1 x24_2).f2))).trans hx177_2; replace hx177_3 := (cell_far (p := ⟨gb176, 2, none⟩) (by first | (rw [add_block]; exact hn177_2) | (show (Addr.add _ _).block ≠ _; rw [add_block]; exact hn177_2) | exact hn177_2) (.int .i64 ((rd_T78 l0_1 x24_2).f2))).trans hx177_3; replace hx177_0 := (cell_far (p := ⟨gb176, 3, none⟩) (by first | (rw [add_block]; exact hn177_3) | (show (Addr.add _ _).block ≠ _; rw [add_block]; exact hn177_3) | exact hn177_3) (.int .i64 ((rd_T78 l0_1 x24_2).f3))).trans hx177_0; replace hx177_1 := (cell_far (p := ⟨gb176, 3, none⟩) (by first | (rw [add_block]; exact hn177_3) | (show (Addr.add _ _).block ≠ _; rw [add_block]; exact hn177_3) | exact hn177_3) (.int .i64 ((rd_T78 l0_1 x24_2).f3))).trans hx177_1; replace hx177_2 := (cell_far (p := ⟨gb176, 3, none⟩) (by first | (rw [add_block]; exact hn177_3) | (show (Addr.add _ _).block ≠ _; rw [add_block]; exact hn177_3) | exact hn177_3) (.int .i64 ((rd_T78 l0_1 x24_2).f3))).trans hx177_2; replace hx177_3 := (cell_far (p := ⟨gb176, 3, none⟩) (by first | (rw [add_block]; exact hn177_3) | (show (Addr.add _ _).block ≠ _; rw [add_block]; exact hn177_3) | exact hn177_3) (.int .i64 ((rd_T78 l0_1 x24_2).f3))).trans hx177_3; replace hx177_0 := (cell_far (p := ⟨gb176, 4, none⟩) (by first | (rw [add_block]; exact hn177_4) | (show (Addr.add _ _).block ≠ _; rw [add_block]; exact hn177_4) | exact hn177_4) (.slice A175_4 ((rd_T78 l0_1 x24_2).f4).length c175_4)).trans hx177_0; replace hx177_1 := (cell_far (p := ⟨gb176, 4, none⟩) (by first | (rw [add_block]; exact hn177_4) | (show (Addr.add _ _).block ≠ _; rw [add_block]; exact hn177_4) | exact hn177_4) (.slice A175_4 ((rd_T78 l0_1 x24_2).f4).length c175_4)).trans hx177_1; replace hx177_2 := (cell_far (p := ⟨gb176, 4, none⟩) (by first | (rw [add_block]; exact hn177_4) | (show (Addr.add _ _).block ≠ _; rw [add_block]; exact hn177_4) | exact hn177_4) (.slice A175_4 ((rd_T78 l0_1 x24_2).f4).length c175_4)).trans hx177_2; replace hx177_3 := (cell_far (p := ⟨gb176, 4, none⟩) (by first | (rw [add_block]; exact hn177_4) | (show (Addr.add _ _).block ≠ _; rw [add_block]; exact hn177_4) | exact hn177_4) (.slice A175_4 ((rd_T78 l0_1 x24_2).f4).length c175_4)).trans hx177_3; (try have hy177_0 := fun (n_ : Nat) => (show (((((((w29.drewN n_).setCell ⟨gb176, 0, none⟩ (.int .i64 ((rd_T78 l0_1 x24_2).f0))).setCell ⟨gb176, 1, none⟩ (.int .i64 ((rd_T78 l0_1 x24_2).f1))).setCell ⟨gb176, 2, none⟩ (.int .i64 ((rd_T78 l0_1 x24_2).f2))).setCell ⟨gb176, 3, none⟩ (.int .i64 ((rd_T78 l0_1 x24_2).f3))).setCell ⟨gb176, 4, none⟩ (.slice A175_4 ((rd_T78 l0_1 x24_2).f4).length c175_4))).cell? _ = some _ from hx177_0)); (try have hy177_1 := fun (n_ : Nat) => (show (((((((w29.drewN n_).setCell ⟨gb176, 0, none⟩ (.int .i64 ((rd_T78 l0_1 x24_2).f0))).setCell ⟨gb176, 1, none⟩ (.int .i64 ((rd_T78 l0_1 x24_2).f1))).setCell ⟨gb176, 2, none⟩ (.int .i64 ((rd_T78 l0_1 x24_2).f2))).setCell ⟨gb176, 3, none⟩ (.int .i64 ((rd_T78 l0_1 x24_2).f3))).setCell ⟨gb176, 4, none⟩ (.slice A175_4 ((rd_T78 l0_1 x24_2).f4).length c175_4))).cell? _ = some _ from hx177_1)); (try have hy177_2 := fun (n_ : Nat) => (show (((((((w29.drewN n_).setCell ⟨gb176, 0, none⟩ (.int .i64 ((rd_T78 l0_1 x24_2).f0))).setCell ⟨gb176, 1, none⟩ (.int .i64 ((rd_T78 l0_1 x24_2).f1))).setCell ⟨gb176, 2, none⟩ (.int .i64 ((rd_T78 l0_1 x24_2).f2))).setCell ⟨gb176, 3, none⟩ (.int .i64 ((rd_T78 l0_1 x24_2).f3))).setCell ⟨gb176, 4, none⟩ (.slice A175_4 ((rd_T78 l0_1 x24_2).f4).length c175_4))).cell? _ = some _ from hx177_2)); (try have hy177_3 := fun (n_ : Nat) => (show (((((((w29.drewN n_).setCell ⟨gb176, 0, none⟩ (.int .i64 ((rd_T78 l0_1 x24_2).f0))).setCell ⟨gb176, 1, none⟩ (.int .i64 ((rd_T78 l0_1 x24_2).f1))).setCell ⟨gb176, 2, none⟩ (.int .i64 ((rd_T78 l0_1 x24_2).f2))).setCell ⟨gb176, 3, none⟩ (.int .i64 ((rd_T78 l0_1 x24_2).f3))).setCell ⟨gb176, 4, none⟩ (.slice A175_4 ((rd_T78 l0_1 x24_2).f4).length c175_4))).cell? _ = some _ from hx177_3)); clear hn177_0; clear hn177_1; clear hn177_2; clear hn177_3; clear hn177_4; replace p177 := eq_true p177; replace q177 := eq_true q177)))
      go_roundg k2
      case measure => have := HJ3.out; have := HK2.out; omega
      case rel => exact ⟨(x7_2), (wrap64 (x24_2 + 1)), sr_, H', ⟨by have := HJ3.out; have := HK2.out; omega⟩, ⟨Kd.R_mono (rF_ (Kd.R_types HO_7.out BK176.out (by decide))) (fun _ hk => trivial)⟩, ⟨uf_ BK172 NB172_176.out⟩, ⟨hs2_ GE172.out GE176.out⟩⟩
     have c22b0 : (((rd_T78 l0_1 x24_2).f1) == ((rd_T81 l0_0 t173).f1)) = true := beq_iff_eq.mpr c22
     have c22b1 : (((rd_T78 l0_1 x24_2).f1) != ((rd_T81 l0_0 t173).f1)) = false := bne_eq_false_iff_eq.mpr c22
     clear c22
     replace H := ifs_ H
     obtain ⟨c23, H⟩ := H
     have LMc23 := am_ c23
     clear c23
     obtain ⟨y178, hy178⟩ : ∃ y_ : List ByteArray, y_ = (x7_2 ++ ((rd_T78 l0_1 x24_2).f4)) := ⟨_, rfl⟩
     replace H : (spec_RecordsOf.l0 k2 a1 t173 y178 l0_1 (l0_1.length : Int) (wrap64 (x24_2 + 1)) l0_0 l0_1 a0_2) = some (r1, r2) := by first | (rw [hy178]; with_reducible exact H) | (have H2_ := (Option.bind_some _ _).symm.trans H; rw [hy178]; with_reducible exact H2_) | (have H2_ := (Option.bind_some _ _).symm.trans H; with_reducible exact H2_) | with_reducible exact H | (rw [hy178]; exact H) | exact H
     have Ny178 := am_ hy178
     clear hy178
     have H' := am_ H
     clear H
     have p175 : 0 ≤ (x24_2 : Int) := oa_
     have q175 : x24_2 < (l0_1.length : Int) := oa_
     obtain ⟨ad175, A175_4, c175_4, e175, hx175_0, hx175_1, hx175_2, hx175_3, hx175_4, hl175_4, hi175_4⟩ := at_T78 HR0_1.out x24_2 p175 q175
     cases e175
     replace hx175_0 := pc_ HB.out hx175_0
     replace hx175_1 := pc_ HB.out hx175_1
     replace hx175_2 := pc_ HB.out hx175_2
     replace hx175_3 := pc_ HB.out hx175_3
     replace hx175_4 := pc_ HB.out hx175_4
     have HR175_4 := am_ hi175_4
     have HC175_4 := am_ hl175_4
     clear hi175_4 hl175_4
     replace p175 := eq_true p175
     replace q175 := eq_true q175
     go_wp2_with (first | ((with_reducible refine gate_dst (N := 9) rfl ?_); refine bq_ (N := 9) #[.int .i64 0, .int .i64 0, .int .i64 0, .int .i64 0, .slice none 0 0] 78 ?_; intro gb176 hg w24 BK176 hb; replace HO_7 := rB_ HO_7 hb; have GW176 := ge1_ hg GE172; have GE176 := ge1_ hg GE172; replace HB := nc_ GE172 hb; have NB172_176 := nl_ BK172 hg; have NB176_172 := ng_ BK172 hg; replace BK172 := bK_ BK172 hb; clear hb hg; have hnb25 := NB176_172.out; have hnc25 := NB172_176.out; obtain ⟨hcz26_0, hcz26_1, hcz26_2, hcz26_3, hcz26_4, hfz26_0, hfz26_1, hfz26_2, hfz26_3, hfz26_4⟩ := cf5_ BK176.out; obtain ⟨hcz27_0, hcz27_1, hcz27_2, hfz27_0, hfz27_1, hfz27_2⟩ := cf3_ BK172.out; have p177 : 0 ≤ (t173 : Int) := oa_; have q177 : t173 < (l0_0.length : Int) := oa_; obtain ⟨ad177, A177_3, c177_3, e177, hx177_0, hx177_1, hx177_2, hx177_3, hl177_3, hi177_3⟩ := at_T81 HR0_0.out t173 p177 q177; cases e177; have hn177_0 : ad177.block ≠ gb176 := Nat.ne_of_lt (Nat.lt_of_lt_of_le (by have := World.block_lt_of_cell? _ _ hx177_0; first | rwa [add_block] at this | exact this) GW176.out); have hn177_1 : ad177.block ≠ gb176 := Nat.ne_of_lt (Nat.lt_of_lt_of_le (by have := World.block_lt_of_cell? _ _ hx177_0; first | rwa [add_block] at this | exact this) GW176.out); have hn177_2 : ad177.block ≠ gb176 := Nat.ne_of_lt (Nat.lt_of_lt_of_le (by have := World.block_lt_of_cell? _ _ hx177_0; first | rwa [add_block] at this | exact this) GW176.out); have hn177_3 : ad177.block ≠ gb176 := Nat.ne_of_lt (Nat.lt_of_lt_of_le (by have := World.block_lt_of_cell? _ _ hx177_0; first | rwa [add_block] at this | exact this) GW176.out); have hn177_4 : ad177.block ≠ gb176 := Nat.ne_of_lt (Nat.lt_of_lt_of_le (by have := World.block_lt_of_cell? _ _ hx177_0; first | rwa [add_block] at this | exact this) GW176.out); replace hx177_0 := pc_ HB.out hx177_0; replace hx177_1 := pc_ HB.out hx177_1; replace hx177_2 := pc_ HB.out hx177_2; replace hx177_3 := pc_ HB.out hx177_3; have HR177_3 := am_ hi177_3; have HC177_3 := am_ hl177_3; clear hi177_3 hl177_3; replace hx177_0 := (cell_far (p := ⟨gb176, 0, none⟩) (by first | (rw [add_block]; exact hn177_0) | (show (Addr.add _ _).block ≠ _; rw [add_block]; exact hn177_0) | exact hn177_0) (.int .i64 ((rd_T78 l0_1 x24_2).f0))).trans hx177_0; replace hx177_1 := (cell_far (p := ⟨gb176, 0, none⟩) (by first | (rw [add_block]; exact hn177_0) | (show (Addr.add _ _).block ≠ _; rw [add_block]; exact hn177_0) | exact hn177_0) (.int .i64 ((rd_T78 l0_1 x24_2).f0))).trans hx177_1; replace hx177_2 := (cell_far (p := ⟨gb176, 0, none⟩) (by first | (rw [add_block]; exact hn177_0) | (show (Addr.add _ _).block ≠ _; rw [add_block]; exact hn177_0) | exact hn177_0) (.int .i64 ((rd_T78 l0_1 x24_2).f0))).trans hx177_2; replace hx177_3 := (cell_far (p := ⟨gb176, 0, none⟩) (by first | (rw [add_block]; exact hn177_0) | (show (Addr.add _ _).block ≠ _; rw [add_block]; exact hn177_0) | exact hn177_0) (.int .i64 ((rd_T78 l0_1 x24_2).f0))).trans hx177_3; replace hx177_0 := (cell_far (p := ⟨gb176, 1, none⟩) (by first | (rw [add_block]; exact hn177_1) | (show (Addr.add _ _).block ≠ _; rw [add_block]; exact hn177_1) | exact hn177_1) (.int .i64 ((rd_T78 l0_1 x24_2).f1))).trans hx177_0; replace hx177_1 := (cell_far (p := ⟨gb176, 1, none⟩) (by first | (rw [add_block]; exact hn177_1) | (show (Addr.add _ _).block ≠ _; rw [add_block]; exact hn177_1) | exact hn177_1) (.int .i64 ((rd_T78 l0_1 x24_2).f1))).trans hx177_1; replace hx177_2 := (cell_far (p := ⟨gb176, 1, none⟩) (by first | (rw [add_block]; exact hn177_1) | (show (Addr.add _ _).block ≠ _; rw [add_block]; exact hn177_1) | exact hn177_1) (.int .i64 ((rd_T78 l0_1 x24_2).f1))).trans hx177_2; replace hx177_3 := (cell_far (p := ⟨gb176, 1, none⟩) (by first | (rw [add_block]; exact hn177_1) | (show (Addr.add _ _).block ≠ _; rw [add_block]; exact hn177_1) | exact hn177_1) (.int .i64 ((rd_T78 l0_1 x24_2).f1))).trans hx177_3; replace hx177_0 := (cell_far (p := ⟨gb176, 2, none⟩) (by first | (rw [add_block]; exact hn177_2) | (show (Addr.add _ _).block ≠ _; rw [add_block]; exact hn177_2) | exact hn177_2) (.int .i64 ((rd_T78 l0_1 x24_2).f2))).trans hx177_0; replace hx177_1 := (cell_far (p := ⟨gb176, 2, none⟩) (by first | (rw [add_block]; exact hn177_2) | (show (Addr.add _ _).block ≠ _; rw [add_block]; exact hn177_2) | exact hn177_2) (.int .i64 ((rd_T78 l0_1 x24_2).f2))).trans hx177_1; replace hx177_2 := (cell_far (p := ⟨gb176, 2, none⟩) (by first | (rw [add_block]; exact hn177_2) | (show (Addr.add _ _).block ≠ _; rw [add_block]; exact hn177_2) | exact hn177_2) (.int .i64 ((rd_T78 l0_1 x24_2).f2))).trans hx177_2; replace hx177_3 := (cell_far (p := ⟨gb176, 2, none⟩) (by first | (rw [add_block]; exact hn177_2) | (show (Addr.add _ _).block ≠ _; rw [add_block]; exact hn177_2) | exact hn177_2) (.int .i64 ((rd_T78 l0_1 x24_2).f2))).trans hx177_3; replace hx177_0 := (cell_far (p := ⟨gb176, 3, none⟩) (by first | (rw [add_block]; exact hn177_3) | (show (Addr.add _ _).block ≠ _; rw [add_block]; exact hn177_3) | exact hn177_3) (.int .i64 ((rd_T78 l0_1 x24_2).f3))).trans hx177_0; replace hx177_1 := (cell_far (p := ⟨gb176, 3, none⟩) (by first | (rw [add_block]; exact hn177_3) | (show (Addr.add _ _).block ≠ _; rw [add_block]; exact hn177_3) | exact hn177_3) (.int .i64 ((rd_T78 l0_1 x24_2).f3))).trans hx177_1; replace hx177_2 := (cell_far (p := ⟨gb176, 3, none⟩) (by first | (rw [add_block]; exact hn177_3) | (show (Addr.add _ _).block ≠ _; rw [add_block]; exact hn177_3) | exact hn177_3) (.int .i64 ((rd_T78 l0_1 x24_2).f3))).trans hx177_2; replace hx177_3 := (cell_far (p := ⟨gb176, 3, none⟩) (by first | (rw [add_block]; exact hn177_3) | (show (Addr.add _ _).block ≠ _; rw [add_block]; exact hn177_3) | exact hn177_3) (.int .i64 ((rd_T78 l0_1 x24_2).f3))).trans hx177_3; replace hx177_0 := (cell_far (p := ⟨gb176, 4, none⟩) (by first | (rw [add_block]; exact hn177_4) | (show (Addr.add _ _).block ≠ _; rw [add_block]; exact hn177_4) | exact hn177_4) (.slice A175_4 ((rd_T78 l0_1 x24_2).f4).length c175_4)).trans hx177_0; replace hx177_1 := (cell_far (p := ⟨gb176, 4, none⟩) (by first | (rw [add_block]; exact hn177_4) | (show (Addr.add _ _).block ≠ _; rw [add_block]; exact hn177_4) | exact hn177_4) (.slice A175_4 ((rd_T78 l0_1 x24_2).f4).length c175_4)).trans hx177_1; replace hx177_2 := (cell_far (p := ⟨gb176, 4, none⟩) (by first | (rw [add_block]; exact hn177_4) | (show (Addr.add _ _).block ≠ _; rw [add_block]; exact hn177_4) | exact hn177_4) (.slice A175_4 ((rd_T78 l0_1 x24_2).f4).length c175_4)).trans hx177_2; replace hx177_3 := (cell_far (p := ⟨gb176, 4, none⟩) (by first | (rw [add_block]; exact hn177_4) | (show (Addr.add _ _).block ≠ _; rw [add_block]; exact hn177_4) | exact hn177_4) (.slice A175_4 ((rd_T78 l0_1 x24_2).f4).length c175_4)).trans hx177_3; (try have hy177_0 := fun (n_ : Nat) => (show (((((((w24.drewN n_).setCell ⟨gb176, 0, none⟩ (.int .i64 ((rd_T78 l0_1 x24_2).f0))).setCell ⟨gb176, 1, none⟩ (.int .i64 ((rd_T78 l0_1 x24_2).f1))).setCell ⟨gb176, 2, none⟩ (.int .i64 ((rd_T78 l0_1 x24_2).f2))).setCell ⟨gb176, 3, none⟩ (.int .i64 ((rd_T78 l0_1 x24_2).f3))).setCell ⟨gb176, 4, none⟩ (.slice A175_4 ((rd_T78 l0_1 x24_2).f4).length c175_4))).cell? _ = some _ from hx177_0)); (try have hy177_1 := fun (n_ : Nat) => (show (((((((w24.drewN n_).setCell ⟨gb176, 0, none⟩ (.int .i64 ((rd_T78 l0_1 x24_2).f0))).setCell ⟨gb176, 1, none⟩ (.int .i64 ((rd_T78 l0_1 x24_2).f1))).setCell ⟨gb176, 2, none⟩ (.int .i64 ((rd_T78 l0_1 x24_2).f2))).setCell ⟨gb176, 3, none⟩ (.int .i64 ((rd_T78 l0_1 x24_2).f3))).setCell ⟨gb176, 4, none⟩ (.slice A175_4 ((rd_T78 l0_1 x24_2).f4).length c175_4))).cell? _ = some _ from hx177_1)); (try have hy177_2 := fun (n_ : Nat) => (show (((((((w24.drewN n_).setCell ⟨gb176, 0, none⟩ (.int .i64 ((rd_T78 l0_1 x24_2).f0))).setCell ⟨gb176, 1, none⟩ (.int .i64 ((rd_T78 l0_1 x24_2).f1))).setCell ⟨gb176, 2, none⟩ (.int .i64 ((rd_T78 l0_1 x24_2).f2))).setCell ⟨gb176, 3, none⟩ (.int .i64 ((rd_T78 l0_1 x24_2).f3))).setCell ⟨gb176, 4, none⟩ (.slice A175_4 ((rd_T78 l0_1 x24_2).f4).length c175_4))).cell? _ = some _ from hx177_2)); (try have hy177_3 := fun (n_ : Nat) => (show (((((((w24.drewN n_).setCell ⟨gb176, 0, none⟩ (.int .i64 ((rd_T78 l0_1 x24_2).f0))).setCell ⟨gb176, 1, none⟩ (.int .i64 ((rd_T78 l0_1 x24_2).f1))).setCell ⟨gb176, 2, none⟩ (.int .i64 ((rd_T78 l0_1 x24_2).f2))).setCell ⟨gb176, 3, none⟩ (.int .i64 ((rd_T78 l0_1 x24_2).f3))).setCell ⟨gb176, 4, none⟩ (.slice A175_4 ((rd_T78 l0_1 x24_2).f4).length c175_4))).cell? _ = some _ from hx177_3)); clear hn177_0; clear hn177_1; clear hn177_2; clear hn177_3; clear hn177_4; replace p177 := eq_true p177; replace q177 := eq_true q177) | ((with_reducible refine gate_builtin (b := .append) (xs := #[.tmp 43, .tmp 45]) rfl ?_); at_builtin; refine Kd.R_append_rows Kd.string (w0 := w) w.heap.size rfl (.tmp 43) (.tmp 45) 27 9 (.string ⟨#[]⟩) 16 rfl Try.underlying27 info9 rfl (by decide) (by omega) u7 x7_2 ((rd_T78 l0_1 x24_2).f4) _ _ _ (fun _ => True) (fun _ => False) rfl rfl ?aO ?aR (fun _ _ h => h) (fun _ h => h.elim) ?aF ?aB ?aS ?aL ?_; (case aR => exact Kd.C_below HR175_4.out (hs2_ GE172.out GE176.out)); (case aB => exact (hs2_ GE172.out GE176.out)); (case aF => exact (fun _ _ => trivial)); (case aO => exact (Kd.R_mono (rF_ (Kd.R_types HO_7.out BK176.out (by decide))) (fun _ hk => trivial))); (case aS => exact (below_size (hs2_ GE172.out GE176.out))); (case aL => have := LMc23.out; omega); intro v179 w28 ho hb hg hat; rw [← Ny178.out] at ho; replace BK172 := am_ (blk_grown (g := gb172) (o := .cells #[.slice (some ad177) l0_0.length c0_0, .slice (some ad175) l0_1.length c0_1, .int .i64 a0_2] 33 (0, 0)) (uf_ BK172 NB172_176.out) hg (Kd.R_ne HO_7.out BK172.out (by decide))); replace BK176 := am_ (blk_grown (g := gb176) (o := .cells #[.int .i64 ((rd_T78 l0_1 x24_2).f0), .int .i64 ((rd_T78 l0_1 x24_2).f1), .int .i64 ((rd_T78 l0_1 x24_2).f2), .int .i64 ((rd_T78 l0_1 x24_2).f3), .slice A175_4 ((rd_T78 l0_1 x24_2).f4).length c175_4] 78 (0, 0)) (up_ BK176) hg (Kd.R_ne HO_7.out BK176.out (by decide))); replace HB := am_ (hb); have HO180 := am_ (ho); clear HO_7; clear ho hb hg hat))
     repeat (go_quiet (first | ((with_reducible refine gate_dst (N := 9) rfl ?_); refine bq_ (N := 9) #[.int .i64 0, .int .i64 0, .int .i64 0, .int .i64 0, .slice none 0 0] 78 ?_; intro gb176 hg w24 BK176 hb; replace HO_7 := rB_ HO_7 hb; have GW176 := ge1_ hg GE172; have GE176 := ge1_ hg GE172; replace HB := nc_ GE172 hb; have NB172_176 := nl_ BK172 hg; have NB176_172 := ng_ BK172 hg; replace BK172 := bK_ BK172 hb; clear hb hg; have hnb25 := NB176_172.out; have hnc25 := NB172_176.out; obtain ⟨hcz26_0, hcz26_1, hcz26_2, hcz26_3, hcz26_4, hfz26_0, hfz26_1, hfz26_2, hfz26_3, hfz26_4⟩ := cf5_ BK176.out; obtain ⟨hcz27_0, hcz27_1, hcz27_2, hfz27_0, hfz27_1, hfz27_2⟩ := cf3_ BK172.out; have p177 : 0 ≤ (t173 : Int) := oa_; have q177 : t173 < (l0_0.length : Int) := oa_; obtain ⟨ad177, A177_3, c177_3, e177, hx177_0, hx177_1, hx177_2, hx177_3, hl177_3, hi177_3⟩ := at_T81 HR0_0.out t173 p177 q177; cases e177; have hn177_0 : ad177.block ≠ gb176 := Nat.ne_of_lt (Nat.lt_of_lt_of_le (by have := World.block_lt_of_cell? _ _ hx177_0; first | rwa [add_block] at this | exact this) GW176.out); have hn177_1 : ad177.block ≠ gb176 := Nat.ne_of_lt (Nat.lt_of_lt_of_le (by have := World.block_lt_of_cell? _ _ hx177_0; first | rwa [add_block] at this | exact this) GW176.out); have hn177_2 : ad177.block ≠ gb176 := Nat.ne_of_lt (Nat.lt_of_lt_of_le (by have := World.block_lt_of_cell? _ _ hx177_0; first | rwa [add_block] at this | exact this) GW176.out); have hn177_3 : ad177.block ≠ gb176 := Nat.ne_of_lt (Nat.lt_of_lt_of_le (by have := World.block_lt_of_cell? _ _ hx177_0; first | rwa [add_block] at this | exact this) GW176.out); have hn177_4 : ad177.block ≠ gb176 := Nat.ne_of_lt (Nat.lt_of_lt_of_le (by have := World.block_lt_of_cell? _ _ hx177_0; first | rwa [add_block] at this | exact this) GW176.out); replace hx177_0 := pc_ HB.out hx177_0; replace hx177_1 := pc_ HB.out hx177_1; replace hx177_2 := pc_ HB.out hx177_2; replace hx177_3 := pc_ HB.out hx177_3; have HR177_3 := am_ hi177_3; have HC177_3 := am_ hl177_3; clear hi177_3 hl177_3; replace hx177_0 := (cell_far (p := ⟨gb176, 0, none⟩) (by first | (rw [add_block]; exact hn177_0) | (show (Addr.add _ _).block ≠ _; rw [add_block]; exact hn177_0) | exact hn177_0) (.int .i64 ((rd_T78 l0_1 x24_2).f0))).trans hx177_0; replace hx177_1 := (cell_far (p := ⟨gb176, 0, none⟩) (by first | (rw [add_block]; exact hn177_0) | (show (Addr.add _ _).block ≠ _; rw [add_block]; exact hn177_0) | exact hn177_0) (.int .i64 ((rd_T78 l0_1 x24_2).f0))).trans hx177_1; replace hx177_2 := (cell_far (p := ⟨gb176, 0, none⟩) (by first | (rw [add_block]; exact hn177_0) | (show (Addr.add _ _).block ≠ _; rw [add_block]; exact hn177_0) | exact hn177_0) (.int .i64 ((rd_T78 l0_1 x24_2).f0))).trans hx177_2; replace hx177_3 := (cell_far (p := ⟨gb176, 0, none⟩) (by first | (rw [add_block]; exact hn177_0) | (show (Addr.add _ _).block ≠ _; rw [add_block]; exact hn177_0) | exact hn177_0) (.int .i64 ((rd_T78 l0_1 x24_2).f0))).trans hx177_3; replace hx177_0 := (cell_far (p := ⟨gb176, 1, none⟩) (by first | (rw [add_block]; exact hn177_1) | (show (Addr.add _ _).block ≠ _; rw [add_block]; exact hn177_1) | exact hn177_1) (.int .i64 ((rd_T78 l0_1 x24_2).f1))).trans hx177_0; replace hx177_1 := (cell_far (p := ⟨gb176, 1, none⟩) (by first | (rw [add_block]; exact hn177_1) | (show (Addr.add _ _).block ≠ _; rw [add_block]; exact hn177_1) | exact hn177_1) (.int .i64 ((rd_T78 l0_1 x24_2).f1))).trans hx177_1; replace hx177_2 := (cell_far (p := ⟨gb176, 1, none⟩) (by first | (rw [add_block]; exact hn177_1) | (show (Addr.add _ _).block ≠ _; rw [add_block]; exact hn177_1) | exact hn177_1) (.int .i64 ((rd_T78 l0_1 x24_2).f1))).trans hx177_2; replace hx177_3 := (cell_far (p := ⟨gb176, 1, none⟩) (by first | (rw [add_block]; exact hn177_1) | (show (Addr.add _ _).block ≠ _; rw [add_block]; exact hn177_1) | exact hn177_1) (.int .i64 ((rd_T78 l0_1 x24_2).f1))).trans hx177_3; replace hx177_0 := (cell_far (p := ⟨gb176, 2, none⟩) (by first | (rw [add_block]; exact hn177_2) | (show (Addr.add _ _).block ≠ _; rw [add_block]; exact hn177_2) | exact hn177_2) (.int .i64 ((rd_T78 l0_1 x24_2).f2))).trans hx177_0; replace hx177_1 := (cell_far (p := ⟨gb176, 2, none⟩) (by first | (rw [add_block]; exact hn177_2) | (show (Addr.add _ _).block ≠ _; rw [add_block]; exact hn177_2) | exact hn177_2) (.int .i64 ((rd_T78 l0_1 x24_2).f2))).trans hx177_1; replace hx177_2 := (cell_far (p := ⟨gb176, 2, none⟩) (by first | (rw [add_block]; exact hn177_2) | (show (Addr.add _ _).block ≠ _; rw [add_block]; exact hn177_2) | exact hn177_2) (.int .i64 ((rd_T78 l0_1 x24_2).f2))).trans hx177_2; replace hx177_3 := (cell_far (p := ⟨gb176, 2, none⟩) (by first | (rw [add_block]; exact hn177_2) | (show (Addr.add _ _).block ≠ _; rw [add_block]; exact hn177_2) | exact hn177_2) (.int .i64 ((rd_T78 l0_1 x24_2).f2))).trans hx177_3; replace hx177_0 := (cell_far (p := ⟨gb176, 3, none⟩) (by first | (rw [add_block]; exact hn177_3) | (show (Addr.add _ _).block ≠ _; rw [add_block]; exact hn177_3) | exact hn177_3) (.int .i64 ((rd_T78 l0_1 x24_2).f3))).trans hx177_0; replace hx177_1 := (cell_far (p := ⟨gb176, 3, none⟩) (by first | (rw [add_block]; exact hn177_3) | (show (Addr.add _ _).block ≠ _; rw [add_block]; exact hn177_3) | exact hn177_3) (.int .i64 ((rd_T78 l0_1 x24_2).f3))).trans hx177_1; replace hx177_2 := (cell_far (p := ⟨gb176, 3, none⟩) (by first | (rw [add_block]; exact hn177_3) | (show (Addr.add _ _).block ≠ _; rw [add_block]; exact hn177_3) | exact hn177_3) (.int .i64 ((rd_T78 l0_1 x24_2).f3))).trans hx177_2; replace hx177_3 := (cell_far (p := ⟨gb176, 3, none⟩) (by first | (rw [add_block]; exact hn177_3) | (show (Addr.add _ _).block ≠ _; rw [add_block]; exact hn177_3) | exact hn177_3) (.int .i64 ((rd_T78 l0_1 x24_2).f3))).trans hx177_3; replace hx177_0 := (cell_far (p := ⟨gb176, 4, none⟩) (by first | (rw [add_block]; exact hn177_4) | (show (Addr.add _ _).block ≠ _; rw [add_block]; exact hn177_4) | exact hn177_4) (.slice A175_4 ((rd_T78 l0_1 x24_2).f4).length c175_4)).trans hx177_0; replace hx177_1 := (cell_far (p := ⟨gb176, 4, none⟩) (by first | (rw [add_block]; exact hn177_4) | (show (Addr.add _ _).block ≠ _; rw [add_block]; exact hn177_4) | exact hn177_4) (.slice A175_4 ((rd_T78 l0_1 x24_2).f4).length c175_4)).trans hx177_1; replace hx177_2 := (cell_far (p := ⟨gb176, 4, none⟩) (by first | (rw [add_block]; exact hn177_4) | (show (Addr.add _ _).block ≠ _; rw [add_block]; exact hn177_4) | exact hn177_4) (.slice A175_4 ((rd_T78 l0_1 x24_2).f4).length c175_4)).trans hx177_2; replace hx177_3 := (cell_far (p := ⟨gb176, 4, none⟩) (by first | (rw [add_block]; exact hn177_4) | (show (Addr.add _ _).block ≠ _; rw [add_block]; exact hn177_4) | exact hn177_4) (.slice A175_4 ((rd_T78 l0_1 x24_2).f4).length c175_4)).trans hx177_3; (try have hy177_0 := fun (n_ : Nat) => (show (((((((w24.drewN n_).setCell ⟨gb176, 0, none⟩ (.int .i64 ((rd_T78 l0_1 x24_2).f0))).setCell ⟨gb176, 1, none⟩ (.int .i64 ((rd_T78 l0_1 x24_2).f1))).setCell ⟨gb176, 2, none⟩ (.int .i64 ((rd_T78 l0_1 x24_2).f2))).setCell ⟨gb176, 3, none⟩ (.int .i64 ((rd_T78 l0_1 x24_2).f3))).setCell ⟨gb176, 4, none⟩ (.slice A175_4 ((rd_T78 l0_1 x24_2).f4).length c175_4))).cell? _ = some _ from hx177_0)); (try have hy177_1 := fun (n_ : Nat) => (show (((((((w24.drewN n_).setCell ⟨gb176, 0, none⟩ (.int .i64 ((rd_T78 l0_1 x24_2).f0))).setCell ⟨gb176, 1, none⟩ (.int .i64 ((rd_T78 l0_1 x24_2).f1))).setCell ⟨gb176, 2, none⟩ (.int .i64 ((rd_T78 l0_1 x24_2).f2))).setCell ⟨gb176, 3, none⟩ (.int .i64 ((rd_T78 l0_1 x24_2).f3))).setCell ⟨gb176, 4, none⟩ (.slice A175_4 ((rd_T78 l0_1 x24_2).f4).length c175_4))).cell? _ = some _ from hx177_1)); (try have hy177_2 := fun (n_ : Nat) => (show (((((((w24.drewN n_).setCell ⟨gb176, 0, none⟩ (.int .i64 ((rd_T78 l0_1 x24_2).f0))).setCell ⟨gb176, 1, none⟩ (.int .i64 ((rd_T78 l0_1 x24_2).f1))).setCell ⟨gb176, 2, none⟩ (.int .i64 ((rd_T78 l0_1 x24_2).f2))).setCell ⟨gb176, 3, none⟩ (.int .i64 ((rd_T78 l0_1 x24_2).f3))).setCell ⟨gb176, 4, none⟩ (.slice A175_4 ((rd_T78 l0_1 x24_2).f4).length c175_4))).cell? _ = some _ from hx177_2)); (try have hy177_3 := fun (n_ : Nat) => (show (((((((w24.drewN n_).setCell ⟨gb176, 0, none⟩ (.int .i64 ((rd_T78 l0_1 x24_2).f0))).setCell ⟨gb176, 1, none⟩ (.int .i64 ((rd_T78 l0_1 x24_2).f1))).setCell ⟨gb176, 2, none⟩ (.int .i64 ((rd_T78 l0_1 x24_2).f2))).setCell ⟨gb176, 3, none⟩ (.int .i64 ((rd_T78 l0_1 x24_2).f3))).setCell ⟨gb176, 4, none⟩ (.slice A175_4 ((rd_T78 l0_1 x24_2).f4).length c175_4))).cell? _ = some _ from hx177_3)); clear hn177_0; clear hn177_1; clear hn177_2; clear hn177_3; clear hn177_4; replace p177 := eq_true p177; replace q177 := eq_true q177) | ((with_reducible refine gate_builtin (b := .append) (xs := #[.tmp 43, .tmp 45]) rfl ?_); at_builtin; refine Kd.R_append_rows Kd.string (w0 := w) w.heap.size rfl (.tmp 43) (.tmp 45) 27 9 (.string ⟨#[]⟩) 16 rfl Try.underlying27 info9 rfl (by decide) (by omega) u7 x7_2 ((rd_T78 l0_1 x24_2).f4) _ _ _ (fun _ => True) (fun _ => False) rfl rfl ?aO ?aR (fun _ _ h => h) (fun _ h => h.elim) ?aF ?aB ?aS ?aL ?_; (case aR => exact Kd.C_below HR175_4.out (hs2_ GE172.out GE176.out)); (case aB => exact (hs2_ GE172.out GE176.out)); (case aF => exact (fun _ _ => trivial)); (case aO => exact (Kd.R_mono (rF_ (Kd.R_types HO_7.out BK176.out (by decide))) (fun _ hk => trivial))); (case aS => exact (below_size (hs2_ GE172.out GE176.out))); (case aL => have := LMc23.out; omega); intro v179 w28 ho hb hg hat; rw [← Ny178.out] at ho; replace BK172 := am_ (blk_grown (g := gb172) (o := .cells #[.slice (some ad177) l0_0.length c0_0, .slice (some ad175) l0_1.length c0_1, .int .i64 a0_2] 33 (0, 0)) (uf_ BK172 NB172_176.out) hg (Kd.R_ne HO_7.out BK172.out (by decide))); replace BK176 := am_ (blk_grown (g := gb176) (o := .cells #[.int .i64 ((rd_T78 l0_1 x24_2).f0), .int .i64 ((rd_T78 l0_1 x24_2).f1), .int .i64 ((rd_T78 l0_1 x24_2).f2), .int .i64 ((rd_T78 l0_1 x24_2).f3), .slice A175_4 ((rd_T78 l0_1 x24_2).f4).length c175_4] 78 (0, 0)) (up_ BK176) hg (Kd.R_ne HO_7.out BK176.out (by decide))); replace HB := am_ (hb); have HO180 := am_ (ho); clear HO_7; clear ho hb hg hat)); try go_wp2_with (first | ((with_reducible refine gate_dst (N := 9) rfl ?_); refine bq_ (N := 9) #[.int .i64 0, .int .i64 0, .int .i64 0, .int .i64 0, .slice none 0 0] 78 ?_; intro gb176 hg w24 BK176 hb; replace HO_7 := rB_ HO_7 hb; have GW176 := ge1_ hg GE172; have GE176 := ge1_ hg GE172; replace HB := nc_ GE172 hb; have NB172_176 := nl_ BK172 hg; have NB176_172 := ng_ BK172 hg; replace BK172 := bK_ BK172 hb; clear hb hg; have hnb25 := NB176_172.out; have hnc25 := NB172_176.out; obtain ⟨hcz26_0, hcz26_1, hcz26_2, hcz26_3, hcz26_4, hfz26_0, hfz26_1, hfz26_2, hfz26_3, hfz26_4⟩ := cf5_ BK176.out; obtain ⟨hcz27_0, hcz27_1, hcz27_2, hfz27_0, hfz27_1, hfz27_2⟩ := cf3_ BK172.out; have p177 : 0 ≤ (t173 : Int) := oa_; have q177 : t173 < (l0_0.length : Int) := oa_; obtain ⟨ad177, A177_3, c177_3, e177, hx177_0, hx177_1, hx177_2, hx177_3, hl177_3, hi177_3⟩ := at_T81 HR0_0.out t173 p177 q177; cases e177; have hn177_0 : ad177.block ≠ gb176 := Nat.ne_of_lt (Nat.lt_of_lt_of_le (by have := World.block_lt_of_cell? _ _ hx177_0; first | rwa [add_block] at this | exact this) GW176.out); have hn177_1 : ad177.block ≠ gb176 := Nat.ne_of_lt (Nat.lt_of_lt_of_le (by have := World.block_lt_of_cell? _ _ hx177_0; first | rwa [add_block] at this | exact this) GW176.out); have hn177_2 : ad177.block ≠ gb176 := Nat.ne_of_lt (Nat.lt_of_lt_of_le (by have := World.block_lt_of_cell? _ _ hx177_0; first | rwa [add_block] at this | exact this) GW176.out); have hn177_3 : ad177.block ≠ gb176 := Nat.ne_of_lt (Nat.lt_of_lt_of_le (by have := World.block_lt_of_cell? _ _ hx177_0; first | rwa [add_block] at this | exact this) GW176.out); have hn177_4 : ad177.block ≠ gb176 := Nat.ne_of_lt (Nat.lt_of_lt_of_le (by have := World.block_lt_of_cell? _ _ hx177_0; first | rwa [add_block] at this | exact this) GW176.out); replace hx177_0 := pc_ HB.out hx177_0; replace hx177_1 := pc_ HB.out hx177_1; replace hx177_2 := pc_ HB.out hx177_2; replace hx177_3 := pc_ HB.out hx177_3; have HR177_3 := am_ hi177_3; have HC177_3 := am_ hl177_3; clear hi177_3 hl177_3; replace hx177_0 := (cell_far (p := ⟨gb176, 0, none⟩) (by first | (rw [add_block]; exact hn177_0) | (show (Addr.add _ _).block ≠ _; rw [add_block]; exact hn177_0) | exact hn177_0) (.int .i64 ((rd_T78 l0_1 x24_2).f0))).trans hx177_0; replace hx177_1 := (cell_far (p := ⟨gb176, 0, none⟩) (by first | (rw [add_block]; exact hn177_0) | (show (Addr.add _ _).block ≠ _; rw [add_block]; exact hn177_0) | exact hn177_0) (.int .i64 ((rd_T78 l0_1 x24_2).f0))).trans hx177_1; replace hx177_2 := (cell_far (p := ⟨gb176, 0, none⟩) (by first | (rw [add_block]; exact hn177_0) | (show (Addr.add _ _).block ≠ _; rw [add_block]; exact hn177_0) | exact hn177_0) (.int .i64 ((rd_T78 l0_1 x24_2).f0))).trans hx177_2; replace hx177_3 := (cell_far (p := ⟨gb176, 0, none⟩) (by first | (rw [add_block]; exact hn177_0) | (show (Addr.add _ _).block ≠ _; rw [add_block]; exact hn177_0) | exact hn177_0) (.int .i64 ((rd_T78 l0_1 x24_2).f0))).trans hx177_3; replace hx177_0 := (cell_far (p := ⟨gb176, 1, none⟩) (by first | (rw [add_block]; exact hn177_1) | (show (Addr.add _ _).block ≠ _; rw [add_block]; exact hn177_1) | exact hn177_1) (.int .i64 ((rd_T78 l0_1 x24_2).f1))).trans hx177_0; replace hx177_1 := (cell_far (p := ⟨gb176, 1, none⟩) (by first | (rw [add_block]; exact hn177_1) | (show (Addr.add _ _).block ≠ _; rw [add_block]; exact hn177_1) | exact hn177_1) (.int .i64 ((rd_T78 l0_1 x24_2).f1))).trans hx177_1; replace hx177_2 := (cell_far (p := ⟨gb176, 1, none⟩) (by first | (rw [add_block]; exact hn177_1) | (show (Addr.add _ _).block ≠ _; rw [add_block]; exact hn177_1) | exact hn177_1) (.int .i64 ((rd_T78 l0_1 x24_2).f1))).trans hx177_2; replace hx177_3 := (cell_far (p := ⟨gb176, 1, none⟩) (by first | (rw [add_block]; exact hn177_1) | (show (Addr.add _ _).block ≠ _; rw [add_block]; exact hn177_1) | exact hn177_1) (.int .i64 ((rd_T78 l0_1 x24_2).f1))).trans hx177_3; replace hx177_0 := (cell_far (p := ⟨gb176, 2, none⟩) (by first | (rw [add_block]; exact hn177_2) | (show (Addr.add _ _).block ≠ _; rw [add_block]; exact hn177_2) | exact hn177_2) (.int .i64 ((rd_T78 l0_1 x24_2).f2))).trans hx177_0; replace hx177_1 := (cell_far (p := ⟨gb176, 2, none⟩) (by first | (rw [add_block]; exact hn177_2) | (show (Addr.add _ _).block ≠ _; rw [add_block]; exact hn177_2) | exact hn177_2) (.int .i64 ((rd_T78 l0_1 x24_2).f2))).trans hx177_1; replace hx177_2 := (cell_far (p := ⟨gb176, 2, none⟩) (by first | (rw [add_block]; exact hn177_2) | (show (Addr.add _ _).block ≠ _; rw [add_block]; exact hn177_2) | exact hn177_2) (.int .i64 ((rd_T78 l0_1 x24_2).f2))).trans hx177_2; replace hx177_3 := (cell_far (p := ⟨gb176, 2, none⟩) (by first | (rw [add_block]; exact hn177_2) | (show (Addr.add _ _).block ≠ _; rw [add_block]; exact hn177_2) | exact hn177_2) (.int .i64 ((rd_T78 l0_1 x24_2).f2))).trans hx177_3; replace hx177_0 := (cell_far (p := ⟨gb176, 3, none⟩) (by first | (rw [add_block]; exact hn177_3) | (show (Addr.add _ _).block ≠ _; rw [add_block]; exact hn177_3) | exact hn177_3) (.int .i64 ((rd_T78 l0_1 x24_2).f3))).trans hx177_0; replace hx177_1 := (cell_far (p := ⟨gb176, 3, none⟩) (by first | (rw [add_block]; exact hn177_3) | (show (Addr.add _ _).block ≠ _; rw [add_block]; exact hn177_3) | exact hn177_3) (.int .i64 ((rd_T78 l0_1 x24_2).f3))).trans hx177_1; replace hx177_2 := (cell_far (p := ⟨gb176, 3, none⟩) (by first | (rw [add_block]; exact hn177_3) | (show (Addr.add _ _).block ≠ _; rw [add_block]; exact hn177_3) | exact hn177_3) (.int .i64 ((rd_T78 l0_1 x24_2).f3))).trans hx177_2; replace hx177_3 := (cell_far (p := ⟨gb176, 3, none⟩) (by first | (rw [add_block]; exact hn177_3) | (show (Addr.add _ _).block ≠ _; rw [add_block]; exact hn177_3) | exact hn177_3) (.int .i64 ((rd_T78 l0_1 x24_2).f3))).trans hx177_3; replace hx177_0 := (cell_far (p := ⟨gb176, 4, none⟩) (by first | (rw [add_block]; exact hn177_4) | (show (Addr.add _ _).block ≠ _; rw [add_block]; exact hn177_4) | exact hn177_4) (.slice A175_4 ((rd_T78 l0_1 x24_2).f4).length c175_4)).trans hx177_0; replace hx177_1 := (cell_far (p := ⟨gb176, 4, none⟩) (by first | (rw [add_block]; exact hn177_4) | (show (Addr.add _ _).block ≠ _; rw [add_block]; exact hn177_4) | exact hn177_4) (.slice A175_4 ((rd_T78 l0_1 x24_2).f4).length c175_4)).trans hx177_1; replace hx177_2 := (cell_far (p := ⟨gb176, 4, none⟩) (by first | (rw [add_block]; exact hn177_4) | (show (Addr.add _ _).block ≠ _; rw [add_block]; exact hn177_4) | exact hn177_4) (.slice A175_4 ((rd_T78 l0_1 x24_2).f4).length c175_4)).trans hx177_2; replace hx177_3 := (cell_far (p := ⟨gb176, 4, none⟩) (by first | (rw [add_block]; exact hn177_4) | (show (Addr.add _ _).block ≠ _; rw [add_block]; exact hn177_4) | exact hn177_4) (.slice A175_4 ((rd_T78 l0_1 x24_2).f4).length c175_4)).trans hx177_3; (try have hy177_0 := fun (n_ : Nat) => (show (((((((w24.drewN n_).setCell ⟨gb176, 0, none⟩ (.int .i64 ((rd_T78 l0_1 x24_2).f0))).setCell ⟨gb176, 1, none⟩ (.int .i64 ((rd_T78 l0_1 x24_2).f1))).setCell ⟨gb176, 2, none⟩ (.int .i64 ((rd_T78 l0_1 x24_2).f2))).setCell ⟨gb176, 3, none⟩ (.int .i64 ((rd_T78 l0_1 x24_2).f3))).setCell ⟨gb176, 4, none⟩ (.slice A175_4 ((rd_T78 l0_1 x24_2).f4).length c175_4))).cell? _ = some _ from hx177_0)); (try have hy177_1 := fun (n_ : Nat) => (show (((((((w24.drewN n_).setCell ⟨gb176, 0, none⟩ (.int .i64 ((rd_T78 l0_1 x24_2).f0))).setCell ⟨gb176, 1, none⟩ (.int .i64 ((rd_T78 l0_1 x24_2).f1))).setCell ⟨gb176, 2, none⟩ (.int .i64 ((rd_T78 l0_1 x24_2).f2))).setCell ⟨gb176, 3, none⟩ (.int .i64 ((rd_T78 l0_1 x24_2).f3))).setCell ⟨gb176, 4, none⟩ (.slice A175_4 ((rd_T78 l0_1 x24_2).f4).length c175_4))).cell? _ = some _ from hx177_1)); (try have hy177_2 := fun (n_ : Nat) => (show (((((((w24.drewN n_).setCell ⟨gb176, 0, none⟩ (.int .i64 ((rd_T78 l0_1 x24_2).f0))).setCell ⟨gb176, 1, none⟩ (.int .i64 ((rd_T78 l0_1 x24_2).f1))).setCell ⟨gb176, 2, none⟩ (.int .i64 ((rd_T78 l0_1 x24_2).f2))).setCell ⟨gb176, 3, none⟩ (.int .i64 ((rd_T78 l0_1 x24_2).f3))).setCell ⟨gb176, 4, none⟩ (.slice A175_4 ((rd_T78 l0_1 x24_2).f4).length c175_4))).cell? _ = some _ from hx177_2)); (try have hy177_3 := fun (n_ : Nat) => (show (((((((w24.drewN n_).setCell ⟨gb176, 0, none⟩ (.int .i64 ((rd_T78 l0_1 x24_2).f0))).setCell ⟨gb176, 1, none⟩ (.int .i64 ((rd_T78 l0_1 x24_2).f1))).setCell ⟨gb176, 2, none⟩ (.int .i64 ((rd_T78 l0_1 x24_2).f2))).setCell ⟨gb176, 3, none⟩ (.int .i64 ((rd_T78 l0_1 x24_2).f3))).setCell ⟨gb176, 4, none⟩ (.slice A175_4 ((rd_T78 l0_1 x24_2).f4).length c175_4))).cell? _ = some _ from hx177_3)); clear hn177_0; clear hn177_1; clear hn177_2; clear hn177_3; clear hn177_4; replace p177 := eq_true p177; replace q177 := eq_true q177) | ((with_reducible refine gate_builtin (b := .append) (xs := #[.tmp 43, .tmp 45]) rfl ?_); at_builtin; refine Kd.R_append_rows Kd.string (w0 := w) w.heap.size rfl (.tmp 43) (.tmp 45) 27 9 (.string ⟨#[]⟩) 16 rfl Try.underlying27 info9 rfl (by decide) (by omega) u7 x7_2 ((rd_T78 l0_1 x24_2).f4) _ _ _ (fun _ => True) (fun _ => False) rfl rfl ?aO ?aR (fun _ _ h => h) (fun _ h => h.elim) ?aF ?aB ?aS ?aL ?_; (case aR => exact Kd.C_below HR175_4.out (hs2_ GE172.out GE176.out)); (case aB => exact (hs2_ GE172.out GE176.out)); (case aF => exact (fun _ _ => trivial)); (case aO => exact (Kd.R_mono (rF_ (Kd.R_types HO_7.out BK176.out (by decide))) (fun _ hk => trivial))); (case aS => exact (below_size (hs2_ GE172.out GE176.out))); (case aL => have := LMc23.out; omega); intro v179 w28 ho hb hg hat; rw [← Ny178.out] at ho; replace BK172 := am_ (blk_grown (g := gb172) (o := .cells #[.slice (some ad177) l0_0.length c0_0, .slice (some ad175) l0_1.length c0_1, .int .i64 a0_2] 33 (0, 0)) (uf_ BK172 NB172_176.out) hg (Kd.R_ne HO_7.out BK172.out (by decide))); replace BK176 := am_ (blk_grown (g := gb176) (o := .cells #[.int .i64 ((rd_T78 l0_1 x24_2).f0), .int .i64 ((rd_T78 l0_1 x24_2).f1), .int .i64 ((rd_T78 l0_1 x24_2).f2), .int .i64 ((rd_T78 l0_1 x24_2).f3), .slice A175_4 ((rd_T78 l0_1 x24_2).f4).length c175_4] 78 (0, 0)) (up_ BK176) hg (Kd.R_ne HO_7.out BK176.out (by decide))); replace HB := am_ (hb); have HO180 := am_ (ho); clear HO_7; clear ho hb hg hat)))
     go_roundg k2
     case measure => have := HJ3.out; have := HK2.out; omega
     case rel => exact ⟨(y178), (wrap64 (x24_2 + 1)), sr_, H', ⟨by have := HJ3.out; have := HK2.out; omega⟩, ⟨kr_ HO180.out⟩, ⟨kb_ BK172.out⟩, ⟨hs2_ GE172.out GE176.out⟩⟩

/-! ### laws_toStringS: function 62 -/
def laws_toStringS.l0 : Nat → List ByteArray → List ByteArray → Int → Option (List ByteArray)
 | 0, _, _, _ => none
 | k + 1, x0, x3, x4 => if x4 < (x0.length : Int) then (if 0 ≤ x4 then (if x4 < (x3.length : Int) then (laws_toStringS.l0 k x0 (x3.set (x4 : Int).toNat (rdOf ByteArray.empty x0 x4)) (wrap64 (x4 + 1))) else (none)) else (none)) else (some x3)
def laws_toStringS.f (k : Nat) (l0 : List ByteArray) : Option (List ByteArray) := if 0 ≤ (l0.length : Int) then (if ((l0.length : Int) : Int).toNat ≤ 17592186044416 then (laws_toStringS.l0 k l0 (List.replicate ((l0.length : Int) : Int).toNat (⟨#[]⟩ : ByteArray)) 0) else (none)) else (none)
theorem laws_toStringS.mono_l : ∀ k, (∀ y0 y1 y2, LeO (laws_toStringS.l0 k y0 y1 y2) (laws_toStringS.l0 (k + 1) y0 y1 y2))
 | 0 => fun _ _ _ r h => by simp [laws_toStringS.l0] at h
 | k + 1 => by
  have ih0 := laws_toStringS.mono_l k
  ·intro y0 y1 y2
   unfold laws_toStringS.l0
   repeat' first
   | (with_reducible first | apply ih0 | exact LeO.refl _ | exact LeO.none _ | refine LeO.ite ?_ ?_ | refine LeO.bind ?_ (fun _ => ?_))
theorem laws_toStringS.mono : ∀ a0 k, LeO (laws_toStringS.f k a0) (laws_toStringS.f (k + 1) a0) := by
 intro a0 k
 have ih0 := laws_toStringS.mono_l k
 unfold laws_toStringS.f
 repeat' first
   | (with_reducible first | apply ih0 | exact LeO.refl _ | exact LeO.none _ | refine LeO.ite ?_ ?_ | refine LeO.bind ?_ (fun _ => ?_))
set_option maxHeartbeats 8000000 in
set_option maxRecDepth 100000 in
theorem laws_toStringS.calls (k : Nat) (A0 : Option Addr) (c0 : Nat) (l0 : List ByteArray) (r : List ByteArray) (w : World) (hr0 : Kd.C Kd.string w A0 l0.length l0) (hc0 : l0.length ≤ c0) (h : laws_toStringS.f k l0 = some r) :
  Calls Try.prog 62 #[.slice A0 l0.length c0] w fun e w' => ∃ v0_ : Value, e = .returned (v0_) ∧ Kd.R Kd.string 9 w' w.heap.size (fun _ => True) v0_ r ∧ Below w.heap.size w w' := by
 have HR0 := am_ hr0
 have HC0 := am_ hc0
 clear hr0 hc0
 have HB := am_ (Below.refl w.heap.size w)
 have H : (if 0 ≤ (l0.length : Int) then (if ((l0.length : Int) : Int).toNat ≤ 17592186044416 then (laws_toStringS.l0 k l0 (List.replicate ((l0.length : Int) : Int).toNat (⟨#[]⟩ : ByteArray)) 0) else (none)) else (none)) = some r := h
 clear h
 replace H := ifs_ H
 obtain ⟨c2, H⟩ := H
 have c2b0 := eq_true c2
 have c2b1 := decide_eq_true c2
 clear c2
 replace H := ifs_ H
 obtain ⟨c3, H⟩ := H
 have c3b0 := eq_true c3
 have c3b1 := decide_eq_true c3
 clear c3
 obtain ⟨y181, hy181⟩ : ∃ y_ : List ByteArray, y_ = (List.replicate ((l0.length : Int) : Int).toNat (⟨#[]⟩ : ByteArray)) := ⟨_, rfl⟩
 replace H : (laws_toStringS.l0 k l0 y181 0) = some r := by first | (rw [hy181]; with_reducible exact H) | (have H2_ := (Option.bind_some _ _).symm.trans H; rw [hy181]; with_reducible exact H2_) | (have H2_ := (Option.bind_some _ _).symm.trans H; with_reducible exact H2_) | with_reducible exact H | (rw [hy181]; exact H) | exact H
 have Ny181 := am_ hy181
 clear hy181
 have H' := am_ H
 clear H
 go_enter Try.func62, Try.ntmps62
 go_wp2_with (first | ((with_reducible refine gate_dst (N := 7) rfl ?_); refine Kd.R_make Kd.string _ 9 rfl (N := 7) rfl 27 _ _ rfl (l0.length : Int) rfl rfl Try.underlying27 (.string ⟨#[]⟩) 16 info9 rfl (by decide) (by omega) (⟨#[]⟩ : ByteArray) (ok := fun _ => True) (okp := fun _ => True) rfl (fun _ hk => hk) trivial (oa_) (Nat.le_trans (Nat.mul_le_mul_right _ (oa_ : (l0.length : Int).toNat ≤ 17592186044416)) (by omega)) (Below.refl _ _) (Nat.le_refl _) ?_; intro v182 w4 ho5 hb hg_ hnew_; clear hg_ hnew_; (first | rw [← Ny181.out] at ho5 | (simp only [Int.reduceToNat] at ho5; rw [← Ny181.out] at ho5)); have HO183 := am_ (Kd.R_lower ho5 (below_size (hb_))); replace HB := nb_ hb; clear hb ho5))
 go_loopg [4] k (fun kq v4 w' => ∃ (x3_1 : List ByteArray) (x4_1 : Int), v4 = .int .i64 x4_1 ∧ Aside0 (laws_toStringS.l0 kq l0 x3_1 x4_1 = some r) ∧ Aside0 (kq ≤ k) ∧ Aside0 (Kd.R Kd.string 9 w' w.heap.size (fun _ => True) v182 x3_1) ∧ Aside0 (Below w.heap.size w w'))
 case atStart => exact ⟨(y181), (0), sr_, H', ⟨Nat.le_refl _⟩, ⟨kr_ HO183.out⟩, ⟨hb_⟩⟩
 case round =>
  clear H'
  try clear c2
  try clear c2b0
  try clear c2b1
  try clear c3
  try clear c3b0
  try clear c3b1
  obtain ⟨x3_1, x4_1, rfl, HA, HK1, HO_3, HB⟩ := hrel
  cases gk with
  | zero => exact absurd HA.out (by simp [laws_toStringS.l0])
  | succ k1 =>
   have H := HA.out
   clear HA
   simp only [laws_toStringS.l0] at H
   replace H := ite_ H
   obtain ⟨c6, H⟩ | ⟨c6, H⟩ := H
   rotate_left
   ·have c6b0 := decide_eq_false c6
    clear c6
    obtain rfl := Option.some.inj H
    go_wp2
    go_ret
    exact ⟨_, er_, kr_ HO_3.out, hb_⟩
   have c6b0 := decide_eq_true c6
   clear c6
   replace H := ifs_ H
   obtain ⟨c7, H⟩ := H
   have c7b0 := decide_eq_true c7
   clear c7
   replace H := ifs_ H
   obtain ⟨c8, H⟩ := H
   have c8b0 := decide_eq_true c8
   clear c8
   obtain ⟨y185, hy185⟩ : ∃ y_ : List ByteArray, y_ = (x3_1.set (x4_1 : Int).toNat (rdOf ByteArray.empty l0 x4_1)) := ⟨_, rfl⟩
   replace H : (laws_toStringS.l0 k1 l0 y185 (wrap64 (x4_1 + 1))) = some r := by first | (rw [hy185]; with_reducible exact H) | (have H2_ := (Option.bind_some _ _).symm.trans H; rw [hy185]; with_reducible exact H2_) | (have H2_ := (Option.bind_some _ _).symm.trans H; with_reducible exact H2_) | with_reducible exact H | (rw [hy185]; exact H) | exact H
   have Ny185 := am_ hy185
   clear hy185
   have H' := am_ H
   clear H
   have p184 : 0 ≤ (x4_1 : Int) := oa_
   have q184 : x4_1 < (l0.length : Int) := oa_
   obtain ⟨ad184, e184, hx184_0⟩ := Kd.at_string HR0.out x4_1 p184 q184
   cases e184
   replace hx184_0 := pc_ HB.out hx184_0
   replace p184 := eq_true p184
   replace q184 := eq_true q184
   have p9 : 0 ≤ (x4_1 : Int) := oa_
   have q9 : (x4_1 : Int) < ((x3_1.length : Int) : Int) := oa_
   obtain ⟨go9, co9, eo9, gb9, gl9, cl9, HG9⟩ := Kd.R_form HO_3.out (by omega)
   (first | cases eo9 | (injection eo9 with ea_ en_ ec_; (first | subst ea_ | (injection ea_ with ea_; subst ea_)); subst ec_; clear en_))
   have GB9 := am_ gb9
   have GG9 := am_ HG9
   clear gb9 gl9 HG9
   obtain ⟨hx9_0, hf9_0⟩ := Kd.R_celln (⟨#[]⟩ : ByteArray) HO_3.out (x4_1 : Int) p9 q9
   replace p9 := eq_true p9
   replace q9 := eq_true q9
   have HP10 := Kd.R_putg HO_3.out (x4_1 : Int) (rdOf ByteArray.empty l0 x4_1)
   go_wp2_with (first | ((with_reducible refine gate_store (t := 9) (p := 20) rfl ?_); refine store_event (t := 9) (p := 20) (v := ?vo_w11) (w1 := (wr.setCell ⟨go9, (x4_1 : Int).toNat, none⟩ (.string (rdOf ByteArray.empty l0 x4_1)))) ?hg ?ho ?hn ?hr ?_; (case ho => rfl); (case hg => rfl); (case hn => rfl); (case hr => first | (go_simp; done) | (go_simp; rfl)); intro w11 hw; have hg : wr.grownBy w11 (some go9) := (by rw [hw]; exact HP10.2); have hp_ : Kd.R Kd.string 9 w11 w.heap.size (fun _ => True) (.slice (some ⟨go9, 0, none⟩) x3_1.length co9) y185 := (by rw [hw, Ny185.out]; exact HP10.1); clear HP10; replace HO_3 := am_ (hp_); replace HB := am_ ((by rw [hw]; exact below_set (HB.out) GB9.out : Below w.heap.size w w11)); clear hg hw hp_))
   go_roundg k1
   case measure => have := HK1.out; omega
   case rel => exact ⟨(y185), (wrap64 (x4_1 + 1)), sr_, H', ⟨by have := HK1.out; omega⟩, ⟨kr_ HO_3.out⟩, ⟨hb_⟩⟩

/-! ### laws_toBatch: function 71 -/
def laws_toBatch.f (k : Nat) (a0_0 : Int) (a0_1 : Int) (a0_2 : Int) (a0_3 : Int) (l0_4 : List ByteArray) : Option (Int × Int × Int × Int × List ByteArray) := (laws_toStringS.f k l0_4).bind fun t189 => (some (a0_0, a0_1, a0_2, a0_3, t189))
theorem laws_toBatch.mono : ∀ a0 a1 a2 a3 a4 k, LeO (laws_toBatch.f k a0 a1 a2 a3 a4) (laws_toBatch.f (k + 1) a0 a1 a2 a3 a4) := by
 intro a0 a1 a2 a3 a4 k
 unfold laws_toBatch.f
 repeat' first
   | (with_reducible first | apply laws_toStringS.mono | exact LeO.refl _ | exact LeO.none _ | refine LeO.ite ?_ ?_ | refine LeO.bind ?_ (fun _ => ?_))
set_option maxHeartbeats 8000000 in
set_option maxRecDepth 100000 in
theorem laws_toBatch.calls (k : Nat) (a0_0 : Int) (a0_1 : Int) (a0_2 : Int) (a0_3 : Int) (A0_4 : Option Addr) (c0_4 : Nat) (l0_4 : List ByteArray) (r1 : Int) (r2 : Int) (r3 : Int) (r4 : Int) (r5 : List ByteArray) (w : World) (hr0_4 : Kd.C Kd.string w A0_4 l0_4.length l0_4) (hc0_4 : l0_4.length ≤ c0_4) (h : laws_toBatch.f k a0_0 a0_1 a0_2 a0_3 l0_4 = some (r1, r2, r3, r4, r5)) :
  Calls Try.prog 71 #[.agg #[.int .i64 a0_0, .int .i64 a0_1, .int .i64 a0_2, .int .i64 a0_3, .slice A0_4 l0_4.length c0_4]] w fun e w' => ∃ v4_ : Value, e = .returned (.agg #[.int .i64 r1, .int .i64 r2, .int .i64 r3, .int .i64 r4, v4_]) ∧ Kd.R Kd.string 9 w' w.heap.size (fun _ => True) v4_ r5 ∧ Below w.heap.size w w' := by
 have hu99 := Try.underlying99
 have hu78 := Try.underlying78
 have HR0_4 := am_ hr0_4
 have HC0_4 := am_ hc0_4
 clear hr0_4 hc0_4
 have HB := am_ (Below.refl w.heap.size w)
 have H : ((laws_toStringS.f k l0_4).bind fun t189 => (some (a0_0, a0_1, a0_2, a0_3, t189))) = some (r1, r2, r3, r4, r5) := h
 clear h
 replace H := bnd_ H
 obtain ⟨t189, A2, H⟩ := H
 simp only [Option.some.injEq, Prod.mk.injEq] at H
 obtain ⟨rfl, rfl, rfl, rfl, rfl⟩ := H
 go_enter Try.func71, Try.ntmps71
 go_wp2_with (first | ((with_reducible refine gate_dst (N := 1) rfl ?_); refine bq_ (N := 1) #[.int .i64 a0_0, .int .i64 a0_1, .int .i64 a0_2, .int .i64 a0_3, .slice A0_4 l0_4.length c0_4] 99 ?_; intro gb186 hg w3 BK186 hb; have GE186 := ge_ hg; replace HB := nb_ hb; clear hb hg) | ((with_reducible refine gate_dst (N := 2) rfl ?_); refine bq_ (N := 2) #[.int .i64 0, .int .i64 0, .int .i64 0, .int .i64 0, .slice none 0 0] 78 ?_; intro gb187 hg w4 BK187 hb; have GE187 := ge1_ hg GE186; replace HB := nc_ GE186 hb; have NB186_187 := nl_ BK186 hg; have NB187_186 := ng_ BK186 hg; replace BK186 := bK_ BK186 hb; clear hb hg) | ((with_reducible refine gate_dst (N := 3) rfl ?_); refine bq_ (N := 3) #[.int .i64 0, .int .i64 0, .int .i64 0, .int .i64 0, .slice none 0 0] 78 ?_; intro gb188 hg w5 BK188 hb; have GE188 := ge2_ hg GE186 GE187; replace HB := nc2_ GE186 GE187 hb; have NB186_188 := nl_ BK186 hg; have NB188_186 := ng_ BK186 hg; replace BK186 := bK_ BK186 hb; have NB187_188 := nl_ BK187 hg; have NB188_187 := ng_ BK187 hg; replace BK187 := bK_ BK187 hb; clear hb hg; have hnb6 := NB186_187.out; have hnc6 := NB187_186.out; have hnb7 := NB186_188.out; have hnc7 := NB188_186.out; obtain ⟨hcz8_0, hcz8_1, hcz8_2, hcz8_3, hcz8_4, hfz8_0, hfz8_1, hfz8_2, hfz8_3, hfz8_4⟩ := cf5_ BK186.out; have hnb9 := NB188_187.out; have hnc9 := NB187_188.out; obtain ⟨hcz10_0, hcz10_1, hcz10_2, hcz10_3, hcz10_4, hfz10_0, hfz10_1, hfz10_2, hfz10_3, hfz10_4⟩ := cf5_ BK188.out) | ((with_reducible refine gate_callee (f := 62) rfl ?_); refine gl_ 18 Try.func62 #[.slice A0_4 l0_4.length c0_4] rfl ma_ ?_; (with_reducible refine (laws_toStringS.calls k _ _ l0_4 t189 _ ?side1 ?side2 A2.out).mono ?_); (case side1 => exact Kd.C_below HR0_4.out (hs3_ GE186.out GE187.out GE188.out)); (case side2 => exact HC0_4.out); rintro e w11 ⟨v190, rfl, ho0, hb⟩; refine ⟨_, rfl, ?_⟩; have HO191 := am_ (Kd.R_lower ho0 (below_size (hs3_ GE186.out GE187.out GE188.out))); replace BK186 := am_ (blk_below (g := gb186) (o := .cells #[.int .i64 a0_0, .int .i64 a0_1, .int .i64 a0_2, .int .i64 a0_3, .slice A0_4 l0_4.length c0_4] 99 (0, 0)) (uf_ BK186 NB186_188.out) hb); replace BK187 := am_ (blk_below (g := gb187) (o := .cells #[.int .i64 0, .int .i64 0, .int .i64 0, .int .i64 0, .slice none 0 0] 78 (0, 0)) (uf_ BK187 NB187_188.out) hb); replace BK188 := am_ (blk_below (g := gb188) (o := .cells #[.int .i64 a0_0, .int .i64 a0_1, .int .i64 a0_2, .int .i64 a0_3, .slice none 0 0] 78 (0, 0)) (up_ BK188) hb); replace HB := nc3_ GE186 GE187 GE188 hb; (try clear hb); (try clear hb2); (try clear hk); (try clear hi); (try clear ho0); obtain ⟨Ao12, co12, eo12⟩ := Kd.R_slice HO191.out; subst eo12; obtain ⟨hcz13_0, hcz13_1, hcz13_2, hcz13_3, hcz13_4, hfz13_0, hfz13_1, hfz13_2, hfz13_3, hfz13_4⟩ := cf5_ BK188.out; obtain ⟨hcz14_0, hcz14_1, hcz14_2, hcz14_3, hcz14_4, hfz14_0, hfz14_1, hfz14_2, hfz14_3, hfz14_4⟩ := cf5_ BK187.out))
 refine bodyPost_ret (results_cell_row rfl _ _ gb187 78 #[.int .i64 a0_0, .int .i64 a0_1, .int .i64 a0_2, .int .i64 a0_3, .slice Ao12 t189.length co12] (0, 0) _ rfl (by (with_reducible repeat (first | refine blk_drewN ?_ _ | refine blk_drew ?_ | refine blk_alloc ?_ _)); refine blk_put (cs := #[.int .i64 a0_0, .int .i64 a0_1, .int .i64 a0_2, .int .i64 a0_3, .slice none 0 0]) ?_ 4 _ rfl; (with_reducible repeat (first | refine blk_drewN ?_ _ | refine blk_drew ?_ | refine blk_alloc ?_ _)); refine blk_put (cs := #[.int .i64 a0_0, .int .i64 a0_1, .int .i64 a0_2, .int .i64 0, .slice none 0 0]) ?_ 3 _ rfl; (with_reducible repeat (first | refine blk_drewN ?_ _ | refine blk_drew ?_ | refine blk_alloc ?_ _)); refine blk_put (cs := #[.int .i64 a0_0, .int .i64 a0_1, .int .i64 0, .int .i64 0, .slice none 0 0]) ?_ 2 _ rfl; (with_reducible repeat (first | refine blk_drewN ?_ _ | refine blk_drew ?_ | refine blk_alloc ?_ _)); refine blk_put (cs := #[.int .i64 a0_0, .int .i64 0, .int .i64 0, .int .i64 0, .slice none 0 0]) ?_ 1 _ rfl; (with_reducible repeat (first | refine blk_drewN ?_ _ | refine blk_drew ?_ | refine blk_alloc ?_ _)); refine blk_put (cs := #[.int .i64 0, .int .i64 0, .int .i64 0, .int .i64 0, .slice none 0 0]) ?_ 0 _ rfl; (with_reducible repeat (first | refine blk_drewN ?_ _ | refine blk_drew ?_ | refine blk_alloc ?_ _)); refine blk_far ?_ NB187_188.out _; (with_reducible repeat (first | refine blk_drewN ?_ _ | refine blk_drew ?_ | refine blk_alloc ?_ _)); exact BK187.out) Try.underlying78 rfl (by kernel_rfl)) rfl ?_
 exact ⟨_, er_, Kd.R_mono (rF_ (Kd.R_far (p := ⟨gb188, 4, none⟩) (Kd.R_types (Kd.R_types HO191.out BK188.out (by decide)) BK187.out (by decide)) (fun _ hk => hk.1.2) (.slice Ao12 t189.length co12))) (fun _ hk => trivial), hs3_ GE186.out GE187.out GE188.out⟩

/-! ### laws_toBatchS: function 43 -/
def laws_toBatchS.l0 : Nat → List (S99) → List (S78) → Int → Option ((List (S78)))
 | 0, _, _, _ => none
 | k + 1, x0, x3, x4 => if x4 < (x0.length : Int) then (if 0 ≤ x4 then ((laws_toBatch.f k ((rd_T99 x0 x4).f0) ((rd_T99 x0 x4).f1) ((rd_T99 x0 x4).f2) ((rd_T99 x0 x4).f3) ((rd_T99 x0 x4).f4)).bind fun bt196 => (if x4 < (x3.length : Int) then (laws_toBatchS.l0 k x0 (x3.set (x4 : Int).toNat (⟨bt196.1, bt196.2.1, bt196.2.2.1, bt196.2.2.2.1, bt196.2.2.2.2⟩ : S78)) (wrap64 (x4 + 1))) else (none))) else (none)) else (some x3)
def laws_toBatchS.f (k : Nat) (l0 : List (S99)) : Option ((List (S78))) := if 0 ≤ (l0.length : Int) then (if ((l0.length : Int) : Int).toNat ≤ 5026338869833 then (laws_toBatchS.l0 k l0 (List.replicate ((l0.length : Int) : Int).toNat z78) 0) else (none)) else (none)
theorem laws_toBatchS.mono_l : ∀ k, (∀ y0 y1 y2, LeO (laws_toBatchS.l0 k y0 y1 y2) (laws_toBatchS.l0 (k + 1) y0 y1 y2))
 | 0 => fun _ _ _ r h => by simp [laws_toBatchS.l0] at h
 | k + 1 => by
  have ih0 := laws_toBatchS.mono_l k
  ·intro y0 y1 y2
   unfold laws_toBatchS.l0
   repeat' first
   | (with_reducible first | apply ih0 | apply laws_toBatch.mono | exact LeO.refl _ | exact LeO.none _ | refine LeO.ite ?_ ?_ | refine LeO.bind ?_ (fun _ => ?_))
theorem laws_toBatchS.mono : ∀ a0 k, LeO (laws_toBatchS.f k a0) (laws_toBatchS.f (k + 1) a0) := by
 intro a0 k
 have ih0 := laws_toBatchS.mono_l k
 unfold laws_toBatchS.f
 repeat' first
   | (with_reducible first | apply ih0 | apply laws_toBatch.mono | exact LeO.refl _ | exact LeO.none _ | refine LeO.ite ?_ ?_ | refine LeO.bind ?_ (fun _ => ?_))
set_option maxHeartbeats 8000000 in
set_option maxRecDepth 100000 in
theorem laws_toBatchS.calls (k : Nat) (A0 : Option Addr) (c0 : Nat) (l0 : List (S99)) (r : List (S78)) (w : World) (hr0 : Kd.C k99 w A0 l0.length l0) (hc0 : l0.length ≤ c0) (h : laws_toBatchS.f k l0 = some r) :
  Calls Try.prog 43 #[.slice A0 l0.length c0] w fun e w' => ∃ v0_ : Value, e = .returned (v0_) ∧ Kd.S k78 78 w' w.heap.size (fun _ => True) v0_ r ∧ Below w.heap.size w w' := by
 have hu99 := Try.underlying99
 have hu78 := Try.underlying78
 have HR0 := am_ hr0
 have HC0 := am_ hc0
 clear hr0 hc0
 have HB := am_ (Below.refl w.heap.size w)
 have H : (if 0 ≤ (l0.length : Int) then (if ((l0.length : Int) : Int).toNat ≤ 5026338869833 then (laws_toBatchS.l0 k l0 (List.replicate ((l0.length : Int) : Int).toNat z78) 0) else (none)) else (none)) = some r := h
 clear h
 replace H := ifs_ H
 obtain ⟨c2, H⟩ := H
 have c2b0 := eq_true c2
 have c2b1 := decide_eq_true c2
 clear c2
 replace H := ifs_ H
 obtain ⟨c3, H⟩ := H
 have c3b0 := eq_true c3
 have c3b1 := decide_eq_true c3
 clear c3
 obtain ⟨y192, hy192⟩ : ∃ y_ : List (S78), y_ = (List.replicate ((l0.length : Int) : Int).toNat z78) := ⟨_, rfl⟩
 replace H : (laws_toBatchS.l0 k l0 y192 0) = some r := by first | (rw [hy192]; with_reducible exact H) | (have H2_ := (Option.bind_some _ _).symm.trans H; rw [hy192]; with_reducible exact H2_) | (have H2_ := (Option.bind_some _ _).symm.trans H; with_reducible exact H2_) | with_reducible exact H | (rw [hy192]; exact H) | exact H
 have Ny192 := am_ hy192
 clear hy192
 have H' := am_ H
 clear H
 go_enter Try.func43, Try.ntmps43
 go_wp2_with (first | ((with_reducible refine gate_dst (N := 7) rfl ?_); refine Kd.S_make k78 _ 78 rfl (N := 7) rfl 31 _ _ rfl (l0.length : Int) rfl rfl Try.underlying31 (.agg #[(.int .i64 0), (.int .i64 0), (.int .i64 0), (.int .i64 0), (.slice none 0 0)]) 56 info78 rfl (by decide) (by omega) z78 (ok := fun _ => True) (okp := fun _ => True) (k78_mkM _ _ _ z78 (Kd.R_nil _ _ _ _ _)) (fun _ hk => hk) trivial (oa_) (Nat.le_trans (Nat.mul_le_mul_right _ (oa_ : (l0.length : Int).toNat ≤ 5026338869833)) (by omega)) (Below.refl _ _) (Nat.le_refl _) ?_; intro v193 w4 ho5 hb hg_ hnew_; clear hg_ hnew_; (first | rw [← Ny192.out] at ho5 | (simp only [Int.reduceToNat] at ho5; rw [← Ny192.out] at ho5)); have HO194 := am_ (Kd.S_lower ho5 (below_size (hb_))); replace HB := nb_ hb; clear hb ho5))
 go_loopg [4] k (fun kq v4 w' => ∃ (x3_1 : List (S78)) (x4_1 : Int), v4 = .int .i64 x4_1 ∧ Aside0 (laws_toBatchS.l0 kq l0 x3_1 x4_1 = some r) ∧ Aside0 (kq ≤ k) ∧ Aside0 (Kd.S k78 78 w' w.heap.size (fun _ => True) v193 x3_1) ∧ Aside0 (Below w.heap.size w w'))
 case atStart => exact ⟨(y192), (0), sr_, H', ⟨Nat.le_refl _⟩, ⟨ks_ HO194.out⟩, ⟨hb_⟩⟩
 case round =>
  clear H'
  try clear c2
  try clear c2b0
  try clear c2b1
  try clear c3
  try clear c3b0
  try clear c3b1
  obtain ⟨x3_1, x4_1, rfl, HA, HK1, HO_3, HB⟩ := hrel
  cases gk with
  | zero => exact absurd HA.out (by simp [laws_toBatchS.l0])
  | succ k1 =>
   have H := HA.out
   clear HA
   simp only [laws_toBatchS.l0] at H
   replace H := ite_ H
   obtain ⟨c6, H⟩ | ⟨c6, H⟩ := H
   rotate_left
   ·have c6b0 := decide_eq_false c6
    clear c6
    obtain rfl := Option.some.inj H
    go_wp2
    go_ret
    exact ⟨_, er_, ks_ HO_3.out, hb_⟩
   have c6b0 := decide_eq_true c6
   clear c6
   replace H := ifs_ H
   obtain ⟨c7, H⟩ := H
   have c7b0 := decide_eq_true c7
   clear c7
   replace H := bnd_ H
   obtain ⟨⟨t196, t197, t198, t199, t200⟩, A8, H⟩ := H
   replace H := red_ H
   replace H := ifs_ H
   obtain ⟨c9, H⟩ := H
   have c9b0 := decide_eq_true c9
   clear c9
   obtain ⟨y203, hy203⟩ : ∃ y_ : List (S78), y_ = (x3_1.set (x4_1 : Int).toNat (⟨t196, t197, t198, t199, t200⟩ : S78)) := ⟨_, rfl⟩
   replace H : (laws_toBatchS.l0 k1 l0 y203 (wrap64 (x4_1 + 1))) = some r := by first | (rw [hy203]; with_reducible exact H) | (have H2_ := (Option.bind_some _ _).symm.trans H; rw [hy203]; with_reducible exact H2_) | (have H2_ := (Option.bind_some _ _).symm.trans H; with_reducible exact H2_) | with_reducible exact H | (rw [hy203]; exact H) | exact H
   have Ny203 := am_ hy203
   clear hy203
   have H' := am_ H
   clear H
   have p195 : 0 ≤ (x4_1 : Int) := oa_
   have q195 : x4_1 < (l0.length : Int) := oa_
   obtain ⟨ad195, A195_4, c195_4, e195, hx195_0, hx195_1, hx195_2, hx195_3, hx195_4, hl195_4, hi195_4⟩ := at_T99 HR0.out x4_1 p195 q195
   cases e195
   replace hx195_0 := pc_ HB.out hx195_0
   replace hx195_1 := pc_ HB.out hx195_1
   replace hx195_2 := pc_ HB.out hx195_2
   replace hx195_3 := pc_ HB.out hx195_3
   replace hx195_4 := pc_ HB.out hx195_4
   have HR195_4 := am_ hi195_4
   have HC195_4 := am_ hl195_4
   clear hi195_4 hl195_4
   replace p195 := eq_true p195
   replace q195 := eq_true q195
   go_wp2_with (first | ((with_reducible refine gate_callee (f := 71) rfl ?_); refine gl_ 20 Try.func71 #[.agg #[.int .i64 ((rd_T99 l0 x4_1).f0), .int .i64 ((rd_T99 l0 x4_1).f1), .int .i64 ((rd_T99 l0 x4_1).f2), .int .i64 ((rd_T99 l0 x4_1).f3), .slice A195_4 ((rd_T99 l0 x4_1).f4).length c195_4]] rfl ma_ ?_; (with_reducible refine (laws_toBatch.calls k1 ((rd_T99 l0 x4_1).f0) ((rd_T99 l0 x4_1).f1) ((rd_T99 l0 x4_1).f2) ((rd_T99 l0 x4_1).f3) _ _ ((rd_T99 l0 x4_1).f4) t196 t197 t198 t199 t200 _ ?side1 ?side2 A8.out).mono ?_); (case side1 => exact cs_ ((Kd.C_below HR195_4.out HB.out))); (case side2 => exact HC195_4.out); rintro e w11 ⟨v201, rfl, ho0, hb⟩; refine ⟨_, rfl, ?_⟩; replace HO_3 := am_ (Kd.S_elder' (ks_ HO_3.out) (Kd.R_base ho0) hb); have HO202 := am_ (Kd.R_lower ho0 (below_size (hb_))); replace HB := nb_ hb; (try clear hb); (try clear hb2); (try clear hk); (try clear hi); (try clear ho0); have p10 : 0 ≤ (x4_1 : Int) := oa_; have q10 : (x4_1 : Int) < ((x3_1.length : Int) : Int) := oa_; obtain ⟨go10, co10, eo10, gb10, gl10, cl10, HG10⟩ := Kd.S_form HO_3.out (by omega); (first | cases eo10 | (injection eo10 with ea_ en_ ec_; (first | subst ea_ | (injection ea_ with ea_; subst ea_)); subst ec_; clear en_)); have GB10 := am_ gb10; have GG10 := am_ HG10; clear gb10 gl10 HG10; obtain ⟨_, ce10, hcl10, hM10, hcc10, hfr10, _, _⟩ := Kd.S_elem HO_3.out z78 (x4_1 : Int) p10 q10; obtain ⟨ve10_4, rfl, ge10_4⟩ := k78_openM hM10; have hx10_0 : w11.cell? ⟨go10, (x4_1 : Int).toNat * 5, none⟩ = some (.int .i64 ((rd_T78 x3_1 x4_1).f0)) := hcc10 0 _ rfl; have hx10_1 : w11.cell? ⟨go10, (x4_1 : Int).toNat * 5 + 1, none⟩ = some (.int .i64 ((rd_T78 x3_1 x4_1).f1)) := hcc10 1 _ rfl; have hx10_2 : w11.cell? ⟨go10, (x4_1 : Int).toNat * 5 + 2, none⟩ = some (.int .i64 ((rd_T78 x3_1 x4_1).f2)) := hcc10 2 _ rfl; have hx10_3 : w11.cell? ⟨go10, (x4_1 : Int).toNat * 5 + 3, none⟩ = some (.int .i64 ((rd_T78 x3_1 x4_1).f3)) := hcc10 3 _ rfl; have hx10_4 : w11.cell? ⟨go10, (x4_1 : Int).toNat * 5 + 4, none⟩ = some (ve10_4) := hcc10 4 _ rfl; have hf10_0 : w11.frozen? ⟨go10, (x4_1 : Int).toNat * 5, none⟩ = false := hfr10 0; have hf10_1 : w11.frozen? ⟨go10, (x4_1 : Int).toNat * 5 + 1, none⟩ = false := hfr10 1; have hf10_2 : w11.frozen? ⟨go10, (x4_1 : Int).toNat * 5 + 2, none⟩ = false := hfr10 2; have hf10_3 : w11.frozen? ⟨go10, (x4_1 : Int).toNat * 5 + 3, none⟩ = false := hfr10 3; have hf10_4 : w11.frozen? ⟨go10, (x4_1 : Int).toNat * 5 + 4, none⟩ = false := hfr10 4; clear hcl10 hcc10 hfr10; (try clear hM10); replace p10 := eq_true p10; replace q10 := eq_true q10; obtain ⟨Ao14, co14, eo14⟩ := Kd.R_slice HO202.out; subst eo14; have n_ := am_ (Kd.S_mono (ok' := (fun k_ => some k_ ≠ (.slice Ao14 t200.length co14 : Value).ownBlock)) HO_3.out (fun k_ hk => hk.2)); clear HO_3; have HO_3 := n_; clear n_; have HX12 := am_ (show Kd.S k78 78 w11 w.heap.size (fun k_ => ((fun _ => True)) k_ ∧ ¬ ((fun k_ => some k_ = (.slice Ao14 t200.length co14 : Value).ownBlock)) k_) (.slice (some ⟨go10, 0, none⟩) x3_1.length co10) x3_1 from (sF_ (Kd.S_mono HO_3.out (fun k_ hk => ⟨trivial, fun e_ => hk e_⟩)))); obtain ⟨oki12, ce12, hcl12, hM12, hcc12, hfr12, hoki12, hH12⟩ := Kd.S_elem HX12.out z78 (x4_1 : Int) (oa_) (by have h_ : (x4_1 : Int) < ((x3_1.length : Int) : Int) := oa_; first | exact h_ | (have e_ := (Kd.S_reads' HO_3.out).1; omega) | simpa using h_); obtain ⟨ve12_4, rfl, ge12_4⟩ := k78_openM hM12; have HP12 := Kd.S_seg hH12 (oa_) (by have h_ : (x4_1 : Int) < ((x3_1.length : Int) : Int) := oa_; first | exact h_ | (have e_ := (Kd.S_reads' HO_3.out).1; omega) | simpa using h_) (seg := [.int .i64 t196, .int .i64 t197, .int .i64 t198, .int .i64 t199, .slice Ao14 t200.length co14]) (j := 0) (show 5 ≤ 5 from by decide) (x' := (⟨t196, t197, t198, t199, t200⟩ : S78)) (k78_mkM _ _ _ (⟨t196, t197, t198, t199, t200⟩ : S78) (Kd.R_mono (Kd.R_tight rfl (Kd.R_mono (ok' := fun k_ => ((fun _ => True)) k_ ∧ k_ ≠ go10) (Kd.R_apart' (HO202.out) (Kd.S_typed HO_3.out) (by decide)) (fun k_ hk => ⟨trivial, fun e_ => (hk.2) (by rw [e_]; rfl)⟩))) (fun _ h_ => Or.inr (h_)))) (fun _ hk => hk) (fun k_ hk_ => ((Kd.R_mono (ok' := fun k_ => ((fun _ => True)) k_ ∧ k_ ≠ go10) (Kd.R_apart' (HO202.out) (Kd.S_typed HO_3.out) (by decide)) (fun k_ hk => ⟨trivial, fun e_ => (hk.2) (by rw [e_]; rfl)⟩))).1 k_ hk_.symm); have hx12_0 := hcc12 0 _ rfl; (try simp only [show (k78).sz = 5 from rfl, Nat.mul_one, Nat.add_zero] at hx12_0); have hf12_0 := hfr12 0; (try simp only [show (k78).sz = 5 from rfl, Nat.mul_one, Nat.add_zero] at hf12_0); have hx12_1 := hcc12 1 _ rfl; (try simp only [show (k78).sz = 5 from rfl, Nat.mul_one, Nat.add_zero] at hx12_1); have hf12_1 := hfr12 1; (try simp only [show (k78).sz = 5 from rfl, Nat.mul_one, Nat.add_zero] at hf12_1); have hx12_2 := hcc12 2 _ rfl; (try simp only [show (k78).sz = 5 from rfl, Nat.mul_one, Nat.add_zero] at hx12_2); have hf12_2 := hfr12 2; (try simp only [show (k78).sz = 5 from rfl, Nat.mul_one, Nat.add_zero] at hf12_2); have hx12_3 := hcc12 3 _ rfl; (try simp only [show (k78).sz = 5 from rfl, Nat.mul_one, Nat.add_zero] at hx12_3); have hf12_3 := hfr12 3; (try simp only [show (k78).sz = 5 from rfl, Nat.mul_one, Nat.add_zero] at hf12_3); have hx12_4 := hcc12 4 _ rfl; (try simp only [show (k78).sz = 5 from rfl, Nat.mul_one, Nat.add_zero] at hx12_4); have hf12_4 := hfr12 4; (try simp only [show (k78).sz = 5 from rfl, Nat.mul_one, Nat.add_zero] at hf12_4); clear hcl12 hcc12 hfr12 hoki12 hH12; (try clear hM12)) | ((with_reducible refine gate_store (t := 78) (p := 21) rfl ?_); refine store_event (t := 78) (p := 21) (v := ?vo_w13) (w1 := (((((w11.setCell ⟨go10, (x4_1 : Int).toNat * 5, none⟩ (.int .i64 t196)).setCell ⟨go10, (x4_1 : Int).toNat * 5 + 1, none⟩ (.int .i64 t197)).setCell ⟨go10, (x4_1 : Int).toNat * 5 + 2, none⟩ (.int .i64 t198)).setCell ⟨go10, (x4_1 : Int).toNat * 5 + 3, none⟩ (.int .i64 t199)).setCell ⟨go10, (x4_1 : Int).toNat * 5 + 4, none⟩ (.slice Ao14 t200.length co14))) ?hg ?ho ?hn ?hr ?_; (case ho => rfl); (case hg => rfl); (case hn => rfl); (case hr => first | (go_simp; done) | (go_simp; rfl)); intro w13 hw; have hg : w11.grownBy w13 (some go10) := (by rw [hw]; exact HP12.2); have hp_ : Kd.S k78 78 w13 w.heap.size (fun _ => True) (.slice (some ⟨go10, 0, none⟩) x3_1.length co10) y203 := (by rw [hw, Ny203.out]; exact HP12.1); clear HP12; replace HO_3 := am_ (hp_); replace HB := am_ ((by rw [hw]; exact below_set (below_set (below_set (below_set (below_set (HB.out) GB10.out) GB10.out) GB10.out) GB10.out) GB10.out : Below w.heap.size w w13)); clear HO202; clear hg hw hp_))
   go_roundg k1
   case measure => have := HK1.out; omega
   case rel => exact ⟨(y203), (wrap64 (x4_1 + 1)), sr_, H', ⟨by have := HK1.out; omega⟩, ⟨ks_ HO_3.out⟩, ⟨hb_⟩⟩

/-! ### laws_toDone: function 98 -/
def laws_toDone.f (a0_0 : Int) (a0_1 : Int) (a0_2 : Int) : Option (Int × Int × Int) := some (a0_0, a0_1, a0_2)
set_option maxHeartbeats 8000000 in
set_option maxRecDepth 100000 in
theorem laws_toDone.calls (a0_0 : Int) (a0_1 : Int) (a0_2 : Int) (r1 : Int) (r2 : Int) (r3 : Int) (w : World) (h : laws_toDone.f a0_0 a0_1 a0_2 = some (r1, r2, r3)) :
  Calls Try.prog 98 #[.agg #[.int .i64 a0_0, .int .i64 a0_1, .int .i64 a0_2]] w fun e w' => e = .returned (.agg #[.int .i64 r1, .int .i64 r2, .int .i64 r3]) ∧ Below w.heap.size w w' := by
 have hu128 := Try.underlying128
 have hu112 := Try.underlying112
 have HB := am_ (Below.refl w.heap.size w)
 have H : (some (a0_0, a0_1, a0_2)) = some (r1, r2, r3) := h
 clear h
 simp only [Option.some.injEq, Prod.mk.injEq] at H
 obtain ⟨rfl, rfl, rfl⟩ := H
 go_enter Try.func98, Try.ntmps98
 go_wp2_with (first | ((with_reducible refine gate_dst (N := 1) rfl ?_); refine bq_ (N := 1) #[.int .i64 a0_0, .int .i64 a0_1, .int .i64 a0_2] 128 ?_; intro gb204 hg w2 BK204 hb; have GE204 := ge_ hg; replace HB := nb_ hb; clear hb hg) | ((with_reducible refine gate_dst (N := 2) rfl ?_); refine bq_ (N := 2) #[.int .i64 0, .int .i64 0, .int .i64 0] 112 ?_; intro gb205 hg w3 BK205 hb; have GE205 := ge1_ hg GE204; replace HB := nc_ GE204 hb; have NB204_205 := nl_ BK204 hg; have NB205_204 := ng_ BK204 hg; replace BK204 := bK_ BK204 hb; clear hb hg) | ((with_reducible refine gate_dst (N := 3) rfl ?_); refine bq_ (N := 3) #[.int .i64 0, .int .i64 0, .int .i64 0] 112 ?_; intro gb206 hg w4 BK206 hb; have GE206 := ge2_ hg GE204 GE205; replace HB := nc2_ GE204 GE205 hb; have NB204_206 := nl_ BK204 hg; have NB206_204 := ng_ BK204 hg; replace BK204 := bK_ BK204 hb; have NB205_206 := nl_ BK205 hg; have NB206_205 := ng_ BK205 hg; replace BK205 := bK_ BK205 hb; clear hb hg; have hnb5 := NB204_205.out; have hnc5 := NB205_204.out; have hnb6 := NB204_206.out; have hnc6 := NB206_204.out; obtain ⟨hcz7_0, hcz7_1, hcz7_2, hfz7_0, hfz7_1, hfz7_2⟩ := cf3_ BK204.out; have hnb8 := NB206_205.out; have hnc8 := NB205_206.out; obtain ⟨hcz9_0, hcz9_1, hcz9_2, hfz9_0, hfz9_1, hfz9_2⟩ := cf3_ BK206.out; obtain ⟨hcz10_0, hcz10_1, hcz10_2, hfz10_0, hfz10_1, hfz10_2⟩ := cf3_ BK205.out))
 refine bodyPost_ret (results_cell_row rfl _ _ gb205 112 #[.int .i64 a0_0, .int .i64 a0_1, .int .i64 a0_2] (0, 0) _ rfl (by (with_reducible repeat (first | refine blk_drewN ?_ _ | refine blk_drew ?_ | refine blk_alloc ?_ _)); refine blk_put (cs := #[.int .i64 a0_0, .int .i64 a0_1, .int .i64 0]) ?_ 2 _ rfl; (with_reducible repeat (first | refine blk_drewN ?_ _ | refine blk_drew ?_ | refine blk_alloc ?_ _)); refine blk_put (cs := #[.int .i64 a0_0, .int .i64 0, .int .i64 0]) ?_ 1 _ rfl; (with_reducible repeat (first | refine blk_drewN ?_ _ | refine blk_drew ?_ | refine blk_alloc ?_ _)); refine blk_put (cs := #[.int .i64 0, .int .i64 0, .int .i64 0]) ?_ 0 _ rfl; (with_reducible repeat (first | refine blk_drewN ?_ _ | refine blk_drew ?_ | refine blk_alloc ?_ _)); refine blk_far ?_ NB205_206.out _; (with_reducible repeat (first | refine blk_drewN ?_ _ | refine blk_drew ?_ | refine blk_alloc ?_ _)); refine blk_far ?_ NB205_206.out _; (with_reducible repeat (first | refine blk_drewN ?_ _ | refine blk_drew ?_ | refine blk_alloc ?_ _)); refine blk_far ?_ NB205_206.out _; (with_reducible repeat (first | refine blk_drewN ?_ _ | refine blk_drew ?_ | refine blk_alloc ?_ _)); exact BK205.out) Try.underlying112 rfl (by kernel_rfl)) rfl ?_
 exact ⟨er_, hs3_ GE204.out GE205.out GE206.out⟩

/-! ### laws_toDoneS: function 93 -/
def laws_toDoneS.l0 : Nat → List (S128) → List (S112) → Int → Option ((List (S112)))
 | 0, _, _, _ => none
 | k + 1, x0, x3, x4 => if x4 < (x0.length : Int) then (if 0 ≤ x4 then ((laws_toDone.f ((rd_T128 x0 x4).f0) ((rd_T128 x0 x4).f1) ((rd_T128 x0 x4).f2)).bind fun bt211 => (if x4 < (x3.length : Int) then (laws_toDoneS.l0 k x0 (x3.set (x4 : Int).toNat (⟨bt211.1, bt211.2.1, bt211.2.2⟩ : S112)) (wrap64 (x4 + 1))) else (none))) else (none)) else (some x3)
def laws_toDoneS.f (k : Nat) (l0 : List (S128)) : Option ((List (S112))) := if 0 ≤ (l0.length : Int) then (if ((l0.length : Int) : Int).toNat ≤ 11728124029610 then (laws_toDoneS.l0 k l0 (List.replicate ((l0.length : Int) : Int).toNat z112) 0) else (none)) else (none)
theorem laws_toDoneS.mono_l : ∀ k, (∀ y0 y1 y2, LeO (laws_toDoneS.l0 k y0 y1 y2) (laws_toDoneS.l0 (k + 1) y0 y1 y2))
 | 0 => fun _ _ _ r h => by simp [laws_toDoneS.l0] at h
 | k + 1 => by
  have ih0 := laws_toDoneS.mono_l k
  ·intro y0 y1 y2
   unfold laws_toDoneS.l0
   repeat' first
   | (with_reducible first | apply ih0 | exact LeO.refl _ | exact LeO.none _ | refine LeO.ite ?_ ?_ | refine LeO.bind ?_ (fun _ => ?_))
theorem laws_toDoneS.mono : ∀ a0 k, LeO (laws_toDoneS.f k a0) (laws_toDoneS.f (k + 1) a0) := by
 intro a0 k
 have ih0 := laws_toDoneS.mono_l k
 unfold laws_toDoneS.f
 repeat' first
   | (with_reducible first | apply ih0 | exact LeO.refl _ | exact LeO.none _ | refine LeO.ite ?_ ?_ | refine LeO.bind ?_ (fun _ => ?_))
set_option maxHeartbeats 8000000 in
set_option maxRecDepth 100000 in
theorem laws_toDoneS.calls (k : Nat) (A0 : Option Addr) (c0 : Nat) (l0 : List (S128)) (r : List (S112)) (w : World) (hr0 : Kd.C k128 w A0 l0.length l0) (hc0 : l0.length ≤ c0) (h : laws_toDoneS.f k l0 = some r) :
  Calls Try.prog 93 #[.slice A0 l0.length c0] w fun e w' => ∃ v0_ : Value, e = .returned (v0_) ∧ Kd.R k112 112 w' w.heap.size (fun _ => True) v0_ r ∧ Below w.heap.size w w' := by
 have hu128 := Try.underlying128
 have hu112 := Try.underlying112
 have HR0 := am_ hr0
 have HC0 := am_ hc0
 clear hr0 hc0
 have HB := am_ (Below.refl w.heap.size w)
 have H : (if 0 ≤ (l0.length : Int) then (if ((l0.length : Int) : Int).toNat ≤ 11728124029610 then (laws_toDoneS.l0 k l0 (List.replicate ((l0.length : Int) : Int).toNat z112) 0) else (none)) else (none)) = some r := h
 clear h
 replace H := ifs_ H
 obtain ⟨c2, H⟩ := H
 have c2b0 := eq_true c2
 have c2b1 := decide_eq_true c2
 clear c2
 replace H := ifs_ H
 obtain ⟨c3, H⟩ := H
 have c3b0 := eq_true c3
 have c3b1 := decide_eq_true c3
 clear c3
 obtain ⟨y207, hy207⟩ : ∃ y_ : List (S112), y_ = (List.replicate ((l0.length : Int) : Int).toNat z112) := ⟨_, rfl⟩
 replace H : (laws_toDoneS.l0 k l0 y207 0) = some r := by first | (rw [hy207]; with_reducible exact H) | (have H2_ := (Option.bind_some _ _).symm.trans H; rw [hy207]; with_reducible exact H2_) | (have H2_ := (Option.bind_some _ _).symm.trans H; with_reducible exact H2_) | with_reducible exact H | (rw [hy207]; exact H) | exact H
 have Ny207 := am_ hy207
 clear hy207
 have H' := am_ H
 clear H
 go_enter Try.func93, Try.ntmps93
 go_wp2_with (first | ((with_reducible refine gate_dst (N := 7) rfl ?_); refine Kd.R_make k112 _ 112 rfl (N := 7) rfl 79 _ _ rfl (l0.length : Int) rfl rfl Try.underlying79 (.agg #[(.int .i64 0), (.int .i64 0), (.int .i64 0)]) 24 info112 rfl (by decide) (by omega) z112 (ok := fun _ => True) (okp := fun _ => True) (k112_mkM _ _ _ z112 ) (fun _ hk => hk) trivial (oa_) (Nat.le_trans (Nat.mul_le_mul_right _ (oa_ : (l0.length : Int).toNat ≤ 11728124029610)) (by omega)) (Below.refl _ _) (Nat.le_refl _) ?_; intro v208 w4 ho5 hb hg_ hnew_; clear hg_ hnew_; (first | rw [← Ny207.out] at ho5 | (simp only [Int.reduceToNat] at ho5; rw [← Ny207.out] at ho5)); have HO209 := am_ (Kd.R_lower ho5 (below_size (hb_))); replace HB := nb_ hb; clear hb ho5))
 go_loopg [4] k (fun kq v4 w' => ∃ (x3_1 : List (S112)) (x4_1 : Int), v4 = .int .i64 x4_1 ∧ Aside0 (laws_toDoneS.l0 kq l0 x3_1 x4_1 = some r) ∧ Aside0 (kq ≤ k) ∧ Aside0 (Kd.R k112 112 w' w.heap.size (fun _ => True) v208 x3_1) ∧ Aside0 (Below w.heap.size w w'))
 case atStart => exact ⟨(y207), (0), sr_, H', ⟨Nat.le_refl _⟩, ⟨kr_ HO209.out⟩, ⟨hb_⟩⟩
 case round =>
  clear H'
  try clear c2
  try clear c2b0
  try clear c2b1
  try clear c3
  try clear c3b0
  try clear c3b1
  obtain ⟨x3_1, x4_1, rfl, HA, HK1, HO_3, HB⟩ := hrel
  cases gk with
  | zero => exact absurd HA.out (by simp [laws_toDoneS.l0])
  | succ k1 =>
   have H := HA.out
   clear HA
   simp only [laws_toDoneS.l0] at H
   replace H := ite_ H
   obtain ⟨c6, H⟩ | ⟨c6, H⟩ := H
   rotate_left
   ·have c6b0 := decide_eq_false c6
    clear c6
    obtain rfl := Option.some.inj H
    go_wp2
    go_ret
    exact ⟨_, er_, kr_ HO_3.out, hb_⟩
   have c6b0 := decide_eq_true c6
   clear c6
   replace H := ifs_ H
   obtain ⟨c7, H⟩ := H
   have c7b0 := decide_eq_true c7
   clear c7
   replace H := bnd_ H
   obtain ⟨⟨t211, t212, t213⟩, A8, H⟩ := H
   replace H := red_ H
   replace H := ifs_ H
   obtain ⟨c9, H⟩ := H
   have c9b0 := decide_eq_true c9
   clear c9
   obtain ⟨y214, hy214⟩ : ∃ y_ : List (S112), y_ = (x3_1.set (x4_1 : Int).toNat (⟨t211, t212, t213⟩ : S112)) := ⟨_, rfl⟩
   replace H : (laws_toDoneS.l0 k1 l0 y214 (wrap64 (x4_1 + 1))) = some r := by first | (rw [hy214]; with_reducible exact H) | (have H2_ := (Option.bind_some _ _).symm.trans H; rw [hy214]; with_reducible exact H2_) | (have H2_ := (Option.bind_some _ _).symm.trans H; with_reducible exact H2_) | with_reducible exact H | (rw [hy214]; exact H) | exact H
   have Ny214 := am_ hy214
   clear hy214
   have H' := am_ H
   clear H
   have p210 : 0 ≤ (x4_1 : Int) := oa_
   have q210 : x4_1 < (l0.length : Int) := oa_
   obtain ⟨ad210, e210, hx210_0, hx210_1, hx210_2⟩ := at_T128 HR0.out x4_1 p210 q210
   cases e210
   replace hx210_0 := pc_ HB.out hx210_0
   replace hx210_1 := pc_ HB.out hx210_1
   replace hx210_2 := pc_ HB.out hx210_2
   replace p210 := eq_true p210
   replace q210 := eq_true q210
   go_wp2_with (first | ((with_reducible refine gate_callee (f := 98) rfl ?_); refine gl_ 20 Try.func98 #[.agg #[.int .i64 ((rd_T128 l0 x4_1).f0), .int .i64 ((rd_T128 l0 x4_1).f1), .int .i64 ((rd_T128 l0 x4_1).f2)]] rfl ma_ ?_; (with_reducible refine (laws_toDone.calls ((rd_T128 l0 x4_1).f0) ((rd_T128 l0 x4_1).f1) ((rd_T128 l0 x4_1).f2) t211 t212 t213 _ A8.out).mono ?_); rintro e w11 ⟨rfl, hb⟩; refine ⟨_, rfl, ?_⟩; replace HO_3 := rB_ HO_3 hb; replace HB := nb_ hb; (try clear hb); (try clear hb2); (try clear hk); (try clear hi); have p10 : 0 ≤ (x4_1 : Int) := oa_; have q10 : (x4_1 : Int) < ((x3_1.length : Int) : Int) := oa_; obtain ⟨go10, co10, eo10, gb10, gl10, cl10, HG10⟩ := Kd.R_form HO_3.out (by omega); (first | cases eo10 | (injection eo10 with ea_ en_ ec_; (first | subst ea_ | (injection ea_ with ea_; subst ea_)); subst ec_; clear en_)); have GB10 := am_ gb10; have GG10 := am_ HG10; clear gb10 gl10 HG10; obtain ⟨ce10, hcl10, hM10, hcc10, hfr10⟩ := Kd.R_elem HO_3.out z112 (x4_1 : Int) p10 q10; obtain rfl := k112_openM hM10; have hx10_0 : w11.cell? ⟨go10, (x4_1 : Int).toNat * 3, none⟩ = some (.int .i64 ((rd_T112 x3_1 x4_1).f0)) := hcc10 0 _ rfl; have hx10_1 : w11.cell? ⟨go10, (x4_1 : Int).toNat * 3 + 1, none⟩ = some (.int .i64 ((rd_T112 x3_1 x4_1).f1)) := hcc10 1 _ rfl; have hx10_2 : w11.cell? ⟨go10, (x4_1 : Int).toNat * 3 + 2, none⟩ = some (.int .i64 ((rd_T112 x3_1 x4_1).f2)) := hcc10 2 _ rfl; have hf10_0 : w11.frozen? ⟨go10, (x4_1 : Int).toNat * 3, none⟩ = false := hfr10 0; have hf10_1 : w11.frozen? ⟨go10, (x4_1 : Int).toNat * 3 + 1, none⟩ = false := hfr10 1; have hf10_2 : w11.frozen? ⟨go10, (x4_1 : Int).toNat * 3 + 2, none⟩ = false := hfr10 2; clear hcl10 hcc10 hfr10; (try clear hM10); replace p10 := eq_true p10; replace q10 := eq_true q10; have HX12 := am_ (show Kd.R k112 112 w11 w.heap.size (fun _ => True) (.slice (some ⟨go10, 0, none⟩) x3_1.length co10) x3_1 from (kr_ HO_3.out)); obtain ⟨ce12, hcl12, hM12, hcc12, hfr12⟩ := Kd.R_elem HX12.out z112 (x4_1 : Int) (oa_) (by have h_ : (x4_1 : Int) < ((x3_1.length : Int) : Int) := oa_; first | exact h_ | (have e_ := (Kd.R_reads' HO_3.out).1; omega) | simpa using h_); obtain rfl := k112_openM hM12; have HP12 := Kd.R_seg HX12.out (x4_1 : Int) (oa_) (by have h_ : (x4_1 : Int) < ((x3_1.length : Int) : Int) := oa_; first | exact h_ | (have e_ := (Kd.R_reads' HO_3.out).1; omega) | simpa using h_) (seg := [.int .i64 t211, .int .i64 t212, .int .i64 t213]) (j := 0) hcl12 hcc12 (show 3 ≤ 3 from by decide) (x' := (⟨t211, t212, t213⟩ : S112)) (k112_mkM _ _ _ (⟨t211, t212, t213⟩ : S112) ) (fun _ hk => hk); have hx12_0 := hcc12 0 _ rfl; (try simp only [show (k112).sz = 3 from rfl, Nat.mul_one, Nat.add_zero] at hx12_0); have hf12_0 := hfr12 0; (try simp only [show (k112).sz = 3 from rfl, Nat.mul_one, Nat.add_zero] at hf12_0); have hx12_1 := hcc12 1 _ rfl; (try simp only [show (k112).sz = 3 from rfl, Nat.mul_one, Nat.add_zero] at hx12_1); have hf12_1 := hfr12 1; (try simp only [show (k112).sz = 3 from rfl, Nat.mul_one, Nat.add_zero] at hf12_1); have hx12_2 := hcc12 2 _ rfl; (try simp only [show (k112).sz = 3 from rfl, Nat.mul_one, Nat.add_zero] at hx12_2); have hf12_2 := hfr12 2; (try simp only [show (k112).sz = 3 from rfl, Nat.mul_one, Nat.add_zero] at hf12_2); clear hcl12 hcc12 hfr12; (try clear hM12)) | ((with_reducible refine gate_store (t := 112) (p := 21) rfl ?_); refine store_event (t := 112) (p := 21) (v := ?vo_w13) (w1 := (((w11.setCell ⟨go10, (x4_1 : Int).toNat * 3, none⟩ (.int .i64 t211)).setCell ⟨go10, (x4_1 : Int).toNat * 3 + 1, none⟩ (.int .i64 t212)).setCell ⟨go10, (x4_1 : Int).toNat * 3 + 2, none⟩ (.int .i64 t213))) ?hg ?ho ?hn ?hr ?_; (case ho => rfl); (case hg => rfl); (case hn => rfl); (case hr => first | (go_simp; done) | (go_simp; rfl)); intro w13 hw; have hg : w11.grownBy w13 (some go10) := (by rw [hw]; exact HP12.2); have hp_ : Kd.R k112 112 w13 w.heap.size (fun _ => True) (.slice (some ⟨go10, 0, none⟩) x3_1.length co10) y214 := (by rw [hw, Ny214.out]; exact HP12.1); clear HP12; replace HO_3 := am_ (hp_); replace HB := am_ ((by rw [hw]; exact below_set (below_set (below_set (HB.out) GB10.out) GB10.out) GB10.out : Below w.heap.size w w13)); clear hg hw hp_))
   go_roundg k1
   case measure => have := HK1.out; omega
   case rel => exact ⟨(y214), (wrap64 (x4_1 + 1)), sr_, H', ⟨by have := HK1.out; omega⟩, ⟨kr_ HO_3.out⟩, ⟨hb_⟩⟩

/-! ### laws_toProducer: function 74 -/
def laws_toProducer.f (k : Nat) (a0_0 : Int) (a0_1 : Int) (a0_2 : Int) (l0_3 : List (S128)) : Option (Int × Int × Int × (List (S112))) := (laws_toDoneS.f k l0_3).bind fun t218 => (some (a0_0, a0_1, a0_2, t218))
theorem laws_toProducer.mono : ∀ a0 a1 a2 a3 k, LeO (laws_toProducer.f k a0 a1 a2 a3) (laws_toProducer.f (k + 1) a0 a1 a2 a3) := by
 intro a0 a1 a2 a3 k
 unfold laws_toProducer.f
 repeat' first
   | (with_reducible first | apply laws_toDoneS.mono | exact LeO.refl _ | exact LeO.none _ | refine LeO.ite ?_ ?_ | refine LeO.bind ?_ (fun _ => ?_))
set_option maxHeartbeats 8000000 in
set_option maxRecDepth 100000 in
theorem laws_toProducer.calls (k : Nat) (a0_0 : Int) (a0_1 : Int) (a0_2 : Int) (A0_3 : Option Addr) (c0_3 : Nat) (l0_3 : List (S128)) (r1 : Int) (r2 : Int) (r3 : Int) (r4 : List (S112)) (w : World) (hr0_3 : Kd.C k128 w A0_3 l0_3.length l0_3) (hc0_3 : l0_3.length ≤ c0_3) (h : laws_toProducer.f k a0_0 a0_1 a0_2 l0_3 = some (r1, r2, r3, r4)) :
  Calls Try.prog 74 #[.agg #[.int .i64 a0_0, .int .i64 a0_1, .int .i64 a0_2, .slice A0_3 l0_3.length c0_3]] w fun e w' => ∃ v3_ : Value, e = .returned (.agg #[.int .i64 r1, .int .i64 r2, .int .i64 r3, v3_]) ∧ Kd.R k112 112 w' w.heap.size (fun _ => True) v3_ r4 ∧ Below w.heap.size w w' := by
 have hu105 := Try.underlying105
 have hu81 := Try.underlying81
 have HR0_3 := am_ hr0_3
 have HC0_3 := am_ hc0_3
 clear hr0_3 hc0_3
 have HB := am_ (Below.refl w.heap.size w)
 have H : ((laws_toDoneS.f k l0_3).bind fun t218 => (some (a0_0, a0_1, a0_2, t218))) = some (r1, r2, r3, r4) := h
 clear h
 replace H := bnd_ H
 obtain ⟨t218, A2, H⟩ := H
 simp only [Option.some.injEq, Prod.mk.injEq] at H
 obtain ⟨rfl, rfl, rfl, rfl⟩ := H
 go_enter Try.func74, Try.ntmps74
 go_wp2_with (first | ((with_reducible refine gate_dst (N := 1) rfl ?_); refine bq_ (N := 1) #[.int .i64 a0_0, .int .i64 a0_1, .int .i64 a0_2, .slice A0_3 l0_3.length c0_3] 105 ?_; intro gb215 hg w3 BK215 hb; have GE215 := ge_ hg; replace HB := nb_ hb; clear hb hg) | ((with_reducible refine gate_dst (N := 2) rfl ?_); refine bq_ (N := 2) #[.int .i64 0, .int .i64 0, .int .i64 0, .slice none 0 0] 81 ?_; intro gb216 hg w4 BK216 hb; have GE216 := ge1_ hg GE215; replace HB := nc_ GE215 hb; have NB215_216 := nl_ BK215 hg; have NB216_215 := ng_ BK215 hg; replace BK215 := bK_ BK215 hb; clear hb hg) | ((with_reducible refine gate_dst (N := 3) rfl ?_); refine bq_ (N := 3) #[.int .i64 0, .int .i64 0, .int .i64 0, .slice none 0 0] 81 ?_; intro gb217 hg w5 BK217 hb; have GE217 := ge2_ hg GE215 GE216; replace HB := nc2_ GE215 GE216 hb; have NB215_217 := nl_ BK215 hg; have NB217_215 := ng_ BK215 hg; replace BK215 := bK_ BK215 hb; have NB216_217 := nl_ BK216 hg; have NB217_216 := ng_ BK216 hg; replace BK216 := bK_ BK216 hb; clear hb hg; have hnb6 := NB215_216.out; have hnc6 := NB216_215.out; have hnb7 := NB215_217.out; have hnc7 := NB217_215.out; obtain ⟨hcz8_0, hcz8_1, hcz8_2, hcz8_3, hfz8_0, hfz8_1, hfz8_2, hfz8_3⟩ := cf4_ BK215.out; have hnb9 := NB217_216.out; have hnc9 := NB216_217.out; obtain ⟨hcz10_0, hcz10_1, hcz10_2, hcz10_3, hfz10_0, hfz10_1, hfz10_2, hfz10_3⟩ := cf4_ BK217.out) | ((with_reducible refine gate_callee (f := 93) rfl ?_); refine gl_ 15 Try.func93 #[.slice A0_3 l0_3.length c0_3] rfl ma_ ?_; (with_reducible refine (laws_toDoneS.calls k _ _ l0_3 t218 _ ?side1 ?side2 A2.out).mono ?_); (case side1 => exact Kd.C_below HR0_3.out (hs3_ GE215.out GE216.out GE217.out)); (case side2 => exact HC0_3.out); rintro e w11 ⟨v219, rfl, ho0, hb⟩; refine ⟨_, rfl, ?_⟩; have HO220 := am_ (Kd.R_lower ho0 (below_size (hs3_ GE215.out GE216.out GE217.out))); replace BK215 := am_ (blk_below (g := gb215) (o := .cells #[.int .i64 a0_0, .int .i64 a0_1, .int .i64 a0_2, .slice A0_3 l0_3.length c0_3] 105 (0, 0)) (uf_ BK215 NB215_217.out) hb); replace BK216 := am_ (blk_below (g := gb216) (o := .cells #[.int .i64 0, .int .i64 0, .int .i64 0, .slice none 0 0] 81 (0, 0)) (uf_ BK216 NB216_217.out) hb); replace BK217 := am_ (blk_below (g := gb217) (o := .cells #[.int .i64 a0_0, .int .i64 a0_1, .int .i64 a0_2, .slice none 0 0] 81 (0, 0)) (up_ BK217) hb); replace HB := nc3_ GE215 GE216 GE217 hb; (try clear hb); (try clear hb2); (try clear hk); (try clear hi); (try clear ho0); obtain ⟨Ao12, co12, eo12⟩ := Kd.R_slice HO220.out; subst eo12; obtain ⟨hcz13_0, hcz13_1, hcz13_2, hcz13_3, hfz13_0, hfz13_1, hfz13_2, hfz13_3⟩ := cf4_ BK217.out; obtain ⟨hcz14_0, hcz14_1, hcz14_2, hcz14_3, hfz14_0, hfz14_1, hfz14_2, hfz14_3⟩ := cf4_ BK216.out))
 refine bodyPost_ret (results_cell_row rfl _ _ gb216 81 #[.int .i64 a0_0, .int .i64 a0_1, .int .i64 a0_2, .slice Ao12 t218.length co12] (0, 0) _ rfl (by (with_reducible repeat (first | refine blk_drewN ?_ _ | refine blk_drew ?_ | refine blk_alloc ?_ _)); refine blk_put (cs := #[.int .i64 a0_0, .int .i64 a0_1, .int .i64 a0_2, .slice none 0 0]) ?_ 3 _ rfl; (with_reducible repeat (first | refine blk_drewN ?_ _ | refine blk_drew ?_ | refine blk_alloc ?_ _)); refine blk_put (cs := #[.int .i64 a0_0, .int .i64 a0_1, .int .i64 0, .slice none 0 0]) ?_ 2 _ rfl; (with_reducible repeat (first | refine blk_drewN ?_ _ | refine blk_drew ?_ | refine blk_alloc ?_ _)); refine blk_put (cs := #[.int .i64 a0_0, .int .i64 0, .int .i64 0, .slice none 0 0]) ?_ 1 _ rfl; (with_reducible repeat (first | refine blk_drewN ?_ _ | refine blk_drew ?_ | refine blk_alloc ?_ _)); refine blk_put (cs := #[.int .i64 0, .int .i64 0, .int .i64 0, .slice none 0 0]) ?_ 0 _ rfl; (with_reducible repeat (first | refine blk_drewN ?_ _ | refine blk_drew ?_ | refine blk_alloc ?_ _)); refine blk_far ?_ NB216_217.out _; (with_reducible repeat (first | refine blk_drewN ?_ _ | refine blk_drew ?_ | refine blk_alloc ?_ _)); exact BK216.out) Try.underlying81 rfl (by kernel_rfl)) rfl ?_
 exact ⟨_, er_, Kd.R_mono (rF_ (Kd.R_far (p := ⟨gb217, 3, none⟩) (Kd.R_types (Kd.R_types HO220.out BK217.out (by decide)) BK216.out (by decide)) (fun _ hk => hk.1.2) (.slice Ao12 t218.length co12))) (fun _ hk => trivial), hs3_ GE215.out GE216.out GE217.out⟩

end Go.Proofs.Ytojdaolclcmalaa.QFnExactRecordsOf
