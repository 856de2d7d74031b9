/- Functions that one statement reaches: of each a plain function, and the proof that calls come to it. Conditions: those that each contract names. Written by a program of this repository. -/
import Derived.Test.YtojdaolclcmalaaVPlayAsksa
import Derived.Test.YtojdaolclcmalaaQFnExactPlayAsksx2
import Derived.Test.YtojdaolclcmalaaQFnExactPlayAsksx12
namespace Go.Proofs.Ytojdaolclcmalaa.QFnExactPlayAsks
open Go.RowKit Go.Proofs.YtojdaolclcmalaaW.PrintWords Go.Proofs.YtojdaolclcmalaaW.PrintLast Go.Proofs.YtojdaolclcmalaaW.PrintMore
attribute [local go_sem] max2_int min2_int max_two min_two max_three min_three max_four min_four Go.Proofs.YtojdaolclcmalaaW.PrintMore2.isSome_setCell   -- for this text's walks alone
set_option linter.unusedVariables false
set_option linter.unusedSimpArgs false

/-! ### impl_Part_codeOf: function 65 -/
mutual
def impl_Part_codeOf.j1 : Nat → Int → Bool → List (S81) → List (S78) → Int → Int → Int → Int → List ByteArray → Option (Int × Int)
 | 0, _, _, _, _, _, _, _, _, _ => none
 | k + 1, x6, x7, x327000, x327001, x327002, x328000, x328001, x328002, x328003 => if x7 = true then (impl_Part_codeOf.j2 k x6 false x327000 x327001 x327002 x328000 x328001 x328002 x328003) else (impl_Part_codeOf.j2 k x6 (x328002 != 0) x327000 x327001 x327002 x328000 x328001 x328002 x328003)
def impl_Part_codeOf.j2 : Nat → Int → Bool → List (S81) → List (S78) → Int → Int → Int → Int → List ByteArray → Option (Int × Int)
 | 0, _, _, _, _, _, _, _, _, _ => none
 | k + 1, x6, x68, x327000, x327001, x327002, x328000, x328001, x328002, x328003 => if x68 = true then (some (3, 0)) else (if x6 < 0 then (if (x327000.length : Int) = 4 then (some (5, 0)) else (if (x327001.length : Int) = 60 then (some (5, 0)) else (if (wrap64 ((wrap64 (x328002 + (x328003.length : Int))) - 1)) > 65535 then (some (5, 0)) else (some (0, x327002))))) else (if (x327001.length : Int) = 60 then (some (5, 0)) else (if (wrap64 ((wrap64 (x328002 + (x328003.length : Int))) - 1)) > 65535 then (some (5, 0)) else (some (0, x327002)))))
def impl_Part_codeOf.l0 : Nat → List (S112) → Int → Int → Int → Int → Int → List ByteArray → Int → Int → Int → List (S112) → Option (Int × Int)
 | 0, _, _, _, _, _, _, _, _, _, _, _ => none
 | k + 1, x41, x42, x43, x328000, x328001, x328002, x328003, x331000, x331001, x331002, x331003 => if x43 < x42 then (if 0 ≤ x43 then (if x43 < (x41.length : Int) then (if ((rd_T112 x41 x43).f0) = x328002 then (if ((rd_T112 x41 x43).f1) = (x328003.length : Int) then (some (1, (rd_T112 x41 x43).f2)) else (impl_Part_codeOf.l0 k x41 x42 (wrap64 (x43 + 1)) x328000 x328001 x328002 x328003 x331000 x331001 x331002 x331003)) else (impl_Part_codeOf.l0 k x41 x42 (wrap64 (x43 + 1)) x328000 x328001 x328002 x328003 x331000 x331001 x331002 x331003)) else (none)) else (none)) else (if x328002 < x331002 then (some (2, 0)) else (some (3, 0)))
end
def impl_Part_codeOf.f (k : Nat) (l0_0 : List (S81)) (l0_1 : List (S78)) (a0_2 : Int) (a1_0 : Int) (a1_1 : Int) (a1_2 : Int) (l1_3 : List ByteArray) : Option (Int × Int) := (impl_Part_producerAt.f l0_0 l0_1 a0_2 a1_0).bind fun t328 => (if t328 ≥ 0 then (if 0 ≤ t328 then (if t328 < (l0_0.length : Int) then (if ((rd_T81 l0_0 t328).f1) > a1_1 then (some (4, 0)) else (if ((rd_T81 l0_0 t328).f1) = a1_1 then (if a1_2 = ((rd_T81 l0_0 t328).f2) then (impl_Part_codeOf.j1 k t328 (((rd_T81 l0_0 t328).f1) == a1_1) l0_0 l0_1 a0_2 a1_0 a1_1 a1_2 l1_3) else (impl_Part_codeOf.l0 k ((rd_T81 l0_0 t328).f3) (((rd_T81 l0_0 t328).f3).length : Int) 0 a1_0 a1_1 a1_2 l1_3 ((rd_T81 l0_0 t328).f0) ((rd_T81 l0_0 t328).f1) ((rd_T81 l0_0 t328).f2) ((rd_T81 l0_0 t328).f3))) else (impl_Part_codeOf.j1 k t328 (((rd_T81 l0_0 t328).f1) == a1_1) l0_0 l0_1 a0_2 a1_0 a1_1 a1_2 l1_3))) else (none)) else (none)) else (impl_Part_codeOf.j1 k t328 false l0_0 l0_1 a0_2 a1_0 a1_1 a1_2 l1_3))
theorem impl_Part_codeOf.mono_l : ∀ k, (∀ y0 y1 y2 y3 y4 y5 y6 y7 y8, LeO (impl_Part_codeOf.j1 k y0 y1 y2 y3 y4 y5 y6 y7 y8) (impl_Part_codeOf.j1 (k + 1) y0 y1 y2 y3 y4 y5 y6 y7 y8)) ∧ (∀ y0 y1 y2 y3 y4 y5 y6 y7 y8, LeO (impl_Part_codeOf.j2 k y0 y1 y2 y3 y4 y5 y6 y7 y8) (impl_Part_codeOf.j2 (k + 1) y0 y1 y2 y3 y4 y5 y6 y7 y8)) ∧ (∀ y0 y1 y2 y3 y4 y5 y6 y7 y8 y9 y10, LeO (impl_Part_codeOf.l0 k y0 y1 y2 y3 y4 y5 y6 y7 y8 y9 y10) (impl_Part_codeOf.l0 (k + 1) y0 y1 y2 y3 y4 y5 y6 y7 y8 y9 y10))
 | 0 => ⟨fun _ _ _ _ _ _ _ _ _ r h => by simp [impl_Part_codeOf.j1] at h, fun _ _ _ _ _ _ _ _ _ r h => by simp [impl_Part_codeOf.j2] at h, fun _ _ _ _ _ _ _ _ _ _ _ r h => by simp [impl_Part_codeOf.l0] at h⟩
 | k + 1 => by
  obtain ⟨ih0, ih1, ih2⟩ := impl_Part_codeOf.mono_l k
  refine ⟨?_, ?_, ?_⟩
  all_goals intros; first | unfold impl_Part_codeOf.j1 | unfold impl_Part_codeOf.j2 | unfold impl_Part_codeOf.l0
  all_goals repeat' first | (with_reducible first | apply ih0 | apply ih1 | apply ih2 | exact LeO.refl _ | exact LeO.none _ | refine LeO.ite ?_ ?_ | refine LeO.bind ?_ (fun _ => ?_))
theorem impl_Part_codeOf.mono : ∀ a0 a1 a2 a3 a4 a5 a6 k, LeO (impl_Part_codeOf.f k a0 a1 a2 a3 a4 a5 a6) (impl_Part_codeOf.f (k + 1) a0 a1 a2 a3 a4 a5 a6) := by
 intro a0 a1 a2 a3 a4 a5 a6 k
 obtain ⟨ih0, ih1, ih2⟩ := impl_Part_codeOf.mono_l k
 unfold impl_Part_codeOf.f
 repeat' first
   | (with_reducible first | apply ih0 | apply ih1 | apply ih2 | exact LeO.refl _ | exact LeO.none _ | refine LeO.ite ?_ ?_ | refine LeO.bind ?_ (fun _ => ?_))
set_option maxHeartbeats 8000000 in
set_option maxRecDepth 100000 in
theorem impl_Part_codeOf.calls (k : Nat) (A0_0 : Option Addr) (c0_0 : Nat) (l0_0 : List (S81)) (A0_1 : Option Addr) (c0_1 : Nat) (l0_1 : List (S78)) (a0_2 : Int) (a1_0 : Int) (a1_1 : Int) (a1_2 : Int) (A1_3 : Option Addr) (c1_3 : Nat) (l1_3 : List ByteArray) (r1 : Int) (r2 : Int) (w : World) (hr0_0 : Kd.C k81 w A0_0 l0_0.length l0_0) (hc0_0 : l0_0.length ≤ c0_0) (hr0_1 : Kd.C k78 w A0_1 l0_1.length l0_1) (hc0_1 : l0_1.length ≤ c0_1) (hr1_3 : Kd.C Kd.string w A1_3 l1_3.length l1_3) (hc1_3 : l1_3.length ≤ c1_3) (h : impl_Part_codeOf.f k l0_0 l0_1 a0_2 a1_0 a1_1 a1_2 l1_3 = some (r1, r2)) :
  Calls Try.prog 65 #[.agg #[.slice A0_0 l0_0.length c0_0, .slice A0_1 l0_1.length c0_1, .int .i64 a0_2], .agg #[.int .i64 a1_0, .int .i64 a1_1, .int .i64 a1_2, .slice A1_3 l1_3.length c1_3]] w fun e w' => e = .returned (.tuple #[.int .i64 r1, .int .i64 r2]) ∧ Below w.heap.size w w' := by
 have hu33 := Try.underlying33
 have hu57 := Try.underlying57
 have hu81 := Try.underlying81
 have hu112 := Try.underlying112
 have HR0_0 := am_ hr0_0
 have HC0_0 := am_ hc0_0
 clear hr0_0 hc0_0
 have HR0_1 := am_ hr0_1
 have HC0_1 := am_ hc0_1
 clear hr0_1 hc0_1
 have HR1_3 := am_ hr1_3
 have HC1_3 := am_ hc1_3
 clear hr1_3 hc1_3
 have HB := am_ (Below.refl w.heap.size w)
 have H : ((impl_Part_producerAt.f l0_0 l0_1 a0_2 a1_0).bind fun t328 => (if t328 ≥ 0 then (if 0 ≤ t328 then (if t328 < (l0_0.length : Int) then (if ((rd_T81 l0_0 t328).f1) > a1_1 then (some (4, 0)) else (if ((rd_T81 l0_0 t328).f1) = a1_1 then (if a1_2 = ((rd_T81 l0_0 t328).f2) then (impl_Part_codeOf.j1 k t328 (((rd_T81 l0_0 t328).f1) == a1_1) l0_0 l0_1 a0_2 a1_0 a1_1 a1_2 l1_3) else (impl_Part_codeOf.l0 k ((rd_T81 l0_0 t328).f3) (((rd_T81 l0_0 t328).f3).length : Int) 0 a1_0 a1_1 a1_2 l1_3 ((rd_T81 l0_0 t328).f0) ((rd_T81 l0_0 t328).f1) ((rd_T81 l0_0 t328).f2) ((rd_T81 l0_0 t328).f3))) else (impl_Part_codeOf.j1 k t328 (((rd_T81 l0_0 t328).f1) == a1_1) l0_0 l0_1 a0_2 a1_0 a1_1 a1_2 l1_3))) else (none)) else (none)) else (impl_Part_codeOf.j1 k t328 false l0_0 l0_1 a0_2 a1_0 a1_1 a1_2 l1_3))) = some (r1, r2) := h
 clear h
 replace H := bnd_ H
 obtain ⟨t328, A3, H⟩ := H
 have HC4 := am_ H
 clear H
 go_enter Try.func65, Try.ntmps65
 go_upto_if 16 with (first | ((with_reducible refine gate_dst (N := 2) rfl ?_); (try (refine gate_guard (by rfl) ?_; dsimp only)); refine bq_ (N := 2) #[.slice A0_0 l0_0.length c0_0, .slice A0_1 l0_1.length c0_1, .int .i64 a0_2] 33 ?_; intro gb326 hg w5 BK326 hb; have GE326 := ge_ hg; replace HB := nb_ hb; clear hb hg) | ((with_reducible refine gate_dst (N := 3) rfl ?_); (try (refine gate_guard (by rfl) ?_; dsimp only)); refine bq_ (N := 3) #[.int .i64 a1_0, .int .i64 a1_1, .int .i64 a1_2, .slice A1_3 l1_3.length c1_3] 57 ?_; intro gb327 hg w6 BK327 hb; have GE327 := ge1_ hg GE326; replace HB := nc_ GE326 hb; have NB326_327 := nl_ BK326 hg; have NB327_326 := ng_ BK326 hg; replace BK326 := bK_ BK326 hb; clear hb hg; have hnb7 := NB326_327.out; have hnc7 := NB327_326.out; obtain ⟨hcz8_0, hcz8_1, hcz8_2, hfz8_0, hfz8_1, hfz8_2⟩ := cf3_ BK326.out; obtain ⟨hcz9_0, hcz9_1, hcz9_2, hcz9_3, hfz9_0, hfz9_1, hfz9_2, hfz9_3⟩ := cf4_ BK327.out) | (go_at_call 50; (with_reducible refine (impl_Part_producerAt.calls _ _ l0_0 _ _ l0_1 a0_2 a1_0 t328 _ ?side1 ?side2 ?side3 ?side4 A3.out).mono ?_); (case side1 => exact cs_ ((Kd.C_below HR0_0.out HB.out))); (case side2 => exact HC0_0.out); (case side3 => exact cs_ ((Kd.C_below HR0_1.out HB.out))); (case side4 => exact HC0_1.out); rintro e w10 ⟨rfl, hb⟩; replace BK326 := bK_ BK326 hb; replace BK327 := bK_ BK327 hb; replace HB := nc2_ GE326 GE327 hb; (try clear hb); (try clear hb2); (try clear hk); (try clear hi)))
 repeat (go_quiet (first | ((with_reducible refine gate_dst (N := 2) rfl ?_); (try (refine gate_guard (by rfl) ?_; dsimp only)); refine bq_ (N := 2) #[.slice A0_0 l0_0.length c0_0, .slice A0_1 l0_1.length c0_1, .int .i64 a0_2] 33 ?_; intro gb326 hg w5 BK326 hb; have GE326 := ge_ hg; replace HB := nb_ hb; clear hb hg) | ((with_reducible refine gate_dst (N := 3) rfl ?_); (try (refine gate_guard (by rfl) ?_; dsimp only)); refine bq_ (N := 3) #[.int .i64 a1_0, .int .i64 a1_1, .int .i64 a1_2, .slice A1_3 l1_3.length c1_3] 57 ?_; intro gb327 hg w6 BK327 hb; have GE327 := ge1_ hg GE326; replace HB := nc_ GE326 hb; have NB326_327 := nl_ BK326 hg; have NB327_326 := ng_ BK326 hg; replace BK326 := bK_ BK326 hb; clear hb hg; have hnb7 := NB326_327.out; have hnc7 := NB327_326.out; obtain ⟨hcz8_0, hcz8_1, hcz8_2, hfz8_0, hfz8_1, hfz8_2⟩ := cf3_ BK326.out; obtain ⟨hcz9_0, hcz9_1, hcz9_2, hcz9_3, hfz9_0, hfz9_1, hfz9_2, hfz9_3⟩ := cf4_ BK327.out) | (go_at_call 50; (with_reducible refine (impl_Part_producerAt.calls _ _ l0_0 _ _ l0_1 a0_2 a1_0 t328 _ ?side1 ?side2 ?side3 ?side4 A3.out).mono ?_); (case side1 => exact cs_ ((Kd.C_below HR0_0.out HB.out))); (case side2 => exact HC0_0.out); (case side3 => exact cs_ ((Kd.C_below HR0_1.out HB.out))); (case side4 => exact HC0_1.out); rintro e w10 ⟨rfl, hb⟩; replace BK326 := bK_ BK326 hb; replace BK327 := bK_ BK327 hb; replace HB := nc2_ GE326 GE327 hb; (try clear hb); (try clear hb2); (try clear hk); (try clear hi))); go_upto_if 16 with (first | ((with_reducible refine gate_dst (N := 2) rfl ?_); (try (refine gate_guard (by rfl) ?_; dsimp only)); refine bq_ (N := 2) #[.slice A0_0 l0_0.length c0_0, .slice A0_1 l0_1.length c0_1, .int .i64 a0_2] 33 ?_; intro gb326 hg w5 BK326 hb; have GE326 := ge_ hg; replace HB := nb_ hb; clear hb hg) | ((with_reducible refine gate_dst (N := 3) rfl ?_); (try (refine gate_guard (by rfl) ?_; dsimp only)); refine bq_ (N := 3) #[.int .i64 a1_0, .int .i64 a1_1, .int .i64 a1_2, .slice A1_3 l1_3.length c1_3] 57 ?_; intro gb327 hg w6 BK327 hb; have GE327 := ge1_ hg GE326; replace HB := nc_ GE326 hb; have NB326_327 := nl_ BK326 hg; have NB327_326 := ng_ BK326 hg; replace BK326 := bK_ BK326 hb; clear hb hg; have hnb7 := NB326_327.out; have hnc7 := NB327_326.out; obtain ⟨hcz8_0, hcz8_1, hcz8_2, hfz8_0, hfz8_1, hfz8_2⟩ := cf3_ BK326.out; obtain ⟨hcz9_0, hcz9_1, hcz9_2, hcz9_3, hfz9_0, hfz9_1, hfz9_2, hfz9_3⟩ := cf4_ BK327.out) | (go_at_call 50; (with_reducible refine (impl_Part_producerAt.calls _ _ l0_0 _ _ l0_1 a0_2 a1_0 t328 _ ?side1 ?side2 ?side3 ?side4 A3.out).mono ?_); (case side1 => exact cs_ ((Kd.C_below HR0_0.out HB.out))); (case side2 => exact HC0_0.out); (case side3 => exact cs_ ((Kd.C_below HR0_1.out HB.out))); (case side4 => exact HC0_1.out); rintro e w10 ⟨rfl, hb⟩; replace BK326 := bK_ BK326 hb; replace BK327 := bK_ BK327 hb; replace HB := nc2_ GE326 GE327 hb; (try clear hb); (try clear hb2); (try clear hk); (try clear hi))))
 (try simp only [Act.put, List.setIfInBounds_toArray, List.set_cons_zero, List.set_cons_succ])
 go_cut [7] (fun v7 wc => ∃ (kq : Nat) (x7_3 : Bool), v7 = .bool x7_3 ∧ Aside0 (impl_Part_codeOf.j1 kq t328 x7_3 l0_0 l0_1 a0_2 a1_0 a1_1 a1_2 l1_3 = some (r1, r2)) ∧ Aside0 (kq ≤ k) ∧ Aside0 (wc.heap[gb326]? = some (.cells #[(.slice A0_0 l0_0.length c0_0), (.slice A0_1 l0_1.length c0_1), .int .i64 a0_2] 33 (0, 0))) ∧ Aside0 (wc.heap[gb327]? = some (.cells #[.int .i64 a1_0, .int .i64 a1_1, .int .i64 a1_2, (.slice A1_3 l1_3.length c1_3)] 57 (0, 0))) ∧ Aside0 (Below w.heap.size w wc))
 case first =>
  have H := HC4.out
  clear HC4
  replace H := ite_ H
  obtain ⟨c11, H⟩ | ⟨c11, H⟩ := H
  rotate_left
  ·have c11b0 := dne_ c11
   clear c11
   (first | rw [c11b0] | (simp only [i64_w, i32_w]; rw [c11b0]) | rw [c11b1] | skip)
   have H' := am_ H
   clear H
   go_wp2
   repeat (go_quiet (fail); try go_wp2)
   go_meet
   case rel => exact ⟨_, (false), sr_, H', ⟨by first | omega | exact Nat.le_refl _⟩, ⟨kb_ BK326.out⟩, ⟨kb_ BK327.out⟩, ⟨hs2_ GE326.out GE327.out⟩⟩
  have c11b0 := dge_ c11
  clear c11
  (first | rw [c11b0] | (simp only [i64_w, i32_w]; rw [c11b0]) | rw [c11b1] | skip)
  replace H := ifs_ H
  obtain ⟨c12, H⟩ := H
  have c12b0 := decide_eq_true c12
  clear c12
  replace H := ifs_ H
  obtain ⟨c13, H⟩ := H
  have c13b0 := decide_eq_true c13
  clear c13
  replace H := ite_ H
  obtain ⟨c14, H⟩ | ⟨c14, H⟩ := H
  ·have c14b0 := dgt_ c14
   clear c14
   simp only [Option.some.injEq, Prod.mk.injEq] at H
   obtain ⟨rfl, rfl⟩ := H
   have hnb15 := NB326_327.out
   have hnc15 := NB327_326.out
   obtain ⟨hcz16_0, hcz16_1, hcz16_2, hfz16_0, hfz16_1, hfz16_2⟩ := cf3_ BK326.out
   have p329 : 0 ≤ (t328 : Int) := oa_
   have q329 : t328 < (l0_0.length : Int) := oa_
   obtain ⟨ad329, A329_3, c329_3, e329, hx329_0, hx329_1, hx329_2, hx329_3, hl329_3, hi329_3⟩ := at_T81 HR0_0.out t328 p329 q329
   cases e329
   replace hx329_0 := pc_ HB.out hx329_0
   replace hx329_1 := pc_ HB.out hx329_1
   replace hx329_2 := pc_ HB.out hx329_2
   replace hx329_3 := pc_ HB.out hx329_3
   have HR329_3 := am_ hi329_3
   have HC329_3 := am_ hl329_3
   clear hi329_3 hl329_3
   replace p329 := eq_true p329
   replace q329 := eq_true q329
   go_wp2_with (first | ((with_reducible refine gate_dst (N := 8) rfl ?_); (try (refine gate_guard (by rfl) ?_; dsimp only)); refine bq_ (N := 8) #[.int .i64 0, .int .i64 0, .int .i64 0, .slice none 0 0] 81 ?_; intro gb330 hg w17 BK330 hb; have GE330 := ge2_ hg GE326 GE327; replace HB := nc2_ GE326 GE327 hb; have NB326_330 := nl_ BK326 hg; have NB330_326 := ng_ BK326 hg; replace BK326 := bK_ BK326 hb; have NB327_330 := nl_ BK327 hg; have NB330_327 := ng_ BK327 hg; replace BK327 := bK_ BK327 hb; clear hb hg; have hnb18 := NB330_326.out; have hnc18 := NB326_330.out; have hnb19 := NB330_327.out; have hnc19 := NB327_330.out; obtain ⟨hcz20_0, hcz20_1, hcz20_2, hcz20_3, hfz20_0, hfz20_1, hfz20_2, hfz20_3⟩ := cf4_ BK330.out; obtain ⟨hcz21_0, hcz21_1, hcz21_2, hcz21_3, hfz21_0, hfz21_1, hfz21_2, hfz21_3⟩ := cf4_ BK327.out))
   repeat (go_quiet (first | ((with_reducible refine gate_dst (N := 8) rfl ?_); (try (refine gate_guard (by rfl) ?_; dsimp only)); refine bq_ (N := 8) #[.int .i64 0, .int .i64 0, .int .i64 0, .slice none 0 0] 81 ?_; intro gb330 hg w17 BK330 hb; have GE330 := ge2_ hg GE326 GE327; replace HB := nc2_ GE326 GE327 hb; have NB326_330 := nl_ BK326 hg; have NB330_326 := ng_ BK326 hg; replace BK326 := bK_ BK326 hb; have NB327_330 := nl_ BK327 hg; have NB330_327 := ng_ BK327 hg; replace BK327 := bK_ BK327 hb; clear hb hg; have hnb18 := NB330_326.out; have hnc18 := NB326_330.out; have hnb19 := NB330_327.out; have hnc19 := NB327_330.out; obtain ⟨hcz20_0, hcz20_1, hcz20_2, hcz20_3, hfz20_0, hfz20_1, hfz20_2, hfz20_3⟩ := cf4_ BK330.out; obtain ⟨hcz21_0, hcz21_1, hcz21_2, hcz21_3, hfz21_0, hfz21_1, hfz21_2, hfz21_3⟩ := cf4_ BK327.out)); try go_wp2_with (first | ((with_reducible refine gate_dst (N := 8) rfl ?_); (try (refine gate_guard (by rfl) ?_; dsimp only)); refine bq_ (N := 8) #[.int .i64 0, .int .i64 0, .int .i64 0, .slice none 0 0] 81 ?_; intro gb330 hg w17 BK330 hb; have GE330 := ge2_ hg GE326 GE327; replace HB := nc2_ GE326 GE327 hb; have NB326_330 := nl_ BK326 hg; have NB330_326 := ng_ BK326 hg; replace BK326 := bK_ BK326 hb; have NB327_330 := nl_ BK327 hg; have NB330_327 := ng_ BK327 hg; replace BK327 := bK_ BK327 hb; clear hb hg; have hnb18 := NB330_326.out; have hnc18 := NB326_330.out; have hnb19 := NB330_327.out; have hnc19 := NB327_330.out; obtain ⟨hcz20_0, hcz20_1, hcz20_2, hcz20_3, hfz20_0, hfz20_1, hfz20_2, hfz20_3⟩ := cf4_ BK330.out; obtain ⟨hcz21_0, hcz21_1, hcz21_2, hcz21_3, hfz21_0, hfz21_1, hfz21_2, hfz21_3⟩ := cf4_ BK327.out)))
   go_ret2
   exact ⟨er_, hs3_ GE326.out GE327.out GE330.out⟩
  have c14b0 := dgf_ c14
  clear c14
  replace H := ite_ H
  obtain ⟨c22, H⟩ | ⟨c22, H⟩ := H
  rotate_left
  ·have c22b0 : (((rd_T81 l0_0 t328).f1) == a1_1) = false := beq_eq_false_iff_ne.mpr c22
   have c22b1 : (((rd_T81 l0_0 t328).f1) != a1_1) = true := bne_iff_ne.mpr c22
   have H' := am_ H
   clear H
   have hnb78 := NB326_327.out
   have hnc78 := NB327_326.out
   obtain ⟨hcz79_0, hcz79_1, hcz79_2, hfz79_0, hfz79_1, hfz79_2⟩ := cf3_ BK326.out
   have p329 : 0 ≤ (t328 : Int) := oa_
   have q329 : t328 < (l0_0.length : Int) := oa_
   obtain ⟨ad329, A329_3, c329_3, e329, hx329_0, hx329_1, hx329_2, hx329_3, hl329_3, hi329_3⟩ := at_T81 HR0_0.out t328 p329 q329
   cases e329
   replace hx329_0 := pc_ HB.out hx329_0
   replace hx329_1 := pc_ HB.out hx329_1
   replace hx329_2 := pc_ HB.out hx329_2
   replace hx329_3 := pc_ HB.out hx329_3
   have HR329_3 := am_ hi329_3
   have HC329_3 := am_ hl329_3
   clear hi329_3 hl329_3
   replace p329 := eq_true p329
   replace q329 := eq_true q329
   go_wp2_with (first | ((with_reducible refine gate_dst (N := 8) rfl ?_); (try (refine gate_guard (by rfl) ?_; dsimp only)); refine bq_ (N := 8) #[.int .i64 0, .int .i64 0, .int .i64 0, .slice none 0 0] 81 ?_; intro gb330 hg w80 BK330 hb; have GE330 := ge2_ hg GE326 GE327; replace HB := nc2_ GE326 GE327 hb; have NB326_330 := nl_ BK326 hg; have NB330_326 := ng_ BK326 hg; replace BK326 := bK_ BK326 hb; have NB327_330 := nl_ BK327 hg; have NB330_327 := ng_ BK327 hg; replace BK327 := bK_ BK327 hb; clear hb hg; have hnb81 := NB330_326.out; have hnc81 := NB326_330.out; have hnb82 := NB330_327.out; have hnc82 := NB327_330.out; obtain ⟨hcz83_0, hcz83_1, hcz83_2, hcz83_3, hfz83_0, hfz83_1, hfz83_2, hfz83_3⟩ := cf4_ BK330.out; obtain ⟨hcz84_0, hcz84_1, hcz84_2, hcz84_3, hfz84_0, hfz84_1, hfz84_2, hfz84_3⟩ := cf4_ BK327.out))
   repeat (go_quiet (first | ((with_reducible refine gate_dst (N := 8) rfl ?_); (try (refine gate_guard (by rfl) ?_; dsimp only)); refine bq_ (N := 8) #[.int .i64 0, .int .i64 0, .int .i64 0, .slice none 0 0] 81 ?_; intro gb330 hg w80 BK330 hb; have GE330 := ge2_ hg GE326 GE327; replace HB := nc2_ GE326 GE327 hb; have NB326_330 := nl_ BK326 hg; have NB330_326 := ng_ BK326 hg; replace BK326 := bK_ BK326 hb; have NB327_330 := nl_ BK327 hg; have NB330_327 := ng_ BK327 hg; replace BK327 := bK_ BK327 hb; clear hb hg; have hnb81 := NB330_326.out; have hnc81 := NB326_330.out; have hnb82 := NB330_327.out; have hnc82 := NB327_330.out; obtain ⟨hcz83_0, hcz83_1, hcz83_2, hcz83_3, hfz83_0, hfz83_1, hfz83_2, hfz83_3⟩ := cf4_ BK330.out; obtain ⟨hcz84_0, hcz84_1, hcz84_2, hcz84_3, hfz84_0, hfz84_1, hfz84_2, hfz84_3⟩ := cf4_ BK327.out)); try go_wp2_with (first | ((with_reducible refine gate_dst (N := 8) rfl ?_); (try (refine gate_guard (by rfl) ?_; dsimp only)); refine bq_ (N := 8) #[.int .i64 0, .int .i64 0, .int .i64 0, .slice none 0 0] 81 ?_; intro gb330 hg w80 BK330 hb; have GE330 := ge2_ hg GE326 GE327; replace HB := nc2_ GE326 GE327 hb; have NB326_330 := nl_ BK326 hg; have NB330_326 := ng_ BK326 hg; replace BK326 := bK_ BK326 hb; have NB327_330 := nl_ BK327 hg; have NB330_327 := ng_ BK327 hg; replace BK327 := bK_ BK327 hb; clear hb hg; have hnb81 := NB330_326.out; have hnc81 := NB326_330.out; have hnb82 := NB330_327.out; have hnc82 := NB327_330.out; obtain ⟨hcz83_0, hcz83_1, hcz83_2, hcz83_3, hfz83_0, hfz83_1, hfz83_2, hfz83_3⟩ := cf4_ BK330.out; obtain ⟨hcz84_0, hcz84_1, hcz84_2, hcz84_3, hfz84_0, hfz84_1, hfz84_2, hfz84_3⟩ := cf4_ BK327.out)))
   go_meet
   case rel => exact ⟨_, ((((rd_T81 l0_0 t328).f1) == a1_1)), sr_, H', ⟨by first | omega | exact Nat.le_refl _⟩, ⟨uf_ BK326 NB326_330.out⟩, ⟨uf_ BK327 NB327_330.out⟩, ⟨hs3_ GE326.out GE327.out GE330.out⟩⟩
  have c22b0 : (((rd_T81 l0_0 t328).f1) == a1_1) = true := beq_iff_eq.mpr c22
  have c22b1 : (((rd_T81 l0_0 t328).f1) != a1_1) = false := bne_eq_false_iff_eq.mpr c22
  clear c22
  replace H := ite_ H
  obtain ⟨c23, H⟩ | ⟨c23, H⟩ := H
  ·have c23b0 : (a1_2 == ((rd_T81 l0_0 t328).f2)) = true := beq_iff_eq.mpr c23
   have c23b1 : (a1_2 != ((rd_T81 l0_0 t328).f2)) = false := bne_eq_false_iff_eq.mpr c23
   clear c23
   have H' := am_ H
   clear H
   have hnb24 := NB326_327.out
   have hnc24 := NB327_326.out
   obtain ⟨hcz25_0, hcz25_1, hcz25_2, hfz25_0, hfz25_1, hfz25_2⟩ := cf3_ BK326.out
   have p329 : 0 ≤ (t328 : Int) := oa_
   have q329 : t328 < (l0_0.length : Int) := oa_
   obtain ⟨ad329, A329_3, c329_3, e329, hx329_0, hx329_1, hx329_2, hx329_3, hl329_3, hi329_3⟩ := at_T81 HR0_0.out t328 p329 q329
   cases e329
   replace hx329_0 := pc_ HB.out hx329_0
   replace hx329_1 := pc_ HB.out hx329_1
   replace hx329_2 := pc_ HB.out hx329_2
   replace hx329_3 := pc_ HB.out hx329_3
   have HR329_3 := am_ hi329_3
   have HC329_3 := am_ hl329_3
   clear hi329_3 hl329_3
   replace p329 := eq_true p329
   replace q329 := eq_true q329
   go_wp2_with (first | ((with_reducible refine gate_dst (N := 8) rfl ?_); (try (refine gate_guard (by rfl) ?_; dsimp only)); refine bq_ (N := 8) #[.int .i64 0, .int .i64 0, .int .i64 0, .slice none 0 0] 81 ?_; intro gb330 hg w26 BK330 hb; have GE330 := ge2_ hg GE326 GE327; replace HB := nc2_ GE326 GE327 hb; have NB326_330 := nl_ BK326 hg; have NB330_326 := ng_ BK326 hg; replace BK326 := bK_ BK326 hb; have NB327_330 := nl_ BK327 hg; have NB330_327 := ng_ BK327 hg; replace BK327 := bK_ BK327 hb; clear hb hg; have hnb27 := NB330_326.out; have hnc27 := NB326_330.out; have hnb28 := NB330_327.out; have hnc28 := NB327_330.out; obtain ⟨hcz29_0, hcz29_1, hcz29_2, hcz29_3, hfz29_0, hfz29_1, hfz29_2, hfz29_3⟩ := cf4_ BK330.out; obtain ⟨hcz30_0, hcz30_1, hcz30_2, hcz30_3, hfz30_0, hfz30_1, hfz30_2, hfz30_3⟩ := cf4_ BK327.out))
   repeat (go_quiet (first | ((with_reducible refine gate_dst (N := 8) rfl ?_); (try (refine gate_guard (by rfl) ?_; dsimp only)); refine bq_ (N := 8) #[.int .i64 0, .int .i64 0, .int .i64 0, .slice none 0 0] 81 ?_; intro gb330 hg w26 BK330 hb; have GE330 := ge2_ hg GE326 GE327; replace HB := nc2_ GE326 GE327 hb; have NB326_330 := nl_ BK326 hg; have NB330_326 := ng_ BK326 hg; replace BK326 := bK_ BK326 hb; have NB327_330 := nl_ BK327 hg; have NB330_327 := ng_ BK327 hg; replace BK327 := bK_ BK327 hb; clear hb hg; have hnb27 := NB330_326.out; have hnc27 := NB326_330.out; have hnb28 := NB330_327.out; have hnc28 := NB327_330.out; obtain ⟨hcz29_0, hcz29_1, hcz29_2, hcz29_3, hfz29_0, hfz29_1, hfz29_2, hfz29_3⟩ := cf4_ BK330.out; obtain ⟨hcz30_0, hcz30_1, hcz30_2, hcz30_3, hfz30_0, hfz30_1, hfz30_2, hfz30_3⟩ := cf4_ BK327.out)); try go_wp2_with (first | ((with_reducible refine gate_dst (N := 8) rfl ?_); (try (refine gate_guard (by rfl) ?_; dsimp only)); refine bq_ (N := 8) #[.int .i64 0, .int .i64 0, .int .i64 0, .slice none 0 0] 81 ?_; intro gb330 hg w26 BK330 hb; have GE330 := ge2_ hg GE326 GE327; replace HB := nc2_ GE326 GE327 hb; have NB326_330 := nl_ BK326 hg; have NB330_326 := ng_ BK326 hg; replace BK326 := bK_ BK326 hb; have NB327_330 := nl_ BK327 hg; have NB330_327 := ng_ BK327 hg; replace BK327 := bK_ BK327 hb; clear hb hg; have hnb27 := NB330_326.out; have hnc27 := NB326_330.out; have hnb28 := NB330_327.out; have hnc28 := NB327_330.out; obtain ⟨hcz29_0, hcz29_1, hcz29_2, hcz29_3, hfz29_0, hfz29_1, hfz29_2, hfz29_3⟩ := cf4_ BK330.out; obtain ⟨hcz30_0, hcz30_1, hcz30_2, hcz30_3, hfz30_0, hfz30_1, hfz30_2, hfz30_3⟩ := cf4_ BK327.out)))
   go_meet
   case rel => exact ⟨_, ((((rd_T81 l0_0 t328).f1) == a1_1)), sr_, H', ⟨by first | omega | exact Nat.le_refl _⟩, ⟨uf_ BK326 NB326_330.out⟩, ⟨uf_ BK327 NB327_330.out⟩, ⟨hs3_ GE326.out GE327.out GE330.out⟩⟩
  have c23b0 : (a1_2 == ((rd_T81 l0_0 t328).f2)) = false := beq_eq_false_iff_ne.mpr c23
  have c23b1 : (a1_2 != ((rd_T81 l0_0 t328).f2)) = true := bne_iff_ne.mpr c23
  have H' := am_ H
  clear H
  have hnb31 := NB326_327.out
  have hnc31 := NB327_326.out
  obtain ⟨hcz32_0, hcz32_1, hcz32_2, hfz32_0, hfz32_1, hfz32_2⟩ := cf3_ BK326.out
  have p329 : 0 ≤ (t328 : Int) := oa_
  have q329 : t328 < (l0_0.length : Int) := oa_
  obtain ⟨ad329, A329_3, c329_3, e329, hx329_0, hx329_1, hx329_2, hx329_3, hl329_3, hi329_3⟩ := at_T81 HR0_0.out t328 p329 q329
  cases e329
  replace hx329_0 := pc_ HB.out hx329_0
  replace hx329_1 := pc_ HB.out hx329_1
  replace hx329_2 := pc_ HB.out hx329_2
  replace hx329_3 := pc_ HB.out hx329_3
  have HR329_3 := am_ hi329_3
  have HC329_3 := am_ hl329_3
  clear hi329_3 hl329_3
  replace p329 := eq_true p329
  replace q329 := eq_true q329
  go_wp2_with (first | ((with_reducible refine gate_dst (N := 8) rfl ?_); (try (refine gate_guard (by rfl) ?_; dsimp only)); refine bq_ (N := 8) #[.int .i64 0, .int .i64 0, .int .i64 0, .slice none 0 0] 81 ?_; intro gb330 hg w33 BK330 hb; have GE330 := ge2_ hg GE326 GE327; replace HB := nc2_ GE326 GE327 hb; have NB326_330 := nl_ BK326 hg; have NB330_326 := ng_ BK326 hg; replace BK326 := bK_ BK326 hb; have NB327_330 := nl_ BK327 hg; have NB330_327 := ng_ BK327 hg; replace BK327 := bK_ BK327 hb; clear hb hg; have hnb34 := NB330_326.out; have hnc34 := NB326_330.out; have hnb35 := NB330_327.out; have hnc35 := NB327_330.out; obtain ⟨hcz36_0, hcz36_1, hcz36_2, hcz36_3, hfz36_0, hfz36_1, hfz36_2, hfz36_3⟩ := cf4_ BK330.out; obtain ⟨hcz37_0, hcz37_1, hcz37_2, hcz37_3, hfz37_0, hfz37_1, hfz37_2, hfz37_3⟩ := cf4_ BK327.out))
  repeat (go_quiet (first | ((with_reducible refine gate_dst (N := 8) rfl ?_); (try (refine gate_guard (by rfl) ?_; dsimp only)); refine bq_ (N := 8) #[.int .i64 0, .int .i64 0, .int .i64 0, .slice none 0 0] 81 ?_; intro gb330 hg w33 BK330 hb; have GE330 := ge2_ hg GE326 GE327; replace HB := nc2_ GE326 GE327 hb; have NB326_330 := nl_ BK326 hg; have NB330_326 := ng_ BK326 hg; replace BK326 := bK_ BK326 hb; have NB327_330 := nl_ BK327 hg; have NB330_327 := ng_ BK327 hg; replace BK327 := bK_ BK327 hb; clear hb hg; have hnb34 := NB330_326.out; have hnc34 := NB326_330.out; have hnb35 := NB330_327.out; have hnc35 := NB327_330.out; obtain ⟨hcz36_0, hcz36_1, hcz36_2, hcz36_3, hfz36_0, hfz36_1, hfz36_2, hfz36_3⟩ := cf4_ BK330.out; obtain ⟨hcz37_0, hcz37_1, hcz37_2, hcz37_3, hfz37_0, hfz37_1, hfz37_2, hfz37_3⟩ := cf4_ BK327.out)); try go_wp2_with (first | ((with_reducible refine gate_dst (N := 8) rfl ?_); (try (refine gate_guard (by rfl) ?_; dsimp only)); refine bq_ (N := 8) #[.int .i64 0, .int .i64 0, .int .i64 0, .slice none 0 0] 81 ?_; intro gb330 hg w33 BK330 hb; have GE330 := ge2_ hg GE326 GE327; replace HB := nc2_ GE326 GE327 hb; have NB326_330 := nl_ BK326 hg; have NB330_326 := ng_ BK326 hg; replace BK326 := bK_ BK326 hb; have NB327_330 := nl_ BK327 hg; have NB330_327 := ng_ BK327 hg; replace BK327 := bK_ BK327 hb; clear hb hg; have hnb34 := NB330_326.out; have hnc34 := NB326_330.out; have hnb35 := NB330_327.out; have hnc35 := NB327_330.out; obtain ⟨hcz36_0, hcz36_1, hcz36_2, hcz36_3, hfz36_0, hfz36_1, hfz36_2, hfz36_3⟩ := cf4_ BK330.out; obtain ⟨hcz37_0, hcz37_1, hcz37_2, hcz37_3, hfz37_0, hfz37_1, hfz37_2, hfz37_3⟩ := cf4_ BK327.out)))
  go_loopg [43] k (fun kq v43 w' => ∃ (x43_1 : Int), v43 = .int .i64 x43_1 ∧ Aside0 (impl_Part_codeOf.l0 kq ((rd_T81 l0_0 t328).f3) (((rd_T81 l0_0 t328).f3).length : Int) x43_1 a1_0 a1_1 a1_2 l1_3 ((rd_T81 l0_0 t328).f0) ((rd_T81 l0_0 t328).f1) ((rd_T81 l0_0 t328).f2) ((rd_T81 l0_0 t328).f3) = some (r1, r2)) ∧ Aside0 (kq ≤ k) ∧ Aside0 (w'.heap[gb326]? = some (.cells #[(.slice (some ad329) l0_0.length c0_0), (.slice A0_1 l0_1.length c0_1), .int .i64 a0_2] 33 (0, 0))) ∧ Aside0 (w'.heap[gb327]? = some (.cells #[.int .i64 a1_0, .int .i64 a1_1, .int .i64 a1_2, (.slice A1_3 l1_3.length c1_3)] 57 (0, 0))) ∧ Aside0 (w'.heap[gb330]? = some (.cells #[.int .i64 ((rd_T81 l0_0 t328).f0), .int .i64 ((rd_T81 l0_0 t328).f1), .int .i64 ((rd_T81 l0_0 t328).f2), (.slice A329_3 ((rd_T81 l0_0 t328).f3).length c329_3)] 81 (0, 0))) ∧ Aside0 (Below w.heap.size w w'))
  case atStart => exact ⟨(0), sr_, H', ⟨Nat.le_refl _⟩, ⟨uf_ BK326 NB326_330.out⟩, ⟨uf_ BK327 NB327_330.out⟩, ⟨up_ BK330⟩, ⟨hs3_ GE326.out GE327.out GE330.out⟩⟩
  case round =>
   clear H'
   try clear c11
   try clear c11b0
   try clear c12
   try clear c12b0
   try clear c13
   try clear c13b0
   try clear c14
   try clear c14b0
   try clear c22
   try clear c22b0
   try clear c22b1
   try clear c23
   try clear c23b0
   try clear c23b1
   try clear hcz32_0
   try clear hcz32_1
   try clear hcz32_2
   try clear hcz36_0
   try clear hcz36_1
   try clear hcz36_2
   try clear hcz36_3
   try clear hcz37_0
   try clear hcz37_1
   try clear hcz37_2
   try clear hcz37_3
   try clear hcz8_0
   try clear hcz8_1
   try clear hcz8_2
   try clear hcz9_0
   try clear hcz9_1
   try clear hcz9_2
   try clear hcz9_3
   try clear hfz32_0
   try clear hfz32_1
   try clear hfz32_2
   try clear hfz36_0
   try clear hfz36_1
   try clear hfz36_2
   try clear hfz36_3
   try clear hfz37_0
   try clear hfz37_1
   try clear hfz37_2
   try clear hfz37_3
   try clear hfz8_0
   try clear hfz8_1
   try clear hfz8_2
   try clear hfz9_0
   try clear hfz9_1
   try clear hfz9_2
   try clear hfz9_3
   try clear hx329_0
   try clear hx329_1
   try clear hx329_2
   try clear hx329_3
   try clear p329
   try clear q329
   obtain ⟨x43_1, rfl, HA, HK1, BK326, BK327, BK330, HB⟩ := hrel
   cases gk with
   | zero => exact absurd HA.out (by simp [impl_Part_codeOf.l0])
   | succ k1 =>
    have H := HA.out
    clear HA
    simp only [impl_Part_codeOf.l0] at H
    replace H := ite_ H
    obtain ⟨c38, H⟩ | ⟨c38, H⟩ := H
    rotate_left
    ·have c38b0 := decide_eq_false c38
     clear c38
     replace H := ite_ H
     obtain ⟨c67, H⟩ | ⟨c67, H⟩ := H
     ·have c67b0 := decide_eq_true c67
      clear c67
      simp only [Option.some.injEq, Prod.mk.injEq] at H
      obtain ⟨rfl, rfl⟩ := H
      have hnb68 := NB327_326.out
      have hnc68 := NB326_327.out
      have hnb69 := NB327_330.out
      have hnc69 := NB330_327.out
      obtain ⟨hcz70_0, hcz70_1, hcz70_2, hcz70_3, hfz70_0, hfz70_1, hfz70_2, hfz70_3⟩ := cf4_ BK327.out
      have hnb71 := NB330_326.out
      have hnc71 := NB326_330.out
      obtain ⟨hcz72_0, hcz72_1, hcz72_2, hcz72_3, hfz72_0, hfz72_1, hfz72_2, hfz72_3⟩ := cf4_ BK330.out
      go_wp2
      repeat (go_quiet (fail); try go_wp2)
      go_ret2
      exact ⟨er_, hs3_ GE326.out GE327.out GE330.out⟩
     have c67b0 := decide_eq_false c67
     clear c67
     simp only [Option.some.injEq, Prod.mk.injEq] at H
     obtain ⟨rfl, rfl⟩ := H
     have hnb73 := NB327_326.out
     have hnc73 := NB326_327.out
     have hnb74 := NB327_330.out
     have hnc74 := NB330_327.out
     obtain ⟨hcz75_0, hcz75_1, hcz75_2, hcz75_3, hfz75_0, hfz75_1, hfz75_2, hfz75_3⟩ := cf4_ BK327.out
     have hnb76 := NB330_326.out
     have hnc76 := NB326_330.out
     obtain ⟨hcz77_0, hcz77_1, hcz77_2, hcz77_3, hfz77_0, hfz77_1, hfz77_2, hfz77_3⟩ := cf4_ BK330.out
     go_wp2
     repeat (go_quiet (fail); try go_wp2)
     go_ret2
     exact ⟨er_, hs3_ GE326.out GE327.out GE330.out⟩
    have c38b0 := decide_eq_true c38
    clear c38
    replace H := ifs_ H
    obtain ⟨c39, H⟩ := H
    have c39b0 := decide_eq_true c39
    clear c39
    replace H := ifs_ H
    obtain ⟨c40, H⟩ := H
    have c40b0 := decide_eq_true c40
    clear c40
    replace H := ite_ H
    obtain ⟨c41, H⟩ | ⟨c41, H⟩ := H
    rotate_left
    ·have c41b0 : (((rd_T112 ((rd_T81 l0_0 t328).f3) x43_1).f0) == a1_2) = false := beq_eq_false_iff_ne.mpr c41
     have c41b1 : (((rd_T112 ((rd_T81 l0_0 t328).f3) x43_1).f0) != a1_2) = true := bne_iff_ne.mpr c41
     have H' := am_ H
     clear H
     have p331 : 0 ≤ (x43_1 : Int) := oa_
     have q331 : x43_1 < (((rd_T81 l0_0 t328).f3).length : Int) := oa_
     obtain ⟨ad331, e331, hx331_0, hx331_1, hx331_2⟩ := at_T112 HR329_3.out x43_1 p331 q331
     cases e331
     replace hx331_0 := pc_ HB.out hx331_0
     replace hx331_1 := pc_ HB.out hx331_1
     replace hx331_2 := pc_ HB.out hx331_2
     replace p331 := eq_true p331
     replace q331 := eq_true q331
     go_wp2_with (first | ((with_reducible refine gate_dst (N := 10) rfl ?_); (try (refine gate_guard (by rfl) ?_; dsimp only)); refine bq_ (N := 10) #[.int .i64 0, .int .i64 0, .int .i64 0] 112 ?_; intro gb332 hg w59 BK332 hb; have GE332 := ge3_ hg GE326 GE327 GE330; replace HB := nc3_ GE326 GE327 GE330 hb; have NB326_332 := nl_ BK326 hg; have NB332_326 := ng_ BK326 hg; replace BK326 := bK_ BK326 hb; have NB327_332 := nl_ BK327 hg; have NB332_327 := ng_ BK327 hg; replace BK327 := bK_ BK327 hb; have NB330_332 := nl_ BK330 hg; have NB332_330 := ng_ BK330 hg; replace BK330 := bK_ BK330 hb; clear hb hg; have hnb60 := NB332_326.out; have hnc60 := NB326_332.out; have hnb61 := NB332_327.out; have hnc61 := NB327_332.out; have hnb62 := NB332_330.out; have hnc62 := NB330_332.out; obtain ⟨hcz63_0, hcz63_1, hcz63_2, hfz63_0, hfz63_1, hfz63_2⟩ := cf3_ BK332.out; have hnb64 := NB327_326.out; have hnc64 := NB326_327.out; have hnb65 := NB327_330.out; have hnc65 := NB330_327.out; obtain ⟨hcz66_0, hcz66_1, hcz66_2, hcz66_3, hfz66_0, hfz66_1, hfz66_2, hfz66_3⟩ := cf4_ BK327.out))
     repeat (go_quiet (first | ((with_reducible refine gate_dst (N := 10) rfl ?_); (try (refine gate_guard (by rfl) ?_; dsimp only)); refine bq_ (N := 10) #[.int .i64 0, .int .i64 0, .int .i64 0] 112 ?_; intro gb332 hg w59 BK332 hb; have GE332 := ge3_ hg GE326 GE327 GE330; replace HB := nc3_ GE326 GE327 GE330 hb; have NB326_332 := nl_ BK326 hg; have NB332_326 := ng_ BK326 hg; replace BK326 := bK_ BK326 hb; have NB327_332 := nl_ BK327 hg; have NB332_327 := ng_ BK327 hg; replace BK327 := bK_ BK327 hb; have NB330_332 := nl_ BK330 hg; have NB332_330 := ng_ BK330 hg; replace BK330 := bK_ BK330 hb; clear hb hg; have hnb60 := NB332_326.out; have hnc60 := NB326_332.out; have hnb61 := NB332_327.out; have hnc61 := NB327_332.out; have hnb62 := NB332_330.out; have hnc62 := NB330_332.out; obtain ⟨hcz63_0, hcz63_1, hcz63_2, hfz63_0, hfz63_1, hfz63_2⟩ := cf3_ BK332.out; have hnb64 := NB327_326.out; have hnc64 := NB326_327.out; have hnb65 := NB327_330.out; have hnc65 := NB330_327.out; obtain ⟨hcz66_0, hcz66_1, hcz66_2, hcz66_3, hfz66_0, hfz66_1, hfz66_2, hfz66_3⟩ := cf4_ BK327.out)); try go_wp2_with (first | ((with_reducible refine gate_dst (N := 10) rfl ?_); (try (refine gate_guard (by rfl) ?_; dsimp only)); refine bq_ (N := 10) #[.int .i64 0, .int .i64 0, .int .i64 0] 112 ?_; intro gb332 hg w59 BK332 hb; have GE332 := ge3_ hg GE326 GE327 GE330; replace HB := nc3_ GE326 GE327 GE330 hb; have NB326_332 := nl_ BK326 hg; have NB332_326 := ng_ BK326 hg; replace BK326 := bK_ BK326 hb; have NB327_332 := nl_ BK327 hg; have NB332_327 := ng_ BK327 hg; replace BK327 := bK_ BK327 hb; have NB330_332 := nl_ BK330 hg; have NB332_330 := ng_ BK330 hg; replace BK330 := bK_ BK330 hb; clear hb hg; have hnb60 := NB332_326.out; have hnc60 := NB326_332.out; have hnb61 := NB332_327.out; have hnc61 := NB327_332.out; have hnb62 := NB332_330.out; have hnc62 := NB330_332.out; obtain ⟨hcz63_0, hcz63_1, hcz63_2, hfz63_0, hfz63_1, hfz63_2⟩ := cf3_ BK332.out; have hnb64 := NB327_326.out; have hnc64 := NB326_327.out; have hnb65 := NB327_330.out; have hnc65 := NB330_327.out; obtain ⟨hcz66_0, hcz66_1, hcz66_2, hcz66_3, hfz66_0, hfz66_1, hfz66_2, hfz66_3⟩ := cf4_ BK327.out)))
     go_roundg k1
     case measure => have := HK1.out; omega
     case rel => exact ⟨(wrap64 (x43_1 + 1)), sr_, H', ⟨by have := HK1.out; omega⟩, ⟨uf_ BK326 NB326_332.out⟩, ⟨uf_ BK327 NB327_332.out⟩, ⟨uf_ BK330 NB330_332.out⟩, ⟨hs4_ GE326.out GE327.out GE330.out GE332.out⟩⟩
    have c41b0 : (((rd_T112 ((rd_T81 l0_0 t328).f3) x43_1).f0) == a1_2) = true := beq_iff_eq.mpr c41
    have c41b1 : (((rd_T112 ((rd_T81 l0_0 t328).f3) x43_1).f0) != a1_2) = false := bne_eq_false_iff_eq.mpr c41
    clear c41
    replace H := ite_ H
    obtain ⟨c42, H⟩ | ⟨c42, H⟩ := H
    ·have c42b0 : (((rd_T112 ((rd_T81 l0_0 t328).f3) x43_1).f1) == (l1_3.length : Int)) = true := beq_iff_eq.mpr c42
     have c42b1 : (((rd_T112 ((rd_T81 l0_0 t328).f3) x43_1).f1) != (l1_3.length : Int)) = false := bne_eq_false_iff_eq.mpr c42
     clear c42
     simp only [Option.some.injEq, Prod.mk.injEq] at H
     obtain ⟨rfl, rfl⟩ := H
     have p331 : 0 ≤ (x43_1 : Int) := oa_
     have q331 : x43_1 < (((rd_T81 l0_0 t328).f3).length : Int) := oa_
     obtain ⟨ad331, e331, hx331_0, hx331_1, hx331_2⟩ := at_T112 HR329_3.out x43_1 p331 q331
     cases e331
     replace hx331_0 := pc_ HB.out hx331_0
     replace hx331_1 := pc_ HB.out hx331_1
     replace hx331_2 := pc_ HB.out hx331_2
     replace p331 := eq_true p331
     replace q331 := eq_true q331
     go_wp2_with (first | ((with_reducible refine gate_dst (N := 10) rfl ?_); (try (refine gate_guard (by rfl) ?_; dsimp only)); refine bq_ (N := 10) #[.int .i64 0, .int .i64 0, .int .i64 0] 112 ?_; intro gb332 hg w43 BK332 hb; have GE332 := ge3_ hg GE326 GE327 GE330; replace HB := nc3_ GE326 GE327 GE330 hb; have NB326_332 := nl_ BK326 hg; have NB332_326 := ng_ BK326 hg; replace BK326 := bK_ BK326 hb; have NB327_332 := nl_ BK327 hg; have NB332_327 := ng_ BK327 hg; replace BK327 := bK_ BK327 hb; have NB330_332 := nl_ BK330 hg; have NB332_330 := ng_ BK330 hg; replace BK330 := bK_ BK330 hb; clear hb hg; have hnb44 := NB332_326.out; have hnc44 := NB326_332.out; have hnb45 := NB332_327.out; have hnc45 := NB327_332.out; have hnb46 := NB332_330.out; have hnc46 := NB330_332.out; obtain ⟨hcz47_0, hcz47_1, hcz47_2, hfz47_0, hfz47_1, hfz47_2⟩ := cf3_ BK332.out; have hnb48 := NB327_326.out; have hnc48 := NB326_327.out; have hnb49 := NB327_330.out; have hnc49 := NB330_327.out; obtain ⟨hcz50_0, hcz50_1, hcz50_2, hcz50_3, hfz50_0, hfz50_1, hfz50_2, hfz50_3⟩ := cf4_ BK327.out))
     repeat (go_quiet (first | ((with_reducible refine gate_dst (N := 10) rfl ?_); (try (refine gate_guard (by rfl) ?_; dsimp only)); refine bq_ (N := 10) #[.int .i64 0, .int .i64 0, .int .i64 0] 112 ?_; intro gb332 hg w43 BK332 hb; have GE332 := ge3_ hg GE326 GE327 GE330; replace HB := nc3_ GE326 GE327 GE330 hb; have NB326_332 := nl_ BK326 hg; have NB332_326 := ng_ BK326 hg; replace BK326 := bK_ BK326 hb; have NB327_332 := nl_ BK327 hg; have NB332_327 := ng_ BK327 hg; replace BK327 := bK_ BK327 hb; have NB330_332 := nl_ BK330 hg; have NB332_330 := ng_ BK330 hg; replace BK330 := bK_ BK330 hb; clear hb hg; have hnb44 := NB332_326.out; have hnc44 := NB326_332.out; have hnb45 := NB332_327.out; have hnc45 := NB327_332.out; have hnb46 := NB332_330.out; have hnc46 := NB330_332.out; obtain ⟨hcz47_0, hcz47_1, hcz47_2, hfz47_0, hfz47_1, hfz47_2⟩ := cf3_ BK332.out; have hnb48 := NB327_326.out; have hnc48 := NB326_327.out; have hnb49 := NB327_330.out; have hnc49 := NB330_327.out; obtain ⟨hcz50_0, hcz50_1, hcz50_2, hcz50_3, hfz50_0, hfz50_1, hfz50_2, hfz50_3⟩ := cf4_ BK327.out)); try go_wp2_with (first | ((with_reducible refine gate_dst (N := 10) rfl ?_); (try (refine gate_guard (by rfl) ?_; dsimp only)); refine bq_ (N := 10) #[.int .i64 0, .int .i64 0, .int .i64 0] 112 ?_; intro gb332 hg w43 BK332 hb; have GE332 := ge3_ hg GE326 GE327 GE330; replace HB := nc3_ GE326 GE327 GE330 hb; have NB326_332 := nl_ BK326 hg; have NB332_326 := ng_ BK326 hg; replace BK326 := bK_ BK326 hb; have NB327_332 := nl_ BK327 hg; have NB332_327 := ng_ BK327 hg; replace BK327 := bK_ BK327 hb; have NB330_332 := nl_ BK330 hg; have NB332_330 := ng_ BK330 hg; replace BK330 := bK_ BK330 hb; clear hb hg; have hnb44 := NB332_326.out; have hnc44 := NB326_332.out; have hnb45 := NB332_327.out; have hnc45 := NB327_332.out; have hnb46 := NB332_330.out; have hnc46 := NB330_332.out; obtain ⟨hcz47_0, hcz47_1, hcz47_2, hfz47_0, hfz47_1, hfz47_2⟩ := cf3_ BK332.out; have hnb48 := NB327_326.out; have hnc48 := NB326_327.out; have hnb49 := NB327_330.out; have hnc49 := NB330_327.out; obtain ⟨hcz50_0, hcz50_1, hcz50_2, hcz50_3, hfz50_0, hfz50_1, hfz50_2, hfz50_3⟩ := cf4_ BK327.out)))
     go_ret2
     exact ⟨er_, hs4_ GE326.out GE327.out GE330.out GE332.out⟩
    have c42b0 : (((rd_T112 ((rd_T81 l0_0 t328).f3) x43_1).f1) == (l1_3.length : Int)) = false := beq_eq_false_iff_ne.mpr c42
    have c42b1 : (((rd_T112 ((rd_T81 l0_0 t328).f3) x43_1).f1) != (l1_3.length : Int)) = true := bne_iff_ne.mpr c42
    have H' := am_ H
    clear H
    have p331 : 0 ≤ (x43_1 : Int) := oa_
    have q331 : x43_1 < (((rd_T81 l0_0 t328).f3).length : Int) := oa_
    obtain ⟨ad331, e331, hx331_0, hx331_1, hx331_2⟩ := at_T112 HR329_3.out x43_1 p331 q331
    cases e331
    replace hx331_0 := pc_ HB.out hx331_0
    replace hx331_1 := pc_ HB.out hx331_1
    replace hx331_2 := pc_ HB.out hx331_2
    replace p331 := eq_true p331
    replace q331 := eq_true q331
    go_wp2_with (first | ((with_reducible refine gate_dst (N := 10) rfl ?_); (try (refine gate_guard (by rfl) ?_; dsimp only)); refine bq_ (N := 10) #[.int .i64 0, .int .i64 0, .int .i64 0] 112 ?_; intro gb332 hg w51 BK332 hb; have GE332 := ge3_ hg GE326 GE327 GE330; replace HB := nc3_ GE326 GE327 GE330 hb; have NB326_332 := nl_ BK326 hg; have NB332_326 := ng_ BK326 hg; replace BK326 := bK_ BK326 hb; have NB327_332 := nl_ BK327 hg; have NB332_327 := ng_ BK327 hg; replace BK327 := bK_ BK327 hb; have NB330_332 := nl_ BK330 hg; have NB332_330 := ng_ BK330 hg; replace BK330 := bK_ BK330 hb; clear hb hg; have hnb52 := NB332_326.out; have hnc52 := NB326_332.out; have hnb53 := NB332_327.out; have hnc53 := NB327_332.out; have hnb54 := NB332_330.out; have hnc54 := NB330_332.out; obtain ⟨hcz55_0, hcz55_1, hcz55_2, hfz55_0, hfz55_1, hfz55_2⟩ := cf3_ BK332.out; have hnb56 := NB327_326.out; have hnc56 := NB326_327.out; have hnb57 := NB327_330.out; have hnc57 := NB330_327.out; obtain ⟨hcz58_0, hcz58_1, hcz58_2, hcz58_3, hfz58_0, hfz58_1, hfz58_2, hfz58_3⟩ := cf4_ BK327.out))
    repeat (go_quiet (first | ((with_reducible refine gate_dst (N := 10) rfl ?_); (try (refine gate_guard (by rfl) ?_; dsimp only)); refine bq_ (N := 10) #[.int .i64 0, .int .i64 0, .int .i64 0] 112 ?_; intro gb332 hg w51 BK332 hb; have GE332 := ge3_ hg GE326 GE327 GE330; replace HB := nc3_ GE326 GE327 GE330 hb; have NB326_332 := nl_ BK326 hg; have NB332_326 := ng_ BK326 hg; replace BK326 := bK_ BK326 hb; have NB327_332 := nl_ BK327 hg; have NB332_327 := ng_ BK327 hg; replace BK327 := bK_ BK327 hb; have NB330_332 := nl_ BK330 hg; have NB332_330 := ng_ BK330 hg; replace BK330 := bK_ BK330 hb; clear hb hg; have hnb52 := NB332_326.out; have hnc52 := NB326_332.out; have hnb53 := NB332_327.out; have hnc53 := NB327_332.out; have hnb54 := NB332_330.out; have hnc54 := NB330_332.out; obtain ⟨hcz55_0, hcz55_1, hcz55_2, hfz55_0, hfz55_1, hfz55_2⟩ := cf3_ BK332.out; have hnb56 := NB327_326.out; have hnc56 := NB326_327.out; have hnb57 := NB327_330.out; have hnc57 := NB330_327.out; obtain ⟨hcz58_0, hcz58_1, hcz58_2, hcz58_3, hfz58_0, hfz58_1, hfz58_2, hfz58_3⟩ := cf4_ BK327.out)); try go_wp2_with (first | ((with_reducible refine gate_dst (N := 10) rfl ?_); (try (refine gate_guard (by rfl) ?_; dsimp only)); refine bq_ (N := 10) #[.int .i64 0, .int .i64 0, .int .i64 0] 112 ?_; intro gb332 hg w51 BK332 hb; have GE332 := ge3_ hg GE326 GE327 GE330; replace HB := nc3_ GE326 GE327 GE330 hb; have NB326_332 := nl_ BK326 hg; have NB332_326 := ng_ BK326 hg; replace BK326 := bK_ BK326 hb; have NB327_332 := nl_ BK327 hg; have NB332_327 := ng_ BK327 hg; replace BK327 := bK_ BK327 hb; have NB330_332 := nl_ BK330 hg; have NB332_330 := ng_ BK330 hg; replace BK330 := bK_ BK330 hb; clear hb hg; have hnb52 := NB332_326.out; have hnc52 := NB326_332.out; have hnb53 := NB332_327.out; have hnc53 := NB327_332.out; have hnb54 := NB332_330.out; have hnc54 := NB330_332.out; obtain ⟨hcz55_0, hcz55_1, hcz55_2, hfz55_0, hfz55_1, hfz55_2⟩ := cf3_ BK332.out; have hnb56 := NB327_326.out; have hnc56 := NB326_327.out; have hnb57 := NB327_330.out; have hnc57 := NB330_327.out; obtain ⟨hcz58_0, hcz58_1, hcz58_2, hcz58_3, hfz58_0, hfz58_1, hfz58_2, hfz58_3⟩ := cf4_ BK327.out)))
    go_roundg k1
    case measure => have := HK1.out; omega
    case rel => exact ⟨(wrap64 (x43_1 + 1)), sr_, H', ⟨by have := HK1.out; omega⟩, ⟨uf_ BK326 NB326_332.out⟩, ⟨uf_ BK327 NB327_332.out⟩, ⟨uf_ BK330 NB330_332.out⟩, ⟨hs4_ GE326.out GE327.out GE330.out GE332.out⟩⟩
 case rest =>
  clear HC4
  try clear hcz8_0
  try clear hcz8_1
  try clear hcz8_2
  try clear hcz9_0
  try clear hcz9_1
  try clear hcz9_2
  try clear hcz9_3
  try clear hfz8_0
  try clear hfz8_1
  try clear hfz8_2
  try clear hfz9_0
  try clear hfz9_1
  try clear hfz9_2
  try clear hfz9_3
  obtain ⟨kq, x7_3, rfl, HA, HJ3, BK326, BK327, HB⟩ := hcut
  cases kq with
  | zero => exact absurd HA.out (by simp [impl_Part_codeOf.j1])
  | succ kj3 =>
   have H := HA.out
   clear HA
   simp only [impl_Part_codeOf.j1] at H
   have HC85 := am_ H
   clear H
   go_upto_region 18 with (fail)
   repeat (go_quiet (fail); go_upto_region 18 with (fail))
   go_cut [68] (fun v68 wc => ∃ (kq : Nat) (x68_84 : Bool), v68 = .bool x68_84 ∧ Aside0 (impl_Part_codeOf.j2 kq t328 x68_84 l0_0 l0_1 a0_2 a1_0 a1_1 a1_2 l1_3 = some (r1, r2)) ∧ Aside0 (kq ≤ kj3) ∧ Aside0 (wc.heap[gb326]? = some (.cells #[(.slice A0_0 l0_0.length c0_0), (.slice A0_1 l0_1.length c0_1), .int .i64 a0_2] 33 (0, 0))) ∧ Aside0 (wc.heap[gb327]? = some (.cells #[.int .i64 a1_0, .int .i64 a1_1, .int .i64 a1_2, (.slice A1_3 l1_3.length c1_3)] 57 (0, 0))) ∧ Aside0 (Below w.heap.size w wc))
   case first =>
    have H := HC85.out
    clear HC85
    replace H := ifb_ H
    obtain ⟨rfl, H⟩ | ⟨rfl, H⟩ := H
    ·have H' := am_ H
     clear H
     go_wp2
     repeat (go_quiet (fail); try go_wp2)
     go_meet
     case rel => exact ⟨_, (false), sr_, H', ⟨by have := HJ3.out; first | omega | exact Nat.le_refl _⟩, ⟨kb_ BK326.out⟩, ⟨kb_ BK327.out⟩, ⟨hs2_ GE326.out GE327.out⟩⟩
    have H' := am_ H
    clear H
    have hnb87 := NB327_326.out
    have hnc87 := NB326_327.out
    obtain ⟨hcz88_0, hcz88_1, hcz88_2, hcz88_3, hfz88_0, hfz88_1, hfz88_2, hfz88_3⟩ := cf4_ BK327.out
    go_wp2
    repeat (go_quiet (fail); try go_wp2)
    go_meet
    case rel => exact ⟨_, ((a1_2 != 0)), sr_, H', ⟨by have := HJ3.out; first | omega | exact Nat.le_refl _⟩, ⟨kb_ BK326.out⟩, ⟨kb_ BK327.out⟩, ⟨hs2_ GE326.out GE327.out⟩⟩
   case rest =>
    clear HC85
    try clear hcz8_0
    try clear hcz8_1
    try clear hcz8_2
    try clear hcz9_0
    try clear hcz9_1
    try clear hcz9_2
    try clear hcz9_3
    try clear hfz8_0
    try clear hfz8_1
    try clear hfz8_2
    try clear hfz9_0
    try clear hfz9_1
    try clear hfz9_2
    try clear hfz9_3
    obtain ⟨kq, x68_84, rfl, HA, HJ84, BK326, BK327, HB⟩ := hcut
    cases kq with
    | zero => exact absurd HA.out (by simp [impl_Part_codeOf.j2])
    | succ kj84 =>
     have H := HA.out
     clear HA
     simp only [impl_Part_codeOf.j2] at H
     replace H := ifb_ H
     obtain ⟨rfl, H⟩ | ⟨rfl, H⟩ := H
     ·simp only [Option.some.injEq, Prod.mk.injEq] at H
      obtain ⟨rfl, rfl⟩ := H
      go_wp2
      repeat (go_quiet (fail); try go_wp2)
      go_ret2
      exact ⟨er_, hs2_ GE326.out GE327.out⟩
     replace H := ite_ H
     obtain ⟨c90, H⟩ | ⟨c90, H⟩ := H
     rotate_left
     ·have c90b0 := decide_eq_false c90
      clear c90
      replace H := ite_ H
      obtain ⟨c104, H⟩ | ⟨c104, H⟩ := H
      ·have c104b0 : ((l0_1.length : Int) == 60) = true := beq_iff_eq.mpr c104
       have c104b1 : ((l0_1.length : Int) != 60) = false := bne_eq_false_iff_eq.mpr c104
       clear c104
       simp only [Option.some.injEq, Prod.mk.injEq] at H
       obtain ⟨rfl, rfl⟩ := H
       have hnb105 := NB326_327.out
       have hnc105 := NB327_326.out
       obtain ⟨hcz106_0, hcz106_1, hcz106_2, hfz106_0, hfz106_1, hfz106_2⟩ := cf3_ BK326.out
       go_wp2
       repeat (go_quiet (fail); try go_wp2)
       go_ret2
       exact ⟨er_, hs2_ GE326.out GE327.out⟩
      have c104b0 : ((l0_1.length : Int) == 60) = false := beq_eq_false_iff_ne.mpr c104
      have c104b1 : ((l0_1.length : Int) != 60) = true := bne_iff_ne.mpr c104
      replace H := ite_ H
      obtain ⟨c107, H⟩ | ⟨c107, H⟩ := H
      rotate_left
      ·have c107b0 := dgf_ c107
       clear c107
       simp only [Option.some.injEq, Prod.mk.injEq] at H
       obtain ⟨rfl, rfl⟩ := H
       have hnb111 := NB326_327.out
       have hnc111 := NB327_326.out
       obtain ⟨hcz112_0, hcz112_1, hcz112_2, hfz112_0, hfz112_1, hfz112_2⟩ := cf3_ BK326.out
       obtain ⟨hcz113_0, hcz113_1, hcz113_2, hcz113_3, hfz113_0, hfz113_1, hfz113_2, hfz113_3⟩ := cf4_ BK327.out
       go_wp2
       repeat (go_quiet (fail); try go_wp2)
       go_ret2
       exact ⟨er_, hs2_ GE326.out GE327.out⟩
      have c107b0 := dgt_ c107
      clear c107
      simp only [Option.some.injEq, Prod.mk.injEq] at H
      obtain ⟨rfl, rfl⟩ := H
      have hnb108 := NB326_327.out
      have hnc108 := NB327_326.out
      obtain ⟨hcz109_0, hcz109_1, hcz109_2, hfz109_0, hfz109_1, hfz109_2⟩ := cf3_ BK326.out
      obtain ⟨hcz110_0, hcz110_1, hcz110_2, hcz110_3, hfz110_0, hfz110_1, hfz110_2, hfz110_3⟩ := cf4_ BK327.out
      go_wp2
      repeat (go_quiet (fail); try go_wp2)
      go_ret2
      exact ⟨er_, hs2_ GE326.out GE327.out⟩
     have c90b0 := decide_eq_true c90
     clear c90
     replace H := ite_ H
     obtain ⟨c91, H⟩ | ⟨c91, H⟩ := H
     ·have c91b0 : ((l0_0.length : Int) == 4) = true := beq_iff_eq.mpr c91
      have c91b1 : ((l0_0.length : Int) != 4) = false := bne_eq_false_iff_eq.mpr c91
      clear c91
      simp only [Option.some.injEq, Prod.mk.injEq] at H
      obtain ⟨rfl, rfl⟩ := H
      have hnb92 := NB326_327.out
      have hnc92 := NB327_326.out
      obtain ⟨hcz93_0, hcz93_1, hcz93_2, hfz93_0, hfz93_1, hfz93_2⟩ := cf3_ BK326.out
      go_wp2
      repeat (go_quiet (fail); try go_wp2)
      go_ret2
      exact ⟨er_, hs2_ GE326.out GE327.out⟩
     have c91b0 : ((l0_0.length : Int) == 4) = false := beq_eq_false_iff_ne.mpr c91
     have c91b1 : ((l0_0.length : Int) != 4) = true := bne_iff_ne.mpr c91
     replace H := ite_ H
     obtain ⟨c94, H⟩ | ⟨c94, H⟩ := H
     ·have c94b0 : ((l0_1.length : Int) == 60) = true := beq_iff_eq.mpr c94
      have c94b1 : ((l0_1.length : Int) != 60) = false := bne_eq_false_iff_eq.mpr c94
      clear c94
      simp only [Option.some.injEq, Prod.mk.injEq] at H
      obtain ⟨rfl, rfl⟩ := H
      have hnb95 := NB326_327.out
      have hnc95 := NB327_326.out
      obtain ⟨hcz96_0, hcz96_1, hcz96_2, hfz96_0, hfz96_1, hfz96_2⟩ := cf3_ BK326.out
      go_wp2
      repeat (go_quiet (fail); try go_wp2)
      go_ret2
      exact ⟨er_, hs2_ GE326.out GE327.out⟩
     have c94b0 : ((l0_1.length : Int) == 60) = false := beq_eq_false_iff_ne.mpr c94
     have c94b1 : ((l0_1.length : Int) != 60) = true := bne_iff_ne.mpr c94
     replace H := ite_ H
     obtain ⟨c97, H⟩ | ⟨c97, H⟩ := H
     ·have c97b0 := dgt_ c97
      clear c97
      simp only [Option.some.injEq, Prod.mk.injEq] at H
      obtain ⟨rfl, rfl⟩ := H
      have hnb98 := NB326_327.out
      have hnc98 := NB327_326.out
      obtain ⟨hcz99_0, hcz99_1, hcz99_2, hfz99_0, hfz99_1, hfz99_2⟩ := cf3_ BK326.out
      obtain ⟨hcz100_0, hcz100_1, hcz100_2, hcz100_3, hfz100_0, hfz100_1, hfz100_2, hfz100_3⟩ := cf4_ BK327.out
      go_wp2
      repeat (go_quiet (fail); try go_wp2)
      go_ret2
      exact ⟨er_, hs2_ GE326.out GE327.out⟩
     have c97b0 := dgf_ c97
     clear c97
     simp only [Option.some.injEq, Prod.mk.injEq] at H
     obtain ⟨rfl, rfl⟩ := H
     have hnb101 := NB326_327.out
     have hnc101 := NB327_326.out
     obtain ⟨hcz102_0, hcz102_1, hcz102_2, hfz102_0, hfz102_1, hfz102_2⟩ := cf3_ BK326.out
     obtain ⟨hcz103_0, hcz103_1, hcz103_2, hcz103_3, hfz103_0, hfz103_1, hfz103_2, hfz103_3⟩ := cf4_ BK327.out
     go_wp2
     repeat (go_quiet (fail); try go_wp2)
     go_ret2
     exact ⟨er_, hs2_ GE326.out GE327.out⟩
end Go.Proofs.Ytojdaolclcmalaa.QFnExactPlayAsks
