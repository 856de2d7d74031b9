/- Functions that one statement reaches: of each a plain function, and the proof that calls come to it. Conditions: those that each contract names. Written by a program of this repository. -/
import Derived.Test.YtffpeklekkpbjaaVFindBatcha
import Derived.Test.YtffpeklekkpbjaaQFnExactFindBatchx0
import Derived.Test.YtffpeklekkpbjaaQFnExactFindBatchx4
import Derived.Test.YtffpeklekkpbjaaQFnExactFindBatchx9
import Derived.Test.YtffpeklekkpbjaaQFnExactFindBatchx12
namespace Go.Proofs.Ytffpeklekkpbjaa.QFnExactFindBatch
open Go.RowKit Go.Proofs.YtffpeklekkpbjaaW.PrintWords Go.Proofs.YtffpeklekkpbjaaW.PrintLast Go.Proofs.YtffpeklekkpbjaaW.PrintMore
attribute [local go_sem] max2_int min2_int max_two min_two max_three min_three max_four min_four Go.Proofs.YtffpeklekkpbjaaW.PrintMore2.isSome_setCell   -- for this text's walks alone
set_option linter.unusedVariables false
set_option linter.unusedSimpArgs false

/-! ### spec_ReadFrom: function 45 -/
mutual
def spec_ReadFrom.j0 : Nat → Int → Int → Bool → List (S65) → Int → Option ((List (S43)) × Bool)
 | 0, _, _, _, _, _ => none
 | k + 1, x1, x2, x23, x265000, x265001 => if x23 = true then (some (([] : List (S43)), false)) else ((spec_l2Seek.f k x265000 x265001 x1).bind fun bt267 => (spec_ReadFrom.l0 k x1 x2 bt267.1 bt267.2 ([] : List (S43)) x265000 x265001))
def spec_ReadFrom.l0 : Nat → Int → Int → Int → Int → List (S43) → List (S65) → Int → Option ((List (S43)) × Bool)
 | 0, _, _, _, _, _, _, _ => none
 | k + 1, x1, x2, x8, x9, x10, x265000, x265001 => if x8 < (x265000.length : Int) then (if 0 ≤ x8 then (if 0 ≤ x9 then (if x9 ≤ (((rd_T65 x265000 x8).f1).size : Int) then ((spec_l1Read.f k (((rd_T65 x265000 x8).f1).extract (x9 : Int).toNat ((rd_T65 x265000 x8).f1).size)).bind fun bt270 => (spec_ReadFrom.l1 k x1 x2 x8 x10 bt270.1 (bt270.1.length : Int) 0 x265000 x265001)) else (none)) else (none)) else (none)) else (some (x10, true))
def spec_ReadFrom.l1 : Nat → Int → Int → Int → List (S43) → List (S43) → Int → Int → List (S65) → Int → Option ((List (S43)) × Bool)
 | 0, _, _, _, _, _, _, _, _, _ => none
 | k + 1, x1, x2, x8, x10, x49, x50, x51, x265000, x265001 => if x51 < x50 then (if 0 ≤ x51 then (if x51 < (x49.length : Int) then (if (wrap64 (((rd_T43 x49 x51).f0) + (((rd_T43 x49 x51).f4).length : Int))) > x1 then (if (x10.length : Int) < x2 then (if x10.length < 2513169434916 then (spec_ReadFrom.l1 k x1 x2 x8 (x10 ++ [(⟨(rd_T43 x49 x51).f0, (rd_T43 x49 x51).f1, (rd_T43 x49 x51).f2, (rd_T43 x49 x51).f3, (rd_T43 x49 x51).f4⟩ : S43)]) x49 x50 (wrap64 (x51 + 1)) x265000 x265001) else (none)) else (spec_ReadFrom.l1 k x1 x2 x8 x10 x49 x50 (wrap64 (x51 + 1)) x265000 x265001)) else (spec_ReadFrom.l1 k x1 x2 x8 x10 x49 x50 (wrap64 (x51 + 1)) x265000 x265001)) else (none)) else (none)) else (spec_ReadFrom.l0 k x1 x2 (wrap64 (x8 + 1)) 0 x10 x265000 x265001)
end
def spec_ReadFrom.f (k : Nat) (l0_0 : List (S65)) (a0_1 : Int) (a1 : Int) (a2 : Int) : Option ((List (S43)) × Bool) := (spec_l2There.f k l0_0 a0_1 a1).bind fun t265 => (if t265 = true then ((spec_l1In.f a2 1 20).bind fun t266 => (spec_ReadFrom.j0 k a1 a2 (!t266) l0_0 a0_1)) else (spec_ReadFrom.j0 k a1 a2 true l0_0 a0_1))
theorem spec_ReadFrom.mono_l : ∀ k, (∀ y0 y1 y2 y3 y4, LeO (spec_ReadFrom.j0 k y0 y1 y2 y3 y4) (spec_ReadFrom.j0 (k + 1) y0 y1 y2 y3 y4)) ∧ (∀ y0 y1 y2 y3 y4 y5 y6, LeO (spec_ReadFrom.l0 k y0 y1 y2 y3 y4 y5 y6) (spec_ReadFrom.l0 (k + 1) y0 y1 y2 y3 y4 y5 y6)) ∧ (∀ y0 y1 y2 y3 y4 y5 y6 y7 y8, LeO (spec_ReadFrom.l1 k y0 y1 y2 y3 y4 y5 y6 y7 y8) (spec_ReadFrom.l1 (k + 1) y0 y1 y2 y3 y4 y5 y6 y7 y8))
 | 0 => ⟨fun _ _ _ _ _ r h => by simp [spec_ReadFrom.j0] at h, fun _ _ _ _ _ _ _ r h => by simp [spec_ReadFrom.l0] at h, fun _ _ _ _ _ _ _ _ _ r h => by simp [spec_ReadFrom.l1] at h⟩
 | k + 1 => by
  obtain ⟨ih0, ih1, ih2⟩ := spec_ReadFrom.mono_l k
  refine ⟨?_, ?_, ?_⟩
  all_goals intros; first | unfold spec_ReadFrom.j0 | unfold spec_ReadFrom.l0 | unfold spec_ReadFrom.l1
  all_goals repeat' first | (with_reducible first | apply ih0 | apply ih1 | apply ih2 | apply spec_l1Read.mono | apply spec_l2Seek.mono | apply spec_l2There.mono | exact LeO.refl _ | exact LeO.none _ | refine LeO.ite ?_ ?_ | refine LeO.bind ?_ (fun _ => ?_))
theorem spec_ReadFrom.mono : ∀ a0 a1 a2 a3 k, LeO (spec_ReadFrom.f k a0 a1 a2 a3) (spec_ReadFrom.f (k + 1) a0 a1 a2 a3) := by
 intro a0 a1 a2 a3 k
 obtain ⟨ih0, ih1, ih2⟩ := spec_ReadFrom.mono_l k
 unfold spec_ReadFrom.f
 repeat' first
   | (with_reducible first | apply ih0 | apply ih1 | apply ih2 | apply spec_l1Read.mono | apply spec_l2Seek.mono | apply spec_l2There.mono | exact LeO.refl _ | exact LeO.none _ | refine LeO.ite ?_ ?_ | refine LeO.bind ?_ (fun _ => ?_))
set_option maxHeartbeats 8000000 in
set_option maxRecDepth 100000 in
theorem spec_ReadFrom.calls (k : Nat) (A0_0 : Option Addr) (c0_0 : Nat) (l0_0 : List (S65)) (a0_1 : Int) (a1 : Int) (a2 : Int) (r1 : List (S43)) (r2 : Bool) (w : World) (hr0_0 : Kd.C k65 w A0_0 l0_0.length l0_0) (hc0_0 : l0_0.length ≤ c0_0) (h : spec_ReadFrom.f k l0_0 a0_1 a1 a2 = some (r1, r2)) :
  Calls Try.prog 45 #[.agg #[.slice A0_0 l0_0.length c0_0, .int .i64 a0_1], .int .i64 a1, .int .i64 a2] w fun e w' => ∃ v0_ : Value, e = .returned (.tuple #[v0_, .bool r2]) ∧ Kd.N k43 43 w' w.heap.size (fun k_ => (w.heap.size ≤ k_)) v0_ r1 ∧ Below w.heap.size w w' := by
 have hu24 := Try.underlying24
 have hu43 := Try.underlying43
 have HR0_0 := Aside0.mk hr0_0
 have HC0_0 := Aside0.mk hc0_0
 clear hr0_0 hc0_0
 have HB := Aside0.mk (Below.refl w.heap.size w)
 have H : ((spec_l2There.f k l0_0 a0_1 a1).bind fun t265 => (if t265 = true then ((spec_l1In.f a2 1 20).bind fun t266 => (spec_ReadFrom.j0 k a1 a2 (!t266) l0_0 a0_1)) else (spec_ReadFrom.j0 k a1 a2 true l0_0 a0_1))) = some (r1, r2) := h
 clear h
 have HC4 := Aside0.mk H
 clear H
 go_enter Try.func45, Try.ntmps45
 go_upto_region 1 with (first | ((with_reducible refine gate_dst (N := 3) rfl ?_); (try (refine gate_guard (by rfl) ?_; dsimp only)); refine bq_ (N := 3) #[.slice A0_0 l0_0.length c0_0, .int .i64 a0_1] 24 ?_; intro gb264 hg w5 BK264 hb; have GE264 := ge_ hg; replace HB := nb_ hb; clear hb hg))
 (try simp only [Act.put, List.setIfInBounds_toArray, List.set_cons_zero, List.set_cons_succ])
 go_cut [23] (fun v23 wc => ∃ (kq : Nat) (x23_3 : Bool), v23 = .bool x23_3 ∧ Aside0 (spec_ReadFrom.j0 kq a1 a2 x23_3 l0_0 a0_1 = some (r1, r2)) ∧ Aside0 (kq ≤ k) ∧ Aside0 (wc.heap[gb264]? = some (.cells #[(.slice A0_0 l0_0.length c0_0), .int .i64 a0_1] 24 (0, 0))) ∧ Aside0 (Below w.heap.size w wc))
 case first =>
  have H := HC4.out
  clear HC4
  replace H := bnd_ H
  obtain ⟨t265, A6, H⟩ := H
  replace H := ifb_ H
  obtain ⟨rfl, H⟩ | ⟨rfl, H⟩ := H
  rotate_left
  ·have H' := Aside0.mk H
   clear H
   obtain ⟨hcz11_0, hcz11_1, hfz11_0, hfz11_1⟩ := cf2_ BK264.out
   go_wp2_with (first | ((with_reducible refine gate_callee (f := 68) rfl ?_); refine gl_ 17 Try.func68 #[.agg #[.slice A0_0 l0_0.length c0_0, .int .i64 a0_1], .int .i64 a1] rfl ma_ ?_; (with_reducible refine (spec_l2There.calls k _ _ l0_0 a0_1 a1 false _ ?side1 ?side2 A6.out).mono ?_); (case side1 => exact cs_ ((Kd.C_below HR0_0.out HB.out))); (case side2 => exact HC0_0.out); rintro e w12 ⟨rfl, hb⟩; refine ⟨_, rfl, ?_⟩; replace BK264 := bK_ BK264 hb; replace HB := nc_ GE264 hb; (try clear hb); (try clear hb2); (try clear hk); (try clear hi)))
   go_meet
   case rel => exact ⟨_, (true), sr_, H', ⟨by first | omega | exact Nat.le_refl _⟩, ⟨kb_ BK264.out⟩, ⟨hs_ GE264.out⟩⟩
  replace H := bnd_ H
  obtain ⟨t266, A8, H⟩ := H
  have H' := Aside0.mk H
  clear H
  obtain ⟨hcz9_0, hcz9_1, hfz9_0, hfz9_1⟩ := cf2_ BK264.out
  go_wp2_with (first | ((with_reducible refine gate_callee (f := 68) rfl ?_); refine gl_ 17 Try.func68 #[.agg #[.slice A0_0 l0_0.length c0_0, .int .i64 a0_1], .int .i64 a1] rfl ma_ ?_; (with_reducible refine (spec_l2There.calls k _ _ l0_0 a0_1 a1 true _ ?side1 ?side2 A6.out).mono ?_); (case side1 => exact cs_ ((Kd.C_below HR0_0.out HB.out))); (case side2 => exact HC0_0.out); rintro e w10 ⟨rfl, hb⟩; refine ⟨_, rfl, ?_⟩; replace BK264 := bK_ BK264 hb; replace HB := nc_ GE264 hb; (try clear hb); (try clear hb2); (try clear hk); (try clear hi)) | (go_at_call 57; (with_reducible refine (spec_l1In.calls a2 1 20 t266 _ A8.out).mono ?_); rintro e w' ⟨rfl, ⟨nd, rfl⟩⟩))
  go_meet
  case rel => exact ⟨_, (!t266), sr_, H', ⟨by first | omega | exact Nat.le_refl _⟩, ⟨kb_ BK264.out⟩, ⟨hs_ GE264.out⟩⟩
 case rest =>
  clear HC4
  obtain ⟨kq, x23_3, rfl, HA, HJ3, BK264, HB⟩ := hcut
  cases kq with
  | zero => exact absurd HA.out (by simp [spec_ReadFrom.j0])
  | succ kj3 =>
   have H := HA.out
   clear HA
   simp only [spec_ReadFrom.j0] at H
   replace H := ifb_ H
   obtain ⟨rfl, H⟩ | ⟨rfl, H⟩ := H
   ·simp only [Option.some.injEq, Prod.mk.injEq] at H
    obtain ⟨rfl, rfl⟩ := H
    go_wp2
    go_ret2
    exact ⟨_, er_, by first | exact Kd.S_nil _ _ _ _ _ | exact Kd.N_nil _ _ _ _ _ | exact Kd.V_nil _ _ _ _ _ | exact Kd.Q_nil _ _ _ _ _ | exact Kd.R_nil _ _ _ _ _, hs_ GE264.out⟩
   replace H := bnd_ H
   obtain ⟨⟨t267, t268⟩, A14, H⟩ := H
   replace H := red_ H
   have H' := Aside0.mk H
   clear H
   obtain ⟨hcz15_0, hcz15_1, hfz15_0, hfz15_1⟩ := cf2_ BK264.out
   go_wp2_with (first | ((with_reducible refine gate_callee (f := 69) rfl ?_); refine gl_ 27 Try.func69 #[.agg #[.slice A0_0 l0_0.length c0_0, .int .i64 a0_1], .int .i64 a1] rfl ma_ ?_; (with_reducible refine (spec_l2Seek.calls kj3 _ _ l0_0 a0_1 a1 t267 t268 _ ?side1 ?side2 A14.out).mono ?_); (case side1 => exact cs_ ((Kd.C_below HR0_0.out HB.out))); (case side2 => exact HC0_0.out); rintro e w16 ⟨rfl, hb⟩; refine ⟨_, rfl, ?_⟩; replace BK264 := bK_ BK264 hb; replace HB := nc_ GE264 hb; (try clear hb); (try clear hb2); (try clear hk); (try clear hi)))
   go_loopg [8, 9, 10] kj3 (fun kq v8 v9 v10 w' => ∃ (x8_2 : Int) (x9_2 : Int) (x10_2 : List (S43)), v8 = .int .i64 x8_2 ∧ v9 = .int .i64 x9_2 ∧ Aside0 (spec_ReadFrom.l0 kq a1 a2 x8_2 x9_2 x10_2 l0_0 a0_1 = some (r1, r2)) ∧ Aside0 (kq ≤ kj3) ∧ Aside0 (Kd.N k43 43 w' w.heap.size (fun k_ => (w.heap.size ≤ k_) ∧ k_ ≠ gb264) v10 x10_2) ∧ Aside0 (w'.heap[gb264]? = some (.cells #[(.slice A0_0 l0_0.length c0_0), .int .i64 a0_1] 24 (0, 0))) ∧ Aside0 (Below w.heap.size w w'))
   case atStart => exact ⟨(t267), (t268), (([] : List (S43))), sr_, sr_, H', ⟨Nat.le_refl _⟩, ⟨by first | exact Kd.S_nil _ _ _ _ _ | exact Kd.N_nil _ _ _ _ _ | exact Kd.V_nil _ _ _ _ _ | exact Kd.Q_nil _ _ _ _ _ | exact Kd.R_nil _ _ _ _ _⟩, ⟨kb_ BK264.out⟩, ⟨hs_ GE264.out⟩⟩
   case round =>
    clear H'
    try clear hcz15_0
    try clear hcz15_1
    try clear hfz15_0
    try clear hfz15_1
    obtain ⟨x8_2, x9_2, x10_2, rfl, rfl, HA, HK2, HO_10, BK264, HB⟩ := hrel
    cases gk with
    | zero => exact absurd HA.out (by simp [spec_ReadFrom.l0])
    | succ k2 =>
     have H := HA.out
     clear HA
     simp only [spec_ReadFrom.l0] at H
     replace H := ite_ H
     obtain ⟨c17, H⟩ | ⟨c17, H⟩ := H
     rotate_left
     ·have c17b0 := decide_eq_false c17
      clear c17
      simp only [Option.some.injEq, Prod.mk.injEq] at H
      obtain ⟨rfl, rfl⟩ := H
      obtain ⟨hcz45_0, hcz45_1, hfz45_0, hfz45_1⟩ := cf2_ BK264.out
      go_wp2
      go_ret2
      exact ⟨_, er_, nF_ (Kd.N_mono HO_10.out (fun _ hk => hk.1)), hs_ GE264.out⟩
     have c17b0 := decide_eq_true c17
     clear c17
     replace H := ifs_ H
     obtain ⟨c18, H⟩ := H
     have c18b0 := decide_eq_true c18
     clear c18
     replace H := ifs_ H
     obtain ⟨c19, H⟩ := H
     have c19b0 := eq_true c19
     have c19b1 := decide_eq_true c19
     clear c19
     replace H := ifs_ H
     obtain ⟨c20, H⟩ := H
     have c20b0 := eq_true c20
     have c20b1 := decide_eq_true c20
     clear c20
     replace H := bnd_ H
     obtain ⟨⟨t270, t271⟩, A21, H⟩ := H
     replace H := red_ H
     have H' := Aside0.mk H
     clear H
     obtain ⟨hcz22_0, hcz22_1, hfz22_0, hfz22_1⟩ := cf2_ BK264.out
     have p269 : 0 ≤ (x8_2 : Int) := oa_
     have q269 : x8_2 < (l0_0.length : Int) := oa_
     obtain ⟨ad269, A269_2, c269_2, e269, hx269_0, hx269_1, hx269_2, hl269_2, hi269_2⟩ := at_T65 HR0_0.out x8_2 p269 q269
     cases e269
     replace hx269_0 := pc_ HB.out hx269_0
     replace hx269_1 := pc_ HB.out hx269_1
     replace hx269_2 := pc_ HB.out hx269_2
     have HR269_2 := Aside0.mk hi269_2
     have HC269_2 := Aside0.mk hl269_2
     clear hi269_2 hl269_2
     replace p269 := eq_true p269
     replace q269 := eq_true q269
     go_wp2_with (first | ((with_reducible refine gate_callee (f := 63) rfl ?_); refine gl_ 46 Try.func63 #[.string (((rd_T65 l0_0 x8_2).f1).extract (x9_2 : Int).toNat ((rd_T65 l0_0 x8_2).f1).size)] rfl ma_ ?_; (with_reducible refine (spec_l1Read.calls k2 (((rd_T65 l0_0 x8_2).f1).extract (x9_2 : Int).toNat ((rd_T65 l0_0 x8_2).f1).size) t270 t271 _ A21.out).mono ?_); rintro e w23 ⟨v272, rfl, ho0, hb⟩; refine ⟨_, rfl, ?_⟩; have HO273 := Aside0.mk (Kd.N_lower (Kd.N_mono (ok' := fun k_ => (w.heap.size ≤ k_) ∧ some k_ ≠ (u10 : Value).ownBlock ∧ k_ ≠ gb264) (Kd.S_N (Kd.S_bound ho0)) (fun k_ hk_ => ⟨(Nat.le_trans (below_size (hs_ GE264.out)) hk_.2.1), (Kd.fresh' (Kd.N_lt (nF_ HO_10.out)) k_ hk_.2.1), (Kd.freshB (g := gb264) (o := .cells #[.slice (some ad269) l0_0.length c0_0, .int .i64 a0_1] 24 (0, 0)) (kb_ BK264.out) k_ hk_.2.1)⟩)) (below_size (hs_ GE264.out))); replace HO_10 := Aside0.mk (Kd.N_elder' (nF_ HO_10.out) (Kd.N_base (Kd.S_N ho0)) hb); replace BK264 := bK_ BK264 hb; replace HB := nc_ GE264 hb; (try clear hb); (try clear hb2); (try clear hk); (try clear hi); (try clear ho0); obtain ⟨Ao24, co24, eo24⟩ := Kd.N_slice HO273.out; subst eo24))
     go_loopg [10, 51] k2 (fun kq v10 v51 w' => ∃ (x10_3 : List (S43)) (x51_3 : Int), v51 = .int .i64 x51_3 ∧ Aside0 (spec_ReadFrom.l1 kq a1 a2 x8_2 x10_3 t270 (t270.length : Int) x51_3 l0_0 a0_1 = some (r1, r2)) ∧ Aside0 (kq ≤ k2) ∧ Aside0 (Kd.N k43 43 w' w.heap.size (fun k_ => (w.heap.size ≤ k_) ∧ some k_ ≠ ((.slice Ao24 t270.length co24) : Value).ownBlock ∧ k_ ≠ gb264) v10 x10_3) ∧ Aside0 (Kd.N k43 43 w' w.heap.size (fun k_ => (w.heap.size ≤ k_) ∧ some k_ ≠ (v10 : Value).ownBlock ∧ k_ ≠ gb264) (.slice Ao24 t270.length co24) t270) ∧ Aside0 (w'.heap[gb264]? = some (.cells #[(.slice (some ad269) l0_0.length c0_0), .int .i64 a0_1] 24 (0, 0))) ∧ Aside0 (Below w.heap.size w w'))
     case atStart => exact ⟨(x10_2), (0), sr_, H', ⟨Nat.le_refl _⟩, ⟨nF_ (Kd.N_mono HO_10.out (fun _ hk => ⟨hk.1.1, ⟨hk.2, hk.1.2⟩⟩))⟩, ⟨nF_ HO273.out⟩, ⟨kb_ BK264.out⟩, ⟨hs_ GE264.out⟩⟩
     case round =>
      clear H'
      try clear c17
      try clear c17b0
      try clear c18
      try clear c18b0
      try clear c19
      try clear c19b0
      try clear c19b1
      try clear c20
      try clear c20b0
      try clear c20b1
      try clear hcz15_0
      try clear hcz15_1
      try clear hcz22_0
      try clear hcz22_1
      try clear hfz15_0
      try clear hfz15_1
      try clear hfz22_0
      try clear hfz22_1
      try clear hx269_0
      try clear hx269_1
      try clear hx269_2
      try clear p269
      try clear q269
      obtain ⟨x10_3, x51_3, rfl, HA, HK3, HO_10, HO_49, BK264, HB⟩ := hrel
      cases gk with
      | zero => exact absurd HA.out (by simp [spec_ReadFrom.l1])
      | succ k3 =>
       have H := HA.out
       clear HA
       simp only [spec_ReadFrom.l1] at H
       replace H := ite_ H
       obtain ⟨c25, H⟩ | ⟨c25, H⟩ := H
       rotate_left
       ·have c25b0 := decide_eq_false c25
        clear c25
        have H' := Aside0.mk H
        clear H
        go_wp2
        go_roundg k3
        case measure => have := HJ3.out; have := HK2.out; have := HK3.out; omega
        case rel => exact ⟨(wrap64 (x8_2 + 1)), (0), (x10_3), sr_, sr_, H', ⟨by have := HJ3.out; have := HK2.out; have := HK3.out; omega⟩, ⟨nF_ (Kd.N_mono HO_10.out (fun _ hk => ⟨hk.1, hk.2.2⟩))⟩, ⟨kb_ BK264.out⟩, ⟨hs_ GE264.out⟩⟩
       have c25b0 := decide_eq_true c25
       clear c25
       replace H := ifs_ H
       obtain ⟨c26, H⟩ := H
       have c26b0 := decide_eq_true c26
       clear c26
       replace H := ifs_ H
       obtain ⟨c27, H⟩ := H
       have c27b0 := decide_eq_true c27
       clear c27
       replace H := ite_ H
       obtain ⟨c28, H⟩ | ⟨c28, H⟩ := H
       rotate_left
       ·have c28b0 := dgf_ c28
        clear c28
        have H' := Aside0.mk H
        clear H
        have p274 : 0 ≤ (x51_3 : Int) := oa_
        have q274 : x51_3 < (t270.length : Int) := oa_
        obtain ⟨ad274, A274_4, c274_4, e274, hx274_0, hx274_1, hx274_2, hx274_3, hx274_4, hl274_4, hi274_4⟩ := at_T43 (Kd.N_reads' HO_49.out).2.2 x51_3 p274 q274
        cases e274
        obtain ⟨ce274, hce274, hMe274, hcc274⟩ := Kd.N_get HO_49.out z43 x51_3 p274 (by first | exact q274 | exact oa_ | (have e_ := (Kd.N_reads' HO_49.out).1; omega))
        obtain ⟨ua274_4, uc274_4, rfl, ul274_4, ge274_4⟩ := k43_openF hMe274
        have hv274_4 := hcc274 4 _ rfl
        rw [add_field _ _ 4 (by omega)] at hv274_4
        replace hv274_4 := Option.some.inj (hv274_4.symm.trans hx274_4)
        injection hv274_4 with hva_ hvn_ hvc_
        rw [hva_] at ge274_4
        rw [hvc_] at ul274_4
        have HL274_4 := Aside0.mk (show Kd.V Kd.string 9 _ w.heap.size _ _ ((rd_T43 t270 x51_3).f4) from Kd.V_mk ul274_4 ge274_4)
        clear hva_ hvn_ hvc_ ge274_4 ul274_4
        clear hcc274 hce274
        have HR274_4 := Aside0.mk hi274_4
        have HC274_4 := Aside0.mk hl274_4
        clear hi274_4 hl274_4
        replace p274 := eq_true p274
        replace q274 := eq_true q274
        go_wp2_with (first | ((with_reducible refine gate_dst (N := 14) rfl ?_); (try (refine gate_guard (by rfl) ?_; dsimp only)); refine bq_ (N := 14) #[.int .i64 0, .int .i64 0, .int .i64 0, .int .i64 0, .slice none 0 0] 43 ?_; intro gb275 hg w42 BK275 hb; replace HO_10 := Aside0.mk (Kd.N_below (Kd.N_elderB (nF_ HO_10.out) gb275 (Nat.le_of_eq hg.symm)) hb); replace HO_49 := Aside0.mk (Kd.N_below (Kd.N_elderB (nF_ HO_49.out) gb275 (Nat.le_of_eq hg.symm)) hb); replace HL274_4 := Aside0.mk (Kd.V_below (Kd.V_elderB (vF_ HL274_4.out) gb275 (Nat.le_of_eq hg.symm)) hb); replace HR274_4 := Aside0.mk (Kd.C_below (by repeat (first | (with_reducible exact HR274_4.out) | (with_reducible refine Kd.C_alloc ?_ _) | (with_reducible refine Kd.C_drewN ?_ _) | (with_reducible refine Kd.C_drew ?_) | exact HR274_4.out)) hb); have GE275 := ge1_ hg GE264; replace HB := nc_ GE264 hb; have NB264_275 := nl_ BK264 hg; have NB275_264 := ng_ BK264 hg; replace BK264 := bK_ BK264 hb; clear hb hg; have hnb43 := NB275_264.out; have hnc43 := NB264_275.out; obtain ⟨hcz44_0, hcz44_1, hcz44_2, hcz44_3, hcz44_4, hfz44_0, hfz44_1, hfz44_2, hfz44_3, hfz44_4⟩ := cf5_ BK275.out))
        go_roundg k3
        case measure => have := HJ3.out; have := HK2.out; have := HK3.out; omega
        case rel => exact ⟨(x10_3), (wrap64 (x51_3 + 1)), sr_, H', ⟨by have := HJ3.out; have := HK2.out; have := HK3.out; omega⟩, ⟨Kd.N_mono (nF_ (Kd.N_mono HO_10.out (fun k_ hk => (⟨hk, hk.2⟩ : _ ∧ k_ ≠ gb275)))) (fun _ hk => ⟨hk.1.1.1, ⟨hk.1.1.2.1, hk.1.1.2.2⟩⟩)⟩, ⟨Kd.N_mono (nF_ (Kd.N_mono HO_49.out (fun k_ hk => (⟨hk, hk.2⟩ : _ ∧ k_ ≠ gb275)))) (fun _ hk => ⟨hk.1.1.1, ⟨hk.1.1.2.1, hk.1.1.2.2⟩⟩)⟩, ⟨uf_ BK264 NB264_275.out⟩, ⟨hs2_ GE264.out GE275.out⟩⟩
       have c28b0 := dgt_ c28
       clear c28
       replace H := ite_ H
       obtain ⟨c29, H⟩ | ⟨c29, H⟩ := H
       rotate_left
       ·have c29b0 := decide_eq_false c29
        clear c29
        have H' := Aside0.mk H
        clear H
        have p274 : 0 ≤ (x51_3 : Int) := oa_
        have q274 : x51_3 < (t270.length : Int) := oa_
        obtain ⟨ad274, A274_4, c274_4, e274, hx274_0, hx274_1, hx274_2, hx274_3, hx274_4, hl274_4, hi274_4⟩ := at_T43 (Kd.N_reads' HO_49.out).2.2 x51_3 p274 q274
        cases e274
        obtain ⟨ce274, hce274, hMe274, hcc274⟩ := Kd.N_get HO_49.out z43 x51_3 p274 (by first | exact q274 | exact oa_ | (have e_ := (Kd.N_reads' HO_49.out).1; omega))
        obtain ⟨ua274_4, uc274_4, rfl, ul274_4, ge274_4⟩ := k43_openF hMe274
        have hv274_4 := hcc274 4 _ rfl
        rw [add_field _ _ 4 (by omega)] at hv274_4
        replace hv274_4 := Option.some.inj (hv274_4.symm.trans hx274_4)
        injection hv274_4 with hva_ hvn_ hvc_
        rw [hva_] at ge274_4
        rw [hvc_] at ul274_4
        have HL274_4 := Aside0.mk (show Kd.V Kd.string 9 _ w.heap.size _ _ ((rd_T43 t270 x51_3).f4) from Kd.V_mk ul274_4 ge274_4)
        clear hva_ hvn_ hvc_ ge274_4 ul274_4
        clear hcc274 hce274
        have HR274_4 := Aside0.mk hi274_4
        have HC274_4 := Aside0.mk hl274_4
        clear hi274_4 hl274_4
        replace p274 := eq_true p274
        replace q274 := eq_true q274
        go_wp2_with (first | ((with_reducible refine gate_dst (N := 14) rfl ?_); (try (refine gate_guard (by rfl) ?_; dsimp only)); refine bq_ (N := 14) #[.int .i64 0, .int .i64 0, .int .i64 0, .int .i64 0, .slice none 0 0] 43 ?_; intro gb275 hg w38 BK275 hb; replace HO_10 := Aside0.mk (Kd.N_below (Kd.N_elderB (nF_ HO_10.out) gb275 (Nat.le_of_eq hg.symm)) hb); replace HO_49 := Aside0.mk (Kd.N_below (Kd.N_elderB (nF_ HO_49.out) gb275 (Nat.le_of_eq hg.symm)) hb); replace HL274_4 := Aside0.mk (Kd.V_below (Kd.V_elderB (vF_ HL274_4.out) gb275 (Nat.le_of_eq hg.symm)) hb); replace HR274_4 := Aside0.mk (Kd.C_below (by repeat (first | (with_reducible exact HR274_4.out) | (with_reducible refine Kd.C_alloc ?_ _) | (with_reducible refine Kd.C_drewN ?_ _) | (with_reducible refine Kd.C_drew ?_) | exact HR274_4.out)) hb); have GE275 := ge1_ hg GE264; replace HB := nc_ GE264 hb; have NB264_275 := nl_ BK264 hg; have NB275_264 := ng_ BK264 hg; replace BK264 := bK_ BK264 hb; clear hb hg; have hnb39 := NB275_264.out; have hnc39 := NB264_275.out; obtain ⟨hcz40_0, hcz40_1, hcz40_2, hcz40_3, hcz40_4, hfz40_0, hfz40_1, hfz40_2, hfz40_3, hfz40_4⟩ := cf5_ BK275.out; obtain ⟨Ao41, co41, eo41⟩ := Kd.N_slice HO_10.out; subst eo41))
        go_roundg k3
        case measure => have := HJ3.out; have := HK2.out; have := HK3.out; omega
        case rel => exact ⟨(x10_3), (wrap64 (x51_3 + 1)), sr_, H', ⟨by have := HJ3.out; have := HK2.out; have := HK3.out; omega⟩, ⟨Kd.N_mono (nF_ (Kd.N_mono HO_10.out (fun k_ hk => (⟨hk, hk.2⟩ : _ ∧ k_ ≠ gb275)))) (fun _ hk => ⟨hk.1.1.1, ⟨hk.1.1.2.1, hk.1.1.2.2⟩⟩)⟩, ⟨Kd.N_mono (nF_ (Kd.N_mono HO_49.out (fun k_ hk => (⟨hk, hk.2⟩ : _ ∧ k_ ≠ gb275)))) (fun _ hk => ⟨hk.1.1.1, ⟨hk.1.1.2.1, hk.1.1.2.2⟩⟩)⟩, ⟨uf_ BK264 NB264_275.out⟩, ⟨hs2_ GE264.out GE275.out⟩⟩
       have c29b0 := decide_eq_true c29
       clear c29
       replace H := ifs_ H
       obtain ⟨c30, H⟩ := H
       have LMc30 := Aside0.mk c30
       clear c30
       obtain ⟨y276, hy276⟩ : ∃ y_ : List (S43), y_ = (x10_3 ++ [(⟨(rd_T43 t270 x51_3).f0, (rd_T43 t270 x51_3).f1, (rd_T43 t270 x51_3).f2, (rd_T43 t270 x51_3).f3, (rd_T43 t270 x51_3).f4⟩ : S43)]) := ⟨_, rfl⟩
       replace H : (spec_ReadFrom.l1 k3 a1 a2 x8_2 y276 t270 (t270.length : Int) (wrap64 (x51_3 + 1)) l0_0 a0_1) = some (r1, r2) := by first | (rw [hy276]; with_reducible exact H) | (have H2_ := (Option.bind_some _ _).symm.trans H; rw [hy276]; with_reducible exact H2_) | (have H2_ := (Option.bind_some _ _).symm.trans H; with_reducible exact H2_) | with_reducible exact H | (rw [hy276]; exact H) | exact H
       have Ny276 := Aside0.mk hy276
       clear hy276
       have H' := Aside0.mk H
       clear H
       have p274 : 0 ≤ (x51_3 : Int) := oa_
       have q274 : x51_3 < (t270.length : Int) := oa_
       obtain ⟨ad274, A274_4, c274_4, e274, hx274_0, hx274_1, hx274_2, hx274_3, hx274_4, hl274_4, hi274_4⟩ := at_T43 (Kd.N_reads' HO_49.out).2.2 x51_3 p274 q274
       cases e274
       obtain ⟨ce274, hce274, hMe274, hcc274⟩ := Kd.N_get HO_49.out z43 x51_3 p274 (by first | exact q274 | exact oa_ | (have e_ := (Kd.N_reads' HO_49.out).1; omega))
       obtain ⟨ua274_4, uc274_4, rfl, ul274_4, ge274_4⟩ := k43_openF hMe274
       have hv274_4 := hcc274 4 _ rfl
       rw [add_field _ _ 4 (by omega)] at hv274_4
       replace hv274_4 := Option.some.inj (hv274_4.symm.trans hx274_4)
       injection hv274_4 with hva_ hvn_ hvc_
       rw [hva_] at ge274_4
       rw [hvc_] at ul274_4
       have HL274_4 := Aside0.mk (show Kd.V Kd.string 9 _ w.heap.size _ _ ((rd_T43 t270 x51_3).f4) from Kd.V_mk ul274_4 ge274_4)
       clear hva_ hvn_ hvc_ ge274_4 ul274_4
       clear hcc274 hce274
       have HR274_4 := Aside0.mk hi274_4
       have HC274_4 := Aside0.mk hl274_4
       clear hi274_4 hl274_4
       replace p274 := eq_true p274
       replace q274 := eq_true q274
       go_wp2_with (first | ((with_reducible refine gate_dst (N := 14) rfl ?_); (try (refine gate_guard (by rfl) ?_; dsimp only)); refine bq_ (N := 14) #[.int .i64 0, .int .i64 0, .int .i64 0, .int .i64 0, .slice none 0 0] 43 ?_; intro gb275 hg w31 BK275 hb; replace HO_10 := Aside0.mk (Kd.N_below (Kd.N_elderB (nF_ HO_10.out) gb275 (Nat.le_of_eq hg.symm)) hb); replace HO_49 := Aside0.mk (Kd.N_below (Kd.N_elderB (nF_ HO_49.out) gb275 (Nat.le_of_eq hg.symm)) hb); replace HL274_4 := Aside0.mk (Kd.V_below (Kd.V_elderB (vF_ HL274_4.out) gb275 (Nat.le_of_eq hg.symm)) hb); replace HR274_4 := Aside0.mk (Kd.C_below (by repeat (first | (with_reducible exact HR274_4.out) | (with_reducible refine Kd.C_alloc ?_ _) | (with_reducible refine Kd.C_drewN ?_ _) | (with_reducible refine Kd.C_drew ?_) | exact HR274_4.out)) hb); have GE275 := ge1_ hg GE264; replace HB := nc_ GE264 hb; have NB264_275 := nl_ BK264 hg; have NB275_264 := ng_ BK264 hg; replace BK264 := bK_ BK264 hb; clear hb hg; have hnb32 := NB275_264.out; have hnc32 := NB264_275.out; obtain ⟨hcz33_0, hcz33_1, hcz33_2, hcz33_3, hcz33_4, hfz33_0, hfz33_1, hfz33_2, hfz33_3, hfz33_4⟩ := cf5_ BK275.out) | ((with_reducible refine gate_store (t := 43) (p := 14) rfl ?_); refine store_event (t := 43) (p := 14) (v := ?vo_w34) (w1 := (((((w31.setCell ⟨gb275, 0, none⟩ (.int .i64 ((rd_T43 t270 x51_3).f0))).setCell ⟨gb275, 1, none⟩ (.int .i64 ((rd_T43 t270 x51_3).f1))).setCell ⟨gb275, 2, none⟩ (.int .i64 ((rd_T43 t270 x51_3).f2))).setCell ⟨gb275, 3, none⟩ (.int .i64 ((rd_T43 t270 x51_3).f3))).setCell ⟨gb275, 4, none⟩ (.slice A274_4 ((rd_T43 t270 x51_3).f4).length c274_4))) ?hg ?ho ?hn ?hr ?_; (case ho => rfl); (case hg => rfl); (case hn => rfl); (case hr => first | (go_simp; done) | (go_simp; rfl)); intro w34 hw; have n0_ : Aside0 (Kd.N k43 43 w34 w.heap.size (fun k_ => (w.heap.size ≤ k_) ∧ some k_ ≠ (.slice (some ad274) t270.length co24 : Value).ownBlock ∧ k_ ≠ gb264 ∧ k_ ≠ gb275) u10 x10_3) := ⟨(by rw [hw]; exact (Kd.N_mono (nF_ (Kd.N_mono HO_10.out (fun k_ hk => (⟨hk, hk.2⟩ : _ ∧ k_ ≠ gb275)))) (fun _ hk => ⟨hk.1.1.1, ⟨hk.1.1.2.1, ⟨hk.1.1.2.2, hk.1.2⟩⟩⟩)))⟩; have n1_ : Aside0 (Kd.N k43 43 w34 w.heap.size (fun k_ => (w.heap.size ≤ k_) ∧ some k_ ≠ (u10 : Value).ownBlock ∧ k_ ≠ gb264 ∧ k_ ≠ gb275) (.slice (some ad274) t270.length co24) t270) := ⟨(by rw [hw]; exact (Kd.N_mono (nF_ (Kd.N_mono HO_49.out (fun k_ hk => (⟨hk, hk.2⟩ : _ ∧ k_ ≠ gb275)))) (fun _ hk => ⟨hk.1.1.1, ⟨hk.1.1.2.1, ⟨hk.1.1.2.2, hk.1.2⟩⟩⟩)))⟩; have n2_ : Aside0 (Kd.V Kd.string 9 w34 w.heap.size (fun k_ => (w.heap.size ≤ k_) ∧ some k_ ≠ (u10 : Value).ownBlock ∧ some k_ ≠ (.slice (some ad274) t270.length co24 : Value).ownBlock ∧ k_ ≠ gb264 ∧ k_ ≠ gb275) (.slice A274_4 ((rd_T43 t270 x51_3).f4).length c274_4) ((rd_T43 t270 x51_3).f4)) := ⟨(by rw [hw]; exact (Kd.V_mono (vF_ (Kd.V_mono HL274_4.out (fun k_ hk => (⟨hk, hk.2⟩ : _ ∧ k_ ≠ gb275)))) (fun _ hk => ⟨hk.1.1.1.1, ⟨hk.1.1.1.2.1, ⟨hk.1.1.2, ⟨hk.1.1.1.2.2, hk.1.2⟩⟩⟩⟩)))⟩; have n3_ : Aside0 (w34.heap[gb264]? = some (.cells #[.slice (some ad269) l0_0.length c0_0, .int .i64 a0_1] 24 (0, 0))) := ⟨(by rw [hw]; exact (uf_ BK264 NB264_275.out))⟩; have n4_ : Aside0 (w34.heap[gb275]? = some (.cells #[.int .i64 ((rd_T43 t270 x51_3).f0), .int .i64 ((rd_T43 t270 x51_3).f1), .int .i64 ((rd_T43 t270 x51_3).f2), .int .i64 ((rd_T43 t270 x51_3).f3), .slice A274_4 ((rd_T43 t270 x51_3).f4).length c274_4] 43 (0, 0))) := ⟨(by rw [hw]; exact (up_ BK275))⟩; have n5_ : Aside0 (Below w.heap.size w w34) := ⟨(by rw [hw]; exact (hs2_ GE264.out GE275.out))⟩; clear hw; clear HO_10; clear HO_49; clear HL274_4; clear BK264; clear BK275; clear HB; have HO_10 := n0_; have HO_49 := n1_; have HL274_4 := n2_; have BK264 := n3_; have BK275 := n4_; have HB := n5_; clear n0_ n1_ n2_ n3_ n4_ n5_; obtain ⟨hcz35_0, hcz35_1, hcz35_2, hcz35_3, hcz35_4, hfz35_0, hfz35_1, hfz35_2, hfz35_3, hfz35_4⟩ := cf5_ BK275.out; obtain ⟨Ao36, co36, eo36⟩ := Kd.N_slice HO_10.out; subst eo36) | ((with_reducible refine gate_builtin (b := .append) (xs := #[.tmp 69, .tmp 71]) rfl ?_); (try (refine gate_guard (by rfl) ?_; dsimp only)); at_builtin; refine Kd.N_append k43 (w0 := w) w.heap.size rfl (.tmp 69) (.tmp 71) 48 43 (.agg #[(.int .i64 0), (.int .i64 0), (.int .i64 0), (.int .i64 0), (.slice none 0 0)]) 56 rfl Try.underlying48 info43 rfl (by decide) (by omega) (.slice Ao36 x10_3.length co36) x10_3 (⟨(rd_T43 t270 x51_3).f0, (rd_T43 t270 x51_3).f1, (rd_T43 t270 x51_3).f2, (rd_T43 t270 x51_3).f3, (rd_T43 t270 x51_3).f4⟩ : S43) [.int .i64 ((rd_T43 t270 x51_3).f0), .int .i64 ((rd_T43 t270 x51_3).f1), .int .i64 ((rd_T43 t270 x51_3).f2), .int .i64 ((rd_T43 t270 x51_3).f3), .slice A274_4 ((rd_T43 t270 x51_3).f4).length c274_4] (fun k_ => (w.heap.size ≤ k_) ∧ some k_ ≠ (.slice (some ad274) t270.length co24 : Value).ownBlock ∧ k_ ≠ gb264 ∧ k_ ≠ gb275) (fun k_ => ((fun k_ => (w.heap.size ≤ k_) ∧ some k_ ≠ (.slice (some ad274) t270.length co24 : Value).ownBlock ∧ k_ ≠ gb264 ∧ k_ ≠ gb275)) k_ ∧ some k_ ≠ (.slice Ao36 x10_3.length co36 : Value).ownBlock) rfl rfl ?aP (fun _ hk => hk) ?aF ?aO ?aB ?aS ?aL ?_; (case aP => exact (k43_mkF _ _ (⟨(rd_T43 t270 x51_3).f0, (rd_T43 t270 x51_3).f1, (rd_T43 t270 x51_3).f2, (rd_T43 t270 x51_3).f3, (rd_T43 t270 x51_3).f4⟩ : S43) (Kd.V_reads' (Kd.V_mono (ok' := (fun k_ => ((fun k_ => (w.heap.size ≤ k_) ∧ some k_ ≠ (.slice (some ad274) t270.length co24 : Value).ownBlock ∧ k_ ≠ gb264 ∧ k_ ≠ gb275)) k_ ∧ some k_ ≠ (.slice Ao36 x10_3.length co36 : Value).ownBlock)) (HL274_4.out) (fun k_ hk => ⟨⟨hk.1, ⟨hk.2.2.1, ⟨hk.2.2.2.1, hk.2.2.2.2⟩⟩⟩, hk.2.1⟩))).2.1 (Kd.V_F (Kd.V_mono (ok' := (fun k_ => ((fun k_ => (w.heap.size ≤ k_) ∧ some k_ ≠ (.slice (some ad274) t270.length co24 : Value).ownBlock ∧ k_ ≠ gb264 ∧ k_ ≠ gb275)) k_ ∧ some k_ ≠ (.slice Ao36 x10_3.length co36 : Value).ownBlock)) (HL274_4.out) (fun k_ hk => ⟨⟨hk.1, ⟨hk.2.2.1, ⟨hk.2.2.2.1, hk.2.2.2.2⟩⟩⟩, hk.2.1⟩))))); (case aB => exact (hs2_ GE264.out GE275.out)); (case aF => exact (fun k_ hk => ⟨(Nat.le_trans (below_size (hs2_ GE264.out GE275.out)) hk), Kd.fresh' (Kd.N_lt (nF_ HO_49.out)) k_ hk, Kd.freshB (g := gb264) (o := .cells #[.slice (some ad269) l0_0.length c0_0, .int .i64 a0_1] 24 (0, 0)) (kb_ BK264.out) k_ hk, Kd.freshB (g := gb275) (o := .cells #[.int .i64 ((rd_T43 t270 x51_3).f0), .int .i64 ((rd_T43 t270 x51_3).f1), .int .i64 ((rd_T43 t270 x51_3).f2), .int .i64 ((rd_T43 t270 x51_3).f3), .slice A274_4 ((rd_T43 t270 x51_3).f4).length c274_4] 43 (0, 0)) (kb_ BK275.out) k_ hk⟩)); (case aO => exact (nF_ HO_10.out)); (case aS => exact (below_size (hs2_ GE264.out GE275.out))); (case aL => have := LMc30.out; omega); intro v277 w37 ho hb hg hat; rw [← Ny276.out] at ho; replace HO_49 := Aside0.mk (Kd.N_afterv (ok := (fun k_ => (w.heap.size ≤ k_) ∧ k_ ≠ gb264 ∧ k_ ≠ gb275)) (nF_ (Kd.N_mono HO_49.out (fun _ hk => ⟨⟨hk.1, ⟨hk.2.2.1, hk.2.2.2⟩⟩, hk.2.1⟩))) hg hat); replace BK264 := Aside0.mk (blk_grown (g := gb264) (o := .cells #[.slice (some ad269) l0_0.length c0_0, .int .i64 a0_1] 24 (0, 0)) (kb_ BK264.out) hg (Kd.N_ne HO_10.out BK264.out (by decide))); replace HL274_4 := Aside0.mk (Kd.V_afterv (ok := (fun k_ => (w.heap.size ≤ k_) ∧ some k_ ≠ (.slice (some ad274) t270.length co24 : Value).ownBlock ∧ k_ ≠ gb264 ∧ k_ ≠ gb275)) (vF_ (Kd.V_mono HL274_4.out (fun _ hk => ⟨⟨hk.1, ⟨hk.2.2.1, ⟨hk.2.2.2.1, hk.2.2.2.2⟩⟩⟩, hk.2.1⟩))) hg hat); replace BK275 := Aside0.mk (blk_grown (g := gb275) (o := .cells #[.int .i64 ((rd_T43 t270 x51_3).f0), .int .i64 ((rd_T43 t270 x51_3).f1), .int .i64 ((rd_T43 t270 x51_3).f2), .int .i64 ((rd_T43 t270 x51_3).f3), .slice A274_4 ((rd_T43 t270 x51_3).f4).length c274_4] 43 (0, 0)) (kb_ BK275.out) hg (Kd.N_away HO_10.out (fun _ hk => hk.2.2.2))); replace HB := Aside0.mk (hb); have HO278 := Aside0.mk (ho); clear HO_10; clear ho hb hg hat))
       go_roundg k3
       case measure => have := HJ3.out; have := HK2.out; have := HK3.out; omega
       case rel => exact ⟨(y276), (wrap64 (x51_3 + 1)), sr_, H', ⟨by have := HJ3.out; have := HK2.out; have := HK3.out; omega⟩, ⟨nF_ (Kd.N_mono HO278.out (fun _ hk => ⟨hk.1, ⟨hk.2.1, hk.2.2.1⟩⟩))⟩, ⟨nF_ (Kd.N_mono HO_49.out (fun _ hk => ⟨hk.1.1, ⟨hk.2, hk.1.2.1⟩⟩))⟩, ⟨kb_ BK264.out⟩, ⟨hs2_ GE264.out GE275.out⟩⟩

/-! ### spec_FindBatch: function 29 -/
def spec_FindBatch.f (k : Nat) (l0_0 : List (S65)) (a0_1 : Int) (a1 : Int) : Option (Int × Int × Int × Int × List ByteArray × Bool) := (spec_ReadFrom.f k l0_0 a0_1 a1 1).bind fun bt281 => (if bt281.2 = true then (if 0 < (bt281.1.length : Int) then (some ((rd_T43 bt281.1 0).f0, (rd_T43 bt281.1 0).f1, (rd_T43 bt281.1 0).f2, (rd_T43 bt281.1 0).f3, (rd_T43 bt281.1 0).f4, true)) else (none)) else (some (0, 0, 0, 0, ([] : List ByteArray), false)))
theorem spec_FindBatch.mono : ∀ a0 a1 a2 k, LeO (spec_FindBatch.f k a0 a1 a2) (spec_FindBatch.f (k + 1) a0 a1 a2) := by
 intro a0 a1 a2 k
 unfold spec_FindBatch.f
 repeat' first
   | (with_reducible first | apply spec_ReadFrom.mono | exact LeO.refl _ | exact LeO.none _ | refine LeO.ite ?_ ?_ | refine LeO.bind ?_ (fun _ => ?_))
set_option maxHeartbeats 8000000 in
set_option maxRecDepth 100000 in
theorem spec_FindBatch.calls (k : Nat) (A0_0 : Option Addr) (c0_0 : Nat) (l0_0 : List (S65)) (a0_1 : Int) (a1 : Int) (r1 : Int) (r2 : Int) (r3 : Int) (r4 : Int) (r5 : List ByteArray) (r6 : Bool) (w : World) (hr0_0 : Kd.C k65 w A0_0 l0_0.length l0_0) (hc0_0 : l0_0.length ≤ c0_0) (h : spec_FindBatch.f k l0_0 a0_1 a1 = some (r1, r2, r3, r4, r5, r6)) :
  Calls Try.prog 29 #[.agg #[.slice A0_0 l0_0.length c0_0, .int .i64 a0_1], .int .i64 a1] w fun e w' => ∃ v4_ : Value, e = .returned (.tuple #[.agg #[.int .i64 r1, .int .i64 r2, .int .i64 r3, .int .i64 r4, v4_], .bool r6]) ∧ Kd.V Kd.string 9 w' w.heap.size (fun k_ => (w.heap.size ≤ k_)) v4_ r5 ∧ Below w.heap.size w w' := by
 have hu24 := Try.underlying24
 have hu43 := Try.underlying43
 have HR0_0 := Aside0.mk hr0_0
 have HC0_0 := Aside0.mk hc0_0
 clear hr0_0 hc0_0
 have HB := Aside0.mk (Below.refl w.heap.size w)
 have H : ((spec_ReadFrom.f k l0_0 a0_1 a1 1).bind fun bt281 => (if bt281.2 = true then (if 0 < (bt281.1.length : Int) then (some ((rd_T43 bt281.1 0).f0, (rd_T43 bt281.1 0).f1, (rd_T43 bt281.1 0).f2, (rd_T43 bt281.1 0).f3, (rd_T43 bt281.1 0).f4, true)) else (none)) else (some (0, 0, 0, 0, ([] : List ByteArray), false)))) = some (r1, r2, r3, r4, r5, r6) := h
 clear h
 replace H := bnd_ H
 obtain ⟨⟨t281, t284⟩, A3, H⟩ := H
 replace H := red_ H
 replace H := ifb_ H
 obtain ⟨rfl, H⟩ | ⟨rfl, H⟩ := H
 rotate_left
 ·simp only [Option.some.injEq, Prod.mk.injEq] at H
  obtain ⟨rfl, rfl, rfl, rfl, rfl, rfl⟩ := H
  go_enter Try.func29, Try.ntmps29
  go_wp2_with (first | ((with_reducible refine gate_dst (N := 2) rfl ?_); refine bq_ (N := 2) #[.slice A0_0 l0_0.length c0_0, .int .i64 a0_1] 24 ?_; intro gb279 hg w13 BK279 hb; have GE279 := ge_ hg; replace HB := nb_ hb; clear hb hg) | ((with_reducible refine gate_dst (N := 4) rfl ?_); refine bq_ (N := 4) #[.int .i64 0, .int .i64 0, .int .i64 0, .int .i64 0, .slice none 0 0] 43 ?_; intro gb280 hg w14 BK280 hb; have GE280 := ge1_ hg GE279; replace HB := nc_ GE279 hb; have NB279_280 := nl_ BK279 hg; have NB280_279 := ng_ BK279 hg; replace BK279 := bK_ BK279 hb; clear hb hg; have hnb15 := NB279_280.out; have hnc15 := NB280_279.out; obtain ⟨hcz16_0, hcz16_1, hfz16_0, hfz16_1⟩ := cf2_ BK279.out) | ((with_reducible refine gate_callee (f := 45) rfl ?_); refine gl_ 11 Try.func45 #[.agg #[.slice A0_0 l0_0.length c0_0, .int .i64 a0_1], .int .i64 a1, .int .i64 1] rfl ma_ ?_; (with_reducible refine (spec_ReadFrom.calls k _ _ l0_0 a0_1 a1 1 t281 false _ ?side1 ?side2 A3.out).mono ?_); (case side1 => exact cs_ ((Kd.C_below HR0_0.out HB.out))); (case side2 => exact HC0_0.out); rintro e w17 ⟨v282, rfl, ho0, hb⟩; refine ⟨_, rfl, ?_⟩; have HO283 := Aside0.mk (Kd.N_lower (Kd.N_mono (ok' := fun k_ => (w.heap.size ≤ k_) ∧ k_ ≠ gb279 ∧ k_ ≠ gb280) ho0 (fun k_ hk_ => ⟨(Nat.le_trans (below_size (hs2_ GE279.out GE280.out)) hk_), (Kd.freshB (g := gb279) (o := .cells #[.slice A0_0 l0_0.length c0_0, .int .i64 a0_1] 24 (0, 0)) (kb_ BK279.out) k_ hk_), (Kd.freshB (g := gb280) (o := .cells #[.int .i64 0, .int .i64 0, .int .i64 0, .int .i64 0, .slice none 0 0] 43 (0, 0)) (kb_ BK280.out) k_ hk_)⟩)) (below_size (hs2_ GE279.out GE280.out))); replace BK279 := bK_ BK279 hb; replace BK280 := bK_ BK280 hb; replace HB := nc2_ GE279 GE280 hb; (try clear hb); (try clear hb2); (try clear hk); (try clear hi); (try clear ho0); obtain ⟨hcz18_0, hcz18_1, hcz18_2, hcz18_3, hcz18_4, hfz18_0, hfz18_1, hfz18_2, hfz18_3, hfz18_4⟩ := cf5_ BK280.out))
  refine bodyPost_ret (results_ct rfl _ _ gb280 43 #[.int .i64 0, .int .i64 0, .int .i64 0, .int .i64 0, .slice none 0 0] (0, 0) _ rfl (up_ BK280) Try.underlying43 rfl (by kernel_rfl)) rfl ?_
  exact ⟨_, er_, ni_, hs2_ GE279.out GE280.out⟩
 replace H := ifs_ H
 obtain ⟨c5, H⟩ := H
 have c5b0 := decide_eq_true c5
 have c5b1 : decide (0 < t281.length) = true := decide_eq_true (by omega)
 clear c5
 simp only [Option.some.injEq, Prod.mk.injEq] at H
 obtain ⟨rfl, rfl, rfl, rfl, rfl, rfl⟩ := H
 go_enter Try.func29, Try.ntmps29
 go_wp2_with (first | ((with_reducible refine gate_dst (N := 2) rfl ?_); refine bq_ (N := 2) #[.slice A0_0 l0_0.length c0_0, .int .i64 a0_1] 24 ?_; intro gb279 hg w6 BK279 hb; have GE279 := ge_ hg; replace HB := nb_ hb; clear hb hg) | ((with_reducible refine gate_dst (N := 4) rfl ?_); refine bq_ (N := 4) #[.int .i64 0, .int .i64 0, .int .i64 0, .int .i64 0, .slice none 0 0] 43 ?_; intro gb280 hg w7 BK280 hb; have GE280 := ge1_ hg GE279; replace HB := nc_ GE279 hb; have NB279_280 := nl_ BK279 hg; have NB280_279 := ng_ BK279 hg; replace BK279 := bK_ BK279 hb; clear hb hg; have hnb8 := NB279_280.out; have hnc8 := NB280_279.out; obtain ⟨hcz9_0, hcz9_1, hfz9_0, hfz9_1⟩ := cf2_ BK279.out) | ((with_reducible refine gate_callee (f := 45) rfl ?_); refine gl_ 11 Try.func45 #[.agg #[.slice A0_0 l0_0.length c0_0, .int .i64 a0_1], .int .i64 a1, .int .i64 1] rfl ma_ ?_; (with_reducible refine (spec_ReadFrom.calls k _ _ l0_0 a0_1 a1 1 t281 true _ ?side1 ?side2 A3.out).mono ?_); (case side1 => exact cs_ ((Kd.C_below HR0_0.out HB.out))); (case side2 => exact HC0_0.out); rintro e w10 ⟨v282, rfl, ho0, hb⟩; refine ⟨_, rfl, ?_⟩; have HO283 := Aside0.mk (Kd.N_lower (Kd.N_mono (ok' := fun k_ => (w.heap.size ≤ k_) ∧ k_ ≠ gb279 ∧ k_ ≠ gb280) ho0 (fun k_ hk_ => ⟨(Nat.le_trans (below_size (hs2_ GE279.out GE280.out)) hk_), (Kd.freshB (g := gb279) (o := .cells #[.slice A0_0 l0_0.length c0_0, .int .i64 a0_1] 24 (0, 0)) (kb_ BK279.out) k_ hk_), (Kd.freshB (g := gb280) (o := .cells #[.int .i64 0, .int .i64 0, .int .i64 0, .int .i64 0, .slice none 0 0] 43 (0, 0)) (kb_ BK280.out) k_ hk_)⟩)) (below_size (hs2_ GE279.out GE280.out))); replace BK279 := bK_ BK279 hb; replace BK280 := bK_ BK280 hb; replace HB := nc2_ GE279 GE280 hb; (try clear hb); (try clear hb2); (try clear hk); (try clear hi); (try clear ho0); obtain ⟨Ao11, co11, eo11⟩ := Kd.N_slice HO283.out; subst eo11; have p285 : 0 ≤ (0 : Int) := (by omega); have q285 : 0 < (t281.length : Int) := oa_; obtain ⟨ad285, A285_4, c285_4, e285, hx285_0, hx285_1, hx285_2, hx285_3, hx285_4, hl285_4, hi285_4⟩ := at_T43 (Kd.N_reads' HO283.out).2.2 0 p285 q285; cases e285; obtain ⟨ce285, hce285, hMe285, hcc285⟩ := Kd.N_get HO283.out z43 0 p285 (by first | exact q285 | exact oa_ | (have e_ := (Kd.N_reads' HO283.out).1; omega)); obtain ⟨ua285_4, uc285_4, rfl, ul285_4, ge285_4⟩ := k43_openF hMe285; have hv285_4 := hcc285 4 _ rfl; rw [add_field _ _ 4 (by omega)] at hv285_4; replace hv285_4 := Option.some.inj (hv285_4.symm.trans hx285_4); injection hv285_4 with hva_ hvn_ hvc_; rw [hva_] at ge285_4; rw [hvc_] at ul285_4; have HL285_4 := Aside0.mk (show Kd.V Kd.string 9 _ w.heap.size _ _ ((rd_T43 t281 0).f4) from Kd.V_mk ul285_4 ge285_4); clear hva_ hvn_ hvc_ ge285_4 ul285_4; clear hcc285 hce285; have qi285 : (0 < t281.length) = True := eq_true (by omega); (try rw [show ((0 : Int)).toNat = 0 from rfl] at hx285_0); (try rw [show 0 * 5 = 0 from rfl] at hx285_0); (try rw [Addr.add_zero'] at hx285_0); (try rw [show ((0 : Int)).toNat = 0 from rfl] at hx285_1); (try rw [show 0 * 5 = 0 from rfl] at hx285_1); (try rw [Addr.add_zero'] at hx285_1); (try rw [show ((0 : Int)).toNat = 0 from rfl] at hx285_2); (try rw [show 0 * 5 = 0 from rfl] at hx285_2); (try rw [Addr.add_zero'] at hx285_2); (try rw [show ((0 : Int)).toNat = 0 from rfl] at hx285_3); (try rw [show 0 * 5 = 0 from rfl] at hx285_3); (try rw [Addr.add_zero'] at hx285_3); (try rw [show ((0 : Int)).toNat = 0 from rfl] at hx285_4); (try rw [show 0 * 5 = 0 from rfl] at hx285_4); (try rw [Addr.add_zero'] at hx285_4); have HR285_4 := Aside0.mk hi285_4; have HC285_4 := Aside0.mk hl285_4; clear hi285_4 hl285_4; replace p285 := eq_true p285; replace q285 := eq_true q285; obtain ⟨hcz12_0, hcz12_1, hcz12_2, hcz12_3, hcz12_4, hfz12_0, hfz12_1, hfz12_2, hfz12_3, hfz12_4⟩ := cf5_ BK280.out))
 refine bodyPost_ret (results_ct rfl _ _ gb280 43 #[.int .i64 ((rd_T43 t281 0).f0), .int .i64 ((rd_T43 t281 0).f1), .int .i64 ((rd_T43 t281 0).f2), .int .i64 ((rd_T43 t281 0).f3), .slice A285_4 ((rd_T43 t281 0).f4).length c285_4] (0, 0) _ rfl (up_ BK280) Try.underlying43 rfl (by kernel_rfl)) rfl ?_
 exact ⟨_, er_, Kd.V_mono (vF_ (Kd.V_mono HL285_4.out (fun k_ hk => (⟨hk, hk.1.2.2⟩ : _ ∧ k_ ≠ gb280)))) (fun _ hk => hk.1.1.1), hs2_ GE279.out GE280.out⟩

/-! ### impl_in: function 58 -/
def impl_in.f (a0 : Int) (a1 : Int) (a2 : Int) : Option (Bool) := if a0 ≥ a1 then (some (decide (a0 ≤ a2))) else (some false)
set_option maxHeartbeats 8000000 in
set_option maxRecDepth 100000 in
theorem impl_in.calls (a0 : Int) (a1 : Int) (a2 : Int) (r : Bool) (w : World) (h : impl_in.f a0 a1 a2 = some r) :
  Calls Try.prog 58 #[.int .i64 a0, .int .i64 a1, .int .i64 a2] w fun e w' => e = .returned (.bool r) ∧ Drawn0 w w' := by
 have H : (if a0 ≥ a1 then (some (decide (a0 ≤ a2))) else (some false)) = some r := h
 clear h
 replace H := ite_ H
 obtain ⟨c4, H⟩ | ⟨c4, H⟩ := H
 rotate_left
 ·have c4b0 := dne_ c4
  clear c4
  obtain rfl := Option.some.inj H
  go_enter Try.func58, Try.ntmps58
  go_wp2
  go_ret
  exact ⟨by first | rfl | (simp; done) | (simp [*]; done), dr_⟩
 have c4b0 := dge_ c4
 clear c4
 obtain rfl := Option.some.inj H
 go_enter Try.func58, Try.ntmps58
 go_wp2
 go_ret
 exact ⟨by first | rfl | (simp; done) | (simp [*]; done), dr_⟩

/-! ### impl_Batch_end: function 77 -/
def impl_Batch_end.f (a0_0 : Int) (a0_1 : Int) (a0_2 : Int) (a0_3 : Int) (l0_4 : List ByteArray) : Option (Int) := some (wrap64 (a0_0 + (l0_4.length : Int)))
set_option maxHeartbeats 8000000 in
set_option maxRecDepth 100000 in
theorem impl_Batch_end.calls (a0_0 : Int) (a0_1 : Int) (a0_2 : Int) (a0_3 : Int) (A0_4 : Option Addr) (c0_4 : Nat) (l0_4 : List ByteArray) (r : Int) (w : World) (hr0_4 : Kd.C Kd.string w A0_4 l0_4.length l0_4) (hc0_4 : l0_4.length ≤ c0_4) (h : impl_Batch_end.f a0_0 a0_1 a0_2 a0_3 l0_4 = some r) :
  Calls Try.prog 77 #[.agg #[.int .i64 a0_0, .int .i64 a0_1, .int .i64 a0_2, .int .i64 a0_3, .slice A0_4 l0_4.length c0_4]] w fun e w' => e = .returned (.int .i64 r) ∧ Below w.heap.size w w' := by
 have hu43 := Try.underlying43
 have HR0_4 := Aside0.mk hr0_4
 have HC0_4 := Aside0.mk hc0_4
 clear hr0_4 hc0_4
 have HB := Aside0.mk (Below.refl w.heap.size w)
 have H : (some (wrap64 (a0_0 + (l0_4.length : Int)))) = some r := h
 clear h
 obtain rfl := Option.some.inj H
 go_enter Try.func77, Try.ntmps77
 go_wp2_with (first | ((with_reducible refine gate_dst (N := 1) rfl ?_); refine bq_ (N := 1) #[.int .i64 a0_0, .int .i64 a0_1, .int .i64 a0_2, .int .i64 a0_3, .slice A0_4 l0_4.length c0_4] 43 ?_; intro gb286 hg w2 BK286 hb; have GE286 := ge_ hg; replace HB := nb_ hb; clear hb hg; obtain ⟨hcz3_0, hcz3_1, hcz3_2, hcz3_3, hcz3_4, hfz3_0, hfz3_1, hfz3_2, hfz3_3, hfz3_4⟩ := cf5_ BK286.out))
 go_ret
 exact ⟨er_, hs_ GE286.out⟩

/-! ### impl_put: function 111 -/
def impl_put.l0 : Nat → Int → List Int → Int → Option (ByteArray)
 | 0, _, _, _ => none
 | k + 1, x0, x5, x6 => if x6 ≥ 0 then (if 0 ≤ x6 then (if x6 < (x5.length : Int) then (impl_put.l0 k (x0 / 256) (x5.set (x6 : Int).toNat ((x0) % 256)) (wrap64 (x6 - 1))) else (none)) else (none)) else (some (strOfNums x5))
def impl_put.f (k : Nat) (a0 : Int) (a1 : Int) : Option (ByteArray) := if 0 ≤ a1 then (if (a1 : Int).toNat ≤ 281474976710656 then (impl_put.l0 k a0 (List.replicate (a1 : Int).toNat 0) (wrap64 (a1 - 1))) else (none)) else (none)
theorem impl_put.mono_l : ∀ k, (∀ y0 y1 y2, LeO (impl_put.l0 k y0 y1 y2) (impl_put.l0 (k + 1) y0 y1 y2))
 | 0 => fun _ _ _ r h => by simp [impl_put.l0] at h
 | k + 1 => by
  have ih0 := impl_put.mono_l k
  ·intro y0 y1 y2
   unfold impl_put.l0
   repeat' first
   | (with_reducible first | apply ih0 | exact LeO.refl _ | exact LeO.none _ | refine LeO.ite ?_ ?_ | refine LeO.bind ?_ (fun _ => ?_))
theorem impl_put.mono : ∀ a0 a1 k, LeO (impl_put.f k a0 a1) (impl_put.f (k + 1) a0 a1) := by
 intro a0 a1 k
 have ih0 := impl_put.mono_l k
 unfold impl_put.f
 repeat' first
   | (with_reducible first | apply ih0 | exact LeO.refl _ | exact LeO.none _ | refine LeO.ite ?_ ?_ | refine LeO.bind ?_ (fun _ => ?_))
set_option maxHeartbeats 8000000 in
set_option maxRecDepth 100000 in
theorem impl_put.calls (k : Nat) (a0 : Int) (a1 : Int) (r : ByteArray) (w : World) (h : impl_put.f k a0 a1 = some r) :
  Calls Try.prog 111 #[.int .i64 a0, .int .i64 a1] w fun e w' => e = .returned (.string r) ∧ Below w.heap.size w w' := by
 have HB := Aside0.mk (Below.refl w.heap.size w)
 have H : (if 0 ≤ a1 then (if (a1 : Int).toNat ≤ 281474976710656 then (impl_put.l0 k a0 (List.replicate (a1 : Int).toNat 0) (wrap64 (a1 - 1))) else (none)) else (none)) = some r := h
 clear h
 replace H := ifs_ H
 obtain ⟨c3, H⟩ := H
 have c3b0 := eq_true c3
 have c3b1 := decide_eq_true c3
 clear c3
 replace H := ifs_ H
 obtain ⟨c4, H⟩ := H
 have c4b0 := eq_true c4
 have c4b1 := decide_eq_true c4
 clear c4
 obtain ⟨y287, hy287⟩ : ∃ y_ : List Int, y_ = (List.replicate (a1 : Int).toNat 0) := ⟨_, rfl⟩
 replace H : (impl_put.l0 k a0 y287 (wrap64 (a1 - 1))) = some r := by first | (rw [hy287]; with_reducible exact H) | (have H2_ := (Option.bind_some _ _).symm.trans H; rw [hy287]; with_reducible exact H2_) | (have H2_ := (Option.bind_some _ _).symm.trans H; with_reducible exact H2_) | with_reducible exact H | (rw [hy287]; exact H) | exact H
 have Ny287 := Aside0.mk hy287
 clear hy287
 have H' := Aside0.mk H
 clear H
 go_enter Try.func111, Try.ntmps111
 go_wp2_with (first | ((with_reducible refine gate_dst (N := 8) rfl ?_); refine Kd.R_make (Kd.int .u8) _ 5 rfl (N := 8) rfl 60 _ _ rfl a1 rfl rfl Try.underlying60 (.int .u8 0) 1 info5 rfl (by decide) (by omega) 0 (ok := fun _ => True) (okp := fun _ => True) rfl (fun _ hk => hk) trivial (oa_) (Nat.le_trans (Nat.mul_le_mul_right _ (oa_ : a1.toNat ≤ 281474976710656)) (by omega)) (Below.refl _ _) (Nat.le_refl _) ?_; intro v288 w5 ho6 hb hg_ hnew_; clear hg_ hnew_; (first | rw [← Ny287.out] at ho6 | (simp only [Int.reduceToNat] at ho6; rw [← Ny287.out] at ho6)); have HO289 := Aside0.mk (Kd.R_lower ho6 (below_size (hb_))); replace HB := nb_ hb; clear hb ho6))
 go_loopg [0, 6] k (fun kq v0 v6 w' => ∃ (x0_1 : Int) (x5_1 : List Int) (x6_1 : Int), v0 = .int .i64 x0_1 ∧ v6 = .int .i64 x6_1 ∧ Aside0 (impl_put.l0 kq x0_1 x5_1 x6_1 = some r) ∧ Aside0 (kq ≤ k) ∧ Aside0 (Kd.R (Kd.int .u8) 5 w' w.heap.size (fun _ => True) v288 x5_1) ∧ Aside0 (Below w.heap.size w w'))
 case atStart => exact ⟨(a0), (y287), (wrap64 (a1 - 1)), sr_, sr_, H', ⟨Nat.le_refl _⟩, ⟨kr_ HO289.out⟩, ⟨hb_⟩⟩
 case round =>
  clear H'
  try clear c3
  try clear c3b0
  try clear c3b1
  try clear c4
  try clear c4b0
  try clear c4b1
  obtain ⟨x0_1, x5_1, x6_1, rfl, rfl, HA, HK1, HO_5, HB⟩ := hrel
  cases gk with
  | zero => exact absurd HA.out (by simp [impl_put.l0])
  | succ k1 =>
   have H := HA.out
   clear HA
   simp only [impl_put.l0] at H
   replace H := ite_ H
   obtain ⟨c7, H⟩ | ⟨c7, H⟩ := H
   rotate_left
   ·have c7b0 := dne_ c7
    clear c7
    obtain rfl := Option.some.inj H
    have hcv13 := own_string (P := Try.prog) Try.underlying60 Try.underlying5 Try.underlying9 (Kd.own_of_R HO_5.out)
    go_wp2
    go_ret
    exact ⟨er_, hb_⟩
   have c7b0 := dge_ c7
   clear c7
   replace H := ifs_ H
   obtain ⟨c8, H⟩ := H
   have c8b0 := decide_eq_true c8
   clear c8
   replace H := ifs_ H
   obtain ⟨c9, H⟩ := H
   have c9b0 := decide_eq_true c9
   clear c9
   obtain ⟨y290, hy290⟩ : ∃ y_ : List Int, y_ = (x5_1.set (x6_1 : Int).toNat ((x0_1) % 256)) := ⟨_, rfl⟩
   replace H : (impl_put.l0 k1 (x0_1 / 256) y290 (wrap64 (x6_1 - 1))) = some r := by first | (rw [hy290]; with_reducible exact H) | (have H2_ := (Option.bind_some _ _).symm.trans H; rw [hy290]; with_reducible exact H2_) | (have H2_ := (Option.bind_some _ _).symm.trans H; with_reducible exact H2_) | with_reducible exact H | (rw [hy290]; exact H) | exact H
   have Ny290 := Aside0.mk hy290
   clear hy290
   have H' := Aside0.mk H
   clear H
   have p10 : 0 ≤ (x6_1 : Int) := oa_
   have q10 : (x6_1 : Int) < ((x5_1.length : Int) : Int) := oa_
   obtain ⟨go10, co10, eo10, gb10, gl10, cl10, HG10⟩ := Kd.R_form HO_5.out (by omega)
   (first | cases eo10 | (injection eo10 with ea_ en_ ec_; (first | subst ea_ | (injection ea_ with ea_; subst ea_)); subst ec_; clear en_))
   have GB10 := Aside0.mk gb10
   have GG10 := Aside0.mk HG10
   clear gb10 gl10 HG10
   obtain ⟨hx10_0, hf10_0⟩ := Kd.R_celln 0 HO_5.out (x6_1 : Int) p10 q10
   replace p10 := eq_true p10
   replace q10 := eq_true q10
   have HP11 := Kd.R_putg HO_5.out (x6_1 : Int) ((x0_1) % 256)
   go_wp2_with (first | ((with_reducible refine gate_store (t := 5) (p := 19) rfl ?_); refine store_event (t := 5) (p := 19) (v := ?vo_w12) (w1 := (wr.setCell ⟨go10, (x6_1 : Int).toNat, none⟩ (.int .u8 ((x0_1) % 256)))) ?hg ?ho ?hn ?hr ?_; (case ho => rfl); (case hg => rfl); (case hn => rfl); (case hr => first | (go_simp; done) | (go_simp; rfl)); intro w12 hw; have hg : wr.grownBy w12 (some go10) := (by rw [hw]; exact HP11.2); have hp_ : Kd.R (Kd.int .u8) 5 w12 w.heap.size (fun _ => True) (.slice (some ⟨go10, 0, none⟩) x5_1.length co10) y290 := (by rw [hw, Ny290.out]; exact HP11.1); clear HP11; replace HO_5 := Aside0.mk (hp_); replace HB := Aside0.mk ((by rw [hw]; exact below_set (HB.out) GB10.out : Below w.heap.size w w12)); clear hg hw hp_))
   go_roundg k1
   case measure => have := HK1.out; omega
   case rel => exact ⟨(x0_1 / 256), (y290), (wrap64 (x6_1 - 1)), sr_, sr_, H', ⟨by have := HK1.out; omega⟩, ⟨kr_ HO_5.out⟩, ⟨hb_⟩⟩

/-! ### impl_sumOf: function 112 -/
mutual
def impl_sumOf.l0 : Nat → ByteArray → Int → Int → Int → Option (Int)
 | 0, _, _, _, _ => none
 | k + 1, x0, x3, x7, x8 => if x8 < x7 then (if 0 ≤ x8 then (if x8 < (x0.size : Int) then (impl_sumOf.l1 k x0 (Go.bits .xor .i64 x3 (wrap64 ((wrap64 (bt x0 x8)) * 256))) x7 x8 0) else (none)) else (none)) else (some x3)
def impl_sumOf.l1 : Nat → ByteArray → Int → Int → Int → Int → Option (Int)
 | 0, _, _, _, _, _ => none
 | k + 1, x0, x3, x7, x8, x18 => if x18 < 8 then (if (Go.bits .and .i64 x3 32768) = 0 then (impl_sumOf.l1 k x0 (Go.bits .and .i64 (wrap64 (x3 * 2)) 65535) x7 x8 (wrap64 (x18 + 1))) else (impl_sumOf.l1 k x0 (Go.bits .xor .i64 (Go.bits .and .i64 (wrap64 (x3 * 2)) 65535) 4129) x7 x8 (wrap64 (x18 + 1)))) else (impl_sumOf.l0 k x0 x3 x7 (wrap64 (x8 + 1)))
end
def impl_sumOf.f (k : Nat) (a0 : ByteArray) : Option (Int) := impl_sumOf.l0 k a0 65535 (a0.size : Int) 0
theorem impl_sumOf.mono_l : ∀ k, (∀ y0 y1 y2 y3, LeO (impl_sumOf.l0 k y0 y1 y2 y3) (impl_sumOf.l0 (k + 1) y0 y1 y2 y3)) ∧ (∀ y0 y1 y2 y3 y4, LeO (impl_sumOf.l1 k y0 y1 y2 y3 y4) (impl_sumOf.l1 (k + 1) y0 y1 y2 y3 y4))
 | 0 => ⟨fun _ _ _ _ r h => by simp [impl_sumOf.l0] at h, fun _ _ _ _ _ r h => by simp [impl_sumOf.l1] at h⟩
 | k + 1 => by
  obtain ⟨ih0, ih1⟩ := impl_sumOf.mono_l k
  refine ⟨?_, ?_⟩
  all_goals intros; first | unfold impl_sumOf.l0 | unfold impl_sumOf.l1
  all_goals repeat' first | (with_reducible first | apply ih0 | apply ih1 | exact LeO.refl _ | exact LeO.none _ | refine LeO.ite ?_ ?_ | refine LeO.bind ?_ (fun _ => ?_))
theorem impl_sumOf.mono : ∀ a0 k, LeO (impl_sumOf.f k a0) (impl_sumOf.f (k + 1) a0) := by
 intro a0 k
 obtain ⟨ih0, ih1⟩ := impl_sumOf.mono_l k
 unfold impl_sumOf.f
 repeat' first
   | (with_reducible first | apply ih0 | apply ih1 | exact LeO.refl _ | exact LeO.none _ | refine LeO.ite ?_ ?_ | refine LeO.bind ?_ (fun _ => ?_))
set_option maxHeartbeats 8000000 in
set_option maxRecDepth 100000 in
theorem impl_sumOf.calls (k : Nat) (a0 : ByteArray) (r : Int) (w : World) (h : impl_sumOf.f k a0 = some r) :
  Calls Try.prog 112 #[.string a0] w fun e w' => e = .returned (.int .i64 r) ∧ Drawn0 w w' := by
 have H : (impl_sumOf.l0 k a0 65535 (a0.size : Int) 0) = some r := h
 clear h
 have H' := Aside0.mk H
 clear H
 go_enter Try.func112, Try.ntmps112
 go_wp2
 go_loopg [3, 8] k (fun kq v3 v8 w' => ∃ (x3_1 : Int) (x8_1 : Int), v3 = .int .i64 x3_1 ∧ v8 = .int .i64 x8_1 ∧ Aside0 (impl_sumOf.l0 kq a0 x3_1 (a0.size : Int) x8_1 = some r) ∧ Aside0 (kq ≤ k) ∧ Drawn0 w w')
 case atStart => exact ⟨(65535), (0), sr_, sr_, H', ⟨Nat.le_refl _⟩, dr_⟩
 case round =>
  clear H'
  obtain ⟨x3_1, x8_1, rfl, rfl, HA, HK1, ⟨m1, rfl⟩⟩ := hrel
  cases gk with
  | zero => exact absurd HA.out (by simp [impl_sumOf.l0])
  | succ k1 =>
   have H := HA.out
   clear HA
   simp only [impl_sumOf.l0] at H
   replace H := ite_ H
   obtain ⟨c2, H⟩ | ⟨c2, H⟩ := H
   rotate_left
   ·have c2b0 := decide_eq_false c2
    clear c2
    obtain rfl := Option.some.inj H
    go_wp2
    go_ret
    exact ⟨by first | rfl | (simp; done) | (simp [*]; done), dr_⟩
   have c2b0 := decide_eq_true c2
   clear c2
   replace H := ifs_ H
   obtain ⟨c3, H⟩ := H
   have c3b0 := decide_eq_true c3
   clear c3
   replace H := ifs_ H
   obtain ⟨c4, H⟩ := H
   have c4b0 := decide_eq_true c4
   clear c4
   have H' := Aside0.mk H
   clear H
   have p5 : 0 ≤ (x8_1 : Int) := oa_
   have q5 : x8_1 < (a0.size : Int) := oa_
   have hx5 := bt_at a0 x8_1
   replace p5 := eq_true p5
   replace q5 := eq_true q5
   go_wp2
   go_loopg [3, 18] k1 (fun kq v3 v18 w' => ∃ (x3_2 : Int) (x18_2 : Int), v3 = .int .i64 x3_2 ∧ v18 = .int .i64 x18_2 ∧ Aside0 (impl_sumOf.l1 kq a0 x3_2 (a0.size : Int) x8_1 x18_2 = some r) ∧ Aside0 (kq ≤ k1) ∧ Drawn0 w w')
   case atStart => exact ⟨(Go.bits .xor .i64 x3_1 (wrap64 ((wrap64 (bt a0 x8_1)) * 256))), (0), sr_, sr_, H', ⟨Nat.le_refl _⟩, dr_⟩
   case round =>
    clear H'
    try clear c2
    try clear c2b0
    try clear c3
    try clear c3b0
    try clear c4
    try clear c4b0
    try clear p5
    try clear q5
    try clear hx5
    try clear p5
    try clear q5
    obtain ⟨x3_2, x18_2, rfl, rfl, HA, HK2, ⟨m2, rfl⟩⟩ := hrel
    cases gk with
    | zero => exact absurd HA.out (by simp [impl_sumOf.l1])
    | succ k2 =>
     have H := HA.out
     clear HA
     simp only [impl_sumOf.l1] at H
     replace H := ite_ H
     obtain ⟨c6, H⟩ | ⟨c6, H⟩ := H
     rotate_left
     ·have c6b0 := decide_eq_false c6
      clear c6
      have H' := Aside0.mk H
      clear H
      go_wp2
      go_roundg k2
      case measure => have := HK1.out; have := HK2.out; omega
      case rel => exact ⟨(x3_2), (wrap64 (x8_1 + 1)), sr_, sr_, H', ⟨by have := HK1.out; have := HK2.out; omega⟩, dr_⟩
     have c6b0 := decide_eq_true c6
     clear c6
     replace H := ite_ H
     obtain ⟨c7, H⟩ | ⟨c7, H⟩ := H
     ·have c7b0 : ((Go.bits .and .i64 x3_2 32768) == 0) = true := beq_iff_eq.mpr c7
      have c7b1 : ((Go.bits .and .i64 x3_2 32768) != 0) = false := bne_eq_false_iff_eq.mpr c7
      clear c7
      have H' := Aside0.mk H
      clear H
      go_wp2
      go_roundg k2
      case measure => have := HK1.out; have := HK2.out; omega
      case rel => exact ⟨(Go.bits .and .i64 (wrap64 (x3_2 * 2)) 65535), (wrap64 (x18_2 + 1)), sr_, sr_, H', ⟨by have := HK1.out; have := HK2.out; omega⟩, dr_⟩
     have c7b0 : ((Go.bits .and .i64 x3_2 32768) == 0) = false := beq_eq_false_iff_ne.mpr c7
     have c7b1 : ((Go.bits .and .i64 x3_2 32768) != 0) = true := bne_iff_ne.mpr c7
     have H' := Aside0.mk H
     clear H
     go_wp2
     go_roundg k2
     case measure => have := HK1.out; have := HK2.out; omega
     case rel => exact ⟨(Go.bits .xor .i64 (Go.bits .and .i64 (wrap64 (x3_2 * 2)) 65535) 4129), (wrap64 (x18_2 + 1)), sr_, sr_, H', ⟨by have := HK1.out; have := HK2.out; omega⟩, dr_⟩

end Go.Proofs.Ytffpeklekkpbjaa.QFnExactFindBatch
