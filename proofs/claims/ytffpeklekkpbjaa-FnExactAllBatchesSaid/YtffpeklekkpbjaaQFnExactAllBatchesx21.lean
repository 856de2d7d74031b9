/- For each Go function that one statement reaches: a plain function with the same answers, and the proof that the call comes to them. Conditions: those that each contract names. Written by a program of this repository. -/
import Derived.Test.YtffpeklekkpbjaaVAllBatchesa
import Derived.Test.YtffpeklekkpbjaaQFnExactAllBatchesx0
import Derived.Test.YtffpeklekkpbjaaQFnExactAllBatchesx12
import Derived.Test.YtffpeklekkpbjaaQFnExactAllBatchesx15
import Derived.Test.YtffpeklekkpbjaaQFnExactAllBatchesx18
import Derived.Test.YtffpeklekkpbjaaQFnExactAllBatchesx19
import Derived.Test.YtffpeklekkpbjaaQFnExactAllBatchesx20
namespace Go.Proofs.Ytffpeklekkpbjaa.QFnExactAllBatches
open Go.RowKit Go.Proofs.YtffpeklekkpbjaaW.PrintWords Go.Proofs.YtffpeklekkpbjaaW.PrintLast Go.Proofs.YtffpeklekkpbjaaW.PrintMore
attribute [local go_sem] max2_int min2_int max_two min_two max_three min_three max_four min_four Go.Proofs.YtffpeklekkpbjaaW.PrintMore2.isSome_setCell   -- for this text's walks alone
set_option linter.unusedVariables false
set_option linter.unusedSimpArgs false

/-! ### impl_isStore: function 67 -/
mutual
def impl_isStore.j0 : Nat → Bool → List (S65) → Int → Option (Bool)
 | 0, _, _, _ => none
 | k + 1, x29, x383000, x383001 => if x29 = true then (some false) else (impl_isStore.l0 k x383000 (x383000.length : Int) 0 x383000 x383001)
def impl_isStore.l0 : Nat → List (S65) → Int → Int → List (S65) → Int → Option (Bool)
 | 0, _, _, _, _, _ => none
 | k + 1, x31, x32, x33, x383000, x383001 => if x33 < x32 then (if 0 ≤ x33 then (if x33 < (x31.length : Int) then (if (((rd_T65 x31 x33).f1).size : Int) > 600 then (some false) else (impl_isStore.l0 k x31 x32 (wrap64 (x33 + 1)) x383000 x383001)) else (none)) else (none)) else ((impl_Store_logs.f k x383000 x383001).bind fun t389 => (impl_isStore.l1 k t389 (([] : List (S43))) t389 (t389.length : Int) 0 x383000 x383001))
def impl_isStore.l1 : Nat → List (List (S43)) → List (S43) → List (List (S43)) → Int → Int → List (S65) → Int → Option (Bool)
 | 0, _, _, _, _, _, _, _ => none
 | k + 1, x5, x6, x45, x46, x47, x383000, x383001 => if x47 < x46 then (if 0 ≤ x47 then (if x47 < (x45.length : Int) then (if ((rd_L13 x45 x47).length : Int) = 0 then (if x47 < (wrap64 ((x5.length : Int) - 1)) then (some false) else (if ((rd_L13 x45 x47).length : Int) > 1 then (if x47 < (x383000.length : Int) then (if (((rd_T65 x383000 x47).f1).size : Int) > 120 then (some false) else (if x6.length + (rd_L13 x45 x47).length < 2513169434916 then (impl_isStore.l1 k x5 (x6 ++ (rd_L13 x45 x47)) x45 x46 (wrap64 (x47 + 1)) x383000 x383001) else (none))) else (none)) else (if x6.length + (rd_L13 x45 x47).length < 2513169434916 then (impl_isStore.l1 k x5 (x6 ++ (rd_L13 x45 x47)) x45 x46 (wrap64 (x47 + 1)) x383000 x383001) else (none)))) else (if ((rd_L13 x45 x47).length : Int) > 1 then (if x47 < (x383000.length : Int) then (if (((rd_T65 x383000 x47).f1).size : Int) > 120 then (some false) else (if x6.length + (rd_L13 x45 x47).length < 2513169434916 then (impl_isStore.l1 k x5 (x6 ++ (rd_L13 x45 x47)) x45 x46 (wrap64 (x47 + 1)) x383000 x383001) else (none))) else (none)) else (if x6.length + (rd_L13 x45 x47).length < 2513169434916 then (impl_isStore.l1 k x5 (x6 ++ (rd_L13 x45 x47)) x45 x46 (wrap64 (x47 + 1)) x383000 x383001) else (none)))) else (none)) else (none)) else ((impl_isLog.f k x6).bind fun t410 => (if t410 = true then (if 0 < (x383000.length : Int) then ((impl_storeOf.f k x5 ((rd_T65 x383000 0).f0)).bind fun bt412 => (if bt412.2 = x383001 then ((slices_EqualFunc_Segment.f k bt412.1 x383000).bind fun t417 => (some t417)) else (some false))) else (none)) else (some false)))
end
def impl_isStore.f (k : Nat) (l0_0 : List (S65)) (a0_1 : Int) : Option (Bool) := (impl_in.f (l0_0.length : Int) 1 8).bind fun t383 => (if t383 = true then ((impl_in.f a0_1 0 100000).bind fun t384 => (if t384 = true then (if 0 < (l0_0.length : Int) then ((impl_in.f ((rd_T65 l0_0 0).f0) 0 100000).bind fun t386 => (impl_isStore.j0 k (!t386) l0_0 a0_1)) else (none)) else (impl_isStore.j0 k true l0_0 a0_1))) else (impl_isStore.j0 k true l0_0 a0_1))
theorem impl_isStore.mono_l : ∀ k, (∀ y0 y1 y2, LeO (impl_isStore.j0 k y0 y1 y2) (impl_isStore.j0 (k + 1) y0 y1 y2)) ∧ (∀ y0 y1 y2 y3 y4, LeO (impl_isStore.l0 k y0 y1 y2 y3 y4) (impl_isStore.l0 (k + 1) y0 y1 y2 y3 y4)) ∧ (∀ y0 y1 y2 y3 y4 y5 y6, LeO (impl_isStore.l1 k y0 y1 y2 y3 y4 y5 y6) (impl_isStore.l1 (k + 1) y0 y1 y2 y3 y4 y5 y6))
 | 0 => ⟨fun _ _ _ r h => by simp [impl_isStore.j0] at h, fun _ _ _ _ _ r h => by simp [impl_isStore.l0] at h, fun _ _ _ _ _ _ _ r h => by simp [impl_isStore.l1] at h⟩
 | k + 1 => by
  obtain ⟨ih0, ih1, ih2⟩ := impl_isStore.mono_l k
  refine ⟨?_, ?_, ?_⟩
  all_goals intros; first | unfold impl_isStore.j0 | unfold impl_isStore.l0 | unfold impl_isStore.l1
  all_goals repeat' first | (with_reducible first | exact ih0 _ _ _ | exact ih1 _ _ _ _ _ | exact ih2 _ _ _ _ _ _ _ | exact impl_Store_logs.mono _ _ _ | exact impl_isLog.mono _ _ | exact impl_storeOf.mono _ _ _ | exact slices_EqualFunc_Segment.mono _ _ _ | exact LeO.refl _ | exact LeO.none _ | refine LeO.ite ?_ ?_ | refine LeO.bind ?_ (fun _ => ?_)) | exact ih0 _ _ _ | exact ih1 _ _ _ _ _ | exact ih2 _ _ _ _ _ _ _ | exact impl_Store_logs.mono _ _ _ | exact impl_isLog.mono _ _ | exact impl_storeOf.mono _ _ _ | exact slices_EqualFunc_Segment.mono _ _ _ | exact LeO.none _ | refine LeO.ite ?_ ?_ | refine LeO.bind ?_ (fun _ => ?_)
theorem impl_isStore.mono : ∀ a0 a1 k, LeO (impl_isStore.f k a0 a1) (impl_isStore.f (k + 1) a0 a1) := by
 intro a0 a1 k
 obtain ⟨ih0, ih1, ih2⟩ := impl_isStore.mono_l k
 unfold impl_isStore.f
 repeat' first
   | (with_reducible first | exact ih0 _ _ _ | exact ih1 _ _ _ _ _ | exact ih2 _ _ _ _ _ _ _ | exact impl_Store_logs.mono _ _ _ | exact impl_isLog.mono _ _ | exact impl_storeOf.mono _ _ _ | exact slices_EqualFunc_Segment.mono _ _ _ | exact LeO.refl _ | exact LeO.none _ | refine LeO.ite ?_ ?_ | refine LeO.bind ?_ (fun _ => ?_)) | exact ih0 _ _ _ | exact ih1 _ _ _ _ _ | exact ih2 _ _ _ _ _ _ _ | exact impl_Store_logs.mono _ _ _ | exact impl_isLog.mono _ _ | exact impl_storeOf.mono _ _ _ | exact slices_EqualFunc_Segment.mono _ _ _ | exact LeO.none _ | refine LeO.ite ?_ ?_ | refine LeO.bind ?_ (fun _ => ?_)
set_option maxHeartbeats 8000000 in
set_option maxRecDepth 100000 in
theorem impl_isStore.calls (k : Nat) (A0_0 : Option Addr) (c0_0 : Nat) (l0_0 : List (S65)) (a0_1 : Int) (r : Bool) (w : World) (hr0_0 : Kd.C k65 w A0_0 l0_0.length l0_0) (hc0_0 : l0_0.length ≤ c0_0) (h : impl_isStore.f k l0_0 a0_1 = some r) :
  Calls Try.prog 67 #[.agg #[.slice A0_0 l0_0.length c0_0, .int .i64 a0_1]] w fun e w' => e = .returned (.bool r) ∧ Below w.heap.size w w' := by
 have hu24 := Try.underlying24
 have hu65 := Try.underlying65
 have HR0_0 := Aside0.mk hr0_0
 have HC0_0 := Aside0.mk hc0_0
 clear hr0_0 hc0_0
 have HB := Aside0.mk (Below.refl w.heap.size w)
 have H : ((impl_in.f (l0_0.length : Int) 1 8).bind fun t383 => (if t383 = true then ((impl_in.f a0_1 0 100000).bind fun t384 => (if t384 = true then (if 0 < (l0_0.length : Int) then ((impl_in.f ((rd_T65 l0_0 0).f0) 0 100000).bind fun t386 => (impl_isStore.j0 k (!t386) l0_0 a0_1)) else (none)) else (impl_isStore.j0 k true l0_0 a0_1))) else (impl_isStore.j0 k true l0_0 a0_1))) = some r := h
 clear h
 have HC2 := Aside0.mk H
 clear H
 go_enter Try.func67, Try.ntmps67
 go_upto_region 1 with (first | ((with_reducible refine gate_dst (N := 1) rfl ?_); (try (refine gate_guard (by rfl) ?_; dsimp only)); refine be_ (N := 1) #[.slice A0_0 l0_0.length c0_0, .int .i64 a0_1] 24 ?_; intro gb382 hg w3 hbox hb; have BK382 := Aside0.mk (hbox); have GW382 := ge_ hg; have GE382 := ge_ hg; replace HB := nb_ hb; clear hb hbox hg))
 (try simp only [Act.put, List.setIfInBounds_toArray, List.set_cons_zero, List.set_cons_succ])
 go_cut [29] (fun v29 wc => ∃ (kq : Nat) (x29_1 : Bool), v29 = .bool x29_1 ∧ Aside0 (impl_isStore.j0 kq x29_1 l0_0 a0_1 = some r) ∧ Aside0 (kq ≤ k) ∧ Aside0 (wc.heap[gb382]? = some (.cells #[(.slice A0_0 l0_0.length c0_0), .int .i64 a0_1] 24 (0, 0))) ∧ Aside0 (Below w.heap.size w wc))
 case first =>
  have H := HC2.out
  clear HC2
  replace H := bnd_ H
  obtain ⟨t383, A4, H⟩ := H
  replace H := ifb_ H
  obtain ⟨rfl, H⟩ | ⟨rfl, H⟩ := H
  rotate_left
  ·have H' := Aside0.mk H
   clear H
   obtain ⟨hcz12_0, hcz12_1, hfz12_0, hfz12_1⟩ := cf2_ BK382.out
   go_wp2_with (first | ((with_reducible refine gate_callee (f := 58) rfl ?_); refine gl_ 13 Try.func58 #[.int .i64 (l0_0.length : Int), .int .i64 1, .int .i64 8] rfl ma_ ?_; (with_reducible refine (impl_in.calls (l0_0.length : Int) 1 8 false _ A4.out).mono ?_); rintro e w' ⟨rfl, ⟨nd, rfl⟩⟩; refine ⟨_, rfl, ?_⟩))
   go_meet
   case rel => exact ⟨_, (true), sr_, H', ⟨by first | omega | exact Nat.le_refl _⟩, ⟨kb_ BK382.out⟩, ⟨hs_ GE382.out⟩⟩
  replace H := bnd_ H
  obtain ⟨t384, A6, H⟩ := H
  replace H := ifb_ H
  obtain ⟨rfl, H⟩ | ⟨rfl, H⟩ := H
  rotate_left
  ·have H' := Aside0.mk H
   clear H
   obtain ⟨hcz11_0, hcz11_1, hfz11_0, hfz11_1⟩ := cf2_ BK382.out
   go_wp2_with (first | ((with_reducible refine gate_callee (f := 58) rfl ?_); refine gl_ 13 Try.func58 #[.int .i64 (l0_0.length : Int), .int .i64 1, .int .i64 8] rfl ma_ ?_; (with_reducible refine (impl_in.calls (l0_0.length : Int) 1 8 true _ A4.out).mono ?_); rintro e w' ⟨rfl, ⟨nd, rfl⟩⟩; refine ⟨_, rfl, ?_⟩) | (go_at_call 58; (with_reducible refine (impl_in.calls a0_1 0 100000 false _ A6.out).mono ?_); rintro e w' ⟨rfl, ⟨nd, rfl⟩⟩))
   go_meet
   case rel => exact ⟨_, (true), sr_, H', ⟨by first | omega | exact Nat.le_refl _⟩, ⟨kb_ BK382.out⟩, ⟨hs_ GE382.out⟩⟩
  replace H := ifs_ H
  obtain ⟨c8, H⟩ := H
  have c8b0 := decide_eq_true c8
  have c8b1 : decide (0 < l0_0.length) = true := decide_eq_true (by omega)
  clear c8
  (first | rw [c8b0] | (simp only [i64_w, i32_w]; rw [c8b0]) | rw [c8b1] | skip)
  replace H := bnd_ H
  obtain ⟨t386, A9, H⟩ := H
  have H' := Aside0.mk H
  clear H
  obtain ⟨hcz10_0, hcz10_1, hfz10_0, hfz10_1⟩ := cf2_ BK382.out
  go_wp2_with (first | ((with_reducible refine gate_callee (f := 58) rfl ?_); refine gl_ 13 Try.func58 #[.int .i64 (l0_0.length : Int), .int .i64 1, .int .i64 8] rfl ma_ ?_; (with_reducible refine (impl_in.calls (l0_0.length : Int) 1 8 true _ A4.out).mono ?_); rintro e w' ⟨rfl, ⟨nd, rfl⟩⟩; refine ⟨_, rfl, ?_⟩) | (go_at_call 58; (with_reducible refine (impl_in.calls a0_1 0 100000 true _ A6.out).mono ?_); rintro e w' ⟨rfl, ⟨nd, rfl⟩⟩; have p385 : 0 ≤ (0 : Int) := (by omega); have q385 : 0 < (l0_0.length : Int) := oa_; obtain ⟨ad385, A385_2, c385_2, e385, hx385_0, hx385_1, hx385_2, hl385_2, hi385_2⟩ := at_T65 HR0_0.out 0 p385 q385; cases e385; have qi385 : (0 < l0_0.length) = True := eq_true (by omega); (try rw [show ((0 : Int)).toNat = 0 from rfl] at hx385_0); (try rw [show 0 * 3 = 0 from rfl] at hx385_0); (try rw [Addr.add_zero'] at hx385_0); (try rw [show ((0 : Int)).toNat = 0 from rfl] at hx385_1); (try rw [show 0 * 3 = 0 from rfl] at hx385_1); (try rw [Addr.add_zero'] at hx385_1); (try rw [show ((0 : Int)).toNat = 0 from rfl] at hx385_2); (try rw [show 0 * 3 = 0 from rfl] at hx385_2); (try rw [Addr.add_zero'] at hx385_2); replace hx385_0 := pc_ HB.out hx385_0; replace hx385_1 := pc_ HB.out hx385_1; replace hx385_2 := pc_ HB.out hx385_2; have HR385_2 := Aside0.mk hi385_2; have HC385_2 := Aside0.mk hl385_2; clear hi385_2 hl385_2; replace p385 := eq_true p385; replace q385 := eq_true q385) | (go_at_call 58; (with_reducible refine (impl_in.calls ((rd_T65 l0_0 0).f0) 0 100000 t386 _ A9.out).mono ?_); rintro e w' ⟨rfl, ⟨nd, rfl⟩⟩))
  go_meet
  case rel => exact ⟨_, (!t386), sr_, H', ⟨by first | omega | exact Nat.le_refl _⟩, ⟨kb_ BK382.out⟩, ⟨hs_ GE382.out⟩⟩
 case rest =>
  clear HC2
  try clear p2
  try clear c3
  try clear p3
  try clear q3
  try clear hx3
  try clear qi3
  try clear c5
  try clear c6
  try clear c7
  try clear c8
  try clear c8b0
  try clear c8b1
  try clear hcz10_0
  try clear hcz10_1
  try clear hcz11_0
  try clear hcz11_1
  try clear hcz12_0
  try clear hcz12_1
  try clear hfz10_0
  try clear hfz10_1
  try clear hfz11_0
  try clear hfz11_1
  try clear hfz12_0
  try clear hfz12_1
  try clear hx385_0
  try clear hx385_1
  try clear hx385_2
  try clear p385
  try clear q385
  obtain ⟨kq, x29_1, rfl, HA, HJ1, BK382, HB⟩ := hcut
  cases kq with
  | zero => exact absurd HA.out (by simp [impl_isStore.j0])
  | succ kj1 =>
   have H := HA.out
   clear HA
   simp only [impl_isStore.j0] at H
   replace H := ifb_ H
   obtain ⟨rfl, H⟩ | ⟨rfl, H⟩ := H
   ·obtain rfl := Option.some.inj H
    go_wp2
    go_ret
    exact ⟨er_, hs_ GE382.out⟩
   have H' := Aside0.mk H
   clear H
   obtain ⟨hcz14_0, hcz14_1, hfz14_0, hfz14_1⟩ := cf2_ BK382.out
   go_wp2
   go_loopg [33] kj1 (fun kq v33 w' => ∃ (x33_2 : Int), v33 = .int .i64 x33_2 ∧ Aside0 (impl_isStore.l0 kq l0_0 (l0_0.length : Int) x33_2 l0_0 a0_1 = some r) ∧ Aside0 (kq ≤ kj1) ∧ Aside0 (w'.heap[gb382]? = some (.cells #[(.slice A0_0 l0_0.length c0_0), .int .i64 a0_1] 24 (0, 0))) ∧ Aside0 (Below w.heap.size w w'))
   case atStart => exact ⟨(0), sr_, H', ⟨Nat.le_refl _⟩, ⟨kb_ BK382.out⟩, ⟨hs_ GE382.out⟩⟩
   case round =>
    clear H'
    try clear c1
    try clear p2
    try clear c3
    try clear p3
    try clear q3
    try clear hx3
    try clear qi3
    try clear c5
    try clear c6
    try clear c7
    try clear c8
    try clear c8b0
    try clear c8b1
    try clear c13
    try clear hcz10_0
    try clear hcz10_1
    try clear hcz11_0
    try clear hcz11_1
    try clear hcz12_0
    try clear hcz12_1
    try clear hcz14_0
    try clear hcz14_1
    try clear hfz10_0
    try clear hfz10_1
    try clear hfz11_0
    try clear hfz11_1
    try clear hfz12_0
    try clear hfz12_1
    try clear hfz14_0
    try clear hfz14_1
    try clear hx385_0
    try clear hx385_1
    try clear hx385_2
    try clear p2
    try clear p3
    try clear p385
    try clear q3
    try clear q385
    obtain ⟨x33_2, rfl, HA, HK2, BK382, HB⟩ := hrel
    cases gk with
    | zero => exact absurd HA.out (by simp [impl_isStore.l0])
    | succ k2 =>
     have H := HA.out
     clear HA
     simp only [impl_isStore.l0] at H
     replace H := ite_ H
     obtain ⟨c15, H⟩ | ⟨c15, H⟩ := H
     ·have c15b0 := decide_eq_true c15
      clear c15
      replace H := ifs_ H
      obtain ⟨c16, H⟩ := H
      have c16b0 := decide_eq_true c16
      clear c16
      replace H := ifs_ H
      obtain ⟨c17, H⟩ := H
      have c17b0 := decide_eq_true c17
      clear c17
      replace H := ite_ H
      obtain ⟨c18, H⟩ | ⟨c18, H⟩ := H
      ·have c18b0 := dgt_ c18
       have c18b1 : decide (600 < ((rd_T65 l0_0 x33_2).f1).size) = true := decide_eq_true (by omega)
       clear c18
       obtain rfl := Option.some.inj H
       have p387 : 0 ≤ (x33_2 : Int) := oa_
       have q387 : x33_2 < (l0_0.length : Int) := oa_
       obtain ⟨ad387, A387_2, c387_2, e387, hx387_0, hx387_1, hx387_2, hl387_2, hi387_2⟩ := at_T65 HR0_0.out x33_2 p387 q387
       cases e387
       replace hx387_0 := pc_ HB.out hx387_0
       replace hx387_1 := pc_ HB.out hx387_1
       replace hx387_2 := pc_ HB.out hx387_2
       have HR387_2 := Aside0.mk hi387_2
       have HC387_2 := Aside0.mk hl387_2
       clear hi387_2 hl387_2
       replace p387 := eq_true p387
       replace q387 := eq_true q387
       go_wp2_with (first | ((with_reducible refine gate_dst (N := 4) rfl ?_); (try (refine gate_guard (by rfl) ?_; dsimp only)); refine box_event ?hg (N := 4) ?hd (cs := #[.int .i64 0, .string (⟨#[]⟩ : ByteArray), .slice none 0 0]) (t := 65) ?hr ?_; (case hd => rfl); (case hg => rfl); (case hr => first | (go_simp; done) | (go_simp; rfl)); intro gb388 hg w19 hbox hb; have BK388 := Aside0.mk (hbox); have GW388 := ge1_ hg GE382; have GE388 := ge1_ hg GE382; replace HB := nc_ GE382 hb; have NB382_388 := nl_ BK382 hg; have NB388_382 := ng_ BK382 hg; replace BK382 := bK_ BK382 hb; clear hb hbox hg; have hnb20 := NB388_382.out; have hnc20 := NB382_388.out; obtain ⟨hcz21_0, hcz21_1, hcz21_2, hfz21_0, hfz21_1, hfz21_2⟩ := cf3_ BK388.out))
       go_ret
       exact ⟨er_, hs2_ GE382.out GE388.out⟩
      have c18b0 := dgf_ c18
      have c18b1 : decide (600 < ((rd_T65 l0_0 x33_2).f1).size) = false := decide_eq_false (by omega)
      clear c18
      have H' := Aside0.mk H
      clear H
      have p387 : 0 ≤ (x33_2 : Int) := oa_
      have q387 : x33_2 < (l0_0.length : Int) := oa_
      obtain ⟨ad387, A387_2, c387_2, e387, hx387_0, hx387_1, hx387_2, hl387_2, hi387_2⟩ := at_T65 HR0_0.out x33_2 p387 q387
      cases e387
      replace hx387_0 := pc_ HB.out hx387_0
      replace hx387_1 := pc_ HB.out hx387_1
      replace hx387_2 := pc_ HB.out hx387_2
      have HR387_2 := Aside0.mk hi387_2
      have HC387_2 := Aside0.mk hl387_2
      clear hi387_2 hl387_2
      replace p387 := eq_true p387
      replace q387 := eq_true q387
      go_wp2_with (first | ((with_reducible refine gate_dst (N := 4) rfl ?_); (try (refine gate_guard (by rfl) ?_; dsimp only)); refine box_event ?hg (N := 4) ?hd (cs := #[.int .i64 0, .string (⟨#[]⟩ : ByteArray), .slice none 0 0]) (t := 65) ?hr ?_; (case hd => rfl); (case hg => rfl); (case hr => first | (go_simp; done) | (go_simp; rfl)); intro gb388 hg w22 hbox hb; have BK388 := Aside0.mk (hbox); have GW388 := ge1_ hg GE382; have GE388 := ge1_ hg GE382; replace HB := nc_ GE382 hb; have NB382_388 := nl_ BK382 hg; have NB388_382 := ng_ BK382 hg; replace BK382 := bK_ BK382 hb; clear hb hbox hg; have hnb23 := NB388_382.out; have hnc23 := NB382_388.out; obtain ⟨hcz24_0, hcz24_1, hcz24_2, hfz24_0, hfz24_1, hfz24_2⟩ := cf3_ BK388.out))
      go_roundg k2
      case measure => have := HJ1.out; have := HK2.out; omega
      case rel => exact ⟨(wrap64 (x33_2 + 1)), sr_, H', ⟨by have := HJ1.out; have := HK2.out; omega⟩, ⟨uf_ BK382 NB382_388.out⟩, ⟨hs2_ GE382.out GE388.out⟩⟩
     have c15b0 := decide_eq_false c15
     clear c15
     replace H := bnd_ H
     obtain ⟨t389, A25, H⟩ := H
     obtain ⟨y392, hy392⟩ : ∃ y_ : List (S43), y_ = (([] : List (S43))) := ⟨_, rfl⟩
     replace H : (impl_isStore.l1 k2 t389 y392 t389 (t389.length : Int) 0 l0_0 a0_1) = some r := by first | (rw [hy392]; with_reducible exact H) | (have H2_ := (Option.bind_some _ _).symm.trans H; rw [hy392]; with_reducible exact H2_) | (have H2_ := (Option.bind_some _ _).symm.trans H; with_reducible exact H2_) | with_reducible exact H | (rw [hy392]; exact H) | exact H
     have Ny392 := Aside0.mk hy392
     clear hy392
     have H' := Aside0.mk H
     clear H
     obtain ⟨hcz26_0, hcz26_1, hfz26_0, hfz26_1⟩ := cf2_ BK382.out
     go_wp2_with (first | ((with_reducible refine gate_callee (f := 73) rfl ?_); refine gl_ 43 Try.func73 #[.agg #[.slice A0_0 l0_0.length c0_0, .int .i64 a0_1]] rfl ma_ ?_; (with_reducible refine (impl_Store_logs.calls k2 _ _ l0_0 a0_1 t389 _ ?side1 ?side2 A25.out).mono ?_); (case side1 => exact cs_ ((Kd.C_below HR0_0.out HB.out))); (case side2 => exact HC0_0.out); rintro e w27 ⟨v390, rfl, ho0, hb⟩; refine ⟨_, rfl, ?_⟩; have HO391 := Aside0.mk (Kd.N_lower (Kd.N_mono (ok' := fun k_ => k_ ≠ gb382) (Kd.R_N (Kd.R_bound ho0)) (fun k_ hk_ => (Kd.freshB (g := gb382) (o := .cells #[.slice A0_0 l0_0.length c0_0, .int .i64 a0_1] 24 (0, 0)) (kb_ BK382.out) k_ hk_.2.1))) (below_size (hs_ GE382.out))); replace BK382 := bK_ BK382 hb; replace HB := nc_ GE382 hb; (try clear hb); (try clear hb2); (try clear hk); (try clear hi); (try clear ho0)) | ((with_reducible refine gate_dst (N := 44) rfl ?_); (try (refine gate_guard (by rfl) ?_; dsimp only)); refine Kd.N_lit k43 _ 43 ?hg (N' := 44) ?hd (xs := ([] : List (S43))) (inner := []) (ok := (fun k_ => some k_ ≠ (v390 : Value).ownBlock ∧ k_ ≠ gb382)) (okp := (fun k_ => some k_ ≠ (v390 : Value).ownBlock ∧ k_ ≠ gb382)) ?hr ?hp (fun _ hk => hk) ((show ∀ k_, w27.heap.size ≤ k_ → (fun k_ => some k_ ≠ (v390 : Value).ownBlock ∧ k_ ≠ gb382) k_ from fun k_ hk => ⟨Kd.fresh' (Kd.N_lt (by (with_reducible repeat (first | apply Kd.N_alloc | apply Kd.N_drewN | apply Kd.N_drew)); exact HO391.out)) k_ hk, Kd.freshB (g := gb382) (o := .cells #[.slice A0_0 l0_0.length c0_0, .int .i64 a0_1] 24 (0, 0)) (kb_ BK382.out) k_ hk⟩) _ (Nat.le_refl _)) (Below.refl _ _) (Nat.le_refl _) (by simp) ?_; (case hd => rfl); (case hg => rfl); (case hr => first | (go_simp; done) | (go_simp; rfl)); (case hp => exact (Reps.none _ _)); intro v393 w28 ho29 hb hg_ hnew_; clear hg_ hnew_; (first | rw [← Ny392.out] at ho29 | (simp only [Int.reduceToNat] at ho29; rw [← Ny392.out] at ho29)); replace HO391 := Aside0.mk (Kd.N_elder' (by (with_reducible repeat (first | apply Kd.N_alloc | apply Kd.N_drewN | apply Kd.N_drew)); exact HO391.out) (Kd.N_base ho29) hb); have HO394 := Aside0.mk (Kd.N_lower ho29 (below_size (hs_ GE382.out))); replace BK382 := bK_ BK382 hb; replace HB := nc_ GE382 hb; clear hb ho29; obtain ⟨Ao30, co30, eo30⟩ := Kd.N_slice HO391.out; subst eo30))
     go_loopg [6, 47] k2 (fun kq v6 v47 w' => ∃ (x6_3 : List (S43)) (x47_3 : Int), v47 = .int .i64 x47_3 ∧ Aside0 (impl_isStore.l1 kq t389 x6_3 t389 (t389.length : Int) x47_3 l0_0 a0_1 = some r) ∧ Aside0 (kq ≤ k2) ∧ Aside0 (Kd.N (Kd.slice 43 k43) 48 w' w.heap.size (fun k_ => some k_ ≠ (v6 : Value).ownBlock ∧ k_ ≠ gb382) (.slice Ao30 t389.length co30) t389) ∧ Aside0 (Kd.N k43 43 w' w.heap.size (fun k_ => some k_ ≠ ((.slice Ao30 t389.length co30) : Value).ownBlock ∧ k_ ≠ gb382) v6 x6_3) ∧ Aside0 (Kd.N (Kd.slice 43 k43) 48 w' w.heap.size (fun k_ => some k_ ≠ (v6 : Value).ownBlock ∧ k_ ≠ gb382) (.slice Ao30 t389.length co30) t389) ∧ Aside0 (w'.heap[gb382]? = some (.cells #[(.slice A0_0 l0_0.length c0_0), .int .i64 a0_1] 24 (0, 0))) ∧ Aside0 (Below w.heap.size w w'))
     case atStart => exact ⟨(y392), (0), sr_, H', ⟨Nat.le_refl _⟩, ⟨by (with_reducible repeat (first | apply Kd.N_alloc | apply Kd.N_drewN | apply Kd.N_drew)); exact Kd.N_mono HO391.out (fun _ hk => ⟨hk.2, hk.1⟩)⟩, ⟨by (with_reducible repeat (first | apply Kd.N_alloc | apply Kd.N_drewN | apply Kd.N_drew)); exact HO394.out⟩, ⟨by (with_reducible repeat (first | apply Kd.N_alloc | apply Kd.N_drewN | apply Kd.N_drew)); exact Kd.N_mono HO391.out (fun _ hk => ⟨hk.2, hk.1⟩)⟩, ⟨kb_ BK382.out⟩, ⟨hs_ GE382.out⟩⟩
     case round =>
      clear H'
      try clear c1
      try clear c2
      try clear p2
      try clear c3
      try clear p3
      try clear q3
      try clear hx3
      try clear qi3
      try clear c5
      try clear c6
      try clear p6
      try clear c7
      try clear c8
      try clear c8b0
      try clear c8b1
      try clear c13
      try clear c15
      try clear c15b0
      try clear c16
      try clear c16b0
      try clear c17
      try clear c17b0
      try clear c18
      try clear c18b0
      try clear c18b1
      try clear c20
      try clear c23
      try clear hcz10_0
      try clear hcz10_1
      try clear hcz11_0
      try clear hcz11_1
      try clear hcz12_0
      try clear hcz12_1
      try clear hcz14_0
      try clear hcz14_1
      try clear hcz21_0
      try clear hcz21_1
      try clear hcz21_2
      try clear hcz24_0
      try clear hcz24_1
      try clear hcz24_2
      try clear hcz26_0
      try clear hcz26_1
      try clear hfz10_0
      try clear hfz10_1
      try clear hfz11_0
      try clear hfz11_1
      try clear hfz12_0
      try clear hfz12_1
      try clear hfz14_0
      try clear hfz14_1
      try clear hfz21_0
      try clear hfz21_1
      try clear hfz21_2
      try clear hfz24_0
      try clear hfz24_1
      try clear hfz24_2
      try clear hfz26_0
      try clear hfz26_1
      try clear hx385_0
      try clear hx385_1
      try clear hx385_2
      try clear hx387_0
      try clear hx387_1
      try clear hx387_2
      try clear p2
      try clear p3
      try clear p385
      try clear p387
      try clear q3
      try clear q385
      try clear q387
      obtain ⟨x6_3, x47_3, rfl, HA, HK3, HO_5, HO_6, HO_45, BK382, HB⟩ := hrel
      cases gk with
      | zero => exact absurd HA.out (by simp [impl_isStore.l1])
      | succ k3 =>
       have H := HA.out
       clear HA
       simp only [impl_isStore.l1] at H
       replace H := ite_ H
       obtain ⟨c31, H⟩ | ⟨c31, H⟩ := H
       rotate_left
       ·have c31b0 := decide_eq_false c31
        clear c31
        replace H := bnd_ H
        obtain ⟨t410, A54, H⟩ := H
        replace H := ifb_ H
        obtain ⟨rfl, H⟩ | ⟨rfl, H⟩ := H
        rotate_left
        ·obtain rfl := Option.some.inj H
         obtain ⟨Ao79, co79, eo79⟩ := Kd.N_slice HO_6.out
         subst eo79
         go_wp2_with (first | ((with_reducible refine gate_callee (f := 90) rfl ?_); refine gl_ 82 Try.func90 #[.slice Ao79 x6_3.length co79] rfl ma_ ?_; (with_reducible refine (impl_isLog.calls k3 _ _ x6_3 false _ ?side1 ?side2 A54.out).mono ?_); (case side1 => exact cs_ ((Kd.N_reads' HO_6.out).2.2)); (case side2 => exact (Kd.N_reads' HO_6.out).2.1); rintro e w80 ⟨rfl, hb⟩; refine ⟨_, rfl, ?_⟩; replace HO_5 := Aside0.mk (Kd.N_below (by (with_reducible repeat (first | apply Kd.N_alloc | apply Kd.N_drewN | apply Kd.N_drew)); exact HO_5.out) hb); replace HO_6 := Aside0.mk (Kd.N_below (by (with_reducible repeat (first | apply Kd.N_alloc | apply Kd.N_drewN | apply Kd.N_drew)); exact HO_6.out) hb); replace HO_45 := Aside0.mk (Kd.N_below (by (with_reducible repeat (first | apply Kd.N_alloc | apply Kd.N_drewN | apply Kd.N_drew)); exact HO_45.out) hb); replace BK382 := bK_ BK382 hb; replace HB := nc_ GE382 hb; (try clear hb); (try clear hb2); (try clear hk); (try clear hi)))
         go_ret
         exact ⟨er_, hs_ GE382.out⟩
        replace H := ifs_ H
        obtain ⟨c56, H⟩ := H
        have c56b0 := decide_eq_true c56
        have c56b1 : decide (0 < l0_0.length) = true := decide_eq_true (by omega)
        clear c56
        replace H := bnd_ H
        obtain ⟨⟨t412, t415⟩, A57, H⟩ := H
        replace H := red_ H
        replace H := ite_ H
        obtain ⟨c58, H⟩ | ⟨c58, H⟩ := H
        rotate_left
        ·have c58b0 : (t415 == a0_1) = false := beq_eq_false_iff_ne.mpr c58
         have c58b1 : (t415 != a0_1) = true := bne_iff_ne.mpr c58
         obtain rfl := Option.some.inj H
         obtain ⟨Ao70, co70, eo70⟩ := Kd.N_slice HO_6.out
         subst eo70
         go_wp2_with (first | ((with_reducible refine gate_callee (f := 90) rfl ?_); refine gl_ 82 Try.func90 #[.slice Ao70 x6_3.length co70] rfl ma_ ?_; (with_reducible refine (impl_isLog.calls k3 _ _ x6_3 true _ ?side1 ?side2 A54.out).mono ?_); (case side1 => exact cs_ ((Kd.N_reads' HO_6.out).2.2)); (case side2 => exact (Kd.N_reads' HO_6.out).2.1); rintro e w71 ⟨rfl, hb⟩; refine ⟨_, rfl, ?_⟩; replace HO_5 := Aside0.mk (Kd.N_below (by (with_reducible repeat (first | apply Kd.N_alloc | apply Kd.N_drewN | apply Kd.N_drew)); exact HO_5.out) hb); replace HO_6 := Aside0.mk (Kd.N_below (by (with_reducible repeat (first | apply Kd.N_alloc | apply Kd.N_drewN | apply Kd.N_drew)); exact HO_6.out) hb); replace HO_45 := Aside0.mk (Kd.N_below (by (with_reducible repeat (first | apply Kd.N_alloc | apply Kd.N_drewN | apply Kd.N_drew)); exact HO_45.out) hb); replace BK382 := bK_ BK382 hb; replace HB := nc_ GE382 hb; (try clear hb); (try clear hb2); (try clear hk); (try clear hi); obtain ⟨hcz72_0, hcz72_1, hfz72_0, hfz72_1⟩ := cf2_ BK382.out; have p411 : 0 ≤ (0 : Int) := (by omega); have q411 : 0 < (l0_0.length : Int) := oa_; obtain ⟨ad411, A411_2, c411_2, e411, hx411_0, hx411_1, hx411_2, hl411_2, hi411_2⟩ := at_T65 HR0_0.out 0 p411 q411; cases e411; have qi411 : (0 < l0_0.length) = True := eq_true (by omega); (try rw [show ((0 : Int)).toNat = 0 from rfl] at hx411_0); (try rw [show 0 * 3 = 0 from rfl] at hx411_0); (try rw [Addr.add_zero'] at hx411_0); (try rw [show ((0 : Int)).toNat = 0 from rfl] at hx411_1); (try rw [show 0 * 3 = 0 from rfl] at hx411_1); (try rw [Addr.add_zero'] at hx411_1); (try rw [show ((0 : Int)).toNat = 0 from rfl] at hx411_2); (try rw [show 0 * 3 = 0 from rfl] at hx411_2); (try rw [Addr.add_zero'] at hx411_2); replace hx411_0 := pc_ HB.out hx411_0; replace hx411_1 := pc_ HB.out hx411_1; replace hx411_2 := pc_ HB.out hx411_2; have HR411_2 := Aside0.mk hi411_2; have HC411_2 := Aside0.mk hl411_2; clear hi411_2 hl411_2; replace p411 := eq_true p411; replace q411 := eq_true q411) | ((with_reducible refine gate_callee (f := 72) rfl ?_); refine gl_ 90 Try.func72 #[.slice Ao30 t389.length co30, .int .i64 ((rd_T65 l0_0 0).f0)] rfl ma_ ?_; (with_reducible refine (impl_storeOf.calls k3 _ _ t389 ((rd_T65 l0_0 0).f0) t412 t415 _ ?side1 ?side2 A57.out).mono ?_); (case side1 => exact cs_ ((Kd.N_reads' HO_5.out).2.2)); (case side2 => exact (Kd.N_reads' HO_5.out).2.1); rintro e w73 ⟨v413, rfl, ho0, hb⟩; refine ⟨_, rfl, ?_⟩; have HO414 := Aside0.mk (Kd.N_lower (Kd.N_mono (ok' := fun k_ => some k_ ≠ (.slice Ao30 t389.length co30 : Value).ownBlock ∧ some k_ ≠ (.slice Ao70 x6_3.length co70 : Value).ownBlock ∧ some k_ ≠ (.slice Ao30 t389.length co30 : Value).ownBlock ∧ k_ ≠ gb382) (Kd.S_N (Kd.S_bound ho0)) (fun k_ hk_ => ⟨(Kd.fresh' (Kd.N_lt (by (with_reducible repeat (first | apply Kd.N_alloc | apply Kd.N_drewN | apply Kd.N_drew)); exact HO_5.out)) k_ hk_.2.1), (Kd.fresh' (Kd.N_lt (by (with_reducible repeat (first | apply Kd.N_alloc | apply Kd.N_drewN | apply Kd.N_drew)); exact HO_6.out)) k_ hk_.2.1), (Kd.fresh' (Kd.N_lt (by (with_reducible repeat (first | apply Kd.N_alloc | apply Kd.N_drewN | apply Kd.N_drew)); exact HO_45.out)) k_ hk_.2.1), (Kd.freshB (g := gb382) (o := .cells #[.slice (some ad411) l0_0.length c0_0, .int .i64 a0_1] 24 (0, 0)) (kb_ BK382.out) k_ hk_.2.1)⟩)) (below_size (hs_ GE382.out))); replace HO_5 := Aside0.mk (Kd.N_elder' (by (with_reducible repeat (first | apply Kd.N_alloc | apply Kd.N_drewN | apply Kd.N_drew)); exact HO_5.out) (Kd.N_base (Kd.S_N ho0)) hb); replace HO_6 := Aside0.mk (Kd.N_elder' (by (with_reducible repeat (first | apply Kd.N_alloc | apply Kd.N_drewN | apply Kd.N_drew)); exact HO_6.out) (Kd.N_base (Kd.S_N ho0)) hb); replace HO_45 := Aside0.mk (Kd.N_elder' (by (with_reducible repeat (first | apply Kd.N_alloc | apply Kd.N_drewN | apply Kd.N_drew)); exact HO_45.out) (Kd.N_base (Kd.S_N ho0)) hb); replace BK382 := bK_ BK382 hb; replace HB := nc_ GE382 hb; (try clear hb); (try clear hb2); (try clear hk); (try clear hi); (try clear ho0)) | ((with_reducible refine gate_dst (N := 9) rfl ?_); (try (refine gate_guard (by rfl) ?_; dsimp only)); refine be_ (N := 9) #[.slice none 0 0, .int .i64 0] 24 ?_; intro gb416 hg w74 hbox hb; replace HO_5 := Aside0.mk (Kd.N_below (Kd.N_elderB (by (with_reducible repeat (first | apply Kd.N_alloc | apply Kd.N_drewN | apply Kd.N_drew)); exact HO_5.out) gb416 (Nat.le_of_eq hg.symm)) hb); replace HO_6 := Aside0.mk (Kd.N_below (Kd.N_elderB (by (with_reducible repeat (first | apply Kd.N_alloc | apply Kd.N_drewN | apply Kd.N_drew)); exact HO_6.out) gb416 (Nat.le_of_eq hg.symm)) hb); replace HO_45 := Aside0.mk (Kd.N_below (Kd.N_elderB (by (with_reducible repeat (first | apply Kd.N_alloc | apply Kd.N_drewN | apply Kd.N_drew)); exact HO_45.out) gb416 (Nat.le_of_eq hg.symm)) hb); replace HO414 := Aside0.mk (Kd.N_below (Kd.N_elderB (by (with_reducible repeat (first | apply Kd.N_alloc | apply Kd.N_drewN | apply Kd.N_drew)); exact HO414.out) gb416 (Nat.le_of_eq hg.symm)) hb); have BK416 := Aside0.mk (hbox); have GW416 := ge1_ hg GE382; have GE416 := ge1_ hg GE382; replace HB := nc_ GE382 hb; have NB382_416 := nl_ BK382 hg; have NB416_382 := ng_ BK382 hg; replace BK382 := bK_ BK382 hb; clear hb hbox hg; obtain ⟨Ao75, co75, eo75⟩ := Kd.N_slice HO414.out; subst eo75; have hnb76 := NB416_382.out; have hnc76 := NB382_416.out; obtain ⟨hcz77_0, hcz77_1, hfz77_0, hfz77_1⟩ := cf2_ BK416.out; obtain ⟨hcz78_0, hcz78_1, hfz78_0, hfz78_1⟩ := cf2_ BK382.out))
         go_ret
         exact ⟨er_, hs2_ GE382.out GE416.out⟩
        have c58b0 : (t415 == a0_1) = true := beq_iff_eq.mpr c58
        have c58b1 : (t415 != a0_1) = false := bne_eq_false_iff_eq.mpr c58
        clear c58
        replace H := bnd_ H
        obtain ⟨t417, A59, H⟩ := H
        obtain rfl := Option.some.inj H
        obtain ⟨Ao60, co60, eo60⟩ := Kd.N_slice HO_6.out
        subst eo60
        go_wp2_with (first | ((with_reducible refine gate_callee (f := 90) rfl ?_); refine gl_ 82 Try.func90 #[.slice Ao60 x6_3.length co60] rfl ma_ ?_; (with_reducible refine (impl_isLog.calls k3 _ _ x6_3 true _ ?side1 ?side2 A54.out).mono ?_); (case side1 => exact cs_ ((Kd.N_reads' HO_6.out).2.2)); (case side2 => exact (Kd.N_reads' HO_6.out).2.1); rintro e w61 ⟨rfl, hb⟩; refine ⟨_, rfl, ?_⟩; replace HO_5 := Aside0.mk (Kd.N_below (by (with_reducible repeat (first | apply Kd.N_alloc | apply Kd.N_drewN | apply Kd.N_drew)); exact HO_5.out) hb); replace HO_6 := Aside0.mk (Kd.N_below (by (with_reducible repeat (first | apply Kd.N_alloc | apply Kd.N_drewN | apply Kd.N_drew)); exact HO_6.out) hb); replace HO_45 := Aside0.mk (Kd.N_below (by (with_reducible repeat (first | apply Kd.N_alloc | apply Kd.N_drewN | apply Kd.N_drew)); exact HO_45.out) hb); replace BK382 := bK_ BK382 hb; replace HB := nc_ GE382 hb; (try clear hb); (try clear hb2); (try clear hk); (try clear hi); obtain ⟨hcz62_0, hcz62_1, hfz62_0, hfz62_1⟩ := cf2_ BK382.out; have p411 : 0 ≤ (0 : Int) := (by omega); have q411 : 0 < (l0_0.length : Int) := oa_; obtain ⟨ad411, A411_2, c411_2, e411, hx411_0, hx411_1, hx411_2, hl411_2, hi411_2⟩ := at_T65 HR0_0.out 0 p411 q411; cases e411; have qi411 : (0 < l0_0.length) = True := eq_true (by omega); (try rw [show ((0 : Int)).toNat = 0 from rfl] at hx411_0); (try rw [show 0 * 3 = 0 from rfl] at hx411_0); (try rw [Addr.add_zero'] at hx411_0); (try rw [show ((0 : Int)).toNat = 0 from rfl] at hx411_1); (try rw [show 0 * 3 = 0 from rfl] at hx411_1); (try rw [Addr.add_zero'] at hx411_1); (try rw [show ((0 : Int)).toNat = 0 from rfl] at hx411_2); (try rw [show 0 * 3 = 0 from rfl] at hx411_2); (try rw [Addr.add_zero'] at hx411_2); replace hx411_0 := pc_ HB.out hx411_0; replace hx411_1 := pc_ HB.out hx411_1; replace hx411_2 := pc_ HB.out hx411_2; have HR411_2 := Aside0.mk hi411_2; have HC411_2 := Aside0.mk hl411_2; clear hi411_2 hl411_2; replace p411 := eq_true p411; replace q411 := eq_true q411) | ((with_reducible refine gate_callee (f := 72) rfl ?_); refine gl_ 90 Try.func72 #[.slice Ao30 t389.length co30, .int .i64 ((rd_T65 l0_0 0).f0)] rfl ma_ ?_; (with_reducible refine (impl_storeOf.calls k3 _ _ t389 ((rd_T65 l0_0 0).f0) t412 t415 _ ?side1 ?side2 A57.out).mono ?_); (case side1 => exact cs_ ((Kd.N_reads' HO_5.out).2.2)); (case side2 => exact (Kd.N_reads' HO_5.out).2.1); rintro e w63 ⟨v413, rfl, ho0, hb⟩; refine ⟨_, rfl, ?_⟩; have HO414 := Aside0.mk (Kd.N_lower (Kd.N_mono (ok' := fun k_ => some k_ ≠ (.slice Ao30 t389.length co30 : Value).ownBlock ∧ some k_ ≠ (.slice Ao60 x6_3.length co60 : Value).ownBlock ∧ some k_ ≠ (.slice Ao30 t389.length co30 : Value).ownBlock ∧ k_ ≠ gb382) (Kd.S_N (Kd.S_bound ho0)) (fun k_ hk_ => ⟨(Kd.fresh' (Kd.N_lt (by (with_reducible repeat (first | apply Kd.N_alloc | apply Kd.N_drewN | apply Kd.N_drew)); exact HO_5.out)) k_ hk_.2.1), (Kd.fresh' (Kd.N_lt (by (with_reducible repeat (first | apply Kd.N_alloc | apply Kd.N_drewN | apply Kd.N_drew)); exact HO_6.out)) k_ hk_.2.1), (Kd.fresh' (Kd.N_lt (by (with_reducible repeat (first | apply Kd.N_alloc | apply Kd.N_drewN | apply Kd.N_drew)); exact HO_45.out)) k_ hk_.2.1), (Kd.freshB (g := gb382) (o := .cells #[.slice (some ad411) l0_0.length c0_0, .int .i64 a0_1] 24 (0, 0)) (kb_ BK382.out) k_ hk_.2.1)⟩)) (below_size (hs_ GE382.out))); replace HO_5 := Aside0.mk (Kd.N_elder' (by (with_reducible repeat (first | apply Kd.N_alloc | apply Kd.N_drewN | apply Kd.N_drew)); exact HO_5.out) (Kd.N_base (Kd.S_N ho0)) hb); replace HO_6 := Aside0.mk (Kd.N_elder' (by (with_reducible repeat (first | apply Kd.N_alloc | apply Kd.N_drewN | apply Kd.N_drew)); exact HO_6.out) (Kd.N_base (Kd.S_N ho0)) hb); replace HO_45 := Aside0.mk (Kd.N_elder' (by (with_reducible repeat (first | apply Kd.N_alloc | apply Kd.N_drewN | apply Kd.N_drew)); exact HO_45.out) (Kd.N_base (Kd.S_N ho0)) hb); replace BK382 := bK_ BK382 hb; replace HB := nc_ GE382 hb; (try clear hb); (try clear hb2); (try clear hk); (try clear hi); (try clear ho0)) | ((with_reducible refine gate_dst (N := 9) rfl ?_); (try (refine gate_guard (by rfl) ?_; dsimp only)); refine be_ (N := 9) #[.slice none 0 0, .int .i64 0] 24 ?_; intro gb416 hg w64 hbox hb; replace HO_5 := Aside0.mk (Kd.N_below (Kd.N_elderB (by (with_reducible repeat (first | apply Kd.N_alloc | apply Kd.N_drewN | apply Kd.N_drew)); exact HO_5.out) gb416 (Nat.le_of_eq hg.symm)) hb); replace HO_6 := Aside0.mk (Kd.N_below (Kd.N_elderB (by (with_reducible repeat (first | apply Kd.N_alloc | apply Kd.N_drewN | apply Kd.N_drew)); exact HO_6.out) gb416 (Nat.le_of_eq hg.symm)) hb); replace HO_45 := Aside0.mk (Kd.N_below (Kd.N_elderB (by (with_reducible repeat (first | apply Kd.N_alloc | apply Kd.N_drewN | apply Kd.N_drew)); exact HO_45.out) gb416 (Nat.le_of_eq hg.symm)) hb); replace HO414 := Aside0.mk (Kd.N_below (Kd.N_elderB (by (with_reducible repeat (first | apply Kd.N_alloc | apply Kd.N_drewN | apply Kd.N_drew)); exact HO414.out) gb416 (Nat.le_of_eq hg.symm)) hb); have BK416 := Aside0.mk (hbox); have GW416 := ge1_ hg GE382; have GE416 := ge1_ hg GE382; replace HB := nc_ GE382 hb; have NB382_416 := nl_ BK382 hg; have NB416_382 := ng_ BK382 hg; replace BK382 := bK_ BK382 hb; clear hb hbox hg; obtain ⟨Ao65, co65, eo65⟩ := Kd.N_slice HO414.out; subst eo65; have hnb66 := NB416_382.out; have hnc66 := NB382_416.out; obtain ⟨hcz67_0, hcz67_1, hfz67_0, hfz67_1⟩ := cf2_ BK416.out; obtain ⟨hcz68_0, hcz68_1, hfz68_0, hfz68_1⟩ := cf2_ BK382.out) | ((with_reducible refine gate_callee (f := 101) rfl ?_); refine gl_ 100 Try.func101 #[.slice Ao65 t412.length co65, .slice (some ad411) l0_0.length c0_0, .func (.func 102) #[] #[]] rfl ma_ ?_; (with_reducible refine (slices_EqualFunc_Segment.calls k3 _ _ t412 _ _ l0_0 t417 _ ?side1 ?side2 ?side3 ?side4 A59.out).mono ?_); (case side1 => refine (Kd.N_reads' (e := 65) (base := w.heap.size) (ok := fun k_ => ((some k_ ≠ (.slice Ao30 t389.length co30 : Value).ownBlock ∧ (some k_ ≠ (.slice Ao60 x6_3.length co60 : Value).ownBlock ∧ (some k_ ≠ (.slice Ao30 t389.length co30 : Value).ownBlock ∧ k_ ≠ gb382))) ∧ k_ ≠ gb416)) (n := t412.length) (c := co65) ?_).2.2; exact (by (with_reducible repeat (first | apply Kd.N_alloc | apply Kd.N_drewN | apply Kd.N_drew)); exact (Kd.N_mono (Kd.N_far (p := ⟨gb416, 1, none⟩) (Kd.N_far (p := ⟨gb416, 0, none⟩) (Kd.N_mono HO414.out (fun k_ hk => (⟨hk, hk.2⟩ : _ ∧ k_ ≠ gb416))) (fun _ hk => hk.2) (.slice Ao65 t412.length co65)) (fun _ hk => hk.2) (.int .i64 t415)) (fun _ h_ => h_.1)))); (case side2 => exact (Kd.N_reads' HO414.out).2.1); (case side3 => exact Kd.C_below HR0_0.out (hs2_ GE382.out GE416.out)); (case side4 => exact HC0_0.out); rintro e w69 ⟨rfl, hb⟩; refine ⟨_, rfl, ?_⟩; replace HO_5 := Aside0.mk (Kd.N_below (by (with_reducible repeat (first | apply Kd.N_alloc | apply Kd.N_drewN | apply Kd.N_drew)); exact (Kd.N_mono (Kd.N_far (p := ⟨gb416, 1, none⟩) (Kd.N_far (p := ⟨gb416, 0, none⟩) (Kd.N_mono HO_5.out (fun k_ hk => (⟨hk, hk.2⟩ : _ ∧ k_ ≠ gb416))) (fun _ hk => hk.2) (.slice Ao65 t412.length co65)) (fun _ hk => hk.2) (.int .i64 t415)) (fun _ h_ => h_.1))) hb); replace HO_6 := Aside0.mk (Kd.N_below (by (with_reducible repeat (first | apply Kd.N_alloc | apply Kd.N_drewN | apply Kd.N_drew)); exact (Kd.N_mono (Kd.N_far (p := ⟨gb416, 1, none⟩) (Kd.N_far (p := ⟨gb416, 0, none⟩) (Kd.N_mono HO_6.out (fun k_ hk => (⟨hk, hk.2⟩ : _ ∧ k_ ≠ gb416))) (fun _ hk => hk.2) (.slice Ao65 t412.length co65)) (fun _ hk => hk.2) (.int .i64 t415)) (fun _ h_ => h_.1))) hb); replace HO_45 := Aside0.mk (Kd.N_below (by (with_reducible repeat (first | apply Kd.N_alloc | apply Kd.N_drewN | apply Kd.N_drew)); exact (Kd.N_mono (Kd.N_far (p := ⟨gb416, 1, none⟩) (Kd.N_far (p := ⟨gb416, 0, none⟩) (Kd.N_mono HO_45.out (fun k_ hk => (⟨hk, hk.2⟩ : _ ∧ k_ ≠ gb416))) (fun _ hk => hk.2) (.slice Ao65 t412.length co65)) (fun _ hk => hk.2) (.int .i64 t415)) (fun _ h_ => h_.1))) hb); replace HO414 := Aside0.mk (Kd.N_below (by (with_reducible repeat (first | apply Kd.N_alloc | apply Kd.N_drewN | apply Kd.N_drew)); exact (Kd.N_mono (Kd.N_far (p := ⟨gb416, 1, none⟩) (Kd.N_far (p := ⟨gb416, 0, none⟩) (Kd.N_mono HO414.out (fun k_ hk => (⟨hk, hk.2⟩ : _ ∧ k_ ≠ gb416))) (fun _ hk => hk.2) (.slice Ao65 t412.length co65)) (fun _ hk => hk.2) (.int .i64 t415)) (fun _ h_ => h_.1))) hb); replace BK382 := Aside0.mk (blk_below (g := gb382) (o := .cells #[.slice (some ad411) l0_0.length c0_0, .int .i64 a0_1] 24 (0, 0)) (uf_ BK382 NB382_416.out) hb); replace BK416 := Aside0.mk (blk_below (g := gb416) (o := .cells #[.slice Ao65 t412.length co65, .int .i64 t415] 24 (0, 0)) (up_ BK416) hb); replace HB := nc2_ GE382 GE416 hb; (try clear hb); (try clear hb2); (try clear hk); (try clear hi)))
        go_ret
        exact ⟨er_, hs2_ GE382.out GE416.out⟩
       have c31b0 := decide_eq_true c31
       clear c31
       replace H := ifs_ H
       obtain ⟨c32, H⟩ := H
       have c32b0 := decide_eq_true c32
       clear c32
       replace H := ifs_ H
       obtain ⟨c33, H⟩ := H
       have c33b0 := decide_eq_true c33
       clear c33
       replace H := ite_ H
       obtain ⟨c34, H⟩ | ⟨c34, H⟩ := H
       rotate_left
       ·have c34b0 : (((rd_L13 t389 x47_3).length : Int) == 0) = false := beq_eq_false_iff_ne.mpr c34
        have c34b1 : (((rd_L13 t389 x47_3).length : Int) != 0) = true := bne_iff_ne.mpr c34
        have c34b2 : ¬ ((rd_L13 t389 x47_3) = []) := fun h_ => c34 (by rw [h_]; rfl)
        replace H := ite_ H
        obtain ⟨c45, H⟩ | ⟨c45, H⟩ := H
        rotate_left
        ·have c45b0 := dgf_ c45
         have c45b1 : decide (1 < (rd_L13 t389 x47_3).length) = false := decide_eq_false (by omega)
         clear c45
         replace H := ifs_ H
         obtain ⟨c52, H⟩ := H
         have LMc52 := Aside0.mk c52
         clear c52
         obtain ⟨y407, hy407⟩ : ∃ y_ : List (S43), y_ = (x6_3 ++ (rd_L13 t389 x47_3)) := ⟨_, rfl⟩
         replace H : (impl_isStore.l1 k3 t389 y407 t389 (t389.length : Int) (wrap64 (x47_3 + 1)) l0_0 a0_1) = some r := by first | (rw [hy407]; with_reducible exact H) | (have H2_ := (Option.bind_some _ _).symm.trans H; rw [hy407]; with_reducible exact H2_) | (have H2_ := (Option.bind_some _ _).symm.trans H; with_reducible exact H2_) | with_reducible exact H | (rw [hy407]; exact H) | exact H
         have Ny407 := Aside0.mk hy407
         clear hy407
         have H' := Aside0.mk H
         clear H
         have p395 : 0 ≤ (x47_3 : Int) := oa_
         have q395 : x47_3 < (t389.length : Int) := oa_
         obtain ⟨ad395, A395_0, c395_0, e395, hx395_0, hl395_0, hi395_0⟩ := at_L13 (Kd.N_reads' HO_45.out).2.2 x47_3 p395 q395
         cases e395
         obtain ⟨ce395, hce395, hMe395, hcc395⟩ := Kd.N_get HO_45.out [] x47_3 p395 (by first | exact q395 | exact oa_ | (have e_ := (Kd.N_reads' HO_45.out).1; omega))
         obtain ⟨ua395_0, uc395_0, rfl, ul395_0, ge395_0⟩ := Kd.FK_slice_open hMe395
         have hv395_0 := hcc395 0 _ rfl
         rw [Nat.add_zero, show ((Kd.slice 43 k43)).sz = 1 from rfl, Nat.mul_one] at hv395_0
         replace hv395_0 := Option.some.inj (hv395_0.symm.trans hx395_0)
         injection hv395_0 with hva_ hvn_ hvc_
         rw [hva_] at ge395_0
         rw [hvc_] at ul395_0
         have HL395_0 := Aside0.mk (show Kd.V k43 43 _ w.heap.size _ _ (rd_L13 t389 x47_3) from Kd.V_mk ul395_0 ge395_0)
         clear hva_ hvn_ hvc_ ge395_0 ul395_0
         clear hcc395 hce395
         have HR395_0 := Aside0.mk hi395_0
         have HC395_0 := Aside0.mk hl395_0
         clear hi395_0 hl395_0
         replace p395 := eq_true p395
         replace q395 := eq_true q395
         go_wp2_with (first | ((with_reducible refine gate_builtin (b := .append) (xs := #[.tmp 77, .tmp 78]) rfl ?_); (try (refine gate_guard (by rfl) ?_; dsimp only)); at_builtin; refine Kd.N_append_rows k43 (w0 := w) w.heap.size rfl (.tmp 77) (.tmp 78) 48 43 (.agg #[(.int .i64 0), (.int .i64 0), (.int .i64 0), (.int .i64 0), (.slice none 0 0)]) 56 rfl Try.underlying48 info43 rfl (by decide) (by omega) u6 x6_3 (rd_L13 t389 x47_3) _ _ _ (fun k_ => some k_ ≠ (.slice (some ad395) t389.length co30 : Value).ownBlock ∧ k_ ≠ gb382) (fun k_ => ((fun k_ => some k_ ≠ (.slice (some ad395) t389.length co30 : Value).ownBlock ∧ k_ ≠ gb382)) k_ ∧ some k_ ≠ (u6 : Value).ownBlock) rfl rfl ?aO ?aR (fun _ hk => hk) ?aF ?aB ?aS ?aL ?_; (case aR => exact (by skip; exact Kd.V_F (Kd.V_mono (ok' := (fun k_ => ((fun k_ => some k_ ≠ (.slice (some ad395) t389.length co30 : Value).ownBlock ∧ k_ ≠ gb382)) k_ ∧ some k_ ≠ (u6 : Value).ownBlock)) (HL395_0.out) (fun k_ hk => ⟨⟨hk.2, hk.1.2⟩, hk.1.1⟩)))); (case aB => exact (hs_ GE382.out)); (case aF => exact (fun k_ hk => ⟨Kd.fresh' (Kd.N_lt (by (with_reducible repeat (first | apply Kd.N_alloc | apply Kd.N_drewN | apply Kd.N_drew)); exact HO_45.out)) k_ hk, Kd.freshB (g := gb382) (o := .cells #[.slice A0_0 l0_0.length c0_0, .int .i64 a0_1] 24 (0, 0)) (kb_ BK382.out) k_ hk⟩)); (case aO => exact (by (with_reducible repeat (first | apply Kd.N_alloc | apply Kd.N_drewN | apply Kd.N_drew)); exact HO_6.out)); (case aS => exact (below_size (hs_ GE382.out))); (case aL => have := LMc52.out; omega); intro v408 w53 ho hb hg hat; rw [← Ny407.out] at ho; replace HO_5 := Aside0.mk (Kd.N_afterv (ok := (fun k_ => k_ ≠ gb382)) (by (with_reducible repeat (first | apply Kd.N_alloc | apply Kd.N_drewN | apply Kd.N_drew)); exact Kd.N_mono HO_5.out (fun _ hk => ⟨hk.2, hk.1⟩)) hg hat); replace HO_45 := Aside0.mk (Kd.N_afterv (ok := (fun k_ => k_ ≠ gb382)) (by (with_reducible repeat (first | apply Kd.N_alloc | apply Kd.N_drewN | apply Kd.N_drew)); exact Kd.N_mono HO_45.out (fun _ hk => ⟨hk.2, hk.1⟩)) hg hat); replace BK382 := Aside0.mk (blk_grown (g := gb382) (o := .cells #[.slice A0_0 l0_0.length c0_0, .int .i64 a0_1] 24 (0, 0)) (kb_ BK382.out) hg (Kd.N_ne HO_6.out BK382.out (by decide))); replace HL395_0 := Aside0.mk (Kd.V_afterv (ok := (fun k_ => some k_ ≠ (.slice (some ad395) t389.length co30 : Value).ownBlock ∧ k_ ≠ gb382)) (by (with_reducible repeat (first | apply Kd.V_alloc | apply Kd.V_drewN | apply Kd.V_drew)); exact Kd.V_mono HL395_0.out (fun _ hk => ⟨⟨hk.2, hk.1.2⟩, hk.1.1⟩)) hg hat); replace HB := Aside0.mk (hb); have HO409 := Aside0.mk (ho); clear HO_6; clear ho hb hg hat))
         go_roundg k3
         case measure => have := HJ1.out; have := HK2.out; have := HK3.out; omega
         case rel => exact ⟨(y407), (wrap64 (x47_3 + 1)), sr_, H', ⟨by have := HJ1.out; have := HK2.out; have := HK3.out; omega⟩, ⟨by (with_reducible repeat (first | apply Kd.N_alloc | apply Kd.N_drewN | apply Kd.N_drew)); exact Kd.N_mono HO_5.out (fun _ hk => ⟨hk.2, hk.1⟩)⟩, ⟨by (with_reducible repeat (first | apply Kd.N_alloc | apply Kd.N_drewN | apply Kd.N_drew)); exact HO409.out⟩, ⟨by (with_reducible repeat (first | apply Kd.N_alloc | apply Kd.N_drewN | apply Kd.N_drew)); exact Kd.N_mono HO_45.out (fun _ hk => ⟨hk.2, hk.1⟩)⟩, ⟨kb_ BK382.out⟩, ⟨hs_ GE382.out⟩⟩
        have c45b0 := dgt_ c45
        have c45b1 : decide (1 < (rd_L13 t389 x47_3).length) = true := decide_eq_true (by omega)
        clear c45
        replace H := ifs_ H
        obtain ⟨c46, H⟩ := H
        have c46b0 := decide_eq_true c46
        clear c46
        replace H := ite_ H
        obtain ⟨c47, H⟩ | ⟨c47, H⟩ := H
        ·have c47b0 := dgt_ c47
         have c47b1 : decide (120 < ((rd_T65 l0_0 x47_3).f1).size) = true := decide_eq_true (by omega)
         clear c47
         obtain rfl := Option.some.inj H
         have p395 : 0 ≤ (x47_3 : Int) := oa_
         have q395 : x47_3 < (t389.length : Int) := oa_
         obtain ⟨ad395, A395_0, c395_0, e395, hx395_0, hl395_0, hi395_0⟩ := at_L13 (Kd.N_reads' HO_45.out).2.2 x47_3 p395 q395
         cases e395
         obtain ⟨ce395, hce395, hMe395, hcc395⟩ := Kd.N_get HO_45.out [] x47_3 p395 (by first | exact q395 | exact oa_ | (have e_ := (Kd.N_reads' HO_45.out).1; omega))
         obtain ⟨ua395_0, uc395_0, rfl, ul395_0, ge395_0⟩ := Kd.FK_slice_open hMe395
         have hv395_0 := hcc395 0 _ rfl
         rw [Nat.add_zero, show ((Kd.slice 43 k43)).sz = 1 from rfl, Nat.mul_one] at hv395_0
         replace hv395_0 := Option.some.inj (hv395_0.symm.trans hx395_0)
         injection hv395_0 with hva_ hvn_ hvc_
         rw [hva_] at ge395_0
         rw [hvc_] at ul395_0
         have HL395_0 := Aside0.mk (show Kd.V k43 43 _ w.heap.size _ _ (rd_L13 t389 x47_3) from Kd.V_mk ul395_0 ge395_0)
         clear hva_ hvn_ hvc_ ge395_0 ul395_0
         clear hcc395 hce395
         have HR395_0 := Aside0.mk hi395_0
         have HC395_0 := Aside0.mk hl395_0
         clear hi395_0 hl395_0
         replace p395 := eq_true p395
         replace q395 := eq_true q395
         obtain ⟨hcz48_0, hcz48_1, hfz48_0, hfz48_1⟩ := cf2_ BK382.out
         have p403 : 0 ≤ (x47_3 : Int) := oa_
         have q403 : x47_3 < (l0_0.length : Int) := oa_
         obtain ⟨ad403, A403_2, c403_2, e403, hx403_0, hx403_1, hx403_2, hl403_2, hi403_2⟩ := at_T65 HR0_0.out x47_3 p403 q403
         cases e403
         replace hx403_0 := pc_ HB.out hx403_0
         replace hx403_1 := pc_ HB.out hx403_1
         replace hx403_2 := pc_ HB.out hx403_2
         have HR403_2 := Aside0.mk hi403_2
         have HC403_2 := Aside0.mk hl403_2
         clear hi403_2 hl403_2
         replace p403 := eq_true p403
         replace q403 := eq_true q403
         go_wp2
         go_ret
         exact ⟨er_, hs_ GE382.out⟩
        have c47b0 := dgf_ c47
        have c47b1 : decide (120 < ((rd_T65 l0_0 x47_3).f1).size) = false := decide_eq_false (by omega)
        clear c47
        replace H := ifs_ H
        obtain ⟨c49, H⟩ := H
        have LMc49 := Aside0.mk c49
        clear c49
        obtain ⟨y404, hy404⟩ : ∃ y_ : List (S43), y_ = (x6_3 ++ (rd_L13 t389 x47_3)) := ⟨_, rfl⟩
        replace H : (impl_isStore.l1 k3 t389 y404 t389 (t389.length : Int) (wrap64 (x47_3 + 1)) l0_0 a0_1) = some r := by first | (rw [hy404]; with_reducible exact H) | (have H2_ := (Option.bind_some _ _).symm.trans H; rw [hy404]; with_reducible exact H2_) | (have H2_ := (Option.bind_some _ _).symm.trans H; with_reducible exact H2_) | with_reducible exact H | (rw [hy404]; exact H) | exact H
        have Ny404 := Aside0.mk hy404
        clear hy404
        have H' := Aside0.mk H
        clear H
        have p395 : 0 ≤ (x47_3 : Int) := oa_
        have q395 : x47_3 < (t389.length : Int) := oa_
        obtain ⟨ad395, A395_0, c395_0, e395, hx395_0, hl395_0, hi395_0⟩ := at_L13 (Kd.N_reads' HO_45.out).2.2 x47_3 p395 q395
        cases e395
        obtain ⟨ce395, hce395, hMe395, hcc395⟩ := Kd.N_get HO_45.out [] x47_3 p395 (by first | exact q395 | exact oa_ | (have e_ := (Kd.N_reads' HO_45.out).1; omega))
        obtain ⟨ua395_0, uc395_0, rfl, ul395_0, ge395_0⟩ := Kd.FK_slice_open hMe395
        have hv395_0 := hcc395 0 _ rfl
        rw [Nat.add_zero, show ((Kd.slice 43 k43)).sz = 1 from rfl, Nat.mul_one] at hv395_0
        replace hv395_0 := Option.some.inj (hv395_0.symm.trans hx395_0)
        injection hv395_0 with hva_ hvn_ hvc_
        rw [hva_] at ge395_0
        rw [hvc_] at ul395_0
        have HL395_0 := Aside0.mk (show Kd.V k43 43 _ w.heap.size _ _ (rd_L13 t389 x47_3) from Kd.V_mk ul395_0 ge395_0)
        clear hva_ hvn_ hvc_ ge395_0 ul395_0
        clear hcc395 hce395
        have HR395_0 := Aside0.mk hi395_0
        have HC395_0 := Aside0.mk hl395_0
        clear hi395_0 hl395_0
        replace p395 := eq_true p395
        replace q395 := eq_true q395
        obtain ⟨hcz50_0, hcz50_1, hfz50_0, hfz50_1⟩ := cf2_ BK382.out
        have p403 : 0 ≤ (x47_3 : Int) := oa_
        have q403 : x47_3 < (l0_0.length : Int) := oa_
        obtain ⟨ad403, A403_2, c403_2, e403, hx403_0, hx403_1, hx403_2, hl403_2, hi403_2⟩ := at_T65 HR0_0.out x47_3 p403 q403
        cases e403
        replace hx403_0 := pc_ HB.out hx403_0
        replace hx403_1 := pc_ HB.out hx403_1
        replace hx403_2 := pc_ HB.out hx403_2
        have HR403_2 := Aside0.mk hi403_2
        have HC403_2 := Aside0.mk hl403_2
        clear hi403_2 hl403_2
        replace p403 := eq_true p403
        replace q403 := eq_true q403
        go_wp2_with (first | ((with_reducible refine gate_builtin (b := .append) (xs := #[.tmp 77, .tmp 78]) rfl ?_); (try (refine gate_guard (by rfl) ?_; dsimp only)); at_builtin; refine Kd.N_append_rows k43 (w0 := w) w.heap.size rfl (.tmp 77) (.tmp 78) 48 43 (.agg #[(.int .i64 0), (.int .i64 0), (.int .i64 0), (.int .i64 0), (.slice none 0 0)]) 56 rfl Try.underlying48 info43 rfl (by decide) (by omega) u6 x6_3 (rd_L13 t389 x47_3) _ _ _ (fun k_ => some k_ ≠ (.slice (some ad395) t389.length co30 : Value).ownBlock ∧ k_ ≠ gb382) (fun k_ => ((fun k_ => some k_ ≠ (.slice (some ad395) t389.length co30 : Value).ownBlock ∧ k_ ≠ gb382)) k_ ∧ some k_ ≠ (u6 : Value).ownBlock) rfl rfl ?aO ?aR (fun _ hk => hk) ?aF ?aB ?aS ?aL ?_; (case aR => exact (by skip; exact Kd.V_F (Kd.V_mono (ok' := (fun k_ => ((fun k_ => some k_ ≠ (.slice (some ad395) t389.length co30 : Value).ownBlock ∧ k_ ≠ gb382)) k_ ∧ some k_ ≠ (u6 : Value).ownBlock)) (HL395_0.out) (fun k_ hk => ⟨⟨hk.2, hk.1.2⟩, hk.1.1⟩)))); (case aB => exact (hs_ GE382.out)); (case aF => exact (fun k_ hk => ⟨Kd.fresh' (Kd.N_lt (by (with_reducible repeat (first | apply Kd.N_alloc | apply Kd.N_drewN | apply Kd.N_drew)); exact HO_45.out)) k_ hk, Kd.freshB (g := gb382) (o := .cells #[.slice (some ad403) l0_0.length c0_0, .int .i64 a0_1] 24 (0, 0)) (kb_ BK382.out) k_ hk⟩)); (case aO => exact (by (with_reducible repeat (first | apply Kd.N_alloc | apply Kd.N_drewN | apply Kd.N_drew)); exact HO_6.out)); (case aS => exact (below_size (hs_ GE382.out))); (case aL => have := LMc49.out; omega); intro v405 w51 ho hb hg hat; rw [← Ny404.out] at ho; replace HO_5 := Aside0.mk (Kd.N_afterv (ok := (fun k_ => k_ ≠ gb382)) (by (with_reducible repeat (first | apply Kd.N_alloc | apply Kd.N_drewN | apply Kd.N_drew)); exact Kd.N_mono HO_5.out (fun _ hk => ⟨hk.2, hk.1⟩)) hg hat); replace HO_45 := Aside0.mk (Kd.N_afterv (ok := (fun k_ => k_ ≠ gb382)) (by (with_reducible repeat (first | apply Kd.N_alloc | apply Kd.N_drewN | apply Kd.N_drew)); exact Kd.N_mono HO_45.out (fun _ hk => ⟨hk.2, hk.1⟩)) hg hat); replace BK382 := Aside0.mk (blk_grown (g := gb382) (o := .cells #[.slice (some ad403) l0_0.length c0_0, .int .i64 a0_1] 24 (0, 0)) (kb_ BK382.out) hg (Kd.N_ne HO_6.out BK382.out (by decide))); replace HL395_0 := Aside0.mk (Kd.V_afterv (ok := (fun k_ => some k_ ≠ (.slice (some ad395) t389.length co30 : Value).ownBlock ∧ k_ ≠ gb382)) (by (with_reducible repeat (first | apply Kd.V_alloc | apply Kd.V_drewN | apply Kd.V_drew)); exact Kd.V_mono HL395_0.out (fun _ hk => ⟨⟨hk.2, hk.1.2⟩, hk.1.1⟩)) hg hat); replace HB := Aside0.mk (hb); have HO406 := Aside0.mk (ho); clear HO_6; clear ho hb hg hat))
        go_roundg k3
        case measure => have := HJ1.out; have := HK2.out; have := HK3.out; omega
        case rel => exact ⟨(y404), (wrap64 (x47_3 + 1)), sr_, H', ⟨by have := HJ1.out; have := HK2.out; have := HK3.out; omega⟩, ⟨by (with_reducible repeat (first | apply Kd.N_alloc | apply Kd.N_drewN | apply Kd.N_drew)); exact Kd.N_mono HO_5.out (fun _ hk => ⟨hk.2, hk.1⟩)⟩, ⟨by (with_reducible repeat (first | apply Kd.N_alloc | apply Kd.N_drewN | apply Kd.N_drew)); exact HO406.out⟩, ⟨by (with_reducible repeat (first | apply Kd.N_alloc | apply Kd.N_drewN | apply Kd.N_drew)); exact Kd.N_mono HO_45.out (fun _ hk => ⟨hk.2, hk.1⟩)⟩, ⟨kb_ BK382.out⟩, ⟨hs_ GE382.out⟩⟩
       have c34b0 : (((rd_L13 t389 x47_3).length : Int) == 0) = true := beq_iff_eq.mpr c34
       have c34b1 : (((rd_L13 t389 x47_3).length : Int) != 0) = false := bne_eq_false_iff_eq.mpr c34
       clear c34
       replace H := ite_ H
       obtain ⟨c35, H⟩ | ⟨c35, H⟩ := H
       ·have c35b0 := decide_eq_true c35
        clear c35
        obtain rfl := Option.some.inj H
        have p395 : 0 ≤ (x47_3 : Int) := oa_
        have q395 : x47_3 < (t389.length : Int) := oa_
        obtain ⟨ad395, A395_0, c395_0, e395, hx395_0, hl395_0, hi395_0⟩ := at_L13 (Kd.N_reads' HO_45.out).2.2 x47_3 p395 q395
        cases e395
        obtain ⟨ce395, hce395, hMe395, hcc395⟩ := Kd.N_get HO_45.out [] x47_3 p395 (by first | exact q395 | exact oa_ | (have e_ := (Kd.N_reads' HO_45.out).1; omega))
        obtain ⟨ua395_0, uc395_0, rfl, ul395_0, ge395_0⟩ := Kd.FK_slice_open hMe395
        have hv395_0 := hcc395 0 _ rfl
        rw [Nat.add_zero, show ((Kd.slice 43 k43)).sz = 1 from rfl, Nat.mul_one] at hv395_0
        replace hv395_0 := Option.some.inj (hv395_0.symm.trans hx395_0)
        injection hv395_0 with hva_ hvn_ hvc_
        rw [hva_] at ge395_0
        rw [hvc_] at ul395_0
        have HL395_0 := Aside0.mk (show Kd.V k43 43 _ w.heap.size _ _ (rd_L13 t389 x47_3) from Kd.V_mk ul395_0 ge395_0)
        clear hva_ hvn_ hvc_ ge395_0 ul395_0
        clear hcc395 hce395
        have HR395_0 := Aside0.mk hi395_0
        have HC395_0 := Aside0.mk hl395_0
        clear hi395_0 hl395_0
        replace p395 := eq_true p395
        replace q395 := eq_true q395
        go_wp2
        go_ret
        exact ⟨er_, hs_ GE382.out⟩
       have c35b0 := decide_eq_false c35
       clear c35
       replace H := ite_ H
       obtain ⟨c36, H⟩ | ⟨c36, H⟩ := H
       rotate_left
       ·have c36b0 := dgf_ c36
        have c36b1 : decide (1 < (rd_L13 t389 x47_3).length) = false := decide_eq_false (by omega)
        clear c36
        replace H := ifs_ H
        obtain ⟨c43, H⟩ := H
        have LMc43 := Aside0.mk c43
        clear c43
        obtain ⟨y400, hy400⟩ : ∃ y_ : List (S43), y_ = (x6_3 ++ (rd_L13 t389 x47_3)) := ⟨_, rfl⟩
        replace H : (impl_isStore.l1 k3 t389 y400 t389 (t389.length : Int) (wrap64 (x47_3 + 1)) l0_0 a0_1) = some r := by first | (rw [hy400]; with_reducible exact H) | (have H2_ := (Option.bind_some _ _).symm.trans H; rw [hy400]; with_reducible exact H2_) | (have H2_ := (Option.bind_some _ _).symm.trans H; with_reducible exact H2_) | with_reducible exact H | (rw [hy400]; exact H) | exact H
        have Ny400 := Aside0.mk hy400
        clear hy400
        have H' := Aside0.mk H
        clear H
        have p395 : 0 ≤ (x47_3 : Int) := oa_
        have q395 : x47_3 < (t389.length : Int) := oa_
        obtain ⟨ad395, A395_0, c395_0, e395, hx395_0, hl395_0, hi395_0⟩ := at_L13 (Kd.N_reads' HO_45.out).2.2 x47_3 p395 q395
        cases e395
        obtain ⟨ce395, hce395, hMe395, hcc395⟩ := Kd.N_get HO_45.out [] x47_3 p395 (by first | exact q395 | exact oa_ | (have e_ := (Kd.N_reads' HO_45.out).1; omega))
        obtain ⟨ua395_0, uc395_0, rfl, ul395_0, ge395_0⟩ := Kd.FK_slice_open hMe395
        have hv395_0 := hcc395 0 _ rfl
        rw [Nat.add_zero, show ((Kd.slice 43 k43)).sz = 1 from rfl, Nat.mul_one] at hv395_0
        replace hv395_0 := Option.some.inj (hv395_0.symm.trans hx395_0)
        injection hv395_0 with hva_ hvn_ hvc_
        rw [hva_] at ge395_0
        rw [hvc_] at ul395_0
        have HL395_0 := Aside0.mk (show Kd.V k43 43 _ w.heap.size _ _ (rd_L13 t389 x47_3) from Kd.V_mk ul395_0 ge395_0)
        clear hva_ hvn_ hvc_ ge395_0 ul395_0
        clear hcc395 hce395
        have HR395_0 := Aside0.mk hi395_0
        have HC395_0 := Aside0.mk hl395_0
        clear hi395_0 hl395_0
        replace p395 := eq_true p395
        replace q395 := eq_true q395
        go_wp2_with (first | ((with_reducible refine gate_builtin (b := .append) (xs := #[.tmp 77, .tmp 78]) rfl ?_); (try (refine gate_guard (by rfl) ?_; dsimp only)); at_builtin; refine Kd.N_append_rows k43 (w0 := w) w.heap.size rfl (.tmp 77) (.tmp 78) 48 43 (.agg #[(.int .i64 0), (.int .i64 0), (.int .i64 0), (.int .i64 0), (.slice none 0 0)]) 56 rfl Try.underlying48 info43 rfl (by decide) (by omega) u6 x6_3 (rd_L13 t389 x47_3) _ _ _ (fun k_ => some k_ ≠ (.slice (some ad395) t389.length co30 : Value).ownBlock ∧ k_ ≠ gb382) (fun k_ => ((fun k_ => some k_ ≠ (.slice (some ad395) t389.length co30 : Value).ownBlock ∧ k_ ≠ gb382)) k_ ∧ some k_ ≠ (u6 : Value).ownBlock) rfl rfl ?aO ?aR (fun _ hk => hk) ?aF ?aB ?aS ?aL ?_; (case aR => exact (by skip; exact Kd.V_F (Kd.V_mono (ok' := (fun k_ => ((fun k_ => some k_ ≠ (.slice (some ad395) t389.length co30 : Value).ownBlock ∧ k_ ≠ gb382)) k_ ∧ some k_ ≠ (u6 : Value).ownBlock)) (HL395_0.out) (fun k_ hk => ⟨⟨hk.2, hk.1.2⟩, hk.1.1⟩)))); (case aB => exact (hs_ GE382.out)); (case aF => exact (fun k_ hk => ⟨Kd.fresh' (Kd.N_lt (by (with_reducible repeat (first | apply Kd.N_alloc | apply Kd.N_drewN | apply Kd.N_drew)); exact HO_45.out)) k_ hk, Kd.freshB (g := gb382) (o := .cells #[.slice A0_0 l0_0.length c0_0, .int .i64 a0_1] 24 (0, 0)) (kb_ BK382.out) k_ hk⟩)); (case aO => exact (by (with_reducible repeat (first | apply Kd.N_alloc | apply Kd.N_drewN | apply Kd.N_drew)); exact HO_6.out)); (case aS => exact (below_size (hs_ GE382.out))); (case aL => have := LMc43.out; omega); intro v401 w44 ho hb hg hat; rw [← Ny400.out] at ho; replace HO_5 := Aside0.mk (Kd.N_afterv (ok := (fun k_ => k_ ≠ gb382)) (by (with_reducible repeat (first | apply Kd.N_alloc | apply Kd.N_drewN | apply Kd.N_drew)); exact Kd.N_mono HO_5.out (fun _ hk => ⟨hk.2, hk.1⟩)) hg hat); replace HO_45 := Aside0.mk (Kd.N_afterv (ok := (fun k_ => k_ ≠ gb382)) (by (with_reducible repeat (first | apply Kd.N_alloc | apply Kd.N_drewN | apply Kd.N_drew)); exact Kd.N_mono HO_45.out (fun _ hk => ⟨hk.2, hk.1⟩)) hg hat); replace BK382 := Aside0.mk (blk_grown (g := gb382) (o := .cells #[.slice A0_0 l0_0.length c0_0, .int .i64 a0_1] 24 (0, 0)) (kb_ BK382.out) hg (Kd.N_ne HO_6.out BK382.out (by decide))); replace HL395_0 := Aside0.mk (Kd.V_afterv (ok := (fun k_ => some k_ ≠ (.slice (some ad395) t389.length co30 : Value).ownBlock ∧ k_ ≠ gb382)) (by (with_reducible repeat (first | apply Kd.V_alloc | apply Kd.V_drewN | apply Kd.V_drew)); exact Kd.V_mono HL395_0.out (fun _ hk => ⟨⟨hk.2, hk.1.2⟩, hk.1.1⟩)) hg hat); replace HB := Aside0.mk (hb); have HO402 := Aside0.mk (ho); clear HO_6; clear ho hb hg hat))
        go_roundg k3
        case measure => have := HJ1.out; have := HK2.out; have := HK3.out; omega
        case rel => exact ⟨(y400), (wrap64 (x47_3 + 1)), sr_, H', ⟨by have := HJ1.out; have := HK2.out; have := HK3.out; omega⟩, ⟨by (with_reducible repeat (first | apply Kd.N_alloc | apply Kd.N_drewN | apply Kd.N_drew)); exact Kd.N_mono HO_5.out (fun _ hk => ⟨hk.2, hk.1⟩)⟩, ⟨by (with_reducible repeat (first | apply Kd.N_alloc | apply Kd.N_drewN | apply Kd.N_drew)); exact HO402.out⟩, ⟨by (with_reducible repeat (first | apply Kd.N_alloc | apply Kd.N_drewN | apply Kd.N_drew)); exact Kd.N_mono HO_45.out (fun _ hk => ⟨hk.2, hk.1⟩)⟩, ⟨kb_ BK382.out⟩, ⟨hs_ GE382.out⟩⟩
       have c36b0 := dgt_ c36
       have c36b1 : decide (1 < (rd_L13 t389 x47_3).length) = true := decide_eq_true (by omega)
       clear c36
       replace H := ifs_ H
       obtain ⟨c37, H⟩ := H
       have c37b0 := decide_eq_true c37
       clear c37
       replace H := ite_ H
       obtain ⟨c38, H⟩ | ⟨c38, H⟩ := H
       ·have c38b0 := dgt_ c38
        have c38b1 : decide (120 < ((rd_T65 l0_0 x47_3).f1).size) = true := decide_eq_true (by omega)
        clear c38
        obtain rfl := Option.some.inj H
        have p395 : 0 ≤ (x47_3 : Int) := oa_
        have q395 : x47_3 < (t389.length : Int) := oa_
        obtain ⟨ad395, A395_0, c395_0, e395, hx395_0, hl395_0, hi395_0⟩ := at_L13 (Kd.N_reads' HO_45.out).2.2 x47_3 p395 q395
        cases e395
        obtain ⟨ce395, hce395, hMe395, hcc395⟩ := Kd.N_get HO_45.out [] x47_3 p395 (by first | exact q395 | exact oa_ | (have e_ := (Kd.N_reads' HO_45.out).1; omega))
        obtain ⟨ua395_0, uc395_0, rfl, ul395_0, ge395_0⟩ := Kd.FK_slice_open hMe395
        have hv395_0 := hcc395 0 _ rfl
        rw [Nat.add_zero, show ((Kd.slice 43 k43)).sz = 1 from rfl, Nat.mul_one] at hv395_0
        replace hv395_0 := Option.some.inj (hv395_0.symm.trans hx395_0)
        injection hv395_0 with hva_ hvn_ hvc_
        rw [hva_] at ge395_0
        rw [hvc_] at ul395_0
        have HL395_0 := Aside0.mk (show Kd.V k43 43 _ w.heap.size _ _ (rd_L13 t389 x47_3) from Kd.V_mk ul395_0 ge395_0)
        clear hva_ hvn_ hvc_ ge395_0 ul395_0
        clear hcc395 hce395
        have HR395_0 := Aside0.mk hi395_0
        have HC395_0 := Aside0.mk hl395_0
        clear hi395_0 hl395_0
        replace p395 := eq_true p395
        replace q395 := eq_true q395
        obtain ⟨hcz39_0, hcz39_1, hfz39_0, hfz39_1⟩ := cf2_ BK382.out
        have p396 : 0 ≤ (x47_3 : Int) := oa_
        have q396 : x47_3 < (l0_0.length : Int) := oa_
        obtain ⟨ad396, A396_2, c396_2, e396, hx396_0, hx396_1, hx396_2, hl396_2, hi396_2⟩ := at_T65 HR0_0.out x47_3 p396 q396
        cases e396
        replace hx396_0 := pc_ HB.out hx396_0
        replace hx396_1 := pc_ HB.out hx396_1
        replace hx396_2 := pc_ HB.out hx396_2
        have HR396_2 := Aside0.mk hi396_2
        have HC396_2 := Aside0.mk hl396_2
        clear hi396_2 hl396_2
        replace p396 := eq_true p396
        replace q396 := eq_true q396
        go_wp2
        go_ret
        exact ⟨er_, hs_ GE382.out⟩
       have c38b0 := dgf_ c38
       have c38b1 : decide (120 < ((rd_T65 l0_0 x47_3).f1).size) = false := decide_eq_false (by omega)
       clear c38
       replace H := ifs_ H
       obtain ⟨c40, H⟩ := H
       have LMc40 := Aside0.mk c40
       clear c40
       obtain ⟨y397, hy397⟩ : ∃ y_ : List (S43), y_ = (x6_3 ++ (rd_L13 t389 x47_3)) := ⟨_, rfl⟩
       replace H : (impl_isStore.l1 k3 t389 y397 t389 (t389.length : Int) (wrap64 (x47_3 + 1)) l0_0 a0_1) = some r := by first | (rw [hy397]; with_reducible exact H) | (have H2_ := (Option.bind_some _ _).symm.trans H; rw [hy397]; with_reducible exact H2_) | (have H2_ := (Option.bind_some _ _).symm.trans H; with_reducible exact H2_) | with_reducible exact H | (rw [hy397]; exact H) | exact H
       have Ny397 := Aside0.mk hy397
       clear hy397
       have H' := Aside0.mk H
       clear H
       have p395 : 0 ≤ (x47_3 : Int) := oa_
       have q395 : x47_3 < (t389.length : Int) := oa_
       obtain ⟨ad395, A395_0, c395_0, e395, hx395_0, hl395_0, hi395_0⟩ := at_L13 (Kd.N_reads' HO_45.out).2.2 x47_3 p395 q395
       cases e395
       obtain ⟨ce395, hce395, hMe395, hcc395⟩ := Kd.N_get HO_45.out [] x47_3 p395 (by first | exact q395 | exact oa_ | (have e_ := (Kd.N_reads' HO_45.out).1; omega))
       obtain ⟨ua395_0, uc395_0, rfl, ul395_0, ge395_0⟩ := Kd.FK_slice_open hMe395
       have hv395_0 := hcc395 0 _ rfl
       rw [Nat.add_zero, show ((Kd.slice 43 k43)).sz = 1 from rfl, Nat.mul_one] at hv395_0
       replace hv395_0 := Option.some.inj (hv395_0.symm.trans hx395_0)
       injection hv395_0 with hva_ hvn_ hvc_
       rw [hva_] at ge395_0
       rw [hvc_] at ul395_0
       have HL395_0 := Aside0.mk (show Kd.V k43 43 _ w.heap.size _ _ (rd_L13 t389 x47_3) from Kd.V_mk ul395_0 ge395_0)
       clear hva_ hvn_ hvc_ ge395_0 ul395_0
       clear hcc395 hce395
       have HR395_0 := Aside0.mk hi395_0
       have HC395_0 := Aside0.mk hl395_0
       clear hi395_0 hl395_0
       replace p395 := eq_true p395
       replace q395 := eq_true q395
       obtain ⟨hcz41_0, hcz41_1, hfz41_0, hfz41_1⟩ := cf2_ BK382.out
       have p396 : 0 ≤ (x47_3 : Int) := oa_
       have q396 : x47_3 < (l0_0.length : Int) := oa_
       obtain ⟨ad396, A396_2, c396_2, e396, hx396_0, hx396_1, hx396_2, hl396_2, hi396_2⟩ := at_T65 HR0_0.out x47_3 p396 q396
       cases e396
       replace hx396_0 := pc_ HB.out hx396_0
       replace hx396_1 := pc_ HB.out hx396_1
       replace hx396_2 := pc_ HB.out hx396_2
       have HR396_2 := Aside0.mk hi396_2
       have HC396_2 := Aside0.mk hl396_2
       clear hi396_2 hl396_2
       replace p396 := eq_true p396
       replace q396 := eq_true q396
       go_wp2_with (first | ((with_reducible refine gate_builtin (b := .append) (xs := #[.tmp 77, .tmp 78]) rfl ?_); (try (refine gate_guard (by rfl) ?_; dsimp only)); at_builtin; refine Kd.N_append_rows k43 (w0 := w) w.heap.size rfl (.tmp 77) (.tmp 78) 48 43 (.agg #[(.int .i64 0), (.int .i64 0), (.int .i64 0), (.int .i64 0), (.slice none 0 0)]) 56 rfl Try.underlying48 info43 rfl (by decide) (by omega) u6 x6_3 (rd_L13 t389 x47_3) _ _ _ (fun k_ => some k_ ≠ (.slice (some ad395) t389.length co30 : Value).ownBlock ∧ k_ ≠ gb382) (fun k_ => ((fun k_ => some k_ ≠ (.slice (some ad395) t389.length co30 : Value).ownBlock ∧ k_ ≠ gb382)) k_ ∧ some k_ ≠ (u6 : Value).ownBlock) rfl rfl ?aO ?aR (fun _ hk => hk) ?aF ?aB ?aS ?aL ?_; (case aR => exact (by skip; exact Kd.V_F (Kd.V_mono (ok' := (fun k_ => ((fun k_ => some k_ ≠ (.slice (some ad395) t389.length co30 : Value).ownBlock ∧ k_ ≠ gb382)) k_ ∧ some k_ ≠ (u6 : Value).ownBlock)) (HL395_0.out) (fun k_ hk => ⟨⟨hk.2, hk.1.2⟩, hk.1.1⟩)))); (case aB => exact (hs_ GE382.out)); (case aF => exact (fun k_ hk => ⟨Kd.fresh' (Kd.N_lt (by (with_reducible repeat (first | apply Kd.N_alloc | apply Kd.N_drewN | apply Kd.N_drew)); exact HO_45.out)) k_ hk, Kd.freshB (g := gb382) (o := .cells #[.slice (some ad396) l0_0.length c0_0, .int .i64 a0_1] 24 (0, 0)) (kb_ BK382.out) k_ hk⟩)); (case aO => exact (by (with_reducible repeat (first | apply Kd.N_alloc | apply Kd.N_drewN | apply Kd.N_drew)); exact HO_6.out)); (case aS => exact (below_size (hs_ GE382.out))); (case aL => have := LMc40.out; omega); intro v398 w42 ho hb hg hat; rw [← Ny397.out] at ho; replace HO_5 := Aside0.mk (Kd.N_afterv (ok := (fun k_ => k_ ≠ gb382)) (by (with_reducible repeat (first | apply Kd.N_alloc | apply Kd.N_drewN | apply Kd.N_drew)); exact Kd.N_mono HO_5.out (fun _ hk => ⟨hk.2, hk.1⟩)) hg hat); replace HO_45 := Aside0.mk (Kd.N_afterv (ok := (fun k_ => k_ ≠ gb382)) (by (with_reducible repeat (first | apply Kd.N_alloc | apply Kd.N_drewN | apply Kd.N_drew)); exact Kd.N_mono HO_45.out (fun _ hk => ⟨hk.2, hk.1⟩)) hg hat); replace BK382 := Aside0.mk (blk_grown (g := gb382) (o := .cells #[.slice (some ad396) l0_0.length c0_0, .int .i64 a0_1] 24 (0, 0)) (kb_ BK382.out) hg (Kd.N_ne HO_6.out BK382.out (by decide))); replace HL395_0 := Aside0.mk (Kd.V_afterv (ok := (fun k_ => some k_ ≠ (.slice (some ad395) t389.length co30 : Value).ownBlock ∧ k_ ≠ gb382)) (by (with_reducible repeat (first | apply Kd.V_alloc | apply Kd.V_drewN | apply Kd.V_drew)); exact Kd.V_mono HL395_0.out (fun _ hk => ⟨⟨hk.2, hk.1.2⟩, hk.1.1⟩)) hg hat); replace HB := Aside0.mk (hb); have HO399 := Aside0.mk (ho); clear HO_6; clear ho hb hg hat))
       go_roundg k3
       case measure => have := HJ1.out; have := HK2.out; have := HK3.out; omega
       case rel => exact ⟨(y397), (wrap64 (x47_3 + 1)), sr_, H', ⟨by have := HJ1.out; have := HK2.out; have := HK3.out; omega⟩, ⟨by (with_reducible repeat (first | apply Kd.N_alloc | apply Kd.N_drewN | apply Kd.N_drew)); exact Kd.N_mono HO_5.out (fun _ hk => ⟨hk.2, hk.1⟩)⟩, ⟨by (with_reducible repeat (first | apply Kd.N_alloc | apply Kd.N_drewN | apply Kd.N_drew)); exact HO399.out⟩, ⟨by (with_reducible repeat (first | apply Kd.N_alloc | apply Kd.N_drewN | apply Kd.N_drew)); exact Kd.N_mono HO_45.out (fun _ hk => ⟨hk.2, hk.1⟩)⟩, ⟨kb_ BK382.out⟩, ⟨hs_ GE382.out⟩⟩

end Go.Proofs.Ytffpeklekkpbjaa.QFnExactAllBatches
