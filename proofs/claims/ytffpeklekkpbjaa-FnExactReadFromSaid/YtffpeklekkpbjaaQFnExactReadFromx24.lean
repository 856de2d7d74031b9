/- Functions that one statement reaches: of each a plain function, and the proof that calls come to it. Conditions: those that each contract names. Written by a program of this repository. -/
import Derived.Test.YtffpeklekkpbjaaVReadFroma
import Derived.Test.YtffpeklekkpbjaaQFnExactReadFromx2
import Derived.Test.YtffpeklekkpbjaaQFnExactReadFromx15
import Derived.Test.YtffpeklekkpbjaaQFnExactReadFromx19
import Derived.Test.YtffpeklekkpbjaaQFnExactReadFromx21
import Derived.Test.YtffpeklekkpbjaaQFnExactReadFromx23
namespace Go.Proofs.Ytffpeklekkpbjaa.QFnExactReadFrom
open Go.RowKit Go.Proofs.YtffpeklekkpbjaaW.PrintWords Go.Proofs.YtffpeklekkpbjaaW.PrintLast Go.Proofs.YtffpeklekkpbjaaW.PrintMore
attribute [local go_sem] max2_int min2_int max_two min_two max_three min_three max_four min_four Go.Proofs.YtffpeklekkpbjaaW.PrintMore2.isSome_setCell   -- for this text's walks alone
set_option linter.unusedVariables false
set_option linter.unusedSimpArgs false

/-! ### impl_isStore: function 67 -/
mutual
def impl_isStore.j0 : Nat → Bool → List (S65) → Int → Option (Bool)
 | 0, _, _, _ => none
 | k + 1, x29, x409000, x409001 => if x29 = true then (some false) else (impl_isStore.l0 k x409000 (x409000.length : Int) 0 x409000 x409001)
def impl_isStore.l0 : Nat → List (S65) → Int → Int → List (S65) → Int → Option (Bool)
 | 0, _, _, _, _, _ => none
 | k + 1, x31, x32, x33, x409000, x409001 => if x33 < x32 then (if 0 ≤ x33 then (if x33 < (x31.length : Int) then (if (((rd_T65 x31 x33).f1).size : Int) > 600 then (some false) else (impl_isStore.l0 k x31 x32 (wrap64 (x33 + 1)) x409000 x409001)) else (none)) else (none)) else ((impl_Store_logs.f k x409000 x409001).bind fun t415 => (impl_isStore.l1 k t415 (([] : List (S43))) t415 (t415.length : Int) 0 x409000 x409001))
def impl_isStore.l1 : Nat → List (List (S43)) → List (S43) → List (List (S43)) → Int → Int → List (S65) → Int → Option (Bool)
 | 0, _, _, _, _, _, _, _ => none
 | k + 1, x5, x6, x45, x46, x47, x409000, x409001 => if x47 < x46 then (if 0 ≤ x47 then (if x47 < (x45.length : Int) then (if ((rd_L13 x45 x47).length : Int) = 0 then (if x47 < (wrap64 ((x5.length : Int) - 1)) then (some false) else (if ((rd_L13 x45 x47).length : Int) > 1 then (if x47 < (x409000.length : Int) then (if (((rd_T65 x409000 x47).f1).size : Int) > 120 then (some false) else (if x6.length + (rd_L13 x45 x47).length < 2513169434916 then (impl_isStore.l1 k x5 (x6 ++ (rd_L13 x45 x47)) x45 x46 (wrap64 (x47 + 1)) x409000 x409001) else (none))) else (none)) else (if x6.length + (rd_L13 x45 x47).length < 2513169434916 then (impl_isStore.l1 k x5 (x6 ++ (rd_L13 x45 x47)) x45 x46 (wrap64 (x47 + 1)) x409000 x409001) else (none)))) else (if ((rd_L13 x45 x47).length : Int) > 1 then (if x47 < (x409000.length : Int) then (if (((rd_T65 x409000 x47).f1).size : Int) > 120 then (some false) else (if x6.length + (rd_L13 x45 x47).length < 2513169434916 then (impl_isStore.l1 k x5 (x6 ++ (rd_L13 x45 x47)) x45 x46 (wrap64 (x47 + 1)) x409000 x409001) else (none))) else (none)) else (if x6.length + (rd_L13 x45 x47).length < 2513169434916 then (impl_isStore.l1 k x5 (x6 ++ (rd_L13 x45 x47)) x45 x46 (wrap64 (x47 + 1)) x409000 x409001) else (none)))) else (none)) else (none)) else ((impl_isLog.f k x6).bind fun t436 => (if t436 = true then (if 0 < (x409000.length : Int) then ((impl_storeOf.f k x5 ((rd_T65 x409000 0).f0)).bind fun bt438 => (if bt438.2 = x409001 then ((slices_EqualFunc_Segment.f k bt438.1 x409000).bind fun t443 => (some t443)) else (some false))) else (none)) else (some false)))
end
def impl_isStore.f (k : Nat) (l0_0 : List (S65)) (a0_1 : Int) : Option (Bool) := (impl_in.f (l0_0.length : Int) 1 8).bind fun t409 => (if t409 = true then ((impl_in.f a0_1 0 100000).bind fun t410 => (if t410 = true then (if 0 < (l0_0.length : Int) then ((impl_in.f ((rd_T65 l0_0 0).f0) 0 100000).bind fun t412 => (impl_isStore.j0 k (!t412) l0_0 a0_1)) else (none)) else (impl_isStore.j0 k true l0_0 a0_1))) else (impl_isStore.j0 k true l0_0 a0_1))
theorem impl_isStore.mono_l : ∀ k, (∀ y0 y1 y2, LeO (impl_isStore.j0 k y0 y1 y2) (impl_isStore.j0 (k + 1) y0 y1 y2)) ∧ (∀ y0 y1 y2 y3 y4, LeO (impl_isStore.l0 k y0 y1 y2 y3 y4) (impl_isStore.l0 (k + 1) y0 y1 y2 y3 y4)) ∧ (∀ y0 y1 y2 y3 y4 y5 y6, LeO (impl_isStore.l1 k y0 y1 y2 y3 y4 y5 y6) (impl_isStore.l1 (k + 1) y0 y1 y2 y3 y4 y5 y6))
 | 0 => ⟨fun _ _ _ r h => by simp [impl_isStore.j0] at h, fun _ _ _ _ _ r h => by simp [impl_isStore.l0] at h, fun _ _ _ _ _ _ _ r h => by simp [impl_isStore.l1] at h⟩
 | k + 1 => by
  obtain ⟨ih0, ih1, ih2⟩ := impl_isStore.mono_l k
  refine ⟨?_, ?_, ?_⟩
  all_goals intros; first | unfold impl_isStore.j0 | unfold impl_isStore.l0 | unfold impl_isStore.l1
  all_goals repeat' first | (with_reducible first | apply ih0 | apply ih1 | apply ih2 | apply impl_Store_logs.mono | apply impl_isLog.mono | apply impl_storeOf.mono | apply slices_EqualFunc_Segment.mono | exact LeO.refl _ | exact LeO.none _ | refine LeO.ite ?_ ?_ | refine LeO.bind ?_ (fun _ => ?_))
theorem impl_isStore.mono : ∀ a0 a1 k, LeO (impl_isStore.f k a0 a1) (impl_isStore.f (k + 1) a0 a1) := by
 intro a0 a1 k
 obtain ⟨ih0, ih1, ih2⟩ := impl_isStore.mono_l k
 unfold impl_isStore.f
 repeat' first
   | (with_reducible first | apply ih0 | apply ih1 | apply ih2 | apply impl_Store_logs.mono | apply impl_isLog.mono | apply impl_storeOf.mono | apply slices_EqualFunc_Segment.mono | exact LeO.refl _ | exact LeO.none _ | refine LeO.ite ?_ ?_ | refine LeO.bind ?_ (fun _ => ?_))
set_option maxHeartbeats 8000000 in
set_option maxRecDepth 100000 in
theorem impl_isStore.calls (k : Nat) (A0_0 : Option Addr) (c0_0 : Nat) (l0_0 : List (S65)) (a0_1 : Int) (r : Bool) (w : World) (hr0_0 : Kd.C k65 w A0_0 l0_0.length l0_0) (hc0_0 : l0_0.length ≤ c0_0) (h : impl_isStore.f k l0_0 a0_1 = some r) :
  Calls Try.prog 67 #[.agg #[.slice A0_0 l0_0.length c0_0, .int .i64 a0_1]] w fun e w' => e = .returned (.bool r) ∧ Below w.heap.size w w' := by
 have hu24 := Try.underlying24
 have hu65 := Try.underlying65
 have HR0_0 := Aside0.mk hr0_0
 have HC0_0 := Aside0.mk hc0_0
 clear hr0_0 hc0_0
 have HB := Aside0.mk (Below.refl w.heap.size w)
 have H : ((impl_in.f (l0_0.length : Int) 1 8).bind fun t409 => (if t409 = true then ((impl_in.f a0_1 0 100000).bind fun t410 => (if t410 = true then (if 0 < (l0_0.length : Int) then ((impl_in.f ((rd_T65 l0_0 0).f0) 0 100000).bind fun t412 => (impl_isStore.j0 k (!t412) l0_0 a0_1)) else (none)) else (impl_isStore.j0 k true l0_0 a0_1))) else (impl_isStore.j0 k true l0_0 a0_1))) = some r := h
 clear h
 have HC2 := Aside0.mk H
 clear H
 go_enter Try.func67, Try.ntmps67
 go_upto_region 1 with (first | ((with_reducible refine gate_dst (N := 1) rfl ?_); (try (refine gate_guard (by rfl) ?_; dsimp only)); refine bq_ (N := 1) #[.slice A0_0 l0_0.length c0_0, .int .i64 a0_1] 24 ?_; intro gb408 hg w3 BK408 hb; have GE408 := ge_ hg; replace HB := nb_ hb; clear hb hg))
 (try simp only [Act.put, List.setIfInBounds_toArray, List.set_cons_zero, List.set_cons_succ])
 go_cut [29] (fun v29 wc => ∃ (kq : Nat) (x29_1 : Bool), v29 = .bool x29_1 ∧ Aside0 (impl_isStore.j0 kq x29_1 l0_0 a0_1 = some r) ∧ Aside0 (kq ≤ k) ∧ Aside0 (wc.heap[gb408]? = some (.cells #[(.slice A0_0 l0_0.length c0_0), .int .i64 a0_1] 24 (0, 0))) ∧ Aside0 (Below w.heap.size w wc))
 case first =>
  have H := HC2.out
  clear HC2
  replace H := bnd_ H
  obtain ⟨t409, A4, H⟩ := H
  replace H := ifb_ H
  obtain ⟨rfl, H⟩ | ⟨rfl, H⟩ := H
  rotate_left
  ·have H' := Aside0.mk H
   clear H
   obtain ⟨hcz12_0, hcz12_1, hfz12_0, hfz12_1⟩ := cf2_ BK408.out
   go_wp2_with (first | ((with_reducible refine gate_callee (f := 58) rfl ?_); refine gl_ 13 Try.func58 #[.int .i64 (l0_0.length : Int), .int .i64 1, .int .i64 8] rfl ma_ ?_; (with_reducible refine (impl_in.calls (l0_0.length : Int) 1 8 false _ A4.out).mono ?_); rintro e w' ⟨rfl, ⟨nd, rfl⟩⟩; refine ⟨_, rfl, ?_⟩))
   go_meet
   case rel => exact ⟨_, (true), sr_, H', ⟨by first | omega | exact Nat.le_refl _⟩, ⟨kb_ BK408.out⟩, ⟨hs_ GE408.out⟩⟩
  replace H := bnd_ H
  obtain ⟨t410, A6, H⟩ := H
  replace H := ifb_ H
  obtain ⟨rfl, H⟩ | ⟨rfl, H⟩ := H
  rotate_left
  ·have H' := Aside0.mk H
   clear H
   obtain ⟨hcz11_0, hcz11_1, hfz11_0, hfz11_1⟩ := cf2_ BK408.out
   go_wp2_with (first | ((with_reducible refine gate_callee (f := 58) rfl ?_); refine gl_ 13 Try.func58 #[.int .i64 (l0_0.length : Int), .int .i64 1, .int .i64 8] rfl ma_ ?_; (with_reducible refine (impl_in.calls (l0_0.length : Int) 1 8 true _ A4.out).mono ?_); rintro e w' ⟨rfl, ⟨nd, rfl⟩⟩; refine ⟨_, rfl, ?_⟩) | (go_at_call 58; (with_reducible refine (impl_in.calls a0_1 0 100000 false _ A6.out).mono ?_); rintro e w' ⟨rfl, ⟨nd, rfl⟩⟩))
   go_meet
   case rel => exact ⟨_, (true), sr_, H', ⟨by first | omega | exact Nat.le_refl _⟩, ⟨kb_ BK408.out⟩, ⟨hs_ GE408.out⟩⟩
  replace H := ifs_ H
  obtain ⟨c8, H⟩ := H
  have c8b0 := decide_eq_true c8
  have c8b1 : decide (0 < l0_0.length) = true := decide_eq_true (by omega)
  clear c8
  (first | rw [c8b0] | (simp only [i64_w, i32_w]; rw [c8b0]) | rw [c8b1] | skip)
  replace H := bnd_ H
  obtain ⟨t412, A9, H⟩ := H
  have H' := Aside0.mk H
  clear H
  obtain ⟨hcz10_0, hcz10_1, hfz10_0, hfz10_1⟩ := cf2_ BK408.out
  go_wp2_with (first | ((with_reducible refine gate_callee (f := 58) rfl ?_); refine gl_ 13 Try.func58 #[.int .i64 (l0_0.length : Int), .int .i64 1, .int .i64 8] rfl ma_ ?_; (with_reducible refine (impl_in.calls (l0_0.length : Int) 1 8 true _ A4.out).mono ?_); rintro e w' ⟨rfl, ⟨nd, rfl⟩⟩; refine ⟨_, rfl, ?_⟩) | (go_at_call 58; (with_reducible refine (impl_in.calls a0_1 0 100000 true _ A6.out).mono ?_); rintro e w' ⟨rfl, ⟨nd, rfl⟩⟩; have p411 : 0 ≤ (0 : Int) := (by omega); have q411 : 0 < (l0_0.length : Int) := oa_; obtain ⟨ad411, A411_2, c411_2, e411, hx411_0, hx411_1, hx411_2, hl411_2, hi411_2⟩ := at_T65 HR0_0.out 0 p411 q411; cases e411; have qi411 : (0 < l0_0.length) = True := eq_true (by omega); (try rw [show ((0 : Int)).toNat = 0 from rfl] at hx411_0); (try rw [show 0 * 3 = 0 from rfl] at hx411_0); (try rw [Addr.add_zero'] at hx411_0); (try rw [show ((0 : Int)).toNat = 0 from rfl] at hx411_1); (try rw [show 0 * 3 = 0 from rfl] at hx411_1); (try rw [Addr.add_zero'] at hx411_1); (try rw [show ((0 : Int)).toNat = 0 from rfl] at hx411_2); (try rw [show 0 * 3 = 0 from rfl] at hx411_2); (try rw [Addr.add_zero'] at hx411_2); replace hx411_0 := pc_ HB.out hx411_0; replace hx411_1 := pc_ HB.out hx411_1; replace hx411_2 := pc_ HB.out hx411_2; have HR411_2 := Aside0.mk hi411_2; have HC411_2 := Aside0.mk hl411_2; clear hi411_2 hl411_2; replace p411 := eq_true p411; replace q411 := eq_true q411) | (go_at_call 58; (with_reducible refine (impl_in.calls ((rd_T65 l0_0 0).f0) 0 100000 t412 _ A9.out).mono ?_); rintro e w' ⟨rfl, ⟨nd, rfl⟩⟩))
  go_meet
  case rel => exact ⟨_, (!t412), sr_, H', ⟨by first | omega | exact Nat.le_refl _⟩, ⟨kb_ BK408.out⟩, ⟨hs_ GE408.out⟩⟩
 case rest =>
  clear HC2
  obtain ⟨kq, x29_1, rfl, HA, HJ1, BK408, HB⟩ := hcut
  cases kq with
  | zero => exact absurd HA.out (by simp [impl_isStore.j0])
  | succ kj1 =>
   have H := HA.out
   clear HA
   simp only [impl_isStore.j0] at H
   replace H := ifb_ H
   obtain ⟨rfl, H⟩ | ⟨rfl, H⟩ := H
   ·obtain rfl := Option.some.inj H
    go_wp2
    go_ret
    exact ⟨er_, hs_ GE408.out⟩
   have H' := Aside0.mk H
   clear H
   obtain ⟨hcz14_0, hcz14_1, hfz14_0, hfz14_1⟩ := cf2_ BK408.out
   go_wp2
   go_loopg [33] kj1 (fun kq v33 w' => ∃ (x33_2 : Int), v33 = .int .i64 x33_2 ∧ Aside0 (impl_isStore.l0 kq l0_0 (l0_0.length : Int) x33_2 l0_0 a0_1 = some r) ∧ Aside0 (kq ≤ kj1) ∧ Aside0 (w'.heap[gb408]? = some (.cells #[(.slice A0_0 l0_0.length c0_0), .int .i64 a0_1] 24 (0, 0))) ∧ Aside0 (Below w.heap.size w w'))
   case atStart => exact ⟨(0), sr_, H', ⟨Nat.le_refl _⟩, ⟨kb_ BK408.out⟩, ⟨hs_ GE408.out⟩⟩
   case round =>
    clear H'
    try clear hcz14_0
    try clear hcz14_1
    try clear hfz14_0
    try clear hfz14_1
    obtain ⟨x33_2, rfl, HA, HK2, BK408, HB⟩ := hrel
    cases gk with
    | zero => exact absurd HA.out (by simp [impl_isStore.l0])
    | succ k2 =>
     have H := HA.out
     clear HA
     simp only [impl_isStore.l0] at H
     replace H := ite_ H
     obtain ⟨c15, H⟩ | ⟨c15, H⟩ := H
     ·have c15b0 := decide_eq_true c15
      clear c15
      replace H := ifs_ H
      obtain ⟨c16, H⟩ := H
      have c16b0 := decide_eq_true c16
      clear c16
      replace H := ifs_ H
      obtain ⟨c17, H⟩ := H
      have c17b0 := decide_eq_true c17
      clear c17
      replace H := ite_ H
      obtain ⟨c18, H⟩ | ⟨c18, H⟩ := H
      ·have c18b0 := dgt_ c18
       have c18b1 : decide (600 < ((rd_T65 l0_0 x33_2).f1).size) = true := decide_eq_true (by omega)
       clear c18
       obtain rfl := Option.some.inj H
       have p413 : 0 ≤ (x33_2 : Int) := oa_
       have q413 : x33_2 < (l0_0.length : Int) := oa_
       obtain ⟨ad413, A413_2, c413_2, e413, hx413_0, hx413_1, hx413_2, hl413_2, hi413_2⟩ := at_T65 HR0_0.out x33_2 p413 q413
       cases e413
       replace hx413_0 := pc_ HB.out hx413_0
       replace hx413_1 := pc_ HB.out hx413_1
       replace hx413_2 := pc_ HB.out hx413_2
       have HR413_2 := Aside0.mk hi413_2
       have HC413_2 := Aside0.mk hl413_2
       clear hi413_2 hl413_2
       replace p413 := eq_true p413
       replace q413 := eq_true q413
       go_wp2_with (first | ((with_reducible refine gate_dst (N := 4) rfl ?_); (try (refine gate_guard (by rfl) ?_; dsimp only)); refine box_event ?hg (N := 4) ?hd (cs := #[.int .i64 0, .string (⟨#[]⟩ : ByteArray), .slice none 0 0]) (t := 65) ?hr ?_; (case hd => rfl); (case hg => rfl); (case hr => first | (go_simp; done) | (go_simp; rfl)); intro gb414 hg w19 hbox hb; have BK414 := Aside0.mk (hbox); have GE414 := ge1_ hg GE408; replace HB := nc_ GE408 hb; have NB408_414 := nl_ BK408 hg; have NB414_408 := ng_ BK408 hg; replace BK408 := bK_ BK408 hb; clear hb hbox hg; have hnb20 := NB414_408.out; have hnc20 := NB408_414.out; obtain ⟨hcz21_0, hcz21_1, hcz21_2, hfz21_0, hfz21_1, hfz21_2⟩ := cf3_ BK414.out))
       go_ret
       exact ⟨er_, hs2_ GE408.out GE414.out⟩
      have c18b0 := dgf_ c18
      have c18b1 : decide (600 < ((rd_T65 l0_0 x33_2).f1).size) = false := decide_eq_false (by omega)
      clear c18
      have H' := Aside0.mk H
      clear H
      have p413 : 0 ≤ (x33_2 : Int) := oa_
      have q413 : x33_2 < (l0_0.length : Int) := oa_
      obtain ⟨ad413, A413_2, c413_2, e413, hx413_0, hx413_1, hx413_2, hl413_2, hi413_2⟩ := at_T65 HR0_0.out x33_2 p413 q413
      cases e413
      replace hx413_0 := pc_ HB.out hx413_0
      replace hx413_1 := pc_ HB.out hx413_1
      replace hx413_2 := pc_ HB.out hx413_2
      have HR413_2 := Aside0.mk hi413_2
      have HC413_2 := Aside0.mk hl413_2
      clear hi413_2 hl413_2
      replace p413 := eq_true p413
      replace q413 := eq_true q413
      go_wp2_with (first | ((with_reducible refine gate_dst (N := 4) rfl ?_); (try (refine gate_guard (by rfl) ?_; dsimp only)); refine box_event ?hg (N := 4) ?hd (cs := #[.int .i64 0, .string (⟨#[]⟩ : ByteArray), .slice none 0 0]) (t := 65) ?hr ?_; (case hd => rfl); (case hg => rfl); (case hr => first | (go_simp; done) | (go_simp; rfl)); intro gb414 hg w22 hbox hb; have BK414 := Aside0.mk (hbox); have GE414 := ge1_ hg GE408; replace HB := nc_ GE408 hb; have NB408_414 := nl_ BK408 hg; have NB414_408 := ng_ BK408 hg; replace BK408 := bK_ BK408 hb; clear hb hbox hg; have hnb23 := NB414_408.out; have hnc23 := NB408_414.out; obtain ⟨hcz24_0, hcz24_1, hcz24_2, hfz24_0, hfz24_1, hfz24_2⟩ := cf3_ BK414.out))
      go_roundg k2
      case measure => have := HJ1.out; have := HK2.out; omega
      case rel => exact ⟨(wrap64 (x33_2 + 1)), sr_, H', ⟨by have := HJ1.out; have := HK2.out; omega⟩, ⟨uf_ BK408 NB408_414.out⟩, ⟨hs2_ GE408.out GE414.out⟩⟩
     have c15b0 := decide_eq_false c15
     clear c15
     replace H := bnd_ H
     obtain ⟨t415, A25, H⟩ := H
     obtain ⟨y418, hy418⟩ : ∃ y_ : List (S43), y_ = (([] : List (S43))) := ⟨_, rfl⟩
     replace H : (impl_isStore.l1 k2 t415 y418 t415 (t415.length : Int) 0 l0_0 a0_1) = some r := by first | (rw [hy418]; with_reducible exact H) | (have H2_ := (Option.bind_some _ _).symm.trans H; rw [hy418]; with_reducible exact H2_) | (have H2_ := (Option.bind_some _ _).symm.trans H; with_reducible exact H2_) | with_reducible exact H | (rw [hy418]; exact H) | exact H
     have Ny418 := Aside0.mk hy418
     clear hy418
     have H' := Aside0.mk H
     clear H
     obtain ⟨hcz26_0, hcz26_1, hfz26_0, hfz26_1⟩ := cf2_ BK408.out
     go_wp2_with (first | ((with_reducible refine gate_callee (f := 73) rfl ?_); refine gl_ 43 Try.func73 #[.agg #[.slice A0_0 l0_0.length c0_0, .int .i64 a0_1]] rfl ma_ ?_; (with_reducible refine (impl_Store_logs.calls k2 _ _ l0_0 a0_1 t415 _ ?side1 ?side2 A25.out).mono ?_); (case side1 => exact cs_ ((Kd.C_below HR0_0.out HB.out))); (case side2 => exact HC0_0.out); rintro e w27 ⟨v416, rfl, ho0, hb⟩; refine ⟨_, rfl, ?_⟩; have HO417 := Aside0.mk (Kd.N_lower (Kd.N_mono (ok' := fun k_ => k_ ≠ gb408) (Kd.R_N (Kd.R_bound ho0)) (fun k_ hk_ => (Kd.freshB (g := gb408) (o := .cells #[.slice A0_0 l0_0.length c0_0, .int .i64 a0_1] 24 (0, 0)) (kb_ BK408.out) k_ hk_.2.1))) (below_size (hs_ GE408.out))); replace BK408 := bK_ BK408 hb; replace HB := nc_ GE408 hb; (try clear hb); (try clear hb2); (try clear hk); (try clear hi); (try clear ho0)) | ((with_reducible refine gate_dst (N := 44) rfl ?_); (try (refine gate_guard (by rfl) ?_; dsimp only)); refine Kd.N_lit k43 _ 43 ?hg (N' := 44) ?hd (xs := ([] : List (S43))) (inner := []) (ok := (fun k_ => some k_ ≠ (v416 : Value).ownBlock ∧ k_ ≠ gb408)) (okp := (fun k_ => some k_ ≠ (v416 : Value).ownBlock ∧ k_ ≠ gb408)) ?hr ?hp (fun _ hk => hk) ((show ∀ k_, w27.heap.size ≤ k_ → (fun k_ => some k_ ≠ (v416 : Value).ownBlock ∧ k_ ≠ gb408) k_ from fun k_ hk => ⟨Kd.fresh' (Kd.N_lt (nF_ HO417.out)) k_ hk, Kd.freshB (g := gb408) (o := .cells #[.slice A0_0 l0_0.length c0_0, .int .i64 a0_1] 24 (0, 0)) (kb_ BK408.out) k_ hk⟩) _ (Nat.le_refl _)) (Below.refl _ _) (Nat.le_refl _) (by simp) ?_; (case hd => rfl); (case hg => rfl); (case hr => first | (go_simp; done) | (go_simp; rfl)); (case hp => exact (Reps.none _ _)); intro v419 w28 ho29 hb hg_ hnew_; clear hg_ hnew_; (first | rw [← Ny418.out] at ho29 | (simp only [Int.reduceToNat] at ho29; rw [← Ny418.out] at ho29)); replace HO417 := Aside0.mk (Kd.N_elder' (nF_ HO417.out) (Kd.N_base ho29) hb); have HO420 := Aside0.mk (Kd.N_lower ho29 (below_size (hs_ GE408.out))); replace BK408 := bK_ BK408 hb; replace HB := nc_ GE408 hb; clear hb ho29; obtain ⟨Ao30, co30, eo30⟩ := Kd.N_slice HO417.out; subst eo30))
     go_loopg [6, 47] k2 (fun kq v6 v47 w' => ∃ (x6_3 : List (S43)) (x47_3 : Int), v47 = .int .i64 x47_3 ∧ Aside0 (impl_isStore.l1 kq t415 x6_3 t415 (t415.length : Int) x47_3 l0_0 a0_1 = some r) ∧ Aside0 (kq ≤ k2) ∧ Aside0 (Kd.N (Kd.slice 43 k43) 48 w' w.heap.size (fun k_ => some k_ ≠ (v6 : Value).ownBlock ∧ k_ ≠ gb408) (.slice Ao30 t415.length co30) t415) ∧ Aside0 (Kd.N k43 43 w' w.heap.size (fun k_ => some k_ ≠ ((.slice Ao30 t415.length co30) : Value).ownBlock ∧ k_ ≠ gb408) v6 x6_3) ∧ Aside0 (Kd.N (Kd.slice 43 k43) 48 w' w.heap.size (fun k_ => some k_ ≠ (v6 : Value).ownBlock ∧ k_ ≠ gb408) (.slice Ao30 t415.length co30) t415) ∧ Aside0 (w'.heap[gb408]? = some (.cells #[(.slice A0_0 l0_0.length c0_0), .int .i64 a0_1] 24 (0, 0))) ∧ Aside0 (Below w.heap.size w w'))
     case atStart => exact ⟨(y418), (0), sr_, H', ⟨Nat.le_refl _⟩, ⟨nF_ (Kd.N_mono HO417.out (fun _ hk => ⟨hk.2, hk.1⟩))⟩, ⟨nF_ HO420.out⟩, ⟨nF_ (Kd.N_mono HO417.out (fun _ hk => ⟨hk.2, hk.1⟩))⟩, ⟨kb_ BK408.out⟩, ⟨hs_ GE408.out⟩⟩
     case round =>
      clear H'
      try clear c15
      try clear c15b0
      try clear hcz14_0
      try clear hcz14_1
      try clear hcz26_0
      try clear hcz26_1
      try clear hfz14_0
      try clear hfz14_1
      try clear hfz26_0
      try clear hfz26_1
      obtain ⟨x6_3, x47_3, rfl, HA, HK3, HO_5, HO_6, HO_45, BK408, HB⟩ := hrel
      cases gk with
      | zero => exact absurd HA.out (by simp [impl_isStore.l1])
      | succ k3 =>
       have H := HA.out
       clear HA
       simp only [impl_isStore.l1] at H
       replace H := ite_ H
       obtain ⟨c31, H⟩ | ⟨c31, H⟩ := H
       rotate_left
       ·have c31b0 := decide_eq_false c31
        clear c31
        replace H := bnd_ H
        obtain ⟨t436, A54, H⟩ := H
        replace H := ifb_ H
        obtain ⟨rfl, H⟩ | ⟨rfl, H⟩ := H
        rotate_left
        ·obtain rfl := Option.some.inj H
         obtain ⟨Ao79, co79, eo79⟩ := Kd.N_slice HO_6.out
         subst eo79
         go_wp2_with (first | ((with_reducible refine gate_callee (f := 90) rfl ?_); refine gl_ 82 Try.func90 #[.slice Ao79 x6_3.length co79] rfl ma_ ?_; (with_reducible refine (impl_isLog.calls k3 _ _ x6_3 false _ ?side1 ?side2 A54.out).mono ?_); (case side1 => exact cs_ ((Kd.N_reads' HO_6.out).2.2)); (case side2 => exact (Kd.N_reads' HO_6.out).2.1); rintro e w80 ⟨rfl, hb⟩; refine ⟨_, rfl, ?_⟩; replace HO_5 := Aside0.mk (Kd.N_below (nF_ HO_5.out) hb); replace HO_6 := Aside0.mk (Kd.N_below (nF_ HO_6.out) hb); replace HO_45 := Aside0.mk (Kd.N_below (nF_ HO_45.out) hb); replace BK408 := bK_ BK408 hb; replace HB := nc_ GE408 hb; (try clear hb); (try clear hb2); (try clear hk); (try clear hi)))
         go_ret
         exact ⟨er_, hs_ GE408.out⟩
        replace H := ifs_ H
        obtain ⟨c56, H⟩ := H
        have c56b0 := decide_eq_true c56
        have c56b1 : decide (0 < l0_0.length) = true := decide_eq_true (by omega)
        clear c56
        replace H := bnd_ H
        obtain ⟨⟨t438, t441⟩, A57, H⟩ := H
        replace H := red_ H
        replace H := ite_ H
        obtain ⟨c58, H⟩ | ⟨c58, H⟩ := H
        rotate_left
        ·have c58b0 : (t441 == a0_1) = false := beq_eq_false_iff_ne.mpr c58
         have c58b1 : (t441 != a0_1) = true := bne_iff_ne.mpr c58
         obtain rfl := Option.some.inj H
         obtain ⟨Ao70, co70, eo70⟩ := Kd.N_slice HO_6.out
         subst eo70
         go_wp2_with (first | ((with_reducible refine gate_callee (f := 90) rfl ?_); refine gl_ 82 Try.func90 #[.slice Ao70 x6_3.length co70] rfl ma_ ?_; (with_reducible refine (impl_isLog.calls k3 _ _ x6_3 true _ ?side1 ?side2 A54.out).mono ?_); (case side1 => exact cs_ ((Kd.N_reads' HO_6.out).2.2)); (case side2 => exact (Kd.N_reads' HO_6.out).2.1); rintro e w71 ⟨rfl, hb⟩; refine ⟨_, rfl, ?_⟩; replace HO_5 := Aside0.mk (Kd.N_below (nF_ HO_5.out) hb); replace HO_6 := Aside0.mk (Kd.N_below (nF_ HO_6.out) hb); replace HO_45 := Aside0.mk (Kd.N_below (nF_ HO_45.out) hb); replace BK408 := bK_ BK408 hb; replace HB := nc_ GE408 hb; (try clear hb); (try clear hb2); (try clear hk); (try clear hi); obtain ⟨hcz72_0, hcz72_1, hfz72_0, hfz72_1⟩ := cf2_ BK408.out; have p437 : 0 ≤ (0 : Int) := (by omega); have q437 : 0 < (l0_0.length : Int) := oa_; obtain ⟨ad437, A437_2, c437_2, e437, hx437_0, hx437_1, hx437_2, hl437_2, hi437_2⟩ := at_T65 HR0_0.out 0 p437 q437; cases e437; have qi437 : (0 < l0_0.length) = True := eq_true (by omega); (try rw [show ((0 : Int)).toNat = 0 from rfl] at hx437_0); (try rw [show 0 * 3 = 0 from rfl] at hx437_0); (try rw [Addr.add_zero'] at hx437_0); (try rw [show ((0 : Int)).toNat = 0 from rfl] at hx437_1); (try rw [show 0 * 3 = 0 from rfl] at hx437_1); (try rw [Addr.add_zero'] at hx437_1); (try rw [show ((0 : Int)).toNat = 0 from rfl] at hx437_2); (try rw [show 0 * 3 = 0 from rfl] at hx437_2); (try rw [Addr.add_zero'] at hx437_2); replace hx437_0 := pc_ HB.out hx437_0; replace hx437_1 := pc_ HB.out hx437_1; replace hx437_2 := pc_ HB.out hx437_2; have HR437_2 := Aside0.mk hi437_2; have HC437_2 := Aside0.mk hl437_2; clear hi437_2 hl437_2; replace p437 := eq_true p437; replace q437 := eq_true q437) | ((with_reducible refine gate_callee (f := 72) rfl ?_); refine gl_ 90 Try.func72 #[.slice Ao30 t415.length co30, .int .i64 ((rd_T65 l0_0 0).f0)] rfl ma_ ?_; (with_reducible refine (impl_storeOf.calls k3 _ _ t415 ((rd_T65 l0_0 0).f0) t438 t441 _ ?side1 ?side2 A57.out).mono ?_); (case side1 => exact cs_ ((Kd.N_reads' HO_5.out).2.2)); (case side2 => exact (Kd.N_reads' HO_5.out).2.1); rintro e w73 ⟨v439, rfl, ho0, hb⟩; refine ⟨_, rfl, ?_⟩; have HO440 := Aside0.mk (Kd.N_lower (Kd.N_mono (ok' := fun k_ => some k_ ≠ (.slice Ao30 t415.length co30 : Value).ownBlock ∧ some k_ ≠ (.slice Ao70 x6_3.length co70 : Value).ownBlock ∧ some k_ ≠ (.slice Ao30 t415.length co30 : Value).ownBlock ∧ k_ ≠ gb408) (Kd.S_N (Kd.S_bound ho0)) (fun k_ hk_ => ⟨(Kd.fresh' (Kd.N_lt (nF_ HO_5.out)) k_ hk_.2.1), (Kd.fresh' (Kd.N_lt (nF_ HO_6.out)) k_ hk_.2.1), (Kd.fresh' (Kd.N_lt (nF_ HO_45.out)) k_ hk_.2.1), (Kd.freshB (g := gb408) (o := .cells #[.slice (some ad437) l0_0.length c0_0, .int .i64 a0_1] 24 (0, 0)) (kb_ BK408.out) k_ hk_.2.1)⟩)) (below_size (hs_ GE408.out))); replace HO_5 := Aside0.mk (Kd.N_elder' (nF_ HO_5.out) (Kd.N_base (Kd.S_N ho0)) hb); replace HO_6 := Aside0.mk (Kd.N_elder' (nF_ HO_6.out) (Kd.N_base (Kd.S_N ho0)) hb); replace HO_45 := Aside0.mk (Kd.N_elder' (nF_ HO_45.out) (Kd.N_base (Kd.S_N ho0)) hb); replace BK408 := bK_ BK408 hb; replace HB := nc_ GE408 hb; (try clear hb); (try clear hb2); (try clear hk); (try clear hi); (try clear ho0)) | ((with_reducible refine gate_dst (N := 9) rfl ?_); (try (refine gate_guard (by rfl) ?_; dsimp only)); refine bq_ (N := 9) #[.slice none 0 0, .int .i64 0] 24 ?_; intro gb442 hg w74 BK442 hb; replace HO_5 := Aside0.mk (Kd.N_below (Kd.N_elderB (nF_ HO_5.out) gb442 (Nat.le_of_eq hg.symm)) hb); replace HO_6 := Aside0.mk (Kd.N_below (Kd.N_elderB (nF_ HO_6.out) gb442 (Nat.le_of_eq hg.symm)) hb); replace HO_45 := Aside0.mk (Kd.N_below (Kd.N_elderB (nF_ HO_45.out) gb442 (Nat.le_of_eq hg.symm)) hb); replace HO440 := Aside0.mk (Kd.N_below (Kd.N_elderB (nF_ HO440.out) gb442 (Nat.le_of_eq hg.symm)) hb); have GE442 := ge1_ hg GE408; replace HB := nc_ GE408 hb; have NB408_442 := nl_ BK408 hg; have NB442_408 := ng_ BK408 hg; replace BK408 := bK_ BK408 hb; clear hb hg; obtain ⟨Ao75, co75, eo75⟩ := Kd.N_slice HO440.out; subst eo75; have hnb76 := NB442_408.out; have hnc76 := NB408_442.out; obtain ⟨hcz77_0, hcz77_1, hfz77_0, hfz77_1⟩ := cf2_ BK442.out; obtain ⟨hcz78_0, hcz78_1, hfz78_0, hfz78_1⟩ := cf2_ BK408.out))
         go_ret
         exact ⟨er_, hs2_ GE408.out GE442.out⟩
        have c58b0 : (t441 == a0_1) = true := beq_iff_eq.mpr c58
        have c58b1 : (t441 != a0_1) = false := bne_eq_false_iff_eq.mpr c58
        clear c58
        replace H := bnd_ H
        obtain ⟨t443, A59, H⟩ := H
        obtain rfl := Option.some.inj H
        obtain ⟨Ao60, co60, eo60⟩ := Kd.N_slice HO_6.out
        subst eo60
        go_wp2_with (first | ((with_reducible refine gate_callee (f := 90) rfl ?_); refine gl_ 82 Try.func90 #[.slice Ao60 x6_3.length co60] rfl ma_ ?_; (with_reducible refine (impl_isLog.calls k3 _ _ x6_3 true _ ?side1 ?side2 A54.out).mono ?_); (case side1 => exact cs_ ((Kd.N_reads' HO_6.out).2.2)); (case side2 => exact (Kd.N_reads' HO_6.out).2.1); rintro e w61 ⟨rfl, hb⟩; refine ⟨_, rfl, ?_⟩; replace HO_5 := Aside0.mk (Kd.N_below (nF_ HO_5.out) hb); replace HO_6 := Aside0.mk (Kd.N_below (nF_ HO_6.out) hb); replace HO_45 := Aside0.mk (Kd.N_below (nF_ HO_45.out) hb); replace BK408 := bK_ BK408 hb; replace HB := nc_ GE408 hb; (try clear hb); (try clear hb2); (try clear hk); (try clear hi); obtain ⟨hcz62_0, hcz62_1, hfz62_0, hfz62_1⟩ := cf2_ BK408.out; have p437 : 0 ≤ (0 : Int) := (by omega); have q437 : 0 < (l0_0.length : Int) := oa_; obtain ⟨ad437, A437_2, c437_2, e437, hx437_0, hx437_1, hx437_2, hl437_2, hi437_2⟩ := at_T65 HR0_0.out 0 p437 q437; cases e437; have qi437 : (0 < l0_0.length) = True := eq_true (by omega); (try rw [show ((0 : Int)).toNat = 0 from rfl] at hx437_0); (try rw [show 0 * 3 = 0 from rfl] at hx437_0); (try rw [Addr.add_zero'] at hx437_0); (try rw [show ((0 : Int)).toNat = 0 from rfl] at hx437_1); (try rw [show 0 * 3 = 0 from rfl] at hx437_1); (try rw [Addr.add_zero'] at hx437_1); (try rw [show ((0 : Int)).toNat = 0 from rfl] at hx437_2); (try rw [show 0 * 3 = 0 from rfl] at hx437_2); (try rw [Addr.add_zero'] at hx437_2); replace hx437_0 := pc_ HB.out hx437_0; replace hx437_1 := pc_ HB.out hx437_1; replace hx437_2 := pc_ HB.out hx437_2; have HR437_2 := Aside0.mk hi437_2; have HC437_2 := Aside0.mk hl437_2; clear hi437_2 hl437_2; replace p437 := eq_true p437; replace q437 := eq_true q437) | ((with_reducible refine gate_callee (f := 72) rfl ?_); refine gl_ 90 Try.func72 #[.slice Ao30 t415.length co30, .int .i64 ((rd_T65 l0_0 0).f0)] rfl ma_ ?_; (with_reducible refine (impl_storeOf.calls k3 _ _ t415 ((rd_T65 l0_0 0).f0) t438 t441 _ ?side1 ?side2 A57.out).mono ?_); (case side1 => exact cs_ ((Kd.N_reads' HO_5.out).2.2)); (case side2 => exact (Kd.N_reads' HO_5.out).2.1); rintro e w63 ⟨v439, rfl, ho0, hb⟩; refine ⟨_, rfl, ?_⟩; have HO440 := Aside0.mk (Kd.N_lower (Kd.N_mono (ok' := fun k_ => some k_ ≠ (.slice Ao30 t415.length co30 : Value).ownBlock ∧ some k_ ≠ (.slice Ao60 x6_3.length co60 : Value).ownBlock ∧ some k_ ≠ (.slice Ao30 t415.length co30 : Value).ownBlock ∧ k_ ≠ gb408) (Kd.S_N (Kd.S_bound ho0)) (fun k_ hk_ => ⟨(Kd.fresh' (Kd.N_lt (nF_ HO_5.out)) k_ hk_.2.1), (Kd.fresh' (Kd.N_lt (nF_ HO_6.out)) k_ hk_.2.1), (Kd.fresh' (Kd.N_lt (nF_ HO_45.out)) k_ hk_.2.1), (Kd.freshB (g := gb408) (o := .cells #[.slice (some ad437) l0_0.length c0_0, .int .i64 a0_1] 24 (0, 0)) (kb_ BK408.out) k_ hk_.2.1)⟩)) (below_size (hs_ GE408.out))); replace HO_5 := Aside0.mk (Kd.N_elder' (nF_ HO_5.out) (Kd.N_base (Kd.S_N ho0)) hb); replace HO_6 := Aside0.mk (Kd.N_elder' (nF_ HO_6.out) (Kd.N_base (Kd.S_N ho0)) hb); replace HO_45 := Aside0.mk (Kd.N_elder' (nF_ HO_45.out) (Kd.N_base (Kd.S_N ho0)) hb); replace BK408 := bK_ BK408 hb; replace HB := nc_ GE408 hb; (try clear hb); (try clear hb2); (try clear hk); (try clear hi); (try clear ho0)) | ((with_reducible refine gate_dst (N := 9) rfl ?_); (try (refine gate_guard (by rfl) ?_; dsimp only)); refine bq_ (N := 9) #[.slice none 0 0, .int .i64 0] 24 ?_; intro gb442 hg w64 BK442 hb; replace HO_5 := Aside0.mk (Kd.N_below (Kd.N_elderB (nF_ HO_5.out) gb442 (Nat.le_of_eq hg.symm)) hb); replace HO_6 := Aside0.mk (Kd.N_below (Kd.N_elderB (nF_ HO_6.out) gb442 (Nat.le_of_eq hg.symm)) hb); replace HO_45 := Aside0.mk (Kd.N_below (Kd.N_elderB (nF_ HO_45.out) gb442 (Nat.le_of_eq hg.symm)) hb); replace HO440 := Aside0.mk (Kd.N_below (Kd.N_elderB (nF_ HO440.out) gb442 (Nat.le_of_eq hg.symm)) hb); have GE442 := ge1_ hg GE408; replace HB := nc_ GE408 hb; have NB408_442 := nl_ BK408 hg; have NB442_408 := ng_ BK408 hg; replace BK408 := bK_ BK408 hb; clear hb hg; obtain ⟨Ao65, co65, eo65⟩ := Kd.N_slice HO440.out; subst eo65; have hnb66 := NB442_408.out; have hnc66 := NB408_442.out; obtain ⟨hcz67_0, hcz67_1, hfz67_0, hfz67_1⟩ := cf2_ BK442.out; obtain ⟨hcz68_0, hcz68_1, hfz68_0, hfz68_1⟩ := cf2_ BK408.out) | ((with_reducible refine gate_callee (f := 101) rfl ?_); refine gl_ 100 Try.func101 #[.slice Ao65 t438.length co65, .slice (some ad437) l0_0.length c0_0, .func (.func 102) #[] #[]] rfl ma_ ?_; (with_reducible refine (slices_EqualFunc_Segment.calls k3 _ _ t438 _ _ l0_0 t443 _ ?side1 ?side2 ?side3 ?side4 A59.out).mono ?_); (case side1 => refine (Kd.N_reads' (e := 65) (base := w.heap.size) (ok := fun k_ => ((some k_ ≠ (.slice Ao30 t415.length co30 : Value).ownBlock ∧ (some k_ ≠ (.slice Ao60 x6_3.length co60 : Value).ownBlock ∧ (some k_ ≠ (.slice Ao30 t415.length co30 : Value).ownBlock ∧ k_ ≠ gb408))) ∧ k_ ≠ gb442)) (n := t438.length) (c := co65) ?_).2.2; exact ((Kd.N_mono (nF_ (Kd.N_mono HO440.out (fun k_ hk => (⟨hk, hk.2⟩ : _ ∧ k_ ≠ gb442)))) (fun _ h_ => h_.1)))); (case side2 => exact (Kd.N_reads' HO440.out).2.1); (case side3 => exact Kd.C_below HR0_0.out (hs2_ GE408.out GE442.out)); (case side4 => exact HC0_0.out); rintro e w69 ⟨rfl, hb⟩; refine ⟨_, rfl, ?_⟩; replace HO_5 := Aside0.mk (Kd.N_below ((Kd.N_mono (nF_ (Kd.N_mono HO_5.out (fun k_ hk => (⟨hk, hk.2⟩ : _ ∧ k_ ≠ gb442)))) (fun _ h_ => h_.1))) hb); replace HO_6 := Aside0.mk (Kd.N_below ((Kd.N_mono (nF_ (Kd.N_mono HO_6.out (fun k_ hk => (⟨hk, hk.2⟩ : _ ∧ k_ ≠ gb442)))) (fun _ h_ => h_.1))) hb); replace HO_45 := Aside0.mk (Kd.N_below ((Kd.N_mono (nF_ (Kd.N_mono HO_45.out (fun k_ hk => (⟨hk, hk.2⟩ : _ ∧ k_ ≠ gb442)))) (fun _ h_ => h_.1))) hb); replace HO440 := Aside0.mk (Kd.N_below ((Kd.N_mono (nF_ (Kd.N_mono HO440.out (fun k_ hk => (⟨hk, hk.2⟩ : _ ∧ k_ ≠ gb442)))) (fun _ h_ => h_.1))) hb); replace BK408 := Aside0.mk (blk_below (g := gb408) (o := .cells #[.slice (some ad437) l0_0.length c0_0, .int .i64 a0_1] 24 (0, 0)) (uf_ BK408 NB408_442.out) hb); replace BK442 := Aside0.mk (blk_below (g := gb442) (o := .cells #[.slice Ao65 t438.length co65, .int .i64 t441] 24 (0, 0)) (up_ BK442) hb); replace HB := nc2_ GE408 GE442 hb; (try clear hb); (try clear hb2); (try clear hk); (try clear hi)))
        go_ret
        exact ⟨er_, hs2_ GE408.out GE442.out⟩
       have c31b0 := decide_eq_true c31
       clear c31
       replace H := ifs_ H
       obtain ⟨c32, H⟩ := H
       have c32b0 := decide_eq_true c32
       clear c32
       replace H := ifs_ H
       obtain ⟨c33, H⟩ := H
       have c33b0 := decide_eq_true c33
       clear c33
       replace H := ite_ H
       obtain ⟨c34, H⟩ | ⟨c34, H⟩ := H
       rotate_left
       ·have c34b0 : (((rd_L13 t415 x47_3).length : Int) == 0) = false := beq_eq_false_iff_ne.mpr c34
        have c34b1 : (((rd_L13 t415 x47_3).length : Int) != 0) = true := bne_iff_ne.mpr c34
        have c34b2 : ¬ ((rd_L13 t415 x47_3) = []) := fun h_ => c34 (by rw [h_]; rfl)
        replace H := ite_ H
        obtain ⟨c45, H⟩ | ⟨c45, H⟩ := H
        rotate_left
        ·have c45b0 := dgf_ c45
         have c45b1 : decide (1 < (rd_L13 t415 x47_3).length) = false := decide_eq_false (by omega)
         clear c45
         replace H := ifs_ H
         obtain ⟨c52, H⟩ := H
         have LMc52 := Aside0.mk c52
         clear c52
         obtain ⟨y433, hy433⟩ : ∃ y_ : List (S43), y_ = (x6_3 ++ (rd_L13 t415 x47_3)) := ⟨_, rfl⟩
         replace H : (impl_isStore.l1 k3 t415 y433 t415 (t415.length : Int) (wrap64 (x47_3 + 1)) l0_0 a0_1) = some r := by first | (rw [hy433]; with_reducible exact H) | (have H2_ := (Option.bind_some _ _).symm.trans H; rw [hy433]; with_reducible exact H2_) | (have H2_ := (Option.bind_some _ _).symm.trans H; with_reducible exact H2_) | with_reducible exact H | (rw [hy433]; exact H) | exact H
         have Ny433 := Aside0.mk hy433
         clear hy433
         have H' := Aside0.mk H
         clear H
         have p421 : 0 ≤ (x47_3 : Int) := oa_
         have q421 : x47_3 < (t415.length : Int) := oa_
         obtain ⟨ad421, A421_0, c421_0, e421, hx421_0, hl421_0, hi421_0⟩ := at_L13 (Kd.N_reads' HO_45.out).2.2 x47_3 p421 q421
         cases e421
         obtain ⟨ce421, hce421, hMe421, hcc421⟩ := Kd.N_get HO_45.out [] x47_3 p421 (by first | exact q421 | exact oa_ | (have e_ := (Kd.N_reads' HO_45.out).1; omega))
         obtain ⟨ua421_0, uc421_0, rfl, ul421_0, ge421_0⟩ := Kd.FK_slice_open hMe421
         have hv421_0 := hcc421 0 _ rfl
         rw [Nat.add_zero, show ((Kd.slice 43 k43)).sz = 1 from rfl, Nat.mul_one] at hv421_0
         replace hv421_0 := Option.some.inj (hv421_0.symm.trans hx421_0)
         injection hv421_0 with hva_ hvn_ hvc_
         rw [hva_] at ge421_0
         rw [hvc_] at ul421_0
         have HL421_0 := Aside0.mk (show Kd.V k43 43 _ w.heap.size _ _ (rd_L13 t415 x47_3) from Kd.V_mk ul421_0 ge421_0)
         clear hva_ hvn_ hvc_ ge421_0 ul421_0
         clear hcc421 hce421
         have HR421_0 := Aside0.mk hi421_0
         have HC421_0 := Aside0.mk hl421_0
         clear hi421_0 hl421_0
         replace p421 := eq_true p421
         replace q421 := eq_true q421
         go_wp2_with (first | ((with_reducible refine gate_builtin (b := .append) (xs := #[.tmp 77, .tmp 78]) rfl ?_); (try (refine gate_guard (by rfl) ?_; dsimp only)); at_builtin; refine Kd.N_append_rows k43 (w0 := w) w.heap.size rfl (.tmp 77) (.tmp 78) 48 43 (.agg #[(.int .i64 0), (.int .i64 0), (.int .i64 0), (.int .i64 0), (.slice none 0 0)]) 56 rfl Try.underlying48 info43 rfl (by decide) (by omega) u6 x6_3 (rd_L13 t415 x47_3) _ _ _ (fun k_ => some k_ ≠ (.slice (some ad421) t415.length co30 : Value).ownBlock ∧ k_ ≠ gb408) (fun k_ => ((fun k_ => some k_ ≠ (.slice (some ad421) t415.length co30 : Value).ownBlock ∧ k_ ≠ gb408)) k_ ∧ some k_ ≠ (u6 : Value).ownBlock) rfl rfl ?aO ?aR (fun _ hk => hk) ?aF ?aB ?aS ?aL ?_; (case aR => exact (by skip; exact Kd.V_F (Kd.V_mono (ok' := (fun k_ => ((fun k_ => some k_ ≠ (.slice (some ad421) t415.length co30 : Value).ownBlock ∧ k_ ≠ gb408)) k_ ∧ some k_ ≠ (u6 : Value).ownBlock)) (HL421_0.out) (fun k_ hk => ⟨⟨hk.2, hk.1.2⟩, hk.1.1⟩)))); (case aB => exact (hs_ GE408.out)); (case aF => exact (fun k_ hk => ⟨Kd.fresh' (Kd.N_lt (nF_ HO_45.out)) k_ hk, Kd.freshB (g := gb408) (o := .cells #[.slice A0_0 l0_0.length c0_0, .int .i64 a0_1] 24 (0, 0)) (kb_ BK408.out) k_ hk⟩)); (case aO => exact (nF_ HO_6.out)); (case aS => exact (below_size (hs_ GE408.out))); (case aL => have := LMc52.out; omega); intro v434 w53 ho hb hg hat; rw [← Ny433.out] at ho; replace HO_5 := Aside0.mk (Kd.N_afterv (ok := (fun k_ => k_ ≠ gb408)) (nF_ (Kd.N_mono HO_5.out (fun _ hk => ⟨hk.2, hk.1⟩))) hg hat); replace HO_45 := Aside0.mk (Kd.N_afterv (ok := (fun k_ => k_ ≠ gb408)) (nF_ (Kd.N_mono HO_45.out (fun _ hk => ⟨hk.2, hk.1⟩))) hg hat); replace BK408 := Aside0.mk (blk_grown (g := gb408) (o := .cells #[.slice A0_0 l0_0.length c0_0, .int .i64 a0_1] 24 (0, 0)) (kb_ BK408.out) hg (Kd.N_ne HO_6.out BK408.out (by decide))); replace HL421_0 := Aside0.mk (Kd.V_afterv (ok := (fun k_ => some k_ ≠ (.slice (some ad421) t415.length co30 : Value).ownBlock ∧ k_ ≠ gb408)) (vF_ (Kd.V_mono HL421_0.out (fun _ hk => ⟨⟨hk.2, hk.1.2⟩, hk.1.1⟩))) hg hat); replace HB := Aside0.mk (hb); have HO435 := Aside0.mk (ho); clear HO_6; clear ho hb hg hat))
         go_roundg k3
         case measure => have := HJ1.out; have := HK2.out; have := HK3.out; omega
         case rel => exact ⟨(y433), (wrap64 (x47_3 + 1)), sr_, H', ⟨by have := HJ1.out; have := HK2.out; have := HK3.out; omega⟩, ⟨nF_ (Kd.N_mono HO_5.out (fun _ hk => ⟨hk.2, hk.1⟩))⟩, ⟨nF_ HO435.out⟩, ⟨nF_ (Kd.N_mono HO_45.out (fun _ hk => ⟨hk.2, hk.1⟩))⟩, ⟨kb_ BK408.out⟩, ⟨hs_ GE408.out⟩⟩
        have c45b0 := dgt_ c45
        have c45b1 : decide (1 < (rd_L13 t415 x47_3).length) = true := decide_eq_true (by omega)
        clear c45
        replace H := ifs_ H
        obtain ⟨c46, H⟩ := H
        have c46b0 := decide_eq_true c46
        clear c46
        replace H := ite_ H
        obtain ⟨c47, H⟩ | ⟨c47, H⟩ := H
        ·have c47b0 := dgt_ c47
         have c47b1 : decide (120 < ((rd_T65 l0_0 x47_3).f1).size) = true := decide_eq_true (by omega)
         clear c47
         obtain rfl := Option.some.inj H
         have p421 : 0 ≤ (x47_3 : Int) := oa_
         have q421 : x47_3 < (t415.length : Int) := oa_
         obtain ⟨ad421, A421_0, c421_0, e421, hx421_0, hl421_0, hi421_0⟩ := at_L13 (Kd.N_reads' HO_45.out).2.2 x47_3 p421 q421
         cases e421
         obtain ⟨ce421, hce421, hMe421, hcc421⟩ := Kd.N_get HO_45.out [] x47_3 p421 (by first | exact q421 | exact oa_ | (have e_ := (Kd.N_reads' HO_45.out).1; omega))
         obtain ⟨ua421_0, uc421_0, rfl, ul421_0, ge421_0⟩ := Kd.FK_slice_open hMe421
         have hv421_0 := hcc421 0 _ rfl
         rw [Nat.add_zero, show ((Kd.slice 43 k43)).sz = 1 from rfl, Nat.mul_one] at hv421_0
         replace hv421_0 := Option.some.inj (hv421_0.symm.trans hx421_0)
         injection hv421_0 with hva_ hvn_ hvc_
         rw [hva_] at ge421_0
         rw [hvc_] at ul421_0
         have HL421_0 := Aside0.mk (show Kd.V k43 43 _ w.heap.size _ _ (rd_L13 t415 x47_3) from Kd.V_mk ul421_0 ge421_0)
         clear hva_ hvn_ hvc_ ge421_0 ul421_0
         clear hcc421 hce421
         have HR421_0 := Aside0.mk hi421_0
         have HC421_0 := Aside0.mk hl421_0
         clear hi421_0 hl421_0
         replace p421 := eq_true p421
         replace q421 := eq_true q421
         obtain ⟨hcz48_0, hcz48_1, hfz48_0, hfz48_1⟩ := cf2_ BK408.out
         have p429 : 0 ≤ (x47_3 : Int) := oa_
         have q429 : x47_3 < (l0_0.length : Int) := oa_
         obtain ⟨ad429, A429_2, c429_2, e429, hx429_0, hx429_1, hx429_2, hl429_2, hi429_2⟩ := at_T65 HR0_0.out x47_3 p429 q429
         cases e429
         replace hx429_0 := pc_ HB.out hx429_0
         replace hx429_1 := pc_ HB.out hx429_1
         replace hx429_2 := pc_ HB.out hx429_2
         have HR429_2 := Aside0.mk hi429_2
         have HC429_2 := Aside0.mk hl429_2
         clear hi429_2 hl429_2
         replace p429 := eq_true p429
         replace q429 := eq_true q429
         go_wp2
         go_ret
         exact ⟨er_, hs_ GE408.out⟩
        have c47b0 := dgf_ c47
        have c47b1 : decide (120 < ((rd_T65 l0_0 x47_3).f1).size) = false := decide_eq_false (by omega)
        clear c47
        replace H := ifs_ H
        obtain ⟨c49, H⟩ := H
        have LMc49 := Aside0.mk c49
        clear c49
        obtain ⟨y430, hy430⟩ : ∃ y_ : List (S43), y_ = (x6_3 ++ (rd_L13 t415 x47_3)) := ⟨_, rfl⟩
        replace H : (impl_isStore.l1 k3 t415 y430 t415 (t415.length : Int) (wrap64 (x47_3 + 1)) l0_0 a0_1) = some r := by first | (rw [hy430]; with_reducible exact H) | (have H2_ := (Option.bind_some _ _).symm.trans H; rw [hy430]; with_reducible exact H2_) | (have H2_ := (Option.bind_some _ _).symm.trans H; with_reducible exact H2_) | with_reducible exact H | (rw [hy430]; exact H) | exact H
        have Ny430 := Aside0.mk hy430
        clear hy430
        have H' := Aside0.mk H
        clear H
        have p421 : 0 ≤ (x47_3 : Int) := oa_
        have q421 : x47_3 < (t415.length : Int) := oa_
        obtain ⟨ad421, A421_0, c421_0, e421, hx421_0, hl421_0, hi421_0⟩ := at_L13 (Kd.N_reads' HO_45.out).2.2 x47_3 p421 q421
        cases e421
        obtain ⟨ce421, hce421, hMe421, hcc421⟩ := Kd.N_get HO_45.out [] x47_3 p421 (by first | exact q421 | exact oa_ | (have e_ := (Kd.N_reads' HO_45.out).1; omega))
        obtain ⟨ua421_0, uc421_0, rfl, ul421_0, ge421_0⟩ := Kd.FK_slice_open hMe421
        have hv421_0 := hcc421 0 _ rfl
        rw [Nat.add_zero, show ((Kd.slice 43 k43)).sz = 1 from rfl, Nat.mul_one] at hv421_0
        replace hv421_0 := Option.some.inj (hv421_0.symm.trans hx421_0)
        injection hv421_0 with hva_ hvn_ hvc_
        rw [hva_] at ge421_0
        rw [hvc_] at ul421_0
        have HL421_0 := Aside0.mk (show Kd.V k43 43 _ w.heap.size _ _ (rd_L13 t415 x47_3) from Kd.V_mk ul421_0 ge421_0)
        clear hva_ hvn_ hvc_ ge421_0 ul421_0
        clear hcc421 hce421
        have HR421_0 := Aside0.mk hi421_0
        have HC421_0 := Aside0.mk hl421_0
        clear hi421_0 hl421_0
        replace p421 := eq_true p421
        replace q421 := eq_true q421
        obtain ⟨hcz50_0, hcz50_1, hfz50_0, hfz50_1⟩ := cf2_ BK408.out
        have p429 : 0 ≤ (x47_3 : Int) := oa_
        have q429 : x47_3 < (l0_0.length : Int) := oa_
        obtain ⟨ad429, A429_2, c429_2, e429, hx429_0, hx429_1, hx429_2, hl429_2, hi429_2⟩ := at_T65 HR0_0.out x47_3 p429 q429
        cases e429
        replace hx429_0 := pc_ HB.out hx429_0
        replace hx429_1 := pc_ HB.out hx429_1
        replace hx429_2 := pc_ HB.out hx429_2
        have HR429_2 := Aside0.mk hi429_2
        have HC429_2 := Aside0.mk hl429_2
        clear hi429_2 hl429_2
        replace p429 := eq_true p429
        replace q429 := eq_true q429
        go_wp2_with (first | ((with_reducible refine gate_builtin (b := .append) (xs := #[.tmp 77, .tmp 78]) rfl ?_); (try (refine gate_guard (by rfl) ?_; dsimp only)); at_builtin; refine Kd.N_append_rows k43 (w0 := w) w.heap.size rfl (.tmp 77) (.tmp 78) 48 43 (.agg #[(.int .i64 0), (.int .i64 0), (.int .i64 0), (.int .i64 0), (.slice none 0 0)]) 56 rfl Try.underlying48 info43 rfl (by decide) (by omega) u6 x6_3 (rd_L13 t415 x47_3) _ _ _ (fun k_ => some k_ ≠ (.slice (some ad421) t415.length co30 : Value).ownBlock ∧ k_ ≠ gb408) (fun k_ => ((fun k_ => some k_ ≠ (.slice (some ad421) t415.length co30 : Value).ownBlock ∧ k_ ≠ gb408)) k_ ∧ some k_ ≠ (u6 : Value).ownBlock) rfl rfl ?aO ?aR (fun _ hk => hk) ?aF ?aB ?aS ?aL ?_; (case aR => exact (by skip; exact Kd.V_F (Kd.V_mono (ok' := (fun k_ => ((fun k_ => some k_ ≠ (.slice (some ad421) t415.length co30 : Value).ownBlock ∧ k_ ≠ gb408)) k_ ∧ some k_ ≠ (u6 : Value).ownBlock)) (HL421_0.out) (fun k_ hk => ⟨⟨hk.2, hk.1.2⟩, hk.1.1⟩)))); (case aB => exact (hs_ GE408.out)); (case aF => exact (fun k_ hk => ⟨Kd.fresh' (Kd.N_lt (nF_ HO_45.out)) k_ hk, Kd.freshB (g := gb408) (o := .cells #[.slice (some ad429) l0_0.length c0_0, .int .i64 a0_1] 24 (0, 0)) (kb_ BK408.out) k_ hk⟩)); (case aO => exact (nF_ HO_6.out)); (case aS => exact (below_size (hs_ GE408.out))); (case aL => have := LMc49.out; omega); intro v431 w51 ho hb hg hat; rw [← Ny430.out] at ho; replace HO_5 := Aside0.mk (Kd.N_afterv (ok := (fun k_ => k_ ≠ gb408)) (nF_ (Kd.N_mono HO_5.out (fun _ hk => ⟨hk.2, hk.1⟩))) hg hat); replace HO_45 := Aside0.mk (Kd.N_afterv (ok := (fun k_ => k_ ≠ gb408)) (nF_ (Kd.N_mono HO_45.out (fun _ hk => ⟨hk.2, hk.1⟩))) hg hat); replace BK408 := Aside0.mk (blk_grown (g := gb408) (o := .cells #[.slice (some ad429) l0_0.length c0_0, .int .i64 a0_1] 24 (0, 0)) (kb_ BK408.out) hg (Kd.N_ne HO_6.out BK408.out (by decide))); replace HL421_0 := Aside0.mk (Kd.V_afterv (ok := (fun k_ => some k_ ≠ (.slice (some ad421) t415.length co30 : Value).ownBlock ∧ k_ ≠ gb408)) (vF_ (Kd.V_mono HL421_0.out (fun _ hk => ⟨⟨hk.2, hk.1.2⟩, hk.1.1⟩))) hg hat); replace HB := Aside0.mk (hb); have HO432 := Aside0.mk (ho); clear HO_6; clear ho hb hg hat))
        go_roundg k3
        case measure => have := HJ1.out; have := HK2.out; have := HK3.out; omega
        case rel => exact ⟨(y430), (wrap64 (x47_3 + 1)), sr_, H', ⟨by have := HJ1.out; have := HK2.out; have := HK3.out; omega⟩, ⟨nF_ (Kd.N_mono HO_5.out (fun _ hk => ⟨hk.2, hk.1⟩))⟩, ⟨nF_ HO432.out⟩, ⟨nF_ (Kd.N_mono HO_45.out (fun _ hk => ⟨hk.2, hk.1⟩))⟩, ⟨kb_ BK408.out⟩, ⟨hs_ GE408.out⟩⟩
       have c34b0 : (((rd_L13 t415 x47_3).length : Int) == 0) = true := beq_iff_eq.mpr c34
       have c34b1 : (((rd_L13 t415 x47_3).length : Int) != 0) = false := bne_eq_false_iff_eq.mpr c34
       clear c34
       replace H := ite_ H
       obtain ⟨c35, H⟩ | ⟨c35, H⟩ := H
       ·have c35b0 := decide_eq_true c35
        clear c35
        obtain rfl := Option.some.inj H
        have p421 : 0 ≤ (x47_3 : Int) := oa_
        have q421 : x47_3 < (t415.length : Int) := oa_
        obtain ⟨ad421, A421_0, c421_0, e421, hx421_0, hl421_0, hi421_0⟩ := at_L13 (Kd.N_reads' HO_45.out).2.2 x47_3 p421 q421
        cases e421
        obtain ⟨ce421, hce421, hMe421, hcc421⟩ := Kd.N_get HO_45.out [] x47_3 p421 (by first | exact q421 | exact oa_ | (have e_ := (Kd.N_reads' HO_45.out).1; omega))
        obtain ⟨ua421_0, uc421_0, rfl, ul421_0, ge421_0⟩ := Kd.FK_slice_open hMe421
        have hv421_0 := hcc421 0 _ rfl
        rw [Nat.add_zero, show ((Kd.slice 43 k43)).sz = 1 from rfl, Nat.mul_one] at hv421_0
        replace hv421_0 := Option.some.inj (hv421_0.symm.trans hx421_0)
        injection hv421_0 with hva_ hvn_ hvc_
        rw [hva_] at ge421_0
        rw [hvc_] at ul421_0
        have HL421_0 := Aside0.mk (show Kd.V k43 43 _ w.heap.size _ _ (rd_L13 t415 x47_3) from Kd.V_mk ul421_0 ge421_0)
        clear hva_ hvn_ hvc_ ge421_0 ul421_0
        clear hcc421 hce421
        have HR421_0 := Aside0.mk hi421_0
        have HC421_0 := Aside0.mk hl421_0
        clear hi421_0 hl421_0
        replace p421 := eq_true p421
        replace q421 := eq_true q421
        go_wp2
        go_ret
        exact ⟨er_, hs_ GE408.out⟩
       have c35b0 := decide_eq_false c35
       clear c35
       replace H := ite_ H
       obtain ⟨c36, H⟩ | ⟨c36, H⟩ := H
       rotate_left
       ·have c36b0 := dgf_ c36
        have c36b1 : decide (1 < (rd_L13 t415 x47_3).length) = false := decide_eq_false (by omega)
        clear c36
        replace H := ifs_ H
        obtain ⟨c43, H⟩ := H
        have LMc43 := Aside0.mk c43
        clear c43
        obtain ⟨y426, hy426⟩ : ∃ y_ : List (S43), y_ = (x6_3 ++ (rd_L13 t415 x47_3)) := ⟨_, rfl⟩
        replace H : (impl_isStore.l1 k3 t415 y426 t415 (t415.length : Int) (wrap64 (x47_3 + 1)) l0_0 a0_1) = some r := by first | (rw [hy426]; with_reducible exact H) | (have H2_ := (Option.bind_some _ _).symm.trans H; rw [hy426]; with_reducible exact H2_) | (have H2_ := (Option.bind_some _ _).symm.trans H; with_reducible exact H2_) | with_reducible exact H | (rw [hy426]; exact H) | exact H
        have Ny426 := Aside0.mk hy426
        clear hy426
        have H' := Aside0.mk H
        clear H
        have p421 : 0 ≤ (x47_3 : Int) := oa_
        have q421 : x47_3 < (t415.length : Int) := oa_
        obtain ⟨ad421, A421_0, c421_0, e421, hx421_0, hl421_0, hi421_0⟩ := at_L13 (Kd.N_reads' HO_45.out).2.2 x47_3 p421 q421
        cases e421
        obtain ⟨ce421, hce421, hMe421, hcc421⟩ := Kd.N_get HO_45.out [] x47_3 p421 (by first | exact q421 | exact oa_ | (have e_ := (Kd.N_reads' HO_45.out).1; omega))
        obtain ⟨ua421_0, uc421_0, rfl, ul421_0, ge421_0⟩ := Kd.FK_slice_open hMe421
        have hv421_0 := hcc421 0 _ rfl
        rw [Nat.add_zero, show ((Kd.slice 43 k43)).sz = 1 from rfl, Nat.mul_one] at hv421_0
        replace hv421_0 := Option.some.inj (hv421_0.symm.trans hx421_0)
        injection hv421_0 with hva_ hvn_ hvc_
        rw [hva_] at ge421_0
        rw [hvc_] at ul421_0
        have HL421_0 := Aside0.mk (show Kd.V k43 43 _ w.heap.size _ _ (rd_L13 t415 x47_3) from Kd.V_mk ul421_0 ge421_0)
        clear hva_ hvn_ hvc_ ge421_0 ul421_0
        clear hcc421 hce421
        have HR421_0 := Aside0.mk hi421_0
        have HC421_0 := Aside0.mk hl421_0
        clear hi421_0 hl421_0
        replace p421 := eq_true p421
        replace q421 := eq_true q421
        go_wp2_with (first | ((with_reducible refine gate_builtin (b := .append) (xs := #[.tmp 77, .tmp 78]) rfl ?_); (try (refine gate_guard (by rfl) ?_; dsimp only)); at_builtin; refine Kd.N_append_rows k43 (w0 := w) w.heap.size rfl (.tmp 77) (.tmp 78) 48 43 (.agg #[(.int .i64 0), (.int .i64 0), (.int .i64 0), (.int .i64 0), (.slice none 0 0)]) 56 rfl Try.underlying48 info43 rfl (by decide) (by omega) u6 x6_3 (rd_L13 t415 x47_3) _ _ _ (fun k_ => some k_ ≠ (.slice (some ad421) t415.length co30 : Value).ownBlock ∧ k_ ≠ gb408) (fun k_ => ((fun k_ => some k_ ≠ (.slice (some ad421) t415.length co30 : Value).ownBlock ∧ k_ ≠ gb408)) k_ ∧ some k_ ≠ (u6 : Value).ownBlock) rfl rfl ?aO ?aR (fun _ hk => hk) ?aF ?aB ?aS ?aL ?_; (case aR => exact (by skip; exact Kd.V_F (Kd.V_mono (ok' := (fun k_ => ((fun k_ => some k_ ≠ (.slice (some ad421) t415.length co30 : Value).ownBlock ∧ k_ ≠ gb408)) k_ ∧ some k_ ≠ (u6 : Value).ownBlock)) (HL421_0.out) (fun k_ hk => ⟨⟨hk.2, hk.1.2⟩, hk.1.1⟩)))); (case aB => exact (hs_ GE408.out)); (case aF => exact (fun k_ hk => ⟨Kd.fresh' (Kd.N_lt (nF_ HO_45.out)) k_ hk, Kd.freshB (g := gb408) (o := .cells #[.slice A0_0 l0_0.length c0_0, .int .i64 a0_1] 24 (0, 0)) (kb_ BK408.out) k_ hk⟩)); (case aO => exact (nF_ HO_6.out)); (case aS => exact (below_size (hs_ GE408.out))); (case aL => have := LMc43.out; omega); intro v427 w44 ho hb hg hat; rw [← Ny426.out] at ho; replace HO_5 := Aside0.mk (Kd.N_afterv (ok := (fun k_ => k_ ≠ gb408)) (nF_ (Kd.N_mono HO_5.out (fun _ hk => ⟨hk.2, hk.1⟩))) hg hat); replace HO_45 := Aside0.mk (Kd.N_afterv (ok := (fun k_ => k_ ≠ gb408)) (nF_ (Kd.N_mono HO_45.out (fun _ hk => ⟨hk.2, hk.1⟩))) hg hat); replace BK408 := Aside0.mk (blk_grown (g := gb408) (o := .cells #[.slice A0_0 l0_0.length c0_0, .int .i64 a0_1] 24 (0, 0)) (kb_ BK408.out) hg (Kd.N_ne HO_6.out BK408.out (by decide))); replace HL421_0 := Aside0.mk (Kd.V_afterv (ok := (fun k_ => some k_ ≠ (.slice (some ad421) t415.length co30 : Value).ownBlock ∧ k_ ≠ gb408)) (vF_ (Kd.V_mono HL421_0.out (fun _ hk => ⟨⟨hk.2, hk.1.2⟩, hk.1.1⟩))) hg hat); replace HB := Aside0.mk (hb); have HO428 := Aside0.mk (ho); clear HO_6; clear ho hb hg hat))
        go_roundg k3
        case measure => have := HJ1.out; have := HK2.out; have := HK3.out; omega
        case rel => exact ⟨(y426), (wrap64 (x47_3 + 1)), sr_, H', ⟨by have := HJ1.out; have := HK2.out; have := HK3.out; omega⟩, ⟨nF_ (Kd.N_mono HO_5.out (fun _ hk => ⟨hk.2, hk.1⟩))⟩, ⟨nF_ HO428.out⟩, ⟨nF_ (Kd.N_mono HO_45.out (fun _ hk => ⟨hk.2, hk.1⟩))⟩, ⟨kb_ BK408.out⟩, ⟨hs_ GE408.out⟩⟩
       have c36b0 := dgt_ c36
       have c36b1 : decide (1 < (rd_L13 t415 x47_3).length) = true := decide_eq_true (by omega)
       clear c36
       replace H := ifs_ H
       obtain ⟨c37, H⟩ := H
       have c37b0 := decide_eq_true c37
       clear c37
       replace H := ite_ H
       obtain ⟨c38, H⟩ | ⟨c38, H⟩ := H
       ·have c38b0 := dgt_ c38
        have c38b1 : decide (120 < ((rd_T65 l0_0 x47_3).f1).size) = true := decide_eq_true (by omega)
        clear c38
        obtain rfl := Option.some.inj H
        have p421 : 0 ≤ (x47_3 : Int) := oa_
        have q421 : x47_3 < (t415.length : Int) := oa_
        obtain ⟨ad421, A421_0, c421_0, e421, hx421_0, hl421_0, hi421_0⟩ := at_L13 (Kd.N_reads' HO_45.out).2.2 x47_3 p421 q421
        cases e421
        obtain ⟨ce421, hce421, hMe421, hcc421⟩ := Kd.N_get HO_45.out [] x47_3 p421 (by first | exact q421 | exact oa_ | (have e_ := (Kd.N_reads' HO_45.out).1; omega))
        obtain ⟨ua421_0, uc421_0, rfl, ul421_0, ge421_0⟩ := Kd.FK_slice_open hMe421
        have hv421_0 := hcc421 0 _ rfl
        rw [Nat.add_zero, show ((Kd.slice 43 k43)).sz = 1 from rfl, Nat.mul_one] at hv421_0
        replace hv421_0 := Option.some.inj (hv421_0.symm.trans hx421_0)
        injection hv421_0 with hva_ hvn_ hvc_
        rw [hva_] at ge421_0
        rw [hvc_] at ul421_0
        have HL421_0 := Aside0.mk (show Kd.V k43 43 _ w.heap.size _ _ (rd_L13 t415 x47_3) from Kd.V_mk ul421_0 ge421_0)
        clear hva_ hvn_ hvc_ ge421_0 ul421_0
        clear hcc421 hce421
        have HR421_0 := Aside0.mk hi421_0
        have HC421_0 := Aside0.mk hl421_0
        clear hi421_0 hl421_0
        replace p421 := eq_true p421
        replace q421 := eq_true q421
        obtain ⟨hcz39_0, hcz39_1, hfz39_0, hfz39_1⟩ := cf2_ BK408.out
        have p422 : 0 ≤ (x47_3 : Int) := oa_
        have q422 : x47_3 < (l0_0.length : Int) := oa_
        obtain ⟨ad422, A422_2, c422_2, e422, hx422_0, hx422_1, hx422_2, hl422_2, hi422_2⟩ := at_T65 HR0_0.out x47_3 p422 q422
        cases e422
        replace hx422_0 := pc_ HB.out hx422_0
        replace hx422_1 := pc_ HB.out hx422_1
        replace hx422_2 := pc_ HB.out hx422_2
        have HR422_2 := Aside0.mk hi422_2
        have HC422_2 := Aside0.mk hl422_2
        clear hi422_2 hl422_2
        replace p422 := eq_true p422
        replace q422 := eq_true q422
        go_wp2
        go_ret
        exact ⟨er_, hs_ GE408.out⟩
       have c38b0 := dgf_ c38
       have c38b1 : decide (120 < ((rd_T65 l0_0 x47_3).f1).size) = false := decide_eq_false (by omega)
       clear c38
       replace H := ifs_ H
       obtain ⟨c40, H⟩ := H
       have LMc40 := Aside0.mk c40
       clear c40
       obtain ⟨y423, hy423⟩ : ∃ y_ : List (S43), y_ = (x6_3 ++ (rd_L13 t415 x47_3)) := ⟨_, rfl⟩
       replace H : (impl_isStore.l1 k3 t415 y423 t415 (t415.length : Int) (wrap64 (x47_3 + 1)) l0_0 a0_1) = some r := by first | (rw [hy423]; with_reducible exact H) | (have H2_ := (Option.bind_some _ _).symm.trans H; rw [hy423]; with_reducible exact H2_) | (have H2_ := (Option.bind_some _ _).symm.trans H; with_reducible exact H2_) | with_reducible exact H | (rw [hy423]; exact H) | exact H
       have Ny423 := Aside0.mk hy423
       clear hy423
       have H' := Aside0.mk H
       clear H
       have p421 : 0 ≤ (x47_3 : Int) := oa_
       have q421 : x47_3 < (t415.length : Int) := oa_
       obtain ⟨ad421, A421_0, c421_0, e421, hx421_0, hl421_0, hi421_0⟩ := at_L13 (Kd.N_reads' HO_45.out).2.2 x47_3 p421 q421
       cases e421
       obtain ⟨ce421, hce421, hMe421, hcc421⟩ := Kd.N_get HO_45.out [] x47_3 p421 (by first | exact q421 | exact oa_ | (have e_ := (Kd.N_reads' HO_45.out).1; omega))
       obtain ⟨ua421_0, uc421_0, rfl, ul421_0, ge421_0⟩ := Kd.FK_slice_open hMe421
       have hv421_0 := hcc421 0 _ rfl
       rw [Nat.add_zero, show ((Kd.slice 43 k43)).sz = 1 from rfl, Nat.mul_one] at hv421_0
       replace hv421_0 := Option.some.inj (hv421_0.symm.trans hx421_0)
       injection hv421_0 with hva_ hvn_ hvc_
       rw [hva_] at ge421_0
       rw [hvc_] at ul421_0
       have HL421_0 := Aside0.mk (show Kd.V k43 43 _ w.heap.size _ _ (rd_L13 t415 x47_3) from Kd.V_mk ul421_0 ge421_0)
       clear hva_ hvn_ hvc_ ge421_0 ul421_0
       clear hcc421 hce421
       have HR421_0 := Aside0.mk hi421_0
       have HC421_0 := Aside0.mk hl421_0
       clear hi421_0 hl421_0
       replace p421 := eq_true p421
       replace q421 := eq_true q421
       obtain ⟨hcz41_0, hcz41_1, hfz41_0, hfz41_1⟩ := cf2_ BK408.out
       have p422 : 0 ≤ (x47_3 : Int) := oa_
       have q422 : x47_3 < (l0_0.length : Int) := oa_
       obtain ⟨ad422, A422_2, c422_2, e422, hx422_0, hx422_1, hx422_2, hl422_2, hi422_2⟩ := at_T65 HR0_0.out x47_3 p422 q422
       cases e422
       replace hx422_0 := pc_ HB.out hx422_0
       replace hx422_1 := pc_ HB.out hx422_1
       replace hx422_2 := pc_ HB.out hx422_2
       have HR422_2 := Aside0.mk hi422_2
       have HC422_2 := Aside0.mk hl422_2
       clear hi422_2 hl422_2
       replace p422 := eq_true p422
       replace q422 := eq_true q422
       go_wp2_with (first | ((with_reducible refine gate_builtin (b := .append) (xs := #[.tmp 77, .tmp 78]) rfl ?_); (try (refine gate_guard (by rfl) ?_; dsimp only)); at_builtin; refine Kd.N_append_rows k43 (w0 := w) w.heap.size rfl (.tmp 77) (.tmp 78) 48 43 (.agg #[(.int .i64 0), (.int .i64 0), (.int .i64 0), (.int .i64 0), (.slice none 0 0)]) 56 rfl Try.underlying48 info43 rfl (by decide) (by omega) u6 x6_3 (rd_L13 t415 x47_3) _ _ _ (fun k_ => some k_ ≠ (.slice (some ad421) t415.length co30 : Value).ownBlock ∧ k_ ≠ gb408) (fun k_ => ((fun k_ => some k_ ≠ (.slice (some ad421) t415.length co30 : Value).ownBlock ∧ k_ ≠ gb408)) k_ ∧ some k_ ≠ (u6 : Value).ownBlock) rfl rfl ?aO ?aR (fun _ hk => hk) ?aF ?aB ?aS ?aL ?_; (case aR => exact (by skip; exact Kd.V_F (Kd.V_mono (ok' := (fun k_ => ((fun k_ => some k_ ≠ (.slice (some ad421) t415.length co30 : Value).ownBlock ∧ k_ ≠ gb408)) k_ ∧ some k_ ≠ (u6 : Value).ownBlock)) (HL421_0.out) (fun k_ hk => ⟨⟨hk.2, hk.1.2⟩, hk.1.1⟩)))); (case aB => exact (hs_ GE408.out)); (case aF => exact (fun k_ hk => ⟨Kd.fresh' (Kd.N_lt (nF_ HO_45.out)) k_ hk, Kd.freshB (g := gb408) (o := .cells #[.slice (some ad422) l0_0.length c0_0, .int .i64 a0_1] 24 (0, 0)) (kb_ BK408.out) k_ hk⟩)); (case aO => exact (nF_ HO_6.out)); (case aS => exact (below_size (hs_ GE408.out))); (case aL => have := LMc40.out; omega); intro v424 w42 ho hb hg hat; rw [← Ny423.out] at ho; replace HO_5 := Aside0.mk (Kd.N_afterv (ok := (fun k_ => k_ ≠ gb408)) (nF_ (Kd.N_mono HO_5.out (fun _ hk => ⟨hk.2, hk.1⟩))) hg hat); replace HO_45 := Aside0.mk (Kd.N_afterv (ok := (fun k_ => k_ ≠ gb408)) (nF_ (Kd.N_mono HO_45.out (fun _ hk => ⟨hk.2, hk.1⟩))) hg hat); replace BK408 := Aside0.mk (blk_grown (g := gb408) (o := .cells #[.slice (some ad422) l0_0.length c0_0, .int .i64 a0_1] 24 (0, 0)) (kb_ BK408.out) hg (Kd.N_ne HO_6.out BK408.out (by decide))); replace HL421_0 := Aside0.mk (Kd.V_afterv (ok := (fun k_ => some k_ ≠ (.slice (some ad421) t415.length co30 : Value).ownBlock ∧ k_ ≠ gb408)) (vF_ (Kd.V_mono HL421_0.out (fun _ hk => ⟨⟨hk.2, hk.1.2⟩, hk.1.1⟩))) hg hat); replace HB := Aside0.mk (hb); have HO425 := Aside0.mk (ho); clear HO_6; clear ho hb hg hat))
       go_roundg k3
       case measure => have := HJ1.out; have := HK2.out; have := HK3.out; omega
       case rel => exact ⟨(y423), (wrap64 (x47_3 + 1)), sr_, H', ⟨by have := HJ1.out; have := HK2.out; have := HK3.out; omega⟩, ⟨nF_ (Kd.N_mono HO_5.out (fun _ hk => ⟨hk.2, hk.1⟩))⟩, ⟨nF_ HO425.out⟩, ⟨nF_ (Kd.N_mono HO_45.out (fun _ hk => ⟨hk.2, hk.1⟩))⟩, ⟨kb_ BK408.out⟩, ⟨hs_ GE408.out⟩⟩
end Go.Proofs.Ytffpeklekkpbjaa.QFnExactReadFrom
