/- Functions that one statement reaches: of each a plain function, and the proof that calls come to it. Conditions: those that each contract names. Written by a program of this repository. -/
import Derived.Test.YtffpeklekkpbjaaVTruncateToa
import Derived.Test.YtffpeklekkpbjaaQFnExactTruncateTox2
import Derived.Test.YtffpeklekkpbjaaQFnExactTruncateTox16
import Derived.Test.YtffpeklekkpbjaaQFnExactTruncateTox19
import Derived.Test.YtffpeklekkpbjaaQFnExactTruncateTox21
import Derived.Test.YtffpeklekkpbjaaQFnExactTruncateTox23
namespace Go.Proofs.Ytffpeklekkpbjaa.QFnExactTruncateTo
open Go.RowKit Go.Proofs.YtffpeklekkpbjaaW.PrintWords Go.Proofs.YtffpeklekkpbjaaW.PrintLast Go.Proofs.YtffpeklekkpbjaaW.PrintMore
attribute [local go_sem] max2_int min2_int max_two min_two max_three min_three max_four min_four Go.Proofs.YtffpeklekkpbjaaW.PrintMore2.isSome_setCell   -- for this text's walks alone
set_option linter.unusedVariables false
set_option linter.unusedSimpArgs false

/-! ### impl_isStore: function 67 -/
mutual
def impl_isStore.j0 : Nat → Bool → List (S65) → Int → Option (Bool)
 | 0, _, _, _ => none
 | k + 1, x29, x418000, x418001 => if x29 = true then (some false) else (impl_isStore.l0 k x418000 (x418000.length : Int) 0 x418000 x418001)
def impl_isStore.l0 : Nat → List (S65) → Int → Int → List (S65) → Int → Option (Bool)
 | 0, _, _, _, _, _ => none
 | k + 1, x31, x32, x33, x418000, x418001 => if x33 < x32 then (if 0 ≤ x33 then (if x33 < (x31.length : Int) then (if (((rd_T65 x31 x33).f1).size : Int) > 600 then (some false) else (impl_isStore.l0 k x31 x32 (wrap64 (x33 + 1)) x418000 x418001)) else (none)) else (none)) else ((impl_Store_logs.f k x418000 x418001).bind fun t424 => (impl_isStore.l1 k t424 (([] : List (S43))) t424 (t424.length : Int) 0 x418000 x418001))
def impl_isStore.l1 : Nat → List (List (S43)) → List (S43) → List (List (S43)) → Int → Int → List (S65) → Int → Option (Bool)
 | 0, _, _, _, _, _, _, _ => none
 | k + 1, x5, x6, x45, x46, x47, x418000, x418001 => if x47 < x46 then (if 0 ≤ x47 then (if x47 < (x45.length : Int) then (if ((rd_L13 x45 x47).length : Int) = 0 then (if x47 < (wrap64 ((x5.length : Int) - 1)) then (some false) else (if ((rd_L13 x45 x47).length : Int) > 1 then (if x47 < (x418000.length : Int) then (if (((rd_T65 x418000 x47).f1).size : Int) > 120 then (some false) else (if x6.length + (rd_L13 x45 x47).length < 2513169434916 then (impl_isStore.l1 k x5 (x6 ++ (rd_L13 x45 x47)) x45 x46 (wrap64 (x47 + 1)) x418000 x418001) else (none))) else (none)) else (if x6.length + (rd_L13 x45 x47).length < 2513169434916 then (impl_isStore.l1 k x5 (x6 ++ (rd_L13 x45 x47)) x45 x46 (wrap64 (x47 + 1)) x418000 x418001) else (none)))) else (if ((rd_L13 x45 x47).length : Int) > 1 then (if x47 < (x418000.length : Int) then (if (((rd_T65 x418000 x47).f1).size : Int) > 120 then (some false) else (if x6.length + (rd_L13 x45 x47).length < 2513169434916 then (impl_isStore.l1 k x5 (x6 ++ (rd_L13 x45 x47)) x45 x46 (wrap64 (x47 + 1)) x418000 x418001) else (none))) else (none)) else (if x6.length + (rd_L13 x45 x47).length < 2513169434916 then (impl_isStore.l1 k x5 (x6 ++ (rd_L13 x45 x47)) x45 x46 (wrap64 (x47 + 1)) x418000 x418001) else (none)))) else (none)) else (none)) else ((impl_isLog.f k x6).bind fun t445 => (if t445 = true then (if 0 < (x418000.length : Int) then ((impl_storeOf.f k x5 ((rd_T65 x418000 0).f0)).bind fun bt447 => (if bt447.2 = x418001 then ((slices_EqualFunc_Segment.f k bt447.1 x418000).bind fun t452 => (some t452)) else (some false))) else (none)) else (some false)))
end
def impl_isStore.f (k : Nat) (l0_0 : List (S65)) (a0_1 : Int) : Option (Bool) := (impl_in.f (l0_0.length : Int) 1 8).bind fun t418 => (if t418 = true then ((impl_in.f a0_1 0 100000).bind fun t419 => (if t419 = true then (if 0 < (l0_0.length : Int) then ((impl_in.f ((rd_T65 l0_0 0).f0) 0 100000).bind fun t421 => (impl_isStore.j0 k (!t421) l0_0 a0_1)) else (none)) else (impl_isStore.j0 k true l0_0 a0_1))) else (impl_isStore.j0 k true l0_0 a0_1))
theorem impl_isStore.mono_l : ∀ k, (∀ y0 y1 y2, LeO (impl_isStore.j0 k y0 y1 y2) (impl_isStore.j0 (k + 1) y0 y1 y2)) ∧ (∀ y0 y1 y2 y3 y4, LeO (impl_isStore.l0 k y0 y1 y2 y3 y4) (impl_isStore.l0 (k + 1) y0 y1 y2 y3 y4)) ∧ (∀ y0 y1 y2 y3 y4 y5 y6, LeO (impl_isStore.l1 k y0 y1 y2 y3 y4 y5 y6) (impl_isStore.l1 (k + 1) y0 y1 y2 y3 y4 y5 y6))
 | 0 => ⟨fun _ _ _ r h => by simp [impl_isStore.j0] at h, fun _ _ _ _ _ r h => by simp [impl_isStore.l0] at h, fun _ _ _ _ _ _ _ r h => by simp [impl_isStore.l1] at h⟩
 | k + 1 => by
  obtain ⟨ih0, ih1, ih2⟩ := impl_isStore.mono_l k
  refine ⟨?_, ?_, ?_⟩
  all_goals intros; first | unfold impl_isStore.j0 | unfold impl_isStore.l0 | unfold impl_isStore.l1
  all_goals repeat' first | (with_reducible first | apply ih0 | apply ih1 | apply ih2 | apply impl_Store_logs.mono | apply impl_isLog.mono | apply impl_storeOf.mono | apply slices_EqualFunc_Segment.mono | exact LeO.refl _ | exact LeO.none _ | refine LeO.ite ?_ ?_ | refine LeO.bind ?_ (fun _ => ?_))
theorem impl_isStore.mono : ∀ a0 a1 k, LeO (impl_isStore.f k a0 a1) (impl_isStore.f (k + 1) a0 a1) := by
 intro a0 a1 k
 obtain ⟨ih0, ih1, ih2⟩ := impl_isStore.mono_l k
 unfold impl_isStore.f
 repeat' first
   | (with_reducible first | apply ih0 | apply ih1 | apply ih2 | apply impl_Store_logs.mono | apply impl_isLog.mono | apply impl_storeOf.mono | apply slices_EqualFunc_Segment.mono | exact LeO.refl _ | exact LeO.none _ | refine LeO.ite ?_ ?_ | refine LeO.bind ?_ (fun _ => ?_))
set_option maxHeartbeats 8000000 in
set_option maxRecDepth 100000 in
theorem impl_isStore.calls (k : Nat) (A0_0 : Option Addr) (c0_0 : Nat) (l0_0 : List (S65)) (a0_1 : Int) (r : Bool) (w : World) (hr0_0 : Kd.C k65 w A0_0 l0_0.length l0_0) (hc0_0 : l0_0.length ≤ c0_0) (h : impl_isStore.f k l0_0 a0_1 = some r) :
  Calls Try.prog 67 #[.agg #[.slice A0_0 l0_0.length c0_0, .int .i64 a0_1]] w fun e w' => e = .returned (.bool r) ∧ Below w.heap.size w w' := by
 have hu24 := Try.underlying24
 have hu65 := Try.underlying65
 have HR0_0 := Aside0.mk hr0_0
 have HC0_0 := Aside0.mk hc0_0
 clear hr0_0 hc0_0
 have HB := Aside0.mk (Below.refl w.heap.size w)
 have H : ((impl_in.f (l0_0.length : Int) 1 8).bind fun t418 => (if t418 = true then ((impl_in.f a0_1 0 100000).bind fun t419 => (if t419 = true then (if 0 < (l0_0.length : Int) then ((impl_in.f ((rd_T65 l0_0 0).f0) 0 100000).bind fun t421 => (impl_isStore.j0 k (!t421) l0_0 a0_1)) else (none)) else (impl_isStore.j0 k true l0_0 a0_1))) else (impl_isStore.j0 k true l0_0 a0_1))) = some r := h
 clear h
 have HC2 := Aside0.mk H
 clear H
 go_enter Try.func67, Try.ntmps67
 go_upto_region 1 with (first | ((with_reducible refine gate_dst (N := 1) rfl ?_); (try (refine gate_guard (by rfl) ?_; dsimp only)); refine bq_ (N := 1) #[.slice A0_0 l0_0.length c0_0, .int .i64 a0_1] 24 ?_; intro gb417 hg w3 BK417 hb; have GE417 := ge_ hg; replace HB := nb_ hb; clear hb hg))
 (try simp only [Act.put, List.setIfInBounds_toArray, List.set_cons_zero, List.set_cons_succ])
 go_cut [29] (fun v29 wc => ∃ (kq : Nat) (x29_1 : Bool), v29 = .bool x29_1 ∧ Aside0 (impl_isStore.j0 kq x29_1 l0_0 a0_1 = some r) ∧ Aside0 (kq ≤ k) ∧ Aside0 (wc.heap[gb417]? = some (.cells #[(.slice A0_0 l0_0.length c0_0), .int .i64 a0_1] 24 (0, 0))) ∧ Aside0 (Below w.heap.size w wc))
 case first =>
  have H := HC2.out
  clear HC2
  replace H := bnd_ H
  obtain ⟨t418, A4, H⟩ := H
  replace H := ifb_ H
  obtain ⟨rfl, H⟩ | ⟨rfl, H⟩ := H
  rotate_left
  ·have H' := Aside0.mk H
   clear H
   obtain ⟨hcz12_0, hcz12_1, hfz12_0, hfz12_1⟩ := cf2_ BK417.out
   go_wp2_with (first | ((with_reducible refine gate_callee (f := 58) rfl ?_); refine gl_ 13 Try.func58 #[.int .i64 (l0_0.length : Int), .int .i64 1, .int .i64 8] rfl ma_ ?_; (with_reducible refine (impl_in.calls (l0_0.length : Int) 1 8 false _ A4.out).mono ?_); rintro e w' ⟨rfl, ⟨nd, rfl⟩⟩; refine ⟨_, rfl, ?_⟩))
   go_meet
   case rel => exact ⟨_, (true), sr_, H', ⟨by first | omega | exact Nat.le_refl _⟩, ⟨kb_ BK417.out⟩, ⟨hs_ GE417.out⟩⟩
  replace H := bnd_ H
  obtain ⟨t419, A6, H⟩ := H
  replace H := ifb_ H
  obtain ⟨rfl, H⟩ | ⟨rfl, H⟩ := H
  rotate_left
  ·have H' := Aside0.mk H
   clear H
   obtain ⟨hcz11_0, hcz11_1, hfz11_0, hfz11_1⟩ := cf2_ BK417.out
   go_wp2_with (first | ((with_reducible refine gate_callee (f := 58) rfl ?_); refine gl_ 13 Try.func58 #[.int .i64 (l0_0.length : Int), .int .i64 1, .int .i64 8] rfl ma_ ?_; (with_reducible refine (impl_in.calls (l0_0.length : Int) 1 8 true _ A4.out).mono ?_); rintro e w' ⟨rfl, ⟨nd, rfl⟩⟩; refine ⟨_, rfl, ?_⟩) | (go_at_call 58; (with_reducible refine (impl_in.calls a0_1 0 100000 false _ A6.out).mono ?_); rintro e w' ⟨rfl, ⟨nd, rfl⟩⟩))
   go_meet
   case rel => exact ⟨_, (true), sr_, H', ⟨by first | omega | exact Nat.le_refl _⟩, ⟨kb_ BK417.out⟩, ⟨hs_ GE417.out⟩⟩
  replace H := ifs_ H
  obtain ⟨c8, H⟩ := H
  have c8b0 := decide_eq_true c8
  have c8b1 : decide (0 < l0_0.length) = true := decide_eq_true (by omega)
  clear c8
  (first | rw [c8b0] | (simp only [i64_w, i32_w]; rw [c8b0]) | rw [c8b1] | skip)
  replace H := bnd_ H
  obtain ⟨t421, A9, H⟩ := H
  have H' := Aside0.mk H
  clear H
  obtain ⟨hcz10_0, hcz10_1, hfz10_0, hfz10_1⟩ := cf2_ BK417.out
  go_wp2_with (first | ((with_reducible refine gate_callee (f := 58) rfl ?_); refine gl_ 13 Try.func58 #[.int .i64 (l0_0.length : Int), .int .i64 1, .int .i64 8] rfl ma_ ?_; (with_reducible refine (impl_in.calls (l0_0.length : Int) 1 8 true _ A4.out).mono ?_); rintro e w' ⟨rfl, ⟨nd, rfl⟩⟩; refine ⟨_, rfl, ?_⟩) | (go_at_call 58; (with_reducible refine (impl_in.calls a0_1 0 100000 true _ A6.out).mono ?_); rintro e w' ⟨rfl, ⟨nd, rfl⟩⟩; have p420 : 0 ≤ (0 : Int) := (by omega); have q420 : 0 < (l0_0.length : Int) := oa_; obtain ⟨ad420, A420_2, c420_2, e420, hx420_0, hx420_1, hx420_2, hl420_2, hi420_2⟩ := at_T65 HR0_0.out 0 p420 q420; cases e420; have qi420 : (0 < l0_0.length) = True := eq_true (by omega); (try rw [show ((0 : Int)).toNat = 0 from rfl] at hx420_0); (try rw [show 0 * 3 = 0 from rfl] at hx420_0); (try rw [Addr.add_zero'] at hx420_0); (try rw [show ((0 : Int)).toNat = 0 from rfl] at hx420_1); (try rw [show 0 * 3 = 0 from rfl] at hx420_1); (try rw [Addr.add_zero'] at hx420_1); (try rw [show ((0 : Int)).toNat = 0 from rfl] at hx420_2); (try rw [show 0 * 3 = 0 from rfl] at hx420_2); (try rw [Addr.add_zero'] at hx420_2); replace hx420_0 := pc_ HB.out hx420_0; replace hx420_1 := pc_ HB.out hx420_1; replace hx420_2 := pc_ HB.out hx420_2; have HR420_2 := Aside0.mk hi420_2; have HC420_2 := Aside0.mk hl420_2; clear hi420_2 hl420_2; replace p420 := eq_true p420; replace q420 := eq_true q420) | (go_at_call 58; (with_reducible refine (impl_in.calls ((rd_T65 l0_0 0).f0) 0 100000 t421 _ A9.out).mono ?_); rintro e w' ⟨rfl, ⟨nd, rfl⟩⟩))
  go_meet
  case rel => exact ⟨_, (!t421), sr_, H', ⟨by first | omega | exact Nat.le_refl _⟩, ⟨kb_ BK417.out⟩, ⟨hs_ GE417.out⟩⟩
 case rest =>
  clear HC2
  obtain ⟨kq, x29_1, rfl, HA, HJ1, BK417, HB⟩ := hcut
  cases kq with
  | zero => exact absurd HA.out (by simp [impl_isStore.j0])
  | succ kj1 =>
   have H := HA.out
   clear HA
   simp only [impl_isStore.j0] at H
   replace H := ifb_ H
   obtain ⟨rfl, H⟩ | ⟨rfl, H⟩ := H
   ·obtain rfl := Option.some.inj H
    go_wp2
    go_ret
    exact ⟨er_, hs_ GE417.out⟩
   have H' := Aside0.mk H
   clear H
   obtain ⟨hcz14_0, hcz14_1, hfz14_0, hfz14_1⟩ := cf2_ BK417.out
   go_wp2
   go_loopg [33] kj1 (fun kq v33 w' => ∃ (x33_2 : Int), v33 = .int .i64 x33_2 ∧ Aside0 (impl_isStore.l0 kq l0_0 (l0_0.length : Int) x33_2 l0_0 a0_1 = some r) ∧ Aside0 (kq ≤ kj1) ∧ Aside0 (w'.heap[gb417]? = some (.cells #[(.slice A0_0 l0_0.length c0_0), .int .i64 a0_1] 24 (0, 0))) ∧ Aside0 (Below w.heap.size w w'))
   case atStart => exact ⟨(0), sr_, H', ⟨Nat.le_refl _⟩, ⟨kb_ BK417.out⟩, ⟨hs_ GE417.out⟩⟩
   case round =>
    clear H'
    try clear hcz14_0
    try clear hcz14_1
    try clear hfz14_0
    try clear hfz14_1
    obtain ⟨x33_2, rfl, HA, HK2, BK417, HB⟩ := hrel
    cases gk with
    | zero => exact absurd HA.out (by simp [impl_isStore.l0])
    | succ k2 =>
     have H := HA.out
     clear HA
     simp only [impl_isStore.l0] at H
     replace H := ite_ H
     obtain ⟨c15, H⟩ | ⟨c15, H⟩ := H
     ·have c15b0 := decide_eq_true c15
      clear c15
      replace H := ifs_ H
      obtain ⟨c16, H⟩ := H
      have c16b0 := decide_eq_true c16
      clear c16
      replace H := ifs_ H
      obtain ⟨c17, H⟩ := H
      have c17b0 := decide_eq_true c17
      clear c17
      replace H := ite_ H
      obtain ⟨c18, H⟩ | ⟨c18, H⟩ := H
      ·have c18b0 := dgt_ c18
       have c18b1 : decide (600 < ((rd_T65 l0_0 x33_2).f1).size) = true := decide_eq_true (by omega)
       clear c18
       obtain rfl := Option.some.inj H
       have p422 : 0 ≤ (x33_2 : Int) := oa_
       have q422 : x33_2 < (l0_0.length : Int) := oa_
       obtain ⟨ad422, A422_2, c422_2, e422, hx422_0, hx422_1, hx422_2, hl422_2, hi422_2⟩ := at_T65 HR0_0.out x33_2 p422 q422
       cases e422
       replace hx422_0 := pc_ HB.out hx422_0
       replace hx422_1 := pc_ HB.out hx422_1
       replace hx422_2 := pc_ HB.out hx422_2
       have HR422_2 := Aside0.mk hi422_2
       have HC422_2 := Aside0.mk hl422_2
       clear hi422_2 hl422_2
       replace p422 := eq_true p422
       replace q422 := eq_true q422
       go_wp2_with (first | ((with_reducible refine gate_dst (N := 4) rfl ?_); (try (refine gate_guard (by rfl) ?_; dsimp only)); refine box_event ?hg (N := 4) ?hd (cs := #[.int .i64 0, .string (⟨#[]⟩ : ByteArray), .slice none 0 0]) (t := 65) ?hr ?_; (case hd => rfl); (case hg => rfl); (case hr => first | (go_simp; done) | (go_simp; rfl)); intro gb423 hg w19 hbox hb; have BK423 := Aside0.mk (hbox); have GE423 := ge1_ hg GE417; replace HB := nc_ GE417 hb; have NB417_423 := nl_ BK417 hg; have NB423_417 := ng_ BK417 hg; replace BK417 := bK_ BK417 hb; clear hb hbox hg; have hnb20 := NB423_417.out; have hnc20 := NB417_423.out; obtain ⟨hcz21_0, hcz21_1, hcz21_2, hfz21_0, hfz21_1, hfz21_2⟩ := cf3_ BK423.out))
       go_ret
       exact ⟨er_, hs2_ GE417.out GE423.out⟩
      have c18b0 := dgf_ c18
      have c18b1 : decide (600 < ((rd_T65 l0_0 x33_2).f1).size) = false := decide_eq_false (by omega)
      clear c18
      have H' := Aside0.mk H
      clear H
      have p422 : 0 ≤ (x33_2 : Int) := oa_
      have q422 : x33_2 < (l0_0.length : Int) := oa_
      obtain ⟨ad422, A422_2, c422_2, e422, hx422_0, hx422_1, hx422_2, hl422_2, hi422_2⟩ := at_T65 HR0_0.out x33_2 p422 q422
      cases e422
      replace hx422_0 := pc_ HB.out hx422_0
      replace hx422_1 := pc_ HB.out hx422_1
      replace hx422_2 := pc_ HB.out hx422_2
      have HR422_2 := Aside0.mk hi422_2
      have HC422_2 := Aside0.mk hl422_2
      clear hi422_2 hl422_2
      replace p422 := eq_true p422
      replace q422 := eq_true q422
      go_wp2_with (first | ((with_reducible refine gate_dst (N := 4) rfl ?_); (try (refine gate_guard (by rfl) ?_; dsimp only)); refine box_event ?hg (N := 4) ?hd (cs := #[.int .i64 0, .string (⟨#[]⟩ : ByteArray), .slice none 0 0]) (t := 65) ?hr ?_; (case hd => rfl); (case hg => rfl); (case hr => first | (go_simp; done) | (go_simp; rfl)); intro gb423 hg w22 hbox hb; have BK423 := Aside0.mk (hbox); have GE423 := ge1_ hg GE417; replace HB := nc_ GE417 hb; have NB417_423 := nl_ BK417 hg; have NB423_417 := ng_ BK417 hg; replace BK417 := bK_ BK417 hb; clear hb hbox hg; have hnb23 := NB423_417.out; have hnc23 := NB417_423.out; obtain ⟨hcz24_0, hcz24_1, hcz24_2, hfz24_0, hfz24_1, hfz24_2⟩ := cf3_ BK423.out))
      go_roundg k2
      case measure => have := HJ1.out; have := HK2.out; omega
      case rel => exact ⟨(wrap64 (x33_2 + 1)), sr_, H', ⟨by have := HJ1.out; have := HK2.out; omega⟩, ⟨uf_ BK417 NB417_423.out⟩, ⟨hs2_ GE417.out GE423.out⟩⟩
     have c15b0 := decide_eq_false c15
     clear c15
     replace H := bnd_ H
     obtain ⟨t424, A25, H⟩ := H
     obtain ⟨y427, hy427⟩ : ∃ y_ : List (S43), y_ = (([] : List (S43))) := ⟨_, rfl⟩
     replace H : (impl_isStore.l1 k2 t424 y427 t424 (t424.length : Int) 0 l0_0 a0_1) = some r := by first | (rw [hy427]; with_reducible exact H) | (have H2_ := (Option.bind_some _ _).symm.trans H; rw [hy427]; with_reducible exact H2_) | (have H2_ := (Option.bind_some _ _).symm.trans H; with_reducible exact H2_) | with_reducible exact H | (rw [hy427]; exact H) | exact H
     have Ny427 := Aside0.mk hy427
     clear hy427
     have H' := Aside0.mk H
     clear H
     obtain ⟨hcz26_0, hcz26_1, hfz26_0, hfz26_1⟩ := cf2_ BK417.out
     go_wp2_with (first | ((with_reducible refine gate_callee (f := 73) rfl ?_); refine gl_ 43 Try.func73 #[.agg #[.slice A0_0 l0_0.length c0_0, .int .i64 a0_1]] rfl ma_ ?_; (with_reducible refine (impl_Store_logs.calls k2 _ _ l0_0 a0_1 t424 _ ?side1 ?side2 A25.out).mono ?_); (case side1 => exact cs_ ((Kd.C_below HR0_0.out HB.out))); (case side2 => exact HC0_0.out); rintro e w27 ⟨v425, rfl, ho0, hb⟩; refine ⟨_, rfl, ?_⟩; have HO426 := Aside0.mk (Kd.N_lower (Kd.N_mono (ok' := fun k_ => k_ ≠ gb417) (Kd.R_N (Kd.R_bound ho0)) (fun k_ hk_ => (Kd.freshB (g := gb417) (o := .cells #[.slice A0_0 l0_0.length c0_0, .int .i64 a0_1] 24 (0, 0)) (kb_ BK417.out) k_ hk_.2.1))) (below_size (hs_ GE417.out))); replace BK417 := bK_ BK417 hb; replace HB := nc_ GE417 hb; (try clear hb); (try clear hb2); (try clear hk); (try clear hi); (try clear ho0)) | ((with_reducible refine gate_dst (N := 44) rfl ?_); (try (refine gate_guard (by rfl) ?_; dsimp only)); refine Kd.N_lit k43 _ 43 ?hg (N' := 44) ?hd (xs := ([] : List (S43))) (inner := []) (ok := (fun k_ => some k_ ≠ (v425 : Value).ownBlock ∧ k_ ≠ gb417)) (okp := (fun k_ => some k_ ≠ (v425 : Value).ownBlock ∧ k_ ≠ gb417)) ?hr ?hp (fun _ hk => hk) ((show ∀ k_, w27.heap.size ≤ k_ → (fun k_ => some k_ ≠ (v425 : Value).ownBlock ∧ k_ ≠ gb417) k_ from fun k_ hk => ⟨Kd.fresh' (Kd.N_lt (nF_ HO426.out)) k_ hk, Kd.freshB (g := gb417) (o := .cells #[.slice A0_0 l0_0.length c0_0, .int .i64 a0_1] 24 (0, 0)) (kb_ BK417.out) k_ hk⟩) _ (Nat.le_refl _)) (Below.refl _ _) (Nat.le_refl _) (by simp) ?_; (case hd => rfl); (case hg => rfl); (case hr => first | (go_simp; done) | (go_simp; rfl)); (case hp => exact (Reps.none _ _)); intro v428 w28 ho29 hb hg_ hnew_; clear hg_ hnew_; (first | rw [← Ny427.out] at ho29 | (simp only [Int.reduceToNat] at ho29; rw [← Ny427.out] at ho29)); replace HO426 := Aside0.mk (Kd.N_elder' (nF_ HO426.out) (Kd.N_base ho29) hb); have HO429 := Aside0.mk (Kd.N_lower ho29 (below_size (hs_ GE417.out))); replace BK417 := bK_ BK417 hb; replace HB := nc_ GE417 hb; clear hb ho29; obtain ⟨Ao30, co30, eo30⟩ := Kd.N_slice HO426.out; subst eo30))
     go_loopg [6, 47] k2 (fun kq v6 v47 w' => ∃ (x6_3 : List (S43)) (x47_3 : Int), v47 = .int .i64 x47_3 ∧ Aside0 (impl_isStore.l1 kq t424 x6_3 t424 (t424.length : Int) x47_3 l0_0 a0_1 = some r) ∧ Aside0 (kq ≤ k2) ∧ Aside0 (Kd.N (Kd.slice 43 k43) 48 w' w.heap.size (fun k_ => some k_ ≠ (v6 : Value).ownBlock ∧ k_ ≠ gb417) (.slice Ao30 t424.length co30) t424) ∧ Aside0 (Kd.N k43 43 w' w.heap.size (fun k_ => some k_ ≠ ((.slice Ao30 t424.length co30) : Value).ownBlock ∧ k_ ≠ gb417) v6 x6_3) ∧ Aside0 (Kd.N (Kd.slice 43 k43) 48 w' w.heap.size (fun k_ => some k_ ≠ (v6 : Value).ownBlock ∧ k_ ≠ gb417) (.slice Ao30 t424.length co30) t424) ∧ Aside0 (w'.heap[gb417]? = some (.cells #[(.slice A0_0 l0_0.length c0_0), .int .i64 a0_1] 24 (0, 0))) ∧ Aside0 (Below w.heap.size w w'))
     case atStart => exact ⟨(y427), (0), sr_, H', ⟨Nat.le_refl _⟩, ⟨nF_ (Kd.N_mono HO426.out (fun _ hk => ⟨hk.2, hk.1⟩))⟩, ⟨nF_ HO429.out⟩, ⟨nF_ (Kd.N_mono HO426.out (fun _ hk => ⟨hk.2, hk.1⟩))⟩, ⟨kb_ BK417.out⟩, ⟨hs_ GE417.out⟩⟩
     case round =>
      clear H'
      try clear c15
      try clear c15b0
      try clear hcz14_0
      try clear hcz14_1
      try clear hcz26_0
      try clear hcz26_1
      try clear hfz14_0
      try clear hfz14_1
      try clear hfz26_0
      try clear hfz26_1
      obtain ⟨x6_3, x47_3, rfl, HA, HK3, HO_5, HO_6, HO_45, BK417, HB⟩ := hrel
      cases gk with
      | zero => exact absurd HA.out (by simp [impl_isStore.l1])
      | succ k3 =>
       have H := HA.out
       clear HA
       simp only [impl_isStore.l1] at H
       replace H := ite_ H
       obtain ⟨c31, H⟩ | ⟨c31, H⟩ := H
       rotate_left
       ·have c31b0 := decide_eq_false c31
        clear c31
        replace H := bnd_ H
        obtain ⟨t445, A54, H⟩ := H
        replace H := ifb_ H
        obtain ⟨rfl, H⟩ | ⟨rfl, H⟩ := H
        rotate_left
        ·obtain rfl := Option.some.inj H
         obtain ⟨Ao79, co79, eo79⟩ := Kd.N_slice HO_6.out
         subst eo79
         go_wp2_with (first | ((with_reducible refine gate_callee (f := 90) rfl ?_); refine gl_ 82 Try.func90 #[.slice Ao79 x6_3.length co79] rfl ma_ ?_; (with_reducible refine (impl_isLog.calls k3 _ _ x6_3 false _ ?side1 ?side2 A54.out).mono ?_); (case side1 => exact cs_ ((Kd.N_reads' HO_6.out).2.2)); (case side2 => exact (Kd.N_reads' HO_6.out).2.1); rintro e w80 ⟨rfl, hb⟩; refine ⟨_, rfl, ?_⟩; replace HO_5 := Aside0.mk (Kd.N_below (nF_ HO_5.out) hb); replace HO_6 := Aside0.mk (Kd.N_below (nF_ HO_6.out) hb); replace HO_45 := Aside0.mk (Kd.N_below (nF_ HO_45.out) hb); replace BK417 := bK_ BK417 hb; replace HB := nc_ GE417 hb; (try clear hb); (try clear hb2); (try clear hk); (try clear hi)))
         go_ret
         exact ⟨er_, hs_ GE417.out⟩
        replace H := ifs_ H
        obtain ⟨c56, H⟩ := H
        have c56b0 := decide_eq_true c56
        have c56b1 : decide (0 < l0_0.length) = true := decide_eq_true (by omega)
        clear c56
        replace H := bnd_ H
        obtain ⟨⟨t447, t450⟩, A57, H⟩ := H
        replace H := red_ H
        replace H := ite_ H
        obtain ⟨c58, H⟩ | ⟨c58, H⟩ := H
        rotate_left
        ·have c58b0 : (t450 == a0_1) = false := beq_eq_false_iff_ne.mpr c58
         have c58b1 : (t450 != a0_1) = true := bne_iff_ne.mpr c58
         obtain rfl := Option.some.inj H
         obtain ⟨Ao70, co70, eo70⟩ := Kd.N_slice HO_6.out
         subst eo70
         go_wp2_with (first | ((with_reducible refine gate_callee (f := 90) rfl ?_); refine gl_ 82 Try.func90 #[.slice Ao70 x6_3.length co70] rfl ma_ ?_; (with_reducible refine (impl_isLog.calls k3 _ _ x6_3 true _ ?side1 ?side2 A54.out).mono ?_); (case side1 => exact cs_ ((Kd.N_reads' HO_6.out).2.2)); (case side2 => exact (Kd.N_reads' HO_6.out).2.1); rintro e w71 ⟨rfl, hb⟩; refine ⟨_, rfl, ?_⟩; replace HO_5 := Aside0.mk (Kd.N_below (nF_ HO_5.out) hb); replace HO_6 := Aside0.mk (Kd.N_below (nF_ HO_6.out) hb); replace HO_45 := Aside0.mk (Kd.N_below (nF_ HO_45.out) hb); replace BK417 := bK_ BK417 hb; replace HB := nc_ GE417 hb; (try clear hb); (try clear hb2); (try clear hk); (try clear hi); obtain ⟨hcz72_0, hcz72_1, hfz72_0, hfz72_1⟩ := cf2_ BK417.out; have p446 : 0 ≤ (0 : Int) := (by omega); have q446 : 0 < (l0_0.length : Int) := oa_; obtain ⟨ad446, A446_2, c446_2, e446, hx446_0, hx446_1, hx446_2, hl446_2, hi446_2⟩ := at_T65 HR0_0.out 0 p446 q446; cases e446; have qi446 : (0 < l0_0.length) = True := eq_true (by omega); (try rw [show ((0 : Int)).toNat = 0 from rfl] at hx446_0); (try rw [show 0 * 3 = 0 from rfl] at hx446_0); (try rw [Addr.add_zero'] at hx446_0); (try rw [show ((0 : Int)).toNat = 0 from rfl] at hx446_1); (try rw [show 0 * 3 = 0 from rfl] at hx446_1); (try rw [Addr.add_zero'] at hx446_1); (try rw [show ((0 : Int)).toNat = 0 from rfl] at hx446_2); (try rw [show 0 * 3 = 0 from rfl] at hx446_2); (try rw [Addr.add_zero'] at hx446_2); replace hx446_0 := pc_ HB.out hx446_0; replace hx446_1 := pc_ HB.out hx446_1; replace hx446_2 := pc_ HB.out hx446_2; have HR446_2 := Aside0.mk hi446_2; have HC446_2 := Aside0.mk hl446_2; clear hi446_2 hl446_2; replace p446 := eq_true p446; replace q446 := eq_true q446) | ((with_reducible refine gate_callee (f := 72) rfl ?_); refine gl_ 90 Try.func72 #[.slice Ao30 t424.length co30, .int .i64 ((rd_T65 l0_0 0).f0)] rfl ma_ ?_; (with_reducible refine (impl_storeOf.calls k3 _ _ t424 ((rd_T65 l0_0 0).f0) t447 t450 _ ?side1 ?side2 A57.out).mono ?_); (case side1 => exact cs_ ((Kd.N_reads' HO_5.out).2.2)); (case side2 => exact (Kd.N_reads' HO_5.out).2.1); rintro e w73 ⟨v448, rfl, ho0, hb⟩; refine ⟨_, rfl, ?_⟩; have HO449 := Aside0.mk (Kd.N_lower (Kd.N_mono (ok' := fun k_ => some k_ ≠ (.slice Ao30 t424.length co30 : Value).ownBlock ∧ some k_ ≠ (.slice Ao70 x6_3.length co70 : Value).ownBlock ∧ some k_ ≠ (.slice Ao30 t424.length co30 : Value).ownBlock ∧ k_ ≠ gb417) (Kd.S_N (Kd.S_bound ho0)) (fun k_ hk_ => ⟨(Kd.fresh' (Kd.N_lt (nF_ HO_5.out)) k_ hk_.2.1), (Kd.fresh' (Kd.N_lt (nF_ HO_6.out)) k_ hk_.2.1), (Kd.fresh' (Kd.N_lt (nF_ HO_45.out)) k_ hk_.2.1), (Kd.freshB (g := gb417) (o := .cells #[.slice (some ad446) l0_0.length c0_0, .int .i64 a0_1] 24 (0, 0)) (kb_ BK417.out) k_ hk_.2.1)⟩)) (below_size (hs_ GE417.out))); replace HO_5 := Aside0.mk (Kd.N_elder' (nF_ HO_5.out) (Kd.N_base (Kd.S_N ho0)) hb); replace HO_6 := Aside0.mk (Kd.N_elder' (nF_ HO_6.out) (Kd.N_base (Kd.S_N ho0)) hb); replace HO_45 := Aside0.mk (Kd.N_elder' (nF_ HO_45.out) (Kd.N_base (Kd.S_N ho0)) hb); replace BK417 := bK_ BK417 hb; replace HB := nc_ GE417 hb; (try clear hb); (try clear hb2); (try clear hk); (try clear hi); (try clear ho0)) | ((with_reducible refine gate_dst (N := 9) rfl ?_); (try (refine gate_guard (by rfl) ?_; dsimp only)); refine bq_ (N := 9) #[.slice none 0 0, .int .i64 0] 24 ?_; intro gb451 hg w74 BK451 hb; replace HO_5 := Aside0.mk (Kd.N_below (Kd.N_elderB (nF_ HO_5.out) gb451 (Nat.le_of_eq hg.symm)) hb); replace HO_6 := Aside0.mk (Kd.N_below (Kd.N_elderB (nF_ HO_6.out) gb451 (Nat.le_of_eq hg.symm)) hb); replace HO_45 := Aside0.mk (Kd.N_below (Kd.N_elderB (nF_ HO_45.out) gb451 (Nat.le_of_eq hg.symm)) hb); replace HO449 := Aside0.mk (Kd.N_below (Kd.N_elderB (nF_ HO449.out) gb451 (Nat.le_of_eq hg.symm)) hb); have GE451 := ge1_ hg GE417; replace HB := nc_ GE417 hb; have NB417_451 := nl_ BK417 hg; have NB451_417 := ng_ BK417 hg; replace BK417 := bK_ BK417 hb; clear hb hg; obtain ⟨Ao75, co75, eo75⟩ := Kd.N_slice HO449.out; subst eo75; have hnb76 := NB451_417.out; have hnc76 := NB417_451.out; obtain ⟨hcz77_0, hcz77_1, hfz77_0, hfz77_1⟩ := cf2_ BK451.out; obtain ⟨hcz78_0, hcz78_1, hfz78_0, hfz78_1⟩ := cf2_ BK417.out))
         go_ret
         exact ⟨er_, hs2_ GE417.out GE451.out⟩
        have c58b0 : (t450 == a0_1) = true := beq_iff_eq.mpr c58
        have c58b1 : (t450 != a0_1) = false := bne_eq_false_iff_eq.mpr c58
        clear c58
        replace H := bnd_ H
        obtain ⟨t452, A59, H⟩ := H
        obtain rfl := Option.some.inj H
        obtain ⟨Ao60, co60, eo60⟩ := Kd.N_slice HO_6.out
        subst eo60
        go_wp2_with (first | ((with_reducible refine gate_callee (f := 90) rfl ?_); refine gl_ 82 Try.func90 #[.slice Ao60 x6_3.length co60] rfl ma_ ?_; (with_reducible refine (impl_isLog.calls k3 _ _ x6_3 true _ ?side1 ?side2 A54.out).mono ?_); (case side1 => exact cs_ ((Kd.N_reads' HO_6.out).2.2)); (case side2 => exact (Kd.N_reads' HO_6.out).2.1); rintro e w61 ⟨rfl, hb⟩; refine ⟨_, rfl, ?_⟩; replace HO_5 := Aside0.mk (Kd.N_below (nF_ HO_5.out) hb); replace HO_6 := Aside0.mk (Kd.N_below (nF_ HO_6.out) hb); replace HO_45 := Aside0.mk (Kd.N_below (nF_ HO_45.out) hb); replace BK417 := bK_ BK417 hb; replace HB := nc_ GE417 hb; (try clear hb); (try clear hb2); (try clear hk); (try clear hi); obtain ⟨hcz62_0, hcz62_1, hfz62_0, hfz62_1⟩ := cf2_ BK417.out; have p446 : 0 ≤ (0 : Int) := (by omega); have q446 : 0 < (l0_0.length : Int) := oa_; obtain ⟨ad446, A446_2, c446_2, e446, hx446_0, hx446_1, hx446_2, hl446_2, hi446_2⟩ := at_T65 HR0_0.out 0 p446 q446; cases e446; have qi446 : (0 < l0_0.length) = True := eq_true (by omega); (try rw [show ((0 : Int)).toNat = 0 from rfl] at hx446_0); (try rw [show 0 * 3 = 0 from rfl] at hx446_0); (try rw [Addr.add_zero'] at hx446_0); (try rw [show ((0 : Int)).toNat = 0 from rfl] at hx446_1); (try rw [show 0 * 3 = 0 from rfl] at hx446_1); (try rw [Addr.add_zero'] at hx446_1); (try rw [show ((0 : Int)).toNat = 0 from rfl] at hx446_2); (try rw [show 0 * 3 = 0 from rfl] at hx446_2); (try rw [Addr.add_zero'] at hx446_2); replace hx446_0 := pc_ HB.out hx446_0; replace hx446_1 := pc_ HB.out hx446_1; replace hx446_2 := pc_ HB.out hx446_2; have HR446_2 := Aside0.mk hi446_2; have HC446_2 := Aside0.mk hl446_2; clear hi446_2 hl446_2; replace p446 := eq_true p446; replace q446 := eq_true q446) | ((with_reducible refine gate_callee (f := 72) rfl ?_); refine gl_ 90 Try.func72 #[.slice Ao30 t424.length co30, .int .i64 ((rd_T65 l0_0 0).f0)] rfl ma_ ?_; (with_reducible refine (impl_storeOf.calls k3 _ _ t424 ((rd_T65 l0_0 0).f0) t447 t450 _ ?side1 ?side2 A57.out).mono ?_); (case side1 => exact cs_ ((Kd.N_reads' HO_5.out).2.2)); (case side2 => exact (Kd.N_reads' HO_5.out).2.1); rintro e w63 ⟨v448, rfl, ho0, hb⟩; refine ⟨_, rfl, ?_⟩; have HO449 := Aside0.mk (Kd.N_lower (Kd.N_mono (ok' := fun k_ => some k_ ≠ (.slice Ao30 t424.length co30 : Value).ownBlock ∧ some k_ ≠ (.slice Ao60 x6_3.length co60 : Value).ownBlock ∧ some k_ ≠ (.slice Ao30 t424.length co30 : Value).ownBlock ∧ k_ ≠ gb417) (Kd.S_N (Kd.S_bound ho0)) (fun k_ hk_ => ⟨(Kd.fresh' (Kd.N_lt (nF_ HO_5.out)) k_ hk_.2.1), (Kd.fresh' (Kd.N_lt (nF_ HO_6.out)) k_ hk_.2.1), (Kd.fresh' (Kd.N_lt (nF_ HO_45.out)) k_ hk_.2.1), (Kd.freshB (g := gb417) (o := .cells #[.slice (some ad446) l0_0.length c0_0, .int .i64 a0_1] 24 (0, 0)) (kb_ BK417.out) k_ hk_.2.1)⟩)) (below_size (hs_ GE417.out))); replace HO_5 := Aside0.mk (Kd.N_elder' (nF_ HO_5.out) (Kd.N_base (Kd.S_N ho0)) hb); replace HO_6 := Aside0.mk (Kd.N_elder' (nF_ HO_6.out) (Kd.N_base (Kd.S_N ho0)) hb); replace HO_45 := Aside0.mk (Kd.N_elder' (nF_ HO_45.out) (Kd.N_base (Kd.S_N ho0)) hb); replace BK417 := bK_ BK417 hb; replace HB := nc_ GE417 hb; (try clear hb); (try clear hb2); (try clear hk); (try clear hi); (try clear ho0)) | ((with_reducible refine gate_dst (N := 9) rfl ?_); (try (refine gate_guard (by rfl) ?_; dsimp only)); refine bq_ (N := 9) #[.slice none 0 0, .int .i64 0] 24 ?_; intro gb451 hg w64 BK451 hb; replace HO_5 := Aside0.mk (Kd.N_below (Kd.N_elderB (nF_ HO_5.out) gb451 (Nat.le_of_eq hg.symm)) hb); replace HO_6 := Aside0.mk (Kd.N_below (Kd.N_elderB (nF_ HO_6.out) gb451 (Nat.le_of_eq hg.symm)) hb); replace HO_45 := Aside0.mk (Kd.N_below (Kd.N_elderB (nF_ HO_45.out) gb451 (Nat.le_of_eq hg.symm)) hb); replace HO449 := Aside0.mk (Kd.N_below (Kd.N_elderB (nF_ HO449.out) gb451 (Nat.le_of_eq hg.symm)) hb); have GE451 := ge1_ hg GE417; replace HB := nc_ GE417 hb; have NB417_451 := nl_ BK417 hg; have NB451_417 := ng_ BK417 hg; replace BK417 := bK_ BK417 hb; clear hb hg; obtain ⟨Ao65, co65, eo65⟩ := Kd.N_slice HO449.out; subst eo65; have hnb66 := NB451_417.out; have hnc66 := NB417_451.out; obtain ⟨hcz67_0, hcz67_1, hfz67_0, hfz67_1⟩ := cf2_ BK451.out; obtain ⟨hcz68_0, hcz68_1, hfz68_0, hfz68_1⟩ := cf2_ BK417.out) | ((with_reducible refine gate_callee (f := 101) rfl ?_); refine gl_ 100 Try.func101 #[.slice Ao65 t447.length co65, .slice (some ad446) l0_0.length c0_0, .func (.func 102) #[] #[]] rfl ma_ ?_; (with_reducible refine (slices_EqualFunc_Segment.calls k3 _ _ t447 _ _ l0_0 t452 _ ?side1 ?side2 ?side3 ?side4 A59.out).mono ?_); (case side1 => refine (Kd.N_reads' (e := 65) (base := w.heap.size) (ok := fun k_ => ((some k_ ≠ (.slice Ao30 t424.length co30 : Value).ownBlock ∧ (some k_ ≠ (.slice Ao60 x6_3.length co60 : Value).ownBlock ∧ (some k_ ≠ (.slice Ao30 t424.length co30 : Value).ownBlock ∧ k_ ≠ gb417))) ∧ k_ ≠ gb451)) (n := t447.length) (c := co65) ?_).2.2; exact ((Kd.N_mono (nF_ (Kd.N_mono HO449.out (fun k_ hk => (⟨hk, hk.2⟩ : _ ∧ k_ ≠ gb451)))) (fun _ h_ => h_.1)))); (case side2 => exact (Kd.N_reads' HO449.out).2.1); (case side3 => exact Kd.C_below HR0_0.out (hs2_ GE417.out GE451.out)); (case side4 => exact HC0_0.out); rintro e w69 ⟨rfl, hb⟩; refine ⟨_, rfl, ?_⟩; replace HO_5 := Aside0.mk (Kd.N_below ((Kd.N_mono (nF_ (Kd.N_mono HO_5.out (fun k_ hk => (⟨hk, hk.2⟩ : _ ∧ k_ ≠ gb451)))) (fun _ h_ => h_.1))) hb); replace HO_6 := Aside0.mk (Kd.N_below ((Kd.N_mono (nF_ (Kd.N_mono HO_6.out (fun k_ hk => (⟨hk, hk.2⟩ : _ ∧ k_ ≠ gb451)))) (fun _ h_ => h_.1))) hb); replace HO_45 := Aside0.mk (Kd.N_below ((Kd.N_mono (nF_ (Kd.N_mono HO_45.out (fun k_ hk => (⟨hk, hk.2⟩ : _ ∧ k_ ≠ gb451)))) (fun _ h_ => h_.1))) hb); replace HO449 := Aside0.mk (Kd.N_below ((Kd.N_mono (nF_ (Kd.N_mono HO449.out (fun k_ hk => (⟨hk, hk.2⟩ : _ ∧ k_ ≠ gb451)))) (fun _ h_ => h_.1))) hb); replace BK417 := Aside0.mk (blk_below (g := gb417) (o := .cells #[.slice (some ad446) l0_0.length c0_0, .int .i64 a0_1] 24 (0, 0)) (uf_ BK417 NB417_451.out) hb); replace BK451 := Aside0.mk (blk_below (g := gb451) (o := .cells #[.slice Ao65 t447.length co65, .int .i64 t450] 24 (0, 0)) (up_ BK451) hb); replace HB := nc2_ GE417 GE451 hb; (try clear hb); (try clear hb2); (try clear hk); (try clear hi)))
        go_ret
        exact ⟨er_, hs2_ GE417.out GE451.out⟩
       have c31b0 := decide_eq_true c31
       clear c31
       replace H := ifs_ H
       obtain ⟨c32, H⟩ := H
       have c32b0 := decide_eq_true c32
       clear c32
       replace H := ifs_ H
       obtain ⟨c33, H⟩ := H
       have c33b0 := decide_eq_true c33
       clear c33
       replace H := ite_ H
       obtain ⟨c34, H⟩ | ⟨c34, H⟩ := H
       rotate_left
       ·have c34b0 : (((rd_L13 t424 x47_3).length : Int) == 0) = false := beq_eq_false_iff_ne.mpr c34
        have c34b1 : (((rd_L13 t424 x47_3).length : Int) != 0) = true := bne_iff_ne.mpr c34
        have c34b2 : ¬ ((rd_L13 t424 x47_3) = []) := fun h_ => c34 (by rw [h_]; rfl)
        replace H := ite_ H
        obtain ⟨c45, H⟩ | ⟨c45, H⟩ := H
        rotate_left
        ·have c45b0 := dgf_ c45
         have c45b1 : decide (1 < (rd_L13 t424 x47_3).length) = false := decide_eq_false (by omega)
         clear c45
         replace H := ifs_ H
         obtain ⟨c52, H⟩ := H
         have LMc52 := Aside0.mk c52
         clear c52
         obtain ⟨y442, hy442⟩ : ∃ y_ : List (S43), y_ = (x6_3 ++ (rd_L13 t424 x47_3)) := ⟨_, rfl⟩
         replace H : (impl_isStore.l1 k3 t424 y442 t424 (t424.length : Int) (wrap64 (x47_3 + 1)) l0_0 a0_1) = some r := by first | (rw [hy442]; with_reducible exact H) | (have H2_ := (Option.bind_some _ _).symm.trans H; rw [hy442]; with_reducible exact H2_) | (have H2_ := (Option.bind_some _ _).symm.trans H; with_reducible exact H2_) | with_reducible exact H | (rw [hy442]; exact H) | exact H
         have Ny442 := Aside0.mk hy442
         clear hy442
         have H' := Aside0.mk H
         clear H
         have p430 : 0 ≤ (x47_3 : Int) := oa_
         have q430 : x47_3 < (t424.length : Int) := oa_
         obtain ⟨ad430, A430_0, c430_0, e430, hx430_0, hl430_0, hi430_0⟩ := at_L13 (Kd.N_reads' HO_45.out).2.2 x47_3 p430 q430
         cases e430
         obtain ⟨ce430, hce430, hMe430, hcc430⟩ := Kd.N_get HO_45.out [] x47_3 p430 (by first | exact q430 | exact oa_ | (have e_ := (Kd.N_reads' HO_45.out).1; omega))
         obtain ⟨ua430_0, uc430_0, rfl, ul430_0, ge430_0⟩ := Kd.FK_slice_open hMe430
         have hv430_0 := hcc430 0 _ rfl
         rw [Nat.add_zero, show ((Kd.slice 43 k43)).sz = 1 from rfl, Nat.mul_one] at hv430_0
         replace hv430_0 := Option.some.inj (hv430_0.symm.trans hx430_0)
         injection hv430_0 with hva_ hvn_ hvc_
         rw [hva_] at ge430_0
         rw [hvc_] at ul430_0
         have HL430_0 := Aside0.mk (show Kd.V k43 43 _ w.heap.size _ _ (rd_L13 t424 x47_3) from Kd.V_mk ul430_0 ge430_0)
         clear hva_ hvn_ hvc_ ge430_0 ul430_0
         clear hcc430 hce430
         have HR430_0 := Aside0.mk hi430_0
         have HC430_0 := Aside0.mk hl430_0
         clear hi430_0 hl430_0
         replace p430 := eq_true p430
         replace q430 := eq_true q430
         go_wp2_with (first | ((with_reducible refine gate_builtin (b := .append) (xs := #[.tmp 77, .tmp 78]) rfl ?_); (try (refine gate_guard (by rfl) ?_; dsimp only)); at_builtin; refine Kd.N_append_rows k43 (w0 := w) w.heap.size rfl (.tmp 77) (.tmp 78) 48 43 (.agg #[(.int .i64 0), (.int .i64 0), (.int .i64 0), (.int .i64 0), (.slice none 0 0)]) 56 rfl Try.underlying48 info43 rfl (by decide) (by omega) u6 x6_3 (rd_L13 t424 x47_3) _ _ _ (fun k_ => some k_ ≠ (.slice (some ad430) t424.length co30 : Value).ownBlock ∧ k_ ≠ gb417) (fun k_ => ((fun k_ => some k_ ≠ (.slice (some ad430) t424.length co30 : Value).ownBlock ∧ k_ ≠ gb417)) k_ ∧ some k_ ≠ (u6 : Value).ownBlock) rfl rfl ?aO ?aR (fun _ hk => hk) ?aF ?aB ?aS ?aL ?_; (case aR => exact (by skip; exact Kd.V_F (Kd.V_mono (ok' := (fun k_ => ((fun k_ => some k_ ≠ (.slice (some ad430) t424.length co30 : Value).ownBlock ∧ k_ ≠ gb417)) k_ ∧ some k_ ≠ (u6 : Value).ownBlock)) (HL430_0.out) (fun k_ hk => ⟨⟨hk.2, hk.1.2⟩, hk.1.1⟩)))); (case aB => exact (hs_ GE417.out)); (case aF => exact (fun k_ hk => ⟨Kd.fresh' (Kd.N_lt (nF_ HO_45.out)) k_ hk, Kd.freshB (g := gb417) (o := .cells #[.slice A0_0 l0_0.length c0_0, .int .i64 a0_1] 24 (0, 0)) (kb_ BK417.out) k_ hk⟩)); (case aO => exact (nF_ HO_6.out)); (case aS => exact (below_size (hs_ GE417.out))); (case aL => have := LMc52.out; omega); intro v443 w53 ho hb hg hat; rw [← Ny442.out] at ho; replace HO_5 := Aside0.mk (Kd.N_afterv (ok := (fun k_ => k_ ≠ gb417)) (nF_ (Kd.N_mono HO_5.out (fun _ hk => ⟨hk.2, hk.1⟩))) hg hat); replace HO_45 := Aside0.mk (Kd.N_afterv (ok := (fun k_ => k_ ≠ gb417)) (nF_ (Kd.N_mono HO_45.out (fun _ hk => ⟨hk.2, hk.1⟩))) hg hat); replace BK417 := Aside0.mk (blk_grown (g := gb417) (o := .cells #[.slice A0_0 l0_0.length c0_0, .int .i64 a0_1] 24 (0, 0)) (kb_ BK417.out) hg (Kd.N_ne HO_6.out BK417.out (by decide))); replace HL430_0 := Aside0.mk (Kd.V_afterv (ok := (fun k_ => some k_ ≠ (.slice (some ad430) t424.length co30 : Value).ownBlock ∧ k_ ≠ gb417)) (vF_ (Kd.V_mono HL430_0.out (fun _ hk => ⟨⟨hk.2, hk.1.2⟩, hk.1.1⟩))) hg hat); replace HB := Aside0.mk (hb); have HO444 := Aside0.mk (ho); clear HO_6; clear ho hb hg hat))
         go_roundg k3
         case measure => have := HJ1.out; have := HK2.out; have := HK3.out; omega
         case rel => exact ⟨(y442), (wrap64 (x47_3 + 1)), sr_, H', ⟨by have := HJ1.out; have := HK2.out; have := HK3.out; omega⟩, ⟨nF_ (Kd.N_mono HO_5.out (fun _ hk => ⟨hk.2, hk.1⟩))⟩, ⟨nF_ HO444.out⟩, ⟨nF_ (Kd.N_mono HO_45.out (fun _ hk => ⟨hk.2, hk.1⟩))⟩, ⟨kb_ BK417.out⟩, ⟨hs_ GE417.out⟩⟩
        have c45b0 := dgt_ c45
        have c45b1 : decide (1 < (rd_L13 t424 x47_3).length) = true := decide_eq_true (by omega)
        clear c45
        replace H := ifs_ H
        obtain ⟨c46, H⟩ := H
        have c46b0 := decide_eq_true c46
        clear c46
        replace H := ite_ H
        obtain ⟨c47, H⟩ | ⟨c47, H⟩ := H
        ·have c47b0 := dgt_ c47
         have c47b1 : decide (120 < ((rd_T65 l0_0 x47_3).f1).size) = true := decide_eq_true (by omega)
         clear c47
         obtain rfl := Option.some.inj H
         have p430 : 0 ≤ (x47_3 : Int) := oa_
         have q430 : x47_3 < (t424.length : Int) := oa_
         obtain ⟨ad430, A430_0, c430_0, e430, hx430_0, hl430_0, hi430_0⟩ := at_L13 (Kd.N_reads' HO_45.out).2.2 x47_3 p430 q430
         cases e430
         obtain ⟨ce430, hce430, hMe430, hcc430⟩ := Kd.N_get HO_45.out [] x47_3 p430 (by first | exact q430 | exact oa_ | (have e_ := (Kd.N_reads' HO_45.out).1; omega))
         obtain ⟨ua430_0, uc430_0, rfl, ul430_0, ge430_0⟩ := Kd.FK_slice_open hMe430
         have hv430_0 := hcc430 0 _ rfl
         rw [Nat.add_zero, show ((Kd.slice 43 k43)).sz = 1 from rfl, Nat.mul_one] at hv430_0
         replace hv430_0 := Option.some.inj (hv430_0.symm.trans hx430_0)
         injection hv430_0 with hva_ hvn_ hvc_
         rw [hva_] at ge430_0
         rw [hvc_] at ul430_0
         have HL430_0 := Aside0.mk (show Kd.V k43 43 _ w.heap.size _ _ (rd_L13 t424 x47_3) from Kd.V_mk ul430_0 ge430_0)
         clear hva_ hvn_ hvc_ ge430_0 ul430_0
         clear hcc430 hce430
         have HR430_0 := Aside0.mk hi430_0
         have HC430_0 := Aside0.mk hl430_0
         clear hi430_0 hl430_0
         replace p430 := eq_true p430
         replace q430 := eq_true q430
         obtain ⟨hcz48_0, hcz48_1, hfz48_0, hfz48_1⟩ := cf2_ BK417.out
         have p438 : 0 ≤ (x47_3 : Int) := oa_
         have q438 : x47_3 < (l0_0.length : Int) := oa_
         obtain ⟨ad438, A438_2, c438_2, e438, hx438_0, hx438_1, hx438_2, hl438_2, hi438_2⟩ := at_T65 HR0_0.out x47_3 p438 q438
         cases e438
         replace hx438_0 := pc_ HB.out hx438_0
         replace hx438_1 := pc_ HB.out hx438_1
         replace hx438_2 := pc_ HB.out hx438_2
         have HR438_2 := Aside0.mk hi438_2
         have HC438_2 := Aside0.mk hl438_2
         clear hi438_2 hl438_2
         replace p438 := eq_true p438
         replace q438 := eq_true q438
         go_wp2
         go_ret
         exact ⟨er_, hs_ GE417.out⟩
        have c47b0 := dgf_ c47
        have c47b1 : decide (120 < ((rd_T65 l0_0 x47_3).f1).size) = false := decide_eq_false (by omega)
        clear c47
        replace H := ifs_ H
        obtain ⟨c49, H⟩ := H
        have LMc49 := Aside0.mk c49
        clear c49
        obtain ⟨y439, hy439⟩ : ∃ y_ : List (S43), y_ = (x6_3 ++ (rd_L13 t424 x47_3)) := ⟨_, rfl⟩
        replace H : (impl_isStore.l1 k3 t424 y439 t424 (t424.length : Int) (wrap64 (x47_3 + 1)) l0_0 a0_1) = some r := by first | (rw [hy439]; with_reducible exact H) | (have H2_ := (Option.bind_some _ _).symm.trans H; rw [hy439]; with_reducible exact H2_) | (have H2_ := (Option.bind_some _ _).symm.trans H; with_reducible exact H2_) | with_reducible exact H | (rw [hy439]; exact H) | exact H
        have Ny439 := Aside0.mk hy439
        clear hy439
        have H' := Aside0.mk H
        clear H
        have p430 : 0 ≤ (x47_3 : Int) := oa_
        have q430 : x47_3 < (t424.length : Int) := oa_
        obtain ⟨ad430, A430_0, c430_0, e430, hx430_0, hl430_0, hi430_0⟩ := at_L13 (Kd.N_reads' HO_45.out).2.2 x47_3 p430 q430
        cases e430
        obtain ⟨ce430, hce430, hMe430, hcc430⟩ := Kd.N_get HO_45.out [] x47_3 p430 (by first | exact q430 | exact oa_ | (have e_ := (Kd.N_reads' HO_45.out).1; omega))
        obtain ⟨ua430_0, uc430_0, rfl, ul430_0, ge430_0⟩ := Kd.FK_slice_open hMe430
        have hv430_0 := hcc430 0 _ rfl
        rw [Nat.add_zero, show ((Kd.slice 43 k43)).sz = 1 from rfl, Nat.mul_one] at hv430_0
        replace hv430_0 := Option.some.inj (hv430_0.symm.trans hx430_0)
        injection hv430_0 with hva_ hvn_ hvc_
        rw [hva_] at ge430_0
        rw [hvc_] at ul430_0
        have HL430_0 := Aside0.mk (show Kd.V k43 43 _ w.heap.size _ _ (rd_L13 t424 x47_3) from Kd.V_mk ul430_0 ge430_0)
        clear hva_ hvn_ hvc_ ge430_0 ul430_0
        clear hcc430 hce430
        have HR430_0 := Aside0.mk hi430_0
        have HC430_0 := Aside0.mk hl430_0
        clear hi430_0 hl430_0
        replace p430 := eq_true p430
        replace q430 := eq_true q430
        obtain ⟨hcz50_0, hcz50_1, hfz50_0, hfz50_1⟩ := cf2_ BK417.out
        have p438 : 0 ≤ (x47_3 : Int) := oa_
        have q438 : x47_3 < (l0_0.length : Int) := oa_
        obtain ⟨ad438, A438_2, c438_2, e438, hx438_0, hx438_1, hx438_2, hl438_2, hi438_2⟩ := at_T65 HR0_0.out x47_3 p438 q438
        cases e438
        replace hx438_0 := pc_ HB.out hx438_0
        replace hx438_1 := pc_ HB.out hx438_1
        replace hx438_2 := pc_ HB.out hx438_2
        have HR438_2 := Aside0.mk hi438_2
        have HC438_2 := Aside0.mk hl438_2
        clear hi438_2 hl438_2
        replace p438 := eq_true p438
        replace q438 := eq_true q438
        go_wp2_with (first | ((with_reducible refine gate_builtin (b := .append) (xs := #[.tmp 77, .tmp 78]) rfl ?_); (try (refine gate_guard (by rfl) ?_; dsimp only)); at_builtin; refine Kd.N_append_rows k43 (w0 := w) w.heap.size rfl (.tmp 77) (.tmp 78) 48 43 (.agg #[(.int .i64 0), (.int .i64 0), (.int .i64 0), (.int .i64 0), (.slice none 0 0)]) 56 rfl Try.underlying48 info43 rfl (by decide) (by omega) u6 x6_3 (rd_L13 t424 x47_3) _ _ _ (fun k_ => some k_ ≠ (.slice (some ad430) t424.length co30 : Value).ownBlock ∧ k_ ≠ gb417) (fun k_ => ((fun k_ => some k_ ≠ (.slice (some ad430) t424.length co30 : Value).ownBlock ∧ k_ ≠ gb417)) k_ ∧ some k_ ≠ (u6 : Value).ownBlock) rfl rfl ?aO ?aR (fun _ hk => hk) ?aF ?aB ?aS ?aL ?_; (case aR => exact (by skip; exact Kd.V_F (Kd.V_mono (ok' := (fun k_ => ((fun k_ => some k_ ≠ (.slice (some ad430) t424.length co30 : Value).ownBlock ∧ k_ ≠ gb417)) k_ ∧ some k_ ≠ (u6 : Value).ownBlock)) (HL430_0.out) (fun k_ hk => ⟨⟨hk.2, hk.1.2⟩, hk.1.1⟩)))); (case aB => exact (hs_ GE417.out)); (case aF => exact (fun k_ hk => ⟨Kd.fresh' (Kd.N_lt (nF_ HO_45.out)) k_ hk, Kd.freshB (g := gb417) (o := .cells #[.slice (some ad438) l0_0.length c0_0, .int .i64 a0_1] 24 (0, 0)) (kb_ BK417.out) k_ hk⟩)); (case aO => exact (nF_ HO_6.out)); (case aS => exact (below_size (hs_ GE417.out))); (case aL => have := LMc49.out; omega); intro v440 w51 ho hb hg hat; rw [← Ny439.out] at ho; replace HO_5 := Aside0.mk (Kd.N_afterv (ok := (fun k_ => k_ ≠ gb417)) (nF_ (Kd.N_mono HO_5.out (fun _ hk => ⟨hk.2, hk.1⟩))) hg hat); replace HO_45 := Aside0.mk (Kd.N_afterv (ok := (fun k_ => k_ ≠ gb417)) (nF_ (Kd.N_mono HO_45.out (fun _ hk => ⟨hk.2, hk.1⟩))) hg hat); replace BK417 := Aside0.mk (blk_grown (g := gb417) (o := .cells #[.slice (some ad438) l0_0.length c0_0, .int .i64 a0_1] 24 (0, 0)) (kb_ BK417.out) hg (Kd.N_ne HO_6.out BK417.out (by decide))); replace HL430_0 := Aside0.mk (Kd.V_afterv (ok := (fun k_ => some k_ ≠ (.slice (some ad430) t424.length co30 : Value).ownBlock ∧ k_ ≠ gb417)) (vF_ (Kd.V_mono HL430_0.out (fun _ hk => ⟨⟨hk.2, hk.1.2⟩, hk.1.1⟩))) hg hat); replace HB := Aside0.mk (hb); have HO441 := Aside0.mk (ho); clear HO_6; clear ho hb hg hat))
        go_roundg k3
        case measure => have := HJ1.out; have := HK2.out; have := HK3.out; omega
        case rel => exact ⟨(y439), (wrap64 (x47_3 + 1)), sr_, H', ⟨by have := HJ1.out; have := HK2.out; have := HK3.out; omega⟩, ⟨nF_ (Kd.N_mono HO_5.out (fun _ hk => ⟨hk.2, hk.1⟩))⟩, ⟨nF_ HO441.out⟩, ⟨nF_ (Kd.N_mono HO_45.out (fun _ hk => ⟨hk.2, hk.1⟩))⟩, ⟨kb_ BK417.out⟩, ⟨hs_ GE417.out⟩⟩
       have c34b0 : (((rd_L13 t424 x47_3).length : Int) == 0) = true := beq_iff_eq.mpr c34
       have c34b1 : (((rd_L13 t424 x47_3).length : Int) != 0) = false := bne_eq_false_iff_eq.mpr c34
       clear c34
       replace H := ite_ H
       obtain ⟨c35, H⟩ | ⟨c35, H⟩ := H
       ·have c35b0 := decide_eq_true c35
        clear c35
        obtain rfl := Option.some.inj H
        have p430 : 0 ≤ (x47_3 : Int) := oa_
        have q430 : x47_3 < (t424.length : Int) := oa_
        obtain ⟨ad430, A430_0, c430_0, e430, hx430_0, hl430_0, hi430_0⟩ := at_L13 (Kd.N_reads' HO_45.out).2.2 x47_3 p430 q430
        cases e430
        obtain ⟨ce430, hce430, hMe430, hcc430⟩ := Kd.N_get HO_45.out [] x47_3 p430 (by first | exact q430 | exact oa_ | (have e_ := (Kd.N_reads' HO_45.out).1; omega))
        obtain ⟨ua430_0, uc430_0, rfl, ul430_0, ge430_0⟩ := Kd.FK_slice_open hMe430
        have hv430_0 := hcc430 0 _ rfl
        rw [Nat.add_zero, show ((Kd.slice 43 k43)).sz = 1 from rfl, Nat.mul_one] at hv430_0
        replace hv430_0 := Option.some.inj (hv430_0.symm.trans hx430_0)
        injection hv430_0 with hva_ hvn_ hvc_
        rw [hva_] at ge430_0
        rw [hvc_] at ul430_0
        have HL430_0 := Aside0.mk (show Kd.V k43 43 _ w.heap.size _ _ (rd_L13 t424 x47_3) from Kd.V_mk ul430_0 ge430_0)
        clear hva_ hvn_ hvc_ ge430_0 ul430_0
        clear hcc430 hce430
        have HR430_0 := Aside0.mk hi430_0
        have HC430_0 := Aside0.mk hl430_0
        clear hi430_0 hl430_0
        replace p430 := eq_true p430
        replace q430 := eq_true q430
        go_wp2
        go_ret
        exact ⟨er_, hs_ GE417.out⟩
       have c35b0 := decide_eq_false c35
       clear c35
       replace H := ite_ H
       obtain ⟨c36, H⟩ | ⟨c36, H⟩ := H
       rotate_left
       ·have c36b0 := dgf_ c36
        have c36b1 : decide (1 < (rd_L13 t424 x47_3).length) = false := decide_eq_false (by omega)
        clear c36
        replace H := ifs_ H
        obtain ⟨c43, H⟩ := H
        have LMc43 := Aside0.mk c43
        clear c43
        obtain ⟨y435, hy435⟩ : ∃ y_ : List (S43), y_ = (x6_3 ++ (rd_L13 t424 x47_3)) := ⟨_, rfl⟩
        replace H : (impl_isStore.l1 k3 t424 y435 t424 (t424.length : Int) (wrap64 (x47_3 + 1)) l0_0 a0_1) = some r := by first | (rw [hy435]; with_reducible exact H) | (have H2_ := (Option.bind_some _ _).symm.trans H; rw [hy435]; with_reducible exact H2_) | (have H2_ := (Option.bind_some _ _).symm.trans H; with_reducible exact H2_) | with_reducible exact H | (rw [hy435]; exact H) | exact H
        have Ny435 := Aside0.mk hy435
        clear hy435
        have H' := Aside0.mk H
        clear H
        have p430 : 0 ≤ (x47_3 : Int) := oa_
        have q430 : x47_3 < (t424.length : Int) := oa_
        obtain ⟨ad430, A430_0, c430_0, e430, hx430_0, hl430_0, hi430_0⟩ := at_L13 (Kd.N_reads' HO_45.out).2.2 x47_3 p430 q430
        cases e430
        obtain ⟨ce430, hce430, hMe430, hcc430⟩ := Kd.N_get HO_45.out [] x47_3 p430 (by first | exact q430 | exact oa_ | (have e_ := (Kd.N_reads' HO_45.out).1; omega))
        obtain ⟨ua430_0, uc430_0, rfl, ul430_0, ge430_0⟩ := Kd.FK_slice_open hMe430
        have hv430_0 := hcc430 0 _ rfl
        rw [Nat.add_zero, show ((Kd.slice 43 k43)).sz = 1 from rfl, Nat.mul_one] at hv430_0
        replace hv430_0 := Option.some.inj (hv430_0.symm.trans hx430_0)
        injection hv430_0 with hva_ hvn_ hvc_
        rw [hva_] at ge430_0
        rw [hvc_] at ul430_0
        have HL430_0 := Aside0.mk (show Kd.V k43 43 _ w.heap.size _ _ (rd_L13 t424 x47_3) from Kd.V_mk ul430_0 ge430_0)
        clear hva_ hvn_ hvc_ ge430_0 ul430_0
        clear hcc430 hce430
        have HR430_0 := Aside0.mk hi430_0
        have HC430_0 := Aside0.mk hl430_0
        clear hi430_0 hl430_0
        replace p430 := eq_true p430
        replace q430 := eq_true q430
        go_wp2_with (first | ((with_reducible refine gate_builtin (b := .append) (xs := #[.tmp 77, .tmp 78]) rfl ?_); (try (refine gate_guard (by rfl) ?_; dsimp only)); at_builtin; refine Kd.N_append_rows k43 (w0 := w) w.heap.size rfl (.tmp 77) (.tmp 78) 48 43 (.agg #[(.int .i64 0), (.int .i64 0), (.int .i64 0), (.int .i64 0), (.slice none 0 0)]) 56 rfl Try.underlying48 info43 rfl (by decide) (by omega) u6 x6_3 (rd_L13 t424 x47_3) _ _ _ (fun k_ => some k_ ≠ (.slice (some ad430) t424.length co30 : Value).ownBlock ∧ k_ ≠ gb417) (fun k_ => ((fun k_ => some k_ ≠ (.slice (some ad430) t424.length co30 : Value).ownBlock ∧ k_ ≠ gb417)) k_ ∧ some k_ ≠ (u6 : Value).ownBlock) rfl rfl ?aO ?aR (fun _ hk => hk) ?aF ?aB ?aS ?aL ?_; (case aR => exact (by skip; exact Kd.V_F (Kd.V_mono (ok' := (fun k_ => ((fun k_ => some k_ ≠ (.slice (some ad430) t424.length co30 : Value).ownBlock ∧ k_ ≠ gb417)) k_ ∧ some k_ ≠ (u6 : Value).ownBlock)) (HL430_0.out) (fun k_ hk => ⟨⟨hk.2, hk.1.2⟩, hk.1.1⟩)))); (case aB => exact (hs_ GE417.out)); (case aF => exact (fun k_ hk => ⟨Kd.fresh' (Kd.N_lt (nF_ HO_45.out)) k_ hk, Kd.freshB (g := gb417) (o := .cells #[.slice A0_0 l0_0.length c0_0, .int .i64 a0_1] 24 (0, 0)) (kb_ BK417.out) k_ hk⟩)); (case aO => exact (nF_ HO_6.out)); (case aS => exact (below_size (hs_ GE417.out))); (case aL => have := LMc43.out; omega); intro v436 w44 ho hb hg hat; rw [← Ny435.out] at ho; replace HO_5 := Aside0.mk (Kd.N_afterv (ok := (fun k_ => k_ ≠ gb417)) (nF_ (Kd.N_mono HO_5.out (fun _ hk => ⟨hk.2, hk.1⟩))) hg hat); replace HO_45 := Aside0.mk (Kd.N_afterv (ok := (fun k_ => k_ ≠ gb417)) (nF_ (Kd.N_mono HO_45.out (fun _ hk => ⟨hk.2, hk.1⟩))) hg hat); replace BK417 := Aside0.mk (blk_grown (g := gb417) (o := .cells #[.slice A0_0 l0_0.length c0_0, .int .i64 a0_1] 24 (0, 0)) (kb_ BK417.out) hg (Kd.N_ne HO_6.out BK417.out (by decide))); replace HL430_0 := Aside0.mk (Kd.V_afterv (ok := (fun k_ => some k_ ≠ (.slice (some ad430) t424.length co30 : Value).ownBlock ∧ k_ ≠ gb417)) (vF_ (Kd.V_mono HL430_0.out (fun _ hk => ⟨⟨hk.2, hk.1.2⟩, hk.1.1⟩))) hg hat); replace HB := Aside0.mk (hb); have HO437 := Aside0.mk (ho); clear HO_6; clear ho hb hg hat))
        go_roundg k3
        case measure => have := HJ1.out; have := HK2.out; have := HK3.out; omega
        case rel => exact ⟨(y435), (wrap64 (x47_3 + 1)), sr_, H', ⟨by have := HJ1.out; have := HK2.out; have := HK3.out; omega⟩, ⟨nF_ (Kd.N_mono HO_5.out (fun _ hk => ⟨hk.2, hk.1⟩))⟩, ⟨nF_ HO437.out⟩, ⟨nF_ (Kd.N_mono HO_45.out (fun _ hk => ⟨hk.2, hk.1⟩))⟩, ⟨kb_ BK417.out⟩, ⟨hs_ GE417.out⟩⟩
       have c36b0 := dgt_ c36
       have c36b1 : decide (1 < (rd_L13 t424 x47_3).length) = true := decide_eq_true (by omega)
       clear c36
       replace H := ifs_ H
       obtain ⟨c37, H⟩ := H
       have c37b0 := decide_eq_true c37
       clear c37
       replace H := ite_ H
       obtain ⟨c38, H⟩ | ⟨c38, H⟩ := H
       ·have c38b0 := dgt_ c38
        have c38b1 : decide (120 < ((rd_T65 l0_0 x47_3).f1).size) = true := decide_eq_true (by omega)
        clear c38
        obtain rfl := Option.some.inj H
        have p430 : 0 ≤ (x47_3 : Int) := oa_
        have q430 : x47_3 < (t424.length : Int) := oa_
        obtain ⟨ad430, A430_0, c430_0, e430, hx430_0, hl430_0, hi430_0⟩ := at_L13 (Kd.N_reads' HO_45.out).2.2 x47_3 p430 q430
        cases e430
        obtain ⟨ce430, hce430, hMe430, hcc430⟩ := Kd.N_get HO_45.out [] x47_3 p430 (by first | exact q430 | exact oa_ | (have e_ := (Kd.N_reads' HO_45.out).1; omega))
        obtain ⟨ua430_0, uc430_0, rfl, ul430_0, ge430_0⟩ := Kd.FK_slice_open hMe430
        have hv430_0 := hcc430 0 _ rfl
        rw [Nat.add_zero, show ((Kd.slice 43 k43)).sz = 1 from rfl, Nat.mul_one] at hv430_0
        replace hv430_0 := Option.some.inj (hv430_0.symm.trans hx430_0)
        injection hv430_0 with hva_ hvn_ hvc_
        rw [hva_] at ge430_0
        rw [hvc_] at ul430_0
        have HL430_0 := Aside0.mk (show Kd.V k43 43 _ w.heap.size _ _ (rd_L13 t424 x47_3) from Kd.V_mk ul430_0 ge430_0)
        clear hva_ hvn_ hvc_ ge430_0 ul430_0
        clear hcc430 hce430
        have HR430_0 := Aside0.mk hi430_0
        have HC430_0 := Aside0.mk hl430_0
        clear hi430_0 hl430_0
        replace p430 := eq_true p430
        replace q430 := eq_true q430
        obtain ⟨hcz39_0, hcz39_1, hfz39_0, hfz39_1⟩ := cf2_ BK417.out
        have p431 : 0 ≤ (x47_3 : Int) := oa_
        have q431 : x47_3 < (l0_0.length : Int) := oa_
        obtain ⟨ad431, A431_2, c431_2, e431, hx431_0, hx431_1, hx431_2, hl431_2, hi431_2⟩ := at_T65 HR0_0.out x47_3 p431 q431
        cases e431
        replace hx431_0 := pc_ HB.out hx431_0
        replace hx431_1 := pc_ HB.out hx431_1
        replace hx431_2 := pc_ HB.out hx431_2
        have HR431_2 := Aside0.mk hi431_2
        have HC431_2 := Aside0.mk hl431_2
        clear hi431_2 hl431_2
        replace p431 := eq_true p431
        replace q431 := eq_true q431
        go_wp2
        go_ret
        exact ⟨er_, hs_ GE417.out⟩
       have c38b0 := dgf_ c38
       have c38b1 : decide (120 < ((rd_T65 l0_0 x47_3).f1).size) = false := decide_eq_false (by omega)
       clear c38
       replace H := ifs_ H
       obtain ⟨c40, H⟩ := H
       have LMc40 := Aside0.mk c40
       clear c40
       obtain ⟨y432, hy432⟩ : ∃ y_ : List (S43), y_ = (x6_3 ++ (rd_L13 t424 x47_3)) := ⟨_, rfl⟩
       replace H : (impl_isStore.l1 k3 t424 y432 t424 (t424.length : Int) (wrap64 (x47_3 + 1)) l0_0 a0_1) = some r := by first | (rw [hy432]; with_reducible exact H) | (have H2_ := (Option.bind_some _ _).symm.trans H; rw [hy432]; with_reducible exact H2_) | (have H2_ := (Option.bind_some _ _).symm.trans H; with_reducible exact H2_) | with_reducible exact H | (rw [hy432]; exact H) | exact H
       have Ny432 := Aside0.mk hy432
       clear hy432
       have H' := Aside0.mk H
       clear H
       have p430 : 0 ≤ (x47_3 : Int) := oa_
       have q430 : x47_3 < (t424.length : Int) := oa_
       obtain ⟨ad430, A430_0, c430_0, e430, hx430_0, hl430_0, hi430_0⟩ := at_L13 (Kd.N_reads' HO_45.out).2.2 x47_3 p430 q430
       cases e430
       obtain ⟨ce430, hce430, hMe430, hcc430⟩ := Kd.N_get HO_45.out [] x47_3 p430 (by first | exact q430 | exact oa_ | (have e_ := (Kd.N_reads' HO_45.out).1; omega))
       obtain ⟨ua430_0, uc430_0, rfl, ul430_0, ge430_0⟩ := Kd.FK_slice_open hMe430
       have hv430_0 := hcc430 0 _ rfl
       rw [Nat.add_zero, show ((Kd.slice 43 k43)).sz = 1 from rfl, Nat.mul_one] at hv430_0
       replace hv430_0 := Option.some.inj (hv430_0.symm.trans hx430_0)
       injection hv430_0 with hva_ hvn_ hvc_
       rw [hva_] at ge430_0
       rw [hvc_] at ul430_0
       have HL430_0 := Aside0.mk (show Kd.V k43 43 _ w.heap.size _ _ (rd_L13 t424 x47_3) from Kd.V_mk ul430_0 ge430_0)
       clear hva_ hvn_ hvc_ ge430_0 ul430_0
       clear hcc430 hce430
       have HR430_0 := Aside0.mk hi430_0
       have HC430_0 := Aside0.mk hl430_0
       clear hi430_0 hl430_0
       replace p430 := eq_true p430
       replace q430 := eq_true q430
       obtain ⟨hcz41_0, hcz41_1, hfz41_0, hfz41_1⟩ := cf2_ BK417.out
       have p431 : 0 ≤ (x47_3 : Int) := oa_
       have q431 : x47_3 < (l0_0.length : Int) := oa_
       obtain ⟨ad431, A431_2, c431_2, e431, hx431_0, hx431_1, hx431_2, hl431_2, hi431_2⟩ := at_T65 HR0_0.out x47_3 p431 q431
       cases e431
       replace hx431_0 := pc_ HB.out hx431_0
       replace hx431_1 := pc_ HB.out hx431_1
       replace hx431_2 := pc_ HB.out hx431_2
       have HR431_2 := Aside0.mk hi431_2
       have HC431_2 := Aside0.mk hl431_2
       clear hi431_2 hl431_2
       replace p431 := eq_true p431
       replace q431 := eq_true q431
       go_wp2_with (first | ((with_reducible refine gate_builtin (b := .append) (xs := #[.tmp 77, .tmp 78]) rfl ?_); (try (refine gate_guard (by rfl) ?_; dsimp only)); at_builtin; refine Kd.N_append_rows k43 (w0 := w) w.heap.size rfl (.tmp 77) (.tmp 78) 48 43 (.agg #[(.int .i64 0), (.int .i64 0), (.int .i64 0), (.int .i64 0), (.slice none 0 0)]) 56 rfl Try.underlying48 info43 rfl (by decide) (by omega) u6 x6_3 (rd_L13 t424 x47_3) _ _ _ (fun k_ => some k_ ≠ (.slice (some ad430) t424.length co30 : Value).ownBlock ∧ k_ ≠ gb417) (fun k_ => ((fun k_ => some k_ ≠ (.slice (some ad430) t424.length co30 : Value).ownBlock ∧ k_ ≠ gb417)) k_ ∧ some k_ ≠ (u6 : Value).ownBlock) rfl rfl ?aO ?aR (fun _ hk => hk) ?aF ?aB ?aS ?aL ?_; (case aR => exact (by skip; exact Kd.V_F (Kd.V_mono (ok' := (fun k_ => ((fun k_ => some k_ ≠ (.slice (some ad430) t424.length co30 : Value).ownBlock ∧ k_ ≠ gb417)) k_ ∧ some k_ ≠ (u6 : Value).ownBlock)) (HL430_0.out) (fun k_ hk => ⟨⟨hk.2, hk.1.2⟩, hk.1.1⟩)))); (case aB => exact (hs_ GE417.out)); (case aF => exact (fun k_ hk => ⟨Kd.fresh' (Kd.N_lt (nF_ HO_45.out)) k_ hk, Kd.freshB (g := gb417) (o := .cells #[.slice (some ad431) l0_0.length c0_0, .int .i64 a0_1] 24 (0, 0)) (kb_ BK417.out) k_ hk⟩)); (case aO => exact (nF_ HO_6.out)); (case aS => exact (below_size (hs_ GE417.out))); (case aL => have := LMc40.out; omega); intro v433 w42 ho hb hg hat; rw [← Ny432.out] at ho; replace HO_5 := Aside0.mk (Kd.N_afterv (ok := (fun k_ => k_ ≠ gb417)) (nF_ (Kd.N_mono HO_5.out (fun _ hk => ⟨hk.2, hk.1⟩))) hg hat); replace HO_45 := Aside0.mk (Kd.N_afterv (ok := (fun k_ => k_ ≠ gb417)) (nF_ (Kd.N_mono HO_45.out (fun _ hk => ⟨hk.2, hk.1⟩))) hg hat); replace BK417 := Aside0.mk (blk_grown (g := gb417) (o := .cells #[.slice (some ad431) l0_0.length c0_0, .int .i64 a0_1] 24 (0, 0)) (kb_ BK417.out) hg (Kd.N_ne HO_6.out BK417.out (by decide))); replace HL430_0 := Aside0.mk (Kd.V_afterv (ok := (fun k_ => some k_ ≠ (.slice (some ad430) t424.length co30 : Value).ownBlock ∧ k_ ≠ gb417)) (vF_ (Kd.V_mono HL430_0.out (fun _ hk => ⟨⟨hk.2, hk.1.2⟩, hk.1.1⟩))) hg hat); replace HB := Aside0.mk (hb); have HO434 := Aside0.mk (ho); clear HO_6; clear ho hb hg hat))
       go_roundg k3
       case measure => have := HJ1.out; have := HK2.out; have := HK3.out; omega
       case rel => exact ⟨(y432), (wrap64 (x47_3 + 1)), sr_, H', ⟨by have := HJ1.out; have := HK2.out; have := HK3.out; omega⟩, ⟨nF_ (Kd.N_mono HO_5.out (fun _ hk => ⟨hk.2, hk.1⟩))⟩, ⟨nF_ HO434.out⟩, ⟨nF_ (Kd.N_mono HO_45.out (fun _ hk => ⟨hk.2, hk.1⟩))⟩, ⟨kb_ BK417.out⟩, ⟨hs_ GE417.out⟩⟩
end Go.Proofs.Ytffpeklekkpbjaa.QFnExactTruncateTo
