/- For each Go function that one statement reaches: a plain function with the same answers, and the proof that the call comes to them. Conditions: those that each contract names. Written by a program of this repository. -/
import Derived.Test.YtffpeklekkpbjaaVGoodStorea
import Derived.Test.YtffpeklekkpbjaaQFnExactGoodStorex0
import Derived.Test.YtffpeklekkpbjaaQFnExactGoodStorex3
import Derived.Test.YtffpeklekkpbjaaQFnExactGoodStorex10
import Derived.Test.YtffpeklekkpbjaaQFnExactGoodStorex11
import Derived.Test.YtffpeklekkpbjaaQFnExactGoodStorex20
namespace Go.Proofs.Ytffpeklekkpbjaa.QFnExactGoodStore
open Go.RowKit Go.Proofs.YtffpeklekkpbjaaW.PrintWords Go.Proofs.YtffpeklekkpbjaaW.PrintLast Go.Proofs.YtffpeklekkpbjaaW.PrintMore
attribute [local go_sem] max2_int min2_int max_two min_two max_three min_three max_four min_four Go.Proofs.YtffpeklekkpbjaaW.PrintMore2.isSome_setCell   -- for this text's walks alone
set_option linter.unusedVariables false
set_option linter.unusedSimpArgs false

/-! ### impl_GoodStore: function 22 -/
def impl_GoodStore.f (k : Nat) (l0_0 : List (S65)) (a0_1 : Int) : Option (Bool) := (impl_isStore.f k l0_0 a0_1).bind fun t399 => (some t399)
theorem impl_GoodStore.mono : ∀ a0 a1 k, LeO (impl_GoodStore.f k a0 a1) (impl_GoodStore.f (k + 1) a0 a1) := by
 intro a0 a1 k
 unfold impl_GoodStore.f
 repeat' first
   | (with_reducible exact impl_isStore.mono _ _ _)
   | (with_reducible exact LeO.refl _)
   | (with_reducible exact LeO.none _)
   | (with_reducible refine LeO.ite ?_ ?_)
   | (with_reducible refine LeO.bind ?_ (fun _ => ?_))
   | exact impl_isStore.mono _ _ _
   | exact LeO.none _
   | refine LeO.ite ?_ ?_
   | refine LeO.bind ?_ (fun _ => ?_)
set_option maxHeartbeats 8000000 in
set_option maxRecDepth 100000 in
theorem impl_GoodStore.calls (k : Nat) (A0_0 : Option Addr) (c0_0 : Nat) (l0_0 : List (S65)) (a0_1 : Int) (r : Bool) (w : World) (hr0_0 : Kd.C k65 w A0_0 l0_0.length l0_0) (hc0_0 : l0_0.length ≤ c0_0) (h : impl_GoodStore.f k l0_0 a0_1 = some r) :
  Calls Try.prog 22 #[.agg #[.slice A0_0 l0_0.length c0_0, .int .i64 a0_1]] w fun e w' => e = .returned (.bool r) ∧ Below w.heap.size w w' := by
 have hu24 := Try.underlying24
 have HR0_0 := Aside0.mk hr0_0
 have HC0_0 := Aside0.mk hc0_0
 clear hr0_0 hc0_0
 have HB := Aside0.mk (Below.refl w.heap.size w)
 have H : ((impl_isStore.f k l0_0 a0_1).bind fun t399 => (some t399)) = some r := h
 clear h
 replace H := bnd_ H
 obtain ⟨t399, A2, H⟩ := H
 obtain rfl := Option.some.inj H
 go_enter Try.func22, Try.ntmps22
 go_wp2_with (first | ((with_reducible refine gate_dst (N := 1) rfl ?_); refine be_ (N := 1) #[.slice A0_0 l0_0.length c0_0, .int .i64 a0_1] 24 ?_; intro gb398 hg w3 hbox hb; have BK398 := Aside0.mk (hbox); have GW398 := ge_ hg; have GE398 := ge_ hg; replace HB := nb_ hb; clear hb hbox hg; obtain ⟨hcz4_0, hcz4_1, hfz4_0, hfz4_1⟩ := cf2_ BK398.out) | ((with_reducible refine gate_callee (f := 67) rfl ?_); refine gl_ 4 Try.func67 #[.agg #[.slice A0_0 l0_0.length c0_0, .int .i64 a0_1]] rfl ma_ ?_; (with_reducible refine (impl_isStore.calls k _ _ l0_0 a0_1 t399 _ ?side1 ?side2 A2.out).mono ?_); (case side1 => exact cs_ ((Kd.C_below HR0_0.out HB.out))); (case side2 => exact HC0_0.out); rintro e w5 ⟨rfl, hb⟩; refine ⟨_, rfl, ?_⟩; replace BK398 := bK_ BK398 hb; replace HB := nc_ GE398 hb; (try clear hb); (try clear hb2); (try clear hk); (try clear hi)))
 go_ret
 exact ⟨er_, hs_ GE398.out⟩

/-! ### laws_FnExactGoodStore: function 4 -/
def laws_FnExactGoodStore.f (k : Nat) (l0_0 : List (S117)) (a0_1 : Int) : Option (Bool) := (laws_szStore.f k l0_0 a0_1 1048576).bind fun t401 => (if t401 < 0 then (some true) else ((laws_toStore.f k l0_0 a0_1).bind fun bt402 => ((spec_GoodStore.f k bt402.1 bt402.2).bind fun t406 => ((laws_toStore.f k l0_0 a0_1).bind fun bt407 => ((impl_GoodStore.f k bt407.1 bt407.2).bind fun t412 => (if (t412 != t406) = true then (some false) else ((laws_toStore.f k l0_0 a0_1).bind fun bt413 => ((laws_eqStore.f k bt407.1 bt407.2 bt413.1 bt413.2).bind fun t417 => (if t417 = true then (some true) else (some false))))))))))
theorem laws_FnExactGoodStore.mono : ∀ a0 a1 k, LeO (laws_FnExactGoodStore.f k a0 a1) (laws_FnExactGoodStore.f (k + 1) a0 a1) := by
 intro a0 a1 k
 unfold laws_FnExactGoodStore.f
 repeat' first
   | (with_reducible exact impl_GoodStore.mono _ _ _)
   | (with_reducible exact laws_eqStore.mono _ _ _ _ _)
   | (with_reducible exact laws_szStore.mono _ _ _ _)
   | (with_reducible exact laws_toStore.mono _ _ _)
   | (with_reducible exact spec_GoodStore.mono _ _ _)
   | (with_reducible exact LeO.refl _)
   | (with_reducible exact LeO.none _)
   | (with_reducible refine LeO.ite ?_ ?_)
   | (with_reducible refine LeO.bind ?_ (fun _ => ?_))
   | exact impl_GoodStore.mono _ _ _
   | exact laws_eqStore.mono _ _ _ _ _
   | exact laws_szStore.mono _ _ _ _
   | exact laws_toStore.mono _ _ _
   | exact spec_GoodStore.mono _ _ _
   | exact LeO.none _
   | refine LeO.ite ?_ ?_
   | refine LeO.bind ?_ (fun _ => ?_)
set_option maxHeartbeats 8000000 in
set_option maxRecDepth 100000 in
theorem laws_FnExactGoodStore.calls (k : Nat) (A0_0 : Option Addr) (c0_0 : Nat) (l0_0 : List (S117)) (a0_1 : Int) (r : Bool) (w : World) (hr0_0 : Kd.C k117 w A0_0 l0_0.length l0_0) (hc0_0 : l0_0.length ≤ c0_0) (h : laws_FnExactGoodStore.f k l0_0 a0_1 = some r) :
  Calls Try.prog 4 #[.agg #[.slice A0_0 l0_0.length c0_0, .int .i64 a0_1]] w fun e w' => e = .returned (.bool r) ∧ Below w.heap.size w w' := by
 have hu32 := Try.underlying32
 have hu24 := Try.underlying24
 have HR0_0 := Aside0.mk hr0_0
 have HC0_0 := Aside0.mk hc0_0
 clear hr0_0 hc0_0
 have HB := Aside0.mk (Below.refl w.heap.size w)
 have H : ((laws_szStore.f k l0_0 a0_1 1048576).bind fun t401 => (if t401 < 0 then (some true) else ((laws_toStore.f k l0_0 a0_1).bind fun bt402 => ((spec_GoodStore.f k bt402.1 bt402.2).bind fun t406 => ((laws_toStore.f k l0_0 a0_1).bind fun bt407 => ((impl_GoodStore.f k bt407.1 bt407.2).bind fun t412 => (if (t412 != t406) = true then (some false) else ((laws_toStore.f k l0_0 a0_1).bind fun bt413 => ((laws_eqStore.f k bt407.1 bt407.2 bt413.1 bt413.2).bind fun t417 => (if t417 = true then (some true) else (some false))))))))))) = some r := h
 clear h
 replace H := bnd_ H
 obtain ⟨t401, A2, H⟩ := H
 replace H := ite_ H
 obtain ⟨c3, H⟩ | ⟨c3, H⟩ := H
 ·have c3b0 := decide_eq_true c3
  clear c3
  obtain rfl := Option.some.inj H
  go_enter Try.func4, Try.ntmps4
  go_wp2_with (first | ((with_reducible refine gate_dst (N := 1) rfl ?_); refine be_ (N := 1) #[.slice A0_0 l0_0.length c0_0, .int .i64 a0_1] 32 ?_; intro gb400 hg w4 hbox hb; have BK400 := Aside0.mk (hbox); have GW400 := ge_ hg; have GE400 := ge_ hg; replace HB := nb_ hb; clear hb hbox hg; obtain ⟨hcz5_0, hcz5_1, hfz5_0, hfz5_1⟩ := cf2_ BK400.out) | ((with_reducible refine gate_callee (f := 19) rfl ?_); refine gl_ 9 Try.func19 #[.agg #[.slice A0_0 l0_0.length c0_0, .int .i64 a0_1], .int .i64 1048576] rfl ma_ ?_; (with_reducible refine (laws_szStore.calls k _ _ l0_0 a0_1 1048576 t401 _ ?side1 ?side2 A2.out).mono ?_); (case side1 => exact cs_ ((Kd.C_below HR0_0.out HB.out))); (case side2 => exact HC0_0.out); rintro e w6 ⟨rfl, hb⟩; refine ⟨_, rfl, ?_⟩; replace BK400 := bK_ BK400 hb; replace HB := nc_ GE400 hb; (try clear hb); (try clear hb2); (try clear hk); (try clear hi)))
  go_ret
  exact ⟨er_, hs_ GE400.out⟩
 have c3b0 := decide_eq_false c3
 clear c3
 replace H := bnd_ H
 obtain ⟨⟨t402, t405⟩, A7, H⟩ := H
 replace H := red_ H
 replace H := bnd_ H
 obtain ⟨t406, A8, H⟩ := H
 replace H := bnd_ H
 obtain ⟨⟨t407, t410⟩, A9, H⟩ := H
 replace H := red_ H
 replace H := bnd_ H
 obtain ⟨t412, A10, H⟩ := H
 replace H := ite_ H
 obtain ⟨c11, H⟩ | ⟨c11, H⟩ := H
 ·have c11b0 : (t412 != t406) = true := c11
  (try (have c11b1 : decide (t412 = t406) = false := by simpa using c11))
  (try (have c11b2 : (t412 == t406) = false := by simpa using c11))
  (try (have c11b3 : ¬ (t412 = t406) := by simpa using c11))
  clear c11
  obtain rfl := Option.some.inj H
  go_enter Try.func4, Try.ntmps4
  go_wp2_with (first | ((with_reducible refine gate_dst (N := 1) rfl ?_); refine be_ (N := 1) #[.slice A0_0 l0_0.length c0_0, .int .i64 a0_1] 32 ?_; intro gb400 hg w12 hbox hb; have BK400 := Aside0.mk (hbox); have GW400 := ge_ hg; have GE400 := ge_ hg; replace HB := nb_ hb; clear hb hbox hg; obtain ⟨hcz13_0, hcz13_1, hfz13_0, hfz13_1⟩ := cf2_ BK400.out) | ((with_reducible refine gate_callee (f := 19) rfl ?_); refine gl_ 9 Try.func19 #[.agg #[.slice A0_0 l0_0.length c0_0, .int .i64 a0_1], .int .i64 1048576] rfl ma_ ?_; (with_reducible refine (laws_szStore.calls k _ _ l0_0 a0_1 1048576 t401 _ ?side1 ?side2 A2.out).mono ?_); (case side1 => exact cs_ ((Kd.C_below HR0_0.out HB.out))); (case side2 => exact HC0_0.out); rintro e w14 ⟨rfl, hb⟩; refine ⟨_, rfl, ?_⟩; replace BK400 := bK_ BK400 hb; replace HB := nc_ GE400 hb; (try clear hb); (try clear hb2); (try clear hk); (try clear hi); obtain ⟨hcz15_0, hcz15_1, hfz15_0, hfz15_1⟩ := cf2_ BK400.out) | ((with_reducible refine gate_callee (f := 21) rfl ?_); refine gl_ 13 Try.func21 #[.agg #[.slice A0_0 l0_0.length c0_0, .int .i64 a0_1]] rfl ma_ ?_; (with_reducible refine (laws_toStore.calls k _ _ l0_0 a0_1 t402 t405 _ ?side1 ?side2 A7.out).mono ?_); (case side1 => exact cs_ ((Kd.C_below HR0_0.out HB.out))); (case side2 => exact HC0_0.out); rintro e w16 ⟨v403, rfl, ho0, hb⟩; refine ⟨_, rfl, ?_⟩; have HO404 := Aside0.mk (Kd.S_lower ho0 (below_size (hs_ GE400.out))); replace BK400 := bK_ BK400 hb; replace HB := nc_ GE400 hb; (try clear hb); (try clear hb2); (try clear hk); (try clear hi); (try clear ho0); obtain ⟨Ao17, co17, eo17⟩ := Kd.S_slice HO404.out; subst eo17) | ((with_reducible refine gate_callee (f := 20) rfl ?_); refine gl_ 14 Try.func20 #[.agg #[.slice Ao17 t402.length co17, .int .i64 t405]] rfl ma_ ?_; (with_reducible refine (spec_GoodStore.calls k _ _ t402 t405 t406 _ ?side1 ?side2 A8.out).mono ?_); (case side1 => exact cs_ ((Kd.S_reads' HO404.out).2.2)); (case side2 => exact (Kd.S_reads' HO404.out).2.1); rintro e w18 ⟨rfl, hb⟩; refine ⟨_, rfl, ?_⟩; replace HO404 := sB_ HO404 hb; replace BK400 := bK_ BK400 hb; replace HB := nc_ GE400 hb; (try clear hb); (try clear hb2); (try clear hk); (try clear hi); obtain ⟨hcz19_0, hcz19_1, hfz19_0, hfz19_1⟩ := cf2_ BK400.out) | ((with_reducible refine gate_callee (f := 21) rfl ?_); refine gl_ 16 Try.func21 #[.agg #[.slice A0_0 l0_0.length c0_0, .int .i64 a0_1]] rfl ma_ ?_; (with_reducible refine (laws_toStore.calls k _ _ l0_0 a0_1 t407 t410 _ ?side1 ?side2 A9.out).mono ?_); (case side1 => exact cs_ ((Kd.C_below HR0_0.out HB.out))); (case side2 => exact HC0_0.out); rintro e w20 ⟨v408, rfl, ho0, hb⟩; refine ⟨_, rfl, ?_⟩; have HO409 := Aside0.mk (Kd.S_lower (Kd.S_new' ho0 (Kd.S_lt (ks_ HO404.out))) (below_size (hs_ GE400.out))); replace HO404 := Aside0.mk (Kd.S_elder' (ks_ HO404.out) (Kd.S_base ho0) hb); replace BK400 := bK_ BK400 hb; replace HB := nc_ GE400 hb; (try clear hb); (try clear hb2); (try clear hk); (try clear hi); (try clear ho0)) | ((with_reducible refine gate_dst (N := 5) rfl ?_); refine be_ (N := 5) #[.slice none 0 0, .int .i64 0] 24 ?_; intro gb411 hg w21 hbox hb; replace HO404 := sB_ HO404 hb; replace HO409 := sB_ HO409 hb; have BK411 := Aside0.mk (hbox); have GW411 := ge1_ hg GE400; have GE411 := ge1_ hg GE400; replace HB := nc_ GE400 hb; have NB400_411 := nl_ BK400 hg; have NB411_400 := ng_ BK400 hg; replace BK400 := bK_ BK400 hb; clear hb hbox hg; obtain ⟨Ao22, co22, eo22⟩ := Kd.S_slice HO409.out; subst eo22; have hnb23 := NB411_400.out; have hnc23 := NB400_411.out; obtain ⟨hcz24_0, hcz24_1, hfz24_0, hfz24_1⟩ := cf2_ BK411.out) | ((with_reducible refine gate_callee (f := 22) rfl ?_); refine gl_ 18 Try.func22 #[.agg #[.slice Ao22 t407.length co22, .int .i64 t410]] rfl ma_ ?_; (with_reducible refine (impl_GoodStore.calls k _ _ t407 t410 t412 _ ?side1 ?side2 A10.out).mono ?_); (case side1 => refine (Kd.S_reads' (e := 65) (base := w.heap.size) (ok := fun k_ => (True ∧ some k_ ≠ (.slice Ao17 t402.length co17 : Value).ownBlock)) (n := t407.length) (c := co22) ?_).2.2; exact (by (with_reducible repeat (first | apply Kd.S_alloc | apply Kd.S_drewN | apply Kd.S_drew)); exact (Kd.S_mono (Kd.S_far (p := ⟨gb411, 1, none⟩) (Kd.S_far (p := ⟨gb411, 0, none⟩) (Kd.S_types HO409.out BK411.out (by decide)) (fun _ hk => hk.2) (.slice Ao22 t407.length co22)) (fun _ hk => hk.2) (.int .i64 t410)) (fun _ h_ => h_.1)))); (case side2 => exact (Kd.S_reads' HO409.out).2.1); rintro e w25 ⟨rfl, hb⟩; refine ⟨_, rfl, ?_⟩; replace HO404 := Aside0.mk (Kd.S_below (by (with_reducible repeat (first | apply Kd.S_alloc | apply Kd.S_drewN | apply Kd.S_drew)); exact (Kd.S_mono (Kd.S_far (p := ⟨gb411, 1, none⟩) (Kd.S_far (p := ⟨gb411, 0, none⟩) (Kd.S_types HO404.out BK411.out (by decide)) (fun _ hk => hk.2) (.slice Ao22 t407.length co22)) (fun _ hk => hk.2) (.int .i64 t410)) (fun _ h_ => h_.1))) hb); replace HO409 := Aside0.mk (Kd.S_below (by (with_reducible repeat (first | apply Kd.S_alloc | apply Kd.S_drewN | apply Kd.S_drew)); exact (Kd.S_mono (Kd.S_far (p := ⟨gb411, 1, none⟩) (Kd.S_far (p := ⟨gb411, 0, none⟩) (Kd.S_types HO409.out BK411.out (by decide)) (fun _ hk => hk.2) (.slice Ao22 t407.length co22)) (fun _ hk => hk.2) (.int .i64 t410)) (fun _ h_ => h_.1))) hb); replace BK400 := Aside0.mk (blk_below (g := gb400) (o := .cells #[.slice A0_0 l0_0.length c0_0, .int .i64 a0_1] 32 (0, 0)) (by (with_reducible repeat (first | refine blk_drewN ?_ _ | refine blk_drew ?_ | refine blk_alloc ?_ _)); refine blk_far ?_ NB400_411.out _; (with_reducible repeat (first | refine blk_drewN ?_ _ | refine blk_drew ?_ | refine blk_alloc ?_ _)); refine blk_far ?_ NB400_411.out _; (with_reducible repeat (first | refine blk_drewN ?_ _ | refine blk_drew ?_ | refine blk_alloc ?_ _)); exact BK400.out) hb); replace BK411 := Aside0.mk (blk_below (g := gb411) (o := .cells #[.slice Ao22 t407.length co22, .int .i64 t410] 24 (0, 0)) (by (with_reducible repeat (first | refine blk_drewN ?_ _ | refine blk_drew ?_ | refine blk_alloc ?_ _)); refine blk_put (cs := #[.slice Ao22 t407.length co22, .int .i64 0]) ?_ 1 _ rfl; (with_reducible repeat (first | refine blk_drewN ?_ _ | refine blk_drew ?_ | refine blk_alloc ?_ _)); refine blk_put (cs := #[.slice none 0 0, .int .i64 0]) ?_ 0 _ rfl; (with_reducible repeat (first | refine blk_drewN ?_ _ | refine blk_drew ?_ | refine blk_alloc ?_ _)); exact BK411.out) hb); replace HB := nc2_ GE400 GE411 hb; (try clear hb); (try clear hb2); (try clear hk); (try clear hi)))
  go_ret
  exact ⟨er_, hs2_ GE400.out GE411.out⟩
 have c11b0 : (t412 != t406) = false := by simpa using c11
 (try (have c11b1 : decide (t412 = t406) = true := by simpa using c11))
 (try (have c11b2 : (t412 == t406) = true := by simpa using c11))
 clear c11
 replace H := bnd_ H
 obtain ⟨⟨t413, t416⟩, A26, H⟩ := H
 replace H := red_ H
 replace H := bnd_ H
 obtain ⟨t417, A27, H⟩ := H
 replace H := ifb_ H
 obtain ⟨rfl, H⟩ | ⟨rfl, H⟩ := H
 ·obtain rfl := Option.some.inj H
  go_enter Try.func4, Try.ntmps4
  try go_wp2_with (first | ((with_reducible refine gate_dst (N := 1) rfl ?_); refine be_ (N := 1) #[.slice A0_0 l0_0.length c0_0, .int .i64 a0_1] 32 ?_; intro gb400 hg w29 hbox hb; have BK400 := Aside0.mk (hbox); have GW400 := ge_ hg; have GE400 := ge_ hg; replace HB := nb_ hb; clear hb hbox hg; obtain ⟨hcz30_0, hcz30_1, hfz30_0, hfz30_1⟩ := cf2_ BK400.out) | ((with_reducible refine gate_callee (f := 19) rfl ?_); refine gl_ 9 Try.func19 #[.agg #[.slice A0_0 l0_0.length c0_0, .int .i64 a0_1], .int .i64 1048576] rfl ma_ ?_; (with_reducible refine (laws_szStore.calls k _ _ l0_0 a0_1 1048576 t401 _ ?side1 ?side2 A2.out).mono ?_); (case side1 => exact cs_ ((Kd.C_below HR0_0.out HB.out))); (case side2 => exact HC0_0.out); rintro e w31 ⟨rfl, hb⟩; refine ⟨_, rfl, ?_⟩; replace BK400 := bK_ BK400 hb; replace HB := nc_ GE400 hb; (try clear hb); (try clear hb2); (try clear hk); (try clear hi); obtain ⟨hcz32_0, hcz32_1, hfz32_0, hfz32_1⟩ := cf2_ BK400.out) | ((with_reducible refine gate_callee (f := 21) rfl ?_); refine gl_ 13 Try.func21 #[.agg #[.slice A0_0 l0_0.length c0_0, .int .i64 a0_1]] rfl ma_ ?_; (with_reducible refine (laws_toStore.calls k _ _ l0_0 a0_1 t402 t405 _ ?side1 ?side2 A7.out).mono ?_); (case side1 => exact cs_ ((Kd.C_below HR0_0.out HB.out))); (case side2 => exact HC0_0.out); rintro e w33 ⟨v403, rfl, ho0, hb⟩; refine ⟨_, rfl, ?_⟩; have HO404 := Aside0.mk (Kd.S_lower ho0 (below_size (hs_ GE400.out))); replace BK400 := bK_ BK400 hb; replace HB := nc_ GE400 hb; (try clear hb); (try clear hb2); (try clear hk); (try clear hi); (try clear ho0); obtain ⟨Ao34, co34, eo34⟩ := Kd.S_slice HO404.out; subst eo34) | ((with_reducible refine gate_callee (f := 20) rfl ?_); refine gl_ 14 Try.func20 #[.agg #[.slice Ao34 t402.length co34, .int .i64 t405]] rfl ma_ ?_; (with_reducible refine (spec_GoodStore.calls k _ _ t402 t405 t406 _ ?side1 ?side2 A8.out).mono ?_); (case side1 => exact cs_ ((Kd.S_reads' HO404.out).2.2)); (case side2 => exact (Kd.S_reads' HO404.out).2.1); rintro e w35 ⟨rfl, hb⟩; refine ⟨_, rfl, ?_⟩; replace HO404 := sB_ HO404 hb; replace BK400 := bK_ BK400 hb; replace HB := nc_ GE400 hb; (try clear hb); (try clear hb2); (try clear hk); (try clear hi); obtain ⟨hcz36_0, hcz36_1, hfz36_0, hfz36_1⟩ := cf2_ BK400.out) | ((with_reducible refine gate_callee (f := 21) rfl ?_); refine gl_ 16 Try.func21 #[.agg #[.slice A0_0 l0_0.length c0_0, .int .i64 a0_1]] rfl ma_ ?_; (with_reducible refine (laws_toStore.calls k _ _ l0_0 a0_1 t407 t410 _ ?side1 ?side2 A9.out).mono ?_); (case side1 => exact cs_ ((Kd.C_below HR0_0.out HB.out))); (case side2 => exact HC0_0.out); rintro e w37 ⟨v408, rfl, ho0, hb⟩; refine ⟨_, rfl, ?_⟩; have HO409 := Aside0.mk (Kd.S_lower (Kd.S_new' ho0 (Kd.S_lt (ks_ HO404.out))) (below_size (hs_ GE400.out))); replace HO404 := Aside0.mk (Kd.S_elder' (ks_ HO404.out) (Kd.S_base ho0) hb); replace BK400 := bK_ BK400 hb; replace HB := nc_ GE400 hb; (try clear hb); (try clear hb2); (try clear hk); (try clear hi); (try clear ho0)) | ((with_reducible refine gate_dst (N := 5) rfl ?_); refine be_ (N := 5) #[.slice none 0 0, .int .i64 0] 24 ?_; intro gb411 hg w38 hbox hb; replace HO404 := sB_ HO404 hb; replace HO409 := sB_ HO409 hb; have BK411 := Aside0.mk (hbox); have GW411 := ge1_ hg GE400; have GE411 := ge1_ hg GE400; replace HB := nc_ GE400 hb; have NB400_411 := nl_ BK400 hg; have NB411_400 := ng_ BK400 hg; replace BK400 := bK_ BK400 hb; clear hb hbox hg; obtain ⟨Ao39, co39, eo39⟩ := Kd.S_slice HO409.out; subst eo39; have hnb40 := NB411_400.out; have hnc40 := NB400_411.out; obtain ⟨hcz41_0, hcz41_1, hfz41_0, hfz41_1⟩ := cf2_ BK411.out) | ((with_reducible refine gate_callee (f := 22) rfl ?_); refine gl_ 18 Try.func22 #[.agg #[.slice Ao39 t407.length co39, .int .i64 t410]] rfl ma_ ?_; (with_reducible refine (impl_GoodStore.calls k _ _ t407 t410 t412 _ ?side1 ?side2 A10.out).mono ?_); (case side1 => refine (Kd.S_reads' (e := 65) (base := w.heap.size) (ok := fun k_ => (True ∧ some k_ ≠ (.slice Ao34 t402.length co34 : Value).ownBlock)) (n := t407.length) (c := co39) ?_).2.2; exact (by (with_reducible repeat (first | apply Kd.S_alloc | apply Kd.S_drewN | apply Kd.S_drew)); exact (Kd.S_mono (Kd.S_far (p := ⟨gb411, 1, none⟩) (Kd.S_far (p := ⟨gb411, 0, none⟩) (Kd.S_types HO409.out BK411.out (by decide)) (fun _ hk => hk.2) (.slice Ao39 t407.length co39)) (fun _ hk => hk.2) (.int .i64 t410)) (fun _ h_ => h_.1)))); (case side2 => exact (Kd.S_reads' HO409.out).2.1); rintro e w42 ⟨rfl, hb⟩; refine ⟨_, rfl, ?_⟩; replace HO404 := Aside0.mk (Kd.S_below (by (with_reducible repeat (first | apply Kd.S_alloc | apply Kd.S_drewN | apply Kd.S_drew)); exact (Kd.S_mono (Kd.S_far (p := ⟨gb411, 1, none⟩) (Kd.S_far (p := ⟨gb411, 0, none⟩) (Kd.S_types HO404.out BK411.out (by decide)) (fun _ hk => hk.2) (.slice Ao39 t407.length co39)) (fun _ hk => hk.2) (.int .i64 t410)) (fun _ h_ => h_.1))) hb); replace HO409 := Aside0.mk (Kd.S_below (by (with_reducible repeat (first | apply Kd.S_alloc | apply Kd.S_drewN | apply Kd.S_drew)); exact (Kd.S_mono (Kd.S_far (p := ⟨gb411, 1, none⟩) (Kd.S_far (p := ⟨gb411, 0, none⟩) (Kd.S_types HO409.out BK411.out (by decide)) (fun _ hk => hk.2) (.slice Ao39 t407.length co39)) (fun _ hk => hk.2) (.int .i64 t410)) (fun _ h_ => h_.1))) hb); replace BK400 := Aside0.mk (blk_below (g := gb400) (o := .cells #[.slice A0_0 l0_0.length c0_0, .int .i64 a0_1] 32 (0, 0)) (by (with_reducible repeat (first | refine blk_drewN ?_ _ | refine blk_drew ?_ | refine blk_alloc ?_ _)); refine blk_far ?_ NB400_411.out _; (with_reducible repeat (first | refine blk_drewN ?_ _ | refine blk_drew ?_ | refine blk_alloc ?_ _)); refine blk_far ?_ NB400_411.out _; (with_reducible repeat (first | refine blk_drewN ?_ _ | refine blk_drew ?_ | refine blk_alloc ?_ _)); exact BK400.out) hb); replace BK411 := Aside0.mk (blk_below (g := gb411) (o := .cells #[.slice Ao39 t407.length co39, .int .i64 t410] 24 (0, 0)) (by (with_reducible repeat (first | refine blk_drewN ?_ _ | refine blk_drew ?_ | refine blk_alloc ?_ _)); refine blk_put (cs := #[.slice Ao39 t407.length co39, .int .i64 0]) ?_ 1 _ rfl; (with_reducible repeat (first | refine blk_drewN ?_ _ | refine blk_drew ?_ | refine blk_alloc ?_ _)); refine blk_put (cs := #[.slice none 0 0, .int .i64 0]) ?_ 0 _ rfl; (with_reducible repeat (first | refine blk_drewN ?_ _ | refine blk_drew ?_ | refine blk_alloc ?_ _)); exact BK411.out) hb); replace HB := nc2_ GE400 GE411 hb; (try clear hb); (try clear hb2); (try clear hk); (try clear hi)))
  replace HO404 := Aside0.mk (Kd.S_drew HO404.out)
  replace HO409 := Aside0.mk (Kd.S_drew HO409.out)
  replace BK400 := qK_ BK400
  replace BK411 := qK_ BK411
  replace HB := qH_ HB
  refine start_ (n := 5) (S := fun w' => w'.cell? ⟨gb411, 0, none⟩ = some (.slice Ao39 t407.length co39) ∧ w'.cell? ⟨gb411, 1, none⟩ = some (.int .i64 t410) ∧ w'.cell? ⟨gb400, 0, none⟩ = some (.slice A0_0 l0_0.length c0_0) ∧ w'.cell? ⟨gb400, 1, none⟩ = some (.int .i64 a0_1)) (ds := []) #[false, false, false, false, false] (by kernel_rfl) rfl rfl ⟨(blk_cell BK411.out 0).trans rfl, (blk_cell BK411.out 1).trans rfl, (blk_cell BK400.out 0).trans rfl, (blk_cell BK400.out 1).trans rfl⟩ (fun hHeld => ?_)
  generalize w42.drew = w43 at HO404 HO409 BK400 BK411 HB hHeld ⊢
  refine take_ (i := 0) (N := some 22) (v := ?_) (a' := ?_) #[true, false, false, false, false] rfl rfl (by kernel_rfl) (fun _ _ _ h => h) (Or.inl ⟨by rfl, ?_⟩) hHeld ?_ ?_
  rotate_left
  ·rintro w' ⟨s0, s1, s2, s3⟩
   go_simp
   with_reducible rfl
  rotate_left
  ·simp only [Act.put, List.setIfInBounds_toArray, List.set_cons_zero, List.set_cons_succ, i64_w, i32_w]
   rfl
  refine take_ (i := 1) (N := some 23) (v := ?_) (a' := ?_) #[true, true, false, false, false] rfl rfl (by kernel_rfl) (fun _ _ _ h => h) (Or.inl ⟨by rfl, ?_⟩) hHeld ?_ ?_
  rotate_left
  ·rintro w' ⟨s0, s1, s2, s3⟩
   go_simp
   with_reducible rfl
  rotate_left
  ·simp only [Act.put, List.setIfInBounds_toArray, List.set_cons_zero, List.set_cons_succ, i64_w, i32_w]
   rfl
  refine one_ (i := 2) (N := some 24) #[true, true, true, false, false] rfl rfl (by kernel_rfl) (by decide) (fun K hK => ?_)
  refine gs_ Try.func21 #[.agg #[.slice A0_0 l0_0.length c0_0, .int .i64 a0_1]] rfl ma_ ?_
  with_reducible refine (laws_toStore.calls k _ _ l0_0 a0_1 t413 t416 _ ?side1 ?side2 A26.out).mono ?_
  (case side1 => exact cs_ ((Kd.C_below HR0_0.out HB.out)))
  (case side2 => exact HC0_0.out)
  rintro e w44 ⟨v414, rfl, ho0, hb⟩
  refine ⟨_, rfl, ?_⟩
  have HO415 := Aside0.mk (Kd.S_lower (Kd.S_new' (Kd.S_new' ho0 (Kd.S_lt (ks_ HO404.out))) (Kd.S_lt (ks_ HO409.out))) (below_size (hs2_ GE400.out GE411.out)))
  replace HO404 := Aside0.mk (Kd.S_elder' (ks_ HO404.out) (Kd.S_base ho0) hb)
  replace HO409 := Aside0.mk (Kd.S_elder' (ks_ HO409.out) (Kd.S_base ho0) hb)
  replace BK400 := bK_ BK400 hb
  replace BK411 := bK_ BK411 hb
  replace HB := nc2_ GE400 GE411 hb
  (try clear hb)
  (try clear hb2)
  (try clear hk)
  (try clear hi)
  (try clear ho0)
  obtain ⟨Ao45, co45, eo45⟩ := Kd.S_slice HO415.out
  (first | subst eo45 | (injection eo45 with f1_ f2_ f3_; have f4_ := f1_.symm; have f5_ := f3_.symm; clear f1_ f2_ f3_; subst f4_; subst f5_))
  refine hK.out _ _ ⟨(blk_cell BK411.out 0).trans rfl, (blk_cell BK411.out 1).trans rfl, (blk_cell BK400.out 0).trans rfl, (blk_cell BK400.out 1).trans rfl⟩ (fun hHeld => ?_)
  clear hK K
  refine no_ ?_
  refine one_ (i := 3) (N := some 25) #[true, true, true, true, false] rfl rfl (by kernel_rfl) (by decide) (fun K hK => ?_)
  refine gs_ Try.func16 #[.agg #[.slice Ao39 t407.length co39, .int .i64 t410], .agg #[.slice Ao45 t413.length co45, .int .i64 t416]] rfl ma_ ?_
  with_reducible refine (laws_eqStore.calls k _ _ t407 t410 _ _ t413 t416 true _ ?side1 ?side2 ?side3 ?side4 A27.out).mono ?_
  (case side1 => exact cs_ ((Kd.S_reads' HO409.out).2.2))
  (case side2 => exact (Kd.S_reads' HO409.out).2.1)
  (case side3 => exact cs_ ((Kd.S_reads' HO415.out).2.2))
  (case side4 => exact (Kd.S_reads' HO415.out).2.1)
  rintro e w46 ⟨rfl, hb⟩
  refine ⟨_, rfl, ?_⟩
  replace HO404 := sB_ HO404 hb
  replace HO409 := sB_ HO409 hb
  replace HO415 := sB_ HO415 hb
  replace BK400 := bK_ BK400 hb
  replace BK411 := bK_ BK411 hb
  replace HB := nc2_ GE400 GE411 hb
  (try clear hb)
  (try clear hb2)
  (try clear hk)
  (try clear hi)
  refine hK.out _ _ ⟨(blk_cell BK411.out 0).trans rfl, (blk_cell BK411.out 1).trans rfl, (blk_cell BK400.out 0).trans rfl, (blk_cell BK400.out 1).trans rfl⟩ (fun hHeld => ?_)
  clear hK K
  refine no_ ?_
  refine pure_ (i := 4) (N := some 26) (v := ?_) (a' := ?_) #[true, true, true, true, true] rfl rfl (by kernel_rfl) (fun _ _ _ h => h) (Or.inl ⟨by rfl, ?_⟩) ?_ ?_
  rotate_left
  ·intro w'
   go_simp
   with_reducible rfl
  rotate_left
  ·simp only [Act.put, List.setIfInBounds_toArray, List.set_cons_zero, List.set_cons_succ, i64_w, i32_w]
   rfl
  refine done_ (by kernel_rfl) ?_
  try go_wp2
  go_ret
  exact ⟨er_, hs2_ GE400.out GE411.out⟩
 obtain rfl := Option.some.inj H
 go_enter Try.func4, Try.ntmps4
 try go_wp2_with (first | ((with_reducible refine gate_dst (N := 1) rfl ?_); refine be_ (N := 1) #[.slice A0_0 l0_0.length c0_0, .int .i64 a0_1] 32 ?_; intro gb400 hg w47 hbox hb; have BK400 := Aside0.mk (hbox); have GW400 := ge_ hg; have GE400 := ge_ hg; replace HB := nb_ hb; clear hb hbox hg; obtain ⟨hcz48_0, hcz48_1, hfz48_0, hfz48_1⟩ := cf2_ BK400.out) | ((with_reducible refine gate_callee (f := 19) rfl ?_); refine gl_ 9 Try.func19 #[.agg #[.slice A0_0 l0_0.length c0_0, .int .i64 a0_1], .int .i64 1048576] rfl ma_ ?_; (with_reducible refine (laws_szStore.calls k _ _ l0_0 a0_1 1048576 t401 _ ?side1 ?side2 A2.out).mono ?_); (case side1 => exact cs_ ((Kd.C_below HR0_0.out HB.out))); (case side2 => exact HC0_0.out); rintro e w49 ⟨rfl, hb⟩; refine ⟨_, rfl, ?_⟩; replace BK400 := bK_ BK400 hb; replace HB := nc_ GE400 hb; (try clear hb); (try clear hb2); (try clear hk); (try clear hi); obtain ⟨hcz50_0, hcz50_1, hfz50_0, hfz50_1⟩ := cf2_ BK400.out) | ((with_reducible refine gate_callee (f := 21) rfl ?_); refine gl_ 13 Try.func21 #[.agg #[.slice A0_0 l0_0.length c0_0, .int .i64 a0_1]] rfl ma_ ?_; (with_reducible refine (laws_toStore.calls k _ _ l0_0 a0_1 t402 t405 _ ?side1 ?side2 A7.out).mono ?_); (case side1 => exact cs_ ((Kd.C_below HR0_0.out HB.out))); (case side2 => exact HC0_0.out); rintro e w51 ⟨v403, rfl, ho0, hb⟩; refine ⟨_, rfl, ?_⟩; have HO404 := Aside0.mk (Kd.S_lower ho0 (below_size (hs_ GE400.out))); replace BK400 := bK_ BK400 hb; replace HB := nc_ GE400 hb; (try clear hb); (try clear hb2); (try clear hk); (try clear hi); (try clear ho0); obtain ⟨Ao52, co52, eo52⟩ := Kd.S_slice HO404.out; subst eo52) | ((with_reducible refine gate_callee (f := 20) rfl ?_); refine gl_ 14 Try.func20 #[.agg #[.slice Ao52 t402.length co52, .int .i64 t405]] rfl ma_ ?_; (with_reducible refine (spec_GoodStore.calls k _ _ t402 t405 t406 _ ?side1 ?side2 A8.out).mono ?_); (case side1 => exact cs_ ((Kd.S_reads' HO404.out).2.2)); (case side2 => exact (Kd.S_reads' HO404.out).2.1); rintro e w53 ⟨rfl, hb⟩; refine ⟨_, rfl, ?_⟩; replace HO404 := sB_ HO404 hb; replace BK400 := bK_ BK400 hb; replace HB := nc_ GE400 hb; (try clear hb); (try clear hb2); (try clear hk); (try clear hi); obtain ⟨hcz54_0, hcz54_1, hfz54_0, hfz54_1⟩ := cf2_ BK400.out) | ((with_reducible refine gate_callee (f := 21) rfl ?_); refine gl_ 16 Try.func21 #[.agg #[.slice A0_0 l0_0.length c0_0, .int .i64 a0_1]] rfl ma_ ?_; (with_reducible refine (laws_toStore.calls k _ _ l0_0 a0_1 t407 t410 _ ?side1 ?side2 A9.out).mono ?_); (case side1 => exact cs_ ((Kd.C_below HR0_0.out HB.out))); (case side2 => exact HC0_0.out); rintro e w55 ⟨v408, rfl, ho0, hb⟩; refine ⟨_, rfl, ?_⟩; have HO409 := Aside0.mk (Kd.S_lower (Kd.S_new' ho0 (Kd.S_lt (ks_ HO404.out))) (below_size (hs_ GE400.out))); replace HO404 := Aside0.mk (Kd.S_elder' (ks_ HO404.out) (Kd.S_base ho0) hb); replace BK400 := bK_ BK400 hb; replace HB := nc_ GE400 hb; (try clear hb); (try clear hb2); (try clear hk); (try clear hi); (try clear ho0)) | ((with_reducible refine gate_dst (N := 5) rfl ?_); refine be_ (N := 5) #[.slice none 0 0, .int .i64 0] 24 ?_; intro gb411 hg w56 hbox hb; replace HO404 := sB_ HO404 hb; replace HO409 := sB_ HO409 hb; have BK411 := Aside0.mk (hbox); have GW411 := ge1_ hg GE400; have GE411 := ge1_ hg GE400; replace HB := nc_ GE400 hb; have NB400_411 := nl_ BK400 hg; have NB411_400 := ng_ BK400 hg; replace BK400 := bK_ BK400 hb; clear hb hbox hg; obtain ⟨Ao57, co57, eo57⟩ := Kd.S_slice HO409.out; subst eo57; have hnb58 := NB411_400.out; have hnc58 := NB400_411.out; obtain ⟨hcz59_0, hcz59_1, hfz59_0, hfz59_1⟩ := cf2_ BK411.out) | ((with_reducible refine gate_callee (f := 22) rfl ?_); refine gl_ 18 Try.func22 #[.agg #[.slice Ao57 t407.length co57, .int .i64 t410]] rfl ma_ ?_; (with_reducible refine (impl_GoodStore.calls k _ _ t407 t410 t412 _ ?side1 ?side2 A10.out).mono ?_); (case side1 => refine (Kd.S_reads' (e := 65) (base := w.heap.size) (ok := fun k_ => (True ∧ some k_ ≠ (.slice Ao52 t402.length co52 : Value).ownBlock)) (n := t407.length) (c := co57) ?_).2.2; exact (by (with_reducible repeat (first | apply Kd.S_alloc | apply Kd.S_drewN | apply Kd.S_drew)); exact (Kd.S_mono (Kd.S_far (p := ⟨gb411, 1, none⟩) (Kd.S_far (p := ⟨gb411, 0, none⟩) (Kd.S_types HO409.out BK411.out (by decide)) (fun _ hk => hk.2) (.slice Ao57 t407.length co57)) (fun _ hk => hk.2) (.int .i64 t410)) (fun _ h_ => h_.1)))); (case side2 => exact (Kd.S_reads' HO409.out).2.1); rintro e w60 ⟨rfl, hb⟩; refine ⟨_, rfl, ?_⟩; replace HO404 := Aside0.mk (Kd.S_below (by (with_reducible repeat (first | apply Kd.S_alloc | apply Kd.S_drewN | apply Kd.S_drew)); exact (Kd.S_mono (Kd.S_far (p := ⟨gb411, 1, none⟩) (Kd.S_far (p := ⟨gb411, 0, none⟩) (Kd.S_types HO404.out BK411.out (by decide)) (fun _ hk => hk.2) (.slice Ao57 t407.length co57)) (fun _ hk => hk.2) (.int .i64 t410)) (fun _ h_ => h_.1))) hb); replace HO409 := Aside0.mk (Kd.S_below (by (with_reducible repeat (first | apply Kd.S_alloc | apply Kd.S_drewN | apply Kd.S_drew)); exact (Kd.S_mono (Kd.S_far (p := ⟨gb411, 1, none⟩) (Kd.S_far (p := ⟨gb411, 0, none⟩) (Kd.S_types HO409.out BK411.out (by decide)) (fun _ hk => hk.2) (.slice Ao57 t407.length co57)) (fun _ hk => hk.2) (.int .i64 t410)) (fun _ h_ => h_.1))) hb); replace BK400 := Aside0.mk (blk_below (g := gb400) (o := .cells #[.slice A0_0 l0_0.length c0_0, .int .i64 a0_1] 32 (0, 0)) (by (with_reducible repeat (first | refine blk_drewN ?_ _ | refine blk_drew ?_ | refine blk_alloc ?_ _)); refine blk_far ?_ NB400_411.out _; (with_reducible repeat (first | refine blk_drewN ?_ _ | refine blk_drew ?_ | refine blk_alloc ?_ _)); refine blk_far ?_ NB400_411.out _; (with_reducible repeat (first | refine blk_drewN ?_ _ | refine blk_drew ?_ | refine blk_alloc ?_ _)); exact BK400.out) hb); replace BK411 := Aside0.mk (blk_below (g := gb411) (o := .cells #[.slice Ao57 t407.length co57, .int .i64 t410] 24 (0, 0)) (by (with_reducible repeat (first | refine blk_drewN ?_ _ | refine blk_drew ?_ | refine blk_alloc ?_ _)); refine blk_put (cs := #[.slice Ao57 t407.length co57, .int .i64 0]) ?_ 1 _ rfl; (with_reducible repeat (first | refine blk_drewN ?_ _ | refine blk_drew ?_ | refine blk_alloc ?_ _)); refine blk_put (cs := #[.slice none 0 0, .int .i64 0]) ?_ 0 _ rfl; (with_reducible repeat (first | refine blk_drewN ?_ _ | refine blk_drew ?_ | refine blk_alloc ?_ _)); exact BK411.out) hb); replace HB := nc2_ GE400 GE411 hb; (try clear hb); (try clear hb2); (try clear hk); (try clear hi)))
 replace HO404 := Aside0.mk (Kd.S_drew HO404.out)
 replace HO409 := Aside0.mk (Kd.S_drew HO409.out)
 replace BK400 := qK_ BK400
 replace BK411 := qK_ BK411
 replace HB := qH_ HB
 refine start_ (n := 5) (S := fun w' => w'.cell? ⟨gb411, 0, none⟩ = some (.slice Ao57 t407.length co57) ∧ w'.cell? ⟨gb411, 1, none⟩ = some (.int .i64 t410) ∧ w'.cell? ⟨gb400, 0, none⟩ = some (.slice A0_0 l0_0.length c0_0) ∧ w'.cell? ⟨gb400, 1, none⟩ = some (.int .i64 a0_1)) (ds := []) #[false, false, false, false, false] (by kernel_rfl) rfl rfl ⟨(blk_cell BK411.out 0).trans rfl, (blk_cell BK411.out 1).trans rfl, (blk_cell BK400.out 0).trans rfl, (blk_cell BK400.out 1).trans rfl⟩ (fun hHeld => ?_)
 generalize w60.drew = w61 at HO404 HO409 BK400 BK411 HB hHeld ⊢
 refine take_ (i := 0) (N := some 22) (v := ?_) (a' := ?_) #[true, false, false, false, false] rfl rfl (by kernel_rfl) (fun _ _ _ h => h) (Or.inl ⟨by rfl, ?_⟩) hHeld ?_ ?_
 rotate_left
 ·rintro w' ⟨s0, s1, s2, s3⟩
  go_simp
  with_reducible rfl
 rotate_left
 ·simp only [Act.put, List.setIfInBounds_toArray, List.set_cons_zero, List.set_cons_succ, i64_w, i32_w]
  rfl
 refine take_ (i := 1) (N := some 23) (v := ?_) (a' := ?_) #[true, true, false, false, false] rfl rfl (by kernel_rfl) (fun _ _ _ h => h) (Or.inl ⟨by rfl, ?_⟩) hHeld ?_ ?_
 rotate_left
 ·rintro w' ⟨s0, s1, s2, s3⟩
  go_simp
  with_reducible rfl
 rotate_left
 ·simp only [Act.put, List.setIfInBounds_toArray, List.set_cons_zero, List.set_cons_succ, i64_w, i32_w]
  rfl
 refine one_ (i := 2) (N := some 24) #[true, true, true, false, false] rfl rfl (by kernel_rfl) (by decide) (fun K hK => ?_)
 refine gs_ Try.func21 #[.agg #[.slice A0_0 l0_0.length c0_0, .int .i64 a0_1]] rfl ma_ ?_
 with_reducible refine (laws_toStore.calls k _ _ l0_0 a0_1 t413 t416 _ ?side1 ?side2 A26.out).mono ?_
 (case side1 => exact cs_ ((Kd.C_below HR0_0.out HB.out)))
 (case side2 => exact HC0_0.out)
 rintro e w62 ⟨v414, rfl, ho0, hb⟩
 refine ⟨_, rfl, ?_⟩
 have HO415 := Aside0.mk (Kd.S_lower (Kd.S_new' (Kd.S_new' ho0 (Kd.S_lt (ks_ HO404.out))) (Kd.S_lt (ks_ HO409.out))) (below_size (hs2_ GE400.out GE411.out)))
 replace HO404 := Aside0.mk (Kd.S_elder' (ks_ HO404.out) (Kd.S_base ho0) hb)
 replace HO409 := Aside0.mk (Kd.S_elder' (ks_ HO409.out) (Kd.S_base ho0) hb)
 replace BK400 := bK_ BK400 hb
 replace BK411 := bK_ BK411 hb
 replace HB := nc2_ GE400 GE411 hb
 (try clear hb)
 (try clear hb2)
 (try clear hk)
 (try clear hi)
 (try clear ho0)
 obtain ⟨Ao63, co63, eo63⟩ := Kd.S_slice HO415.out
 (first | subst eo63 | (injection eo63 with f1_ f2_ f3_; have f4_ := f1_.symm; have f5_ := f3_.symm; clear f1_ f2_ f3_; subst f4_; subst f5_))
 refine hK.out _ _ ⟨(blk_cell BK411.out 0).trans rfl, (blk_cell BK411.out 1).trans rfl, (blk_cell BK400.out 0).trans rfl, (blk_cell BK400.out 1).trans rfl⟩ (fun hHeld => ?_)
 clear hK K
 refine no_ ?_
 refine one_ (i := 3) (N := some 25) #[true, true, true, true, false] rfl rfl (by kernel_rfl) (by decide) (fun K hK => ?_)
 refine gs_ Try.func16 #[.agg #[.slice Ao57 t407.length co57, .int .i64 t410], .agg #[.slice Ao63 t413.length co63, .int .i64 t416]] rfl ma_ ?_
 with_reducible refine (laws_eqStore.calls k _ _ t407 t410 _ _ t413 t416 false _ ?side1 ?side2 ?side3 ?side4 A27.out).mono ?_
 (case side1 => exact cs_ ((Kd.S_reads' HO409.out).2.2))
 (case side2 => exact (Kd.S_reads' HO409.out).2.1)
 (case side3 => exact cs_ ((Kd.S_reads' HO415.out).2.2))
 (case side4 => exact (Kd.S_reads' HO415.out).2.1)
 rintro e w64 ⟨rfl, hb⟩
 refine ⟨_, rfl, ?_⟩
 replace HO404 := sB_ HO404 hb
 replace HO409 := sB_ HO409 hb
 replace HO415 := sB_ HO415 hb
 replace BK400 := bK_ BK400 hb
 replace BK411 := bK_ BK411 hb
 replace HB := nc2_ GE400 GE411 hb
 (try clear hb)
 (try clear hb2)
 (try clear hk)
 (try clear hi)
 refine hK.out _ _ ⟨(blk_cell BK411.out 0).trans rfl, (blk_cell BK411.out 1).trans rfl, (blk_cell BK400.out 0).trans rfl, (blk_cell BK400.out 1).trans rfl⟩ (fun hHeld => ?_)
 clear hK K
 refine no_ ?_
 refine pure_ (i := 4) (N := some 26) (v := ?_) (a' := ?_) #[true, true, true, true, true] rfl rfl (by kernel_rfl) (fun _ _ _ h => h) (Or.inl ⟨by rfl, ?_⟩) ?_ ?_
 rotate_left
 ·intro w'
  go_simp
  with_reducible rfl
 rotate_left
 ·simp only [Act.put, List.setIfInBounds_toArray, List.set_cons_zero, List.set_cons_succ, i64_w, i32_w]
  rfl
 refine done_ (by kernel_rfl) ?_
 try go_wp2
 go_ret
 exact ⟨er_, hs2_ GE400.out GE411.out⟩

/-- The one pure statement of laws_FnExactGoodStore. -/
def laws_FnExactGoodStore.Pure : Prop := ∀ (x0 : S32), ok32 x0 → ∃ k, laws_FnExactGoodStore.f k x0.f0 x0.f1 = some true

end Go.Proofs.Ytffpeklekkpbjaa.QFnExactGoodStore
