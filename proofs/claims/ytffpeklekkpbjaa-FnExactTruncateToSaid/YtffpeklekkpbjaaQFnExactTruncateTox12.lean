/- Functions that one statement reaches: of each a plain function, and the proof that calls come to it. Conditions: those that each contract names. Written by a program of this repository. -/
import Derived.Test.YtffpeklekkpbjaaVTruncateToa
import Derived.Test.YtffpeklekkpbjaaQFnExactTruncateTox2
import Derived.Test.YtffpeklekkpbjaaQFnExactTruncateTox6
import Derived.Test.YtffpeklekkpbjaaQFnExactTruncateTox11
namespace Go.Proofs.Ytffpeklekkpbjaa.QFnExactTruncateTo
open Go.RowKit Go.Proofs.YtffpeklekkpbjaaW.PrintWords Go.Proofs.YtffpeklekkpbjaaW.PrintLast Go.Proofs.YtffpeklekkpbjaaW.PrintMore
attribute [local go_sem] max2_int min2_int max_two min_two max_three min_three max_four min_four Go.Proofs.YtffpeklekkpbjaaW.PrintMore2.isSome_setCell   -- for this text's walks alone
set_option linter.unusedVariables false
set_option linter.unusedSimpArgs false

/-! ### spec_GoodStore: function 20 -/
mutual
def spec_GoodStore.l0 : Nat → Int → Int → List (S65) → Int → Int → List (S65) → Int → Option (Bool)
 | 0, _, _, _, _, _, _, _ => none
 | k + 1, x3, x4, x12, x13, x14, x235000, x235001 => if x14 < x13 then (if 0 ≤ x14 then (if x14 < (x12.length : Int) then ((spec_l1Read.f k ((rd_T65 x12 x14).f1)).bind fun bt239 => (if bt239.2 = (((rd_T65 x12 x14).f1).size : Int) then (if (((rd_T65 x12 x14).f1).size : Int) > 120 then (if (bt239.1.length : Int) > 1 then (spec_GoodStore.j1 k x4 bt239.1 x12 x13 x14 true x235000 x235001 ((rd_T65 x12 x14).f0) ((rd_T65 x12 x14).f1) ((rd_T65 x12 x14).f2)) else (if (bt239.1.length : Int) = 0 then (if x14 < (wrap64 ((x235000.length : Int) - 1)) then (spec_GoodStore.j1 k x4 bt239.1 x12 x13 x14 true x235000 x235001 ((rd_T65 x12 x14).f0) ((rd_T65 x12 x14).f1) ((rd_T65 x12 x14).f2)) else ((spec_l2Index.f k bt239.1).bind fun t243 => ((spec_l2SameMarks.f k ((rd_T65 x12 x14).f2) t243).bind fun t246 => (if t246 = true then ((spec_l1In.f ((rd_T65 x12 x14).f0) 0 100000).bind fun t247 => (if t247 = true then (if x14 > 0 then (spec_GoodStore.j1 k x4 bt239.1 x12 x13 x14 (((rd_T65 x12 x14).f0) != x3) x235000 x235001 ((rd_T65 x12 x14).f0) ((rd_T65 x12 x14).f1) ((rd_T65 x12 x14).f2)) else (spec_GoodStore.j1 k x4 bt239.1 x12 x13 x14 false x235000 x235001 ((rd_T65 x12 x14).f0) ((rd_T65 x12 x14).f1) ((rd_T65 x12 x14).f2))) else (spec_GoodStore.j1 k x4 bt239.1 x12 x13 x14 true x235000 x235001 ((rd_T65 x12 x14).f0) ((rd_T65 x12 x14).f1) ((rd_T65 x12 x14).f2)))) else (spec_GoodStore.j1 k x4 bt239.1 x12 x13 x14 true x235000 x235001 ((rd_T65 x12 x14).f0) ((rd_T65 x12 x14).f1) ((rd_T65 x12 x14).f2)))))) else ((spec_l2Index.f k bt239.1).bind fun t248 => ((spec_l2SameMarks.f k ((rd_T65 x12 x14).f2) t248).bind fun t251 => (if t251 = true then ((spec_l1In.f ((rd_T65 x12 x14).f0) 0 100000).bind fun t252 => (if t252 = true then (if x14 > 0 then (spec_GoodStore.j1 k x4 bt239.1 x12 x13 x14 (((rd_T65 x12 x14).f0) != x3) x235000 x235001 ((rd_T65 x12 x14).f0) ((rd_T65 x12 x14).f1) ((rd_T65 x12 x14).f2)) else (spec_GoodStore.j1 k x4 bt239.1 x12 x13 x14 false x235000 x235001 ((rd_T65 x12 x14).f0) ((rd_T65 x12 x14).f1) ((rd_T65 x12 x14).f2))) else (spec_GoodStore.j1 k x4 bt239.1 x12 x13 x14 true x235000 x235001 ((rd_T65 x12 x14).f0) ((rd_T65 x12 x14).f1) ((rd_T65 x12 x14).f2)))) else (spec_GoodStore.j1 k x4 bt239.1 x12 x13 x14 true x235000 x235001 ((rd_T65 x12 x14).f0) ((rd_T65 x12 x14).f1) ((rd_T65 x12 x14).f2))))))) else (if (bt239.1.length : Int) = 0 then (if x14 < (wrap64 ((x235000.length : Int) - 1)) then (spec_GoodStore.j1 k x4 bt239.1 x12 x13 x14 true x235000 x235001 ((rd_T65 x12 x14).f0) ((rd_T65 x12 x14).f1) ((rd_T65 x12 x14).f2)) else ((spec_l2Index.f k bt239.1).bind fun t253 => ((spec_l2SameMarks.f k ((rd_T65 x12 x14).f2) t253).bind fun t256 => (if t256 = true then ((spec_l1In.f ((rd_T65 x12 x14).f0) 0 100000).bind fun t257 => (if t257 = true then (if x14 > 0 then (spec_GoodStore.j1 k x4 bt239.1 x12 x13 x14 (((rd_T65 x12 x14).f0) != x3) x235000 x235001 ((rd_T65 x12 x14).f0) ((rd_T65 x12 x14).f1) ((rd_T65 x12 x14).f2)) else (spec_GoodStore.j1 k x4 bt239.1 x12 x13 x14 false x235000 x235001 ((rd_T65 x12 x14).f0) ((rd_T65 x12 x14).f1) ((rd_T65 x12 x14).f2))) else (spec_GoodStore.j1 k x4 bt239.1 x12 x13 x14 true x235000 x235001 ((rd_T65 x12 x14).f0) ((rd_T65 x12 x14).f1) ((rd_T65 x12 x14).f2)))) else (spec_GoodStore.j1 k x4 bt239.1 x12 x13 x14 true x235000 x235001 ((rd_T65 x12 x14).f0) ((rd_T65 x12 x14).f1) ((rd_T65 x12 x14).f2)))))) else ((spec_l2Index.f k bt239.1).bind fun t258 => ((spec_l2SameMarks.f k ((rd_T65 x12 x14).f2) t258).bind fun t261 => (if t261 = true then ((spec_l1In.f ((rd_T65 x12 x14).f0) 0 100000).bind fun t262 => (if t262 = true then (if x14 > 0 then (spec_GoodStore.j1 k x4 bt239.1 x12 x13 x14 (((rd_T65 x12 x14).f0) != x3) x235000 x235001 ((rd_T65 x12 x14).f0) ((rd_T65 x12 x14).f1) ((rd_T65 x12 x14).f2)) else (spec_GoodStore.j1 k x4 bt239.1 x12 x13 x14 false x235000 x235001 ((rd_T65 x12 x14).f0) ((rd_T65 x12 x14).f1) ((rd_T65 x12 x14).f2))) else (spec_GoodStore.j1 k x4 bt239.1 x12 x13 x14 true x235000 x235001 ((rd_T65 x12 x14).f0) ((rd_T65 x12 x14).f1) ((rd_T65 x12 x14).f2)))) else (spec_GoodStore.j1 k x4 bt239.1 x12 x13 x14 true x235000 x235001 ((rd_T65 x12 x14).f0) ((rd_T65 x12 x14).f1) ((rd_T65 x12 x14).f2))))))) else (spec_GoodStore.j1 k x4 bt239.1 x12 x13 x14 true x235000 x235001 ((rd_T65 x12 x14).f0) ((rd_T65 x12 x14).f1) ((rd_T65 x12 x14).f2)))) else (none)) else (none)) else ((spec_l1In.f (x235000.length : Int) 1 8).bind fun t235 => (if t235 = true then (if x235001 = x3 then ((spec_l1In.f x235001 0 100000).bind fun t236 => (some t236)) else (some false)) else (some false)))
def spec_GoodStore.j1 : Nat → Int → List (S43) → List (S65) → Int → Int → Bool → List (S65) → Int → Int → ByteArray → List (S89) → Option (Bool)
 | 0, _, _, _, _, _, _, _, _, _, _, _ => none
 | k + 1, x4, x7, x12, x13, x14, x77, x235000, x235001, x239000, x239001, x239002 => if x77 = true then (some false) else (spec_GoodStore.l1 k x239000 x4 x12 x13 x14 x7 (x7.length : Int) 0 x235000 x235001)
def spec_GoodStore.l1 : Nat → Int → Int → List (S65) → Int → Int → List (S43) → Int → Int → List (S65) → Int → Option (Bool)
 | 0, _, _, _, _, _, _, _, _, _, _ => none
 | k + 1, x3, x4, x12, x13, x14, x80, x81, x82, x235000, x235001 => if x82 < x81 then (if 0 ≤ x82 then (if x82 < (x80.length : Int) then (if ((rd_T43 x80 x82).f0) = x3 then (if ((rd_T43 x80 x82).f1) < x4 then (some false) else (spec_GoodStore.l1 k (wrap64 (((rd_T43 x80 x82).f0) + (((rd_T43 x80 x82).f4).length : Int))) ((rd_T43 x80 x82).f1) x12 x13 x14 x80 x81 (wrap64 (x82 + 1)) x235000 x235001)) else (some false)) else (none)) else (none)) else (spec_GoodStore.l0 k x3 x4 x12 x13 (wrap64 (x14 + 1)) x235000 x235001)
end
def spec_GoodStore.f (k : Nat) (l0_0 : List (S65)) (a0_1 : Int) : Option (Bool) := spec_GoodStore.l0 k (-1) 0 l0_0 (l0_0.length : Int) 0 l0_0 a0_1
theorem spec_GoodStore.mono_l : ∀ k, (∀ y0 y1 y2 y3 y4 y5 y6, LeO (spec_GoodStore.l0 k y0 y1 y2 y3 y4 y5 y6) (spec_GoodStore.l0 (k + 1) y0 y1 y2 y3 y4 y5 y6)) ∧ (∀ y0 y1 y2 y3 y4 y5 y6 y7 y8 y9 y10, LeO (spec_GoodStore.j1 k y0 y1 y2 y3 y4 y5 y6 y7 y8 y9 y10) (spec_GoodStore.j1 (k + 1) y0 y1 y2 y3 y4 y5 y6 y7 y8 y9 y10)) ∧ (∀ y0 y1 y2 y3 y4 y5 y6 y7 y8 y9, LeO (spec_GoodStore.l1 k y0 y1 y2 y3 y4 y5 y6 y7 y8 y9) (spec_GoodStore.l1 (k + 1) y0 y1 y2 y3 y4 y5 y6 y7 y8 y9))
 | 0 => ⟨fun _ _ _ _ _ _ _ r h => by simp [spec_GoodStore.l0] at h, fun _ _ _ _ _ _ _ _ _ _ _ r h => by simp [spec_GoodStore.j1] at h, fun _ _ _ _ _ _ _ _ _ _ r h => by simp [spec_GoodStore.l1] at h⟩
 | k + 1 => by
  obtain ⟨ih0, ih1, ih2⟩ := spec_GoodStore.mono_l k
  refine ⟨?_, ?_, ?_⟩
  all_goals intros; first | unfold spec_GoodStore.l0 | unfold spec_GoodStore.j1 | unfold spec_GoodStore.l1
  all_goals repeat' first | (with_reducible first | apply ih0 | apply ih1 | apply ih2 | apply spec_l1Read.mono | apply spec_l2Index.mono | apply spec_l2SameMarks.mono | exact LeO.refl _ | exact LeO.none _ | refine LeO.ite ?_ ?_ | refine LeO.bind ?_ (fun _ => ?_))
theorem spec_GoodStore.mono : ∀ a0 a1 k, LeO (spec_GoodStore.f k a0 a1) (spec_GoodStore.f (k + 1) a0 a1) := by
 intro a0 a1 k
 obtain ⟨ih0, ih1, ih2⟩ := spec_GoodStore.mono_l k
 unfold spec_GoodStore.f
 repeat' first
   | (with_reducible first | apply ih0 | apply ih1 | apply ih2 | apply spec_l1Read.mono | apply spec_l2Index.mono | apply spec_l2SameMarks.mono | exact LeO.refl _ | exact LeO.none _ | refine LeO.ite ?_ ?_ | refine LeO.bind ?_ (fun _ => ?_))
def spec_GoodStore.T7 : Bool × List (List Nat × List Nat) := (true, [([], []), ([], []), ([1], [1]), ([2], [2]), ([0, 3], [0, 3]), ([4], [4]), ([5], [5]), ([6, 5], [5, 6]), ([7, 5], [5, 7]), ([8, 5], [5, 8]), ([9, 5, 5], [5, 9]), ([10], [10]), ([11, 10], [10, 11]), ([12, 10], [10, 12]), ([10, 13, 5], [5, 10, 13]), ([5, 14], [5, 14]), ([15, 10], [15]), ([16], [16]), ([17, 16], [16, 17]), ([18, 16], [16, 18]), ([19, 16, 16], [16, 19]), ([20], [20]), ([20], [20]), ([22, 20], [20, 22]), ([23, 20], [20, 23]), ([24, 20], [20, 24]), ([21, 25, 20], [20, 21, 25]), ([20, 26, 16], [16, 20, 26]), ([16, 27], [16, 27]), ([28, 20], [28]), ([29], [29]), ([30, 29], [29, 30]), ([29], [29]), ([32, 29, 29], [29, 32]), ([31, 33, 33, 29], [29, 31, 33]), ([34, 29], [29, 34]), ([29, 35], [29, 35]), ([36, 34], [36]), ([37], [37]), ([38, 37], [37, 38]), ([39, 37, 37], [37, 39]), ([40, 37], [37, 40]), ([37, 41], [37, 41]), ([42, 40], [42]), ([43], [43]), ([44, 43], [43, 44]), ([45, 43, 43], [43, 45]), ([46], [46]), ([47, 46], [46, 47]), ([46], [46]), ([48, 49, 46], [46, 48, 49]), ([46, 50, 43], [43, 46, 50]), ([43, 51], [43, 51])])
def spec_GoodStore.B7 : List Nat := [0, 0, 2, 6, 15, 31, 63, 127, 255, 511, 1023, 2047, 4095, 8191, 16383, 32767, 65535, 131071, 262143, 524287, 1048575, 2097151, 2097151, 6291455, 14680063, 31457279, 67108863, 134217727, 268435455, 536870911, 1073741823, 2147483647, 1073741823, 5368709119, 17179869183, 34359738367, 68719476735, 137438953471, 274877906943, 549755813887, 1099511627775, 2199023255551, 4398046511103, 8796093022207, 17592186044415, 35184372088831, 70368744177663, 140737488355327, 281474976710655, 140737488355327, 1125899906842623, 2251799813685247, 4503599627370495]
theorem spec_GoodStore.tab7 : rtab .any (opsOf Try.f20 7) = spec_GoodStore.T7 := by kernel_rfl
theorem spec_GoodStore.bits7 : waitsOk spec_GoodStore.T7.2 spec_GoodStore.B7 = true := by kernel_rfl
set_option maxHeartbeats 8000000 in
set_option maxRecDepth 100000 in
theorem spec_GoodStore.calls (k : Nat) (A0_0 : Option Addr) (c0_0 : Nat) (l0_0 : List (S65)) (a0_1 : Int) (r : Bool) (w : World) (hr0_0 : Kd.C k65 w A0_0 l0_0.length l0_0) (hc0_0 : l0_0.length ≤ c0_0) (h : spec_GoodStore.f k l0_0 a0_1 = some r) :
  Calls Try.prog 20 #[.agg #[.slice A0_0 l0_0.length c0_0, .int .i64 a0_1]] w fun e w' => e = .returned (.bool r) ∧ Below w.heap.size w w' := by
 have hu24 := Try.underlying24
 have hu65 := Try.underlying65
 have hu43 := Try.underlying43
 have HR0_0 := Aside0.mk hr0_0
 have HC0_0 := Aside0.mk hc0_0
 clear hr0_0 hc0_0
 have HB := Aside0.mk (Below.refl w.heap.size w)
 have H : (spec_GoodStore.l0 k (-1) 0 l0_0 (l0_0.length : Int) 0 l0_0 a0_1) = some r := h
 clear h
 have H' := Aside0.mk H
 clear H
 go_enter Try.func20, Try.ntmps20
 go_wp2_with (first | ((with_reducible refine gate_dst (N := 1) rfl ?_); (try (refine gate_guard (by rfl) ?_; dsimp only)); refine bq_ (N := 1) #[.slice A0_0 l0_0.length c0_0, .int .i64 a0_1] 24 ?_; intro gb234 hg w2 BK234 hb; have GE234 := ge_ hg; replace HB := nb_ hb; clear hb hg; obtain ⟨hcz3_0, hcz3_1, hfz3_0, hfz3_1⟩ := cf2_ BK234.out))
 go_loopg [3, 4, 14] k (fun kq v3 v4 v14 w' => ∃ (x3_1 : Int) (x4_1 : Int) (x14_1 : Int), v3 = .int .i64 x3_1 ∧ v4 = .int .i64 x4_1 ∧ v14 = .int .i64 x14_1 ∧ Aside0 (spec_GoodStore.l0 kq x3_1 x4_1 l0_0 (l0_0.length : Int) x14_1 l0_0 a0_1 = some r) ∧ Aside0 (kq ≤ k) ∧ Aside0 (w'.heap[gb234]? = some (.cells #[(.slice A0_0 l0_0.length c0_0), .int .i64 a0_1] 24 (0, 0))) ∧ Aside0 (Below w.heap.size w w'))
 case atStart => exact ⟨((-1)), (0), (0), sr_, sr_, sr_, H', ⟨Nat.le_refl _⟩, ⟨kb_ BK234.out⟩, ⟨hs_ GE234.out⟩⟩
 case round =>
  clear H'
  try clear hcz3_0
  try clear hcz3_1
  try clear hfz3_0
  try clear hfz3_1
  obtain ⟨x3_1, x4_1, x14_1, rfl, rfl, rfl, HA, HK1, BK234, HB⟩ := hrel
  cases gk with
  | zero => exact absurd HA.out (by simp [spec_GoodStore.l0])
  | succ k1 =>
   have H := HA.out
   clear HA
   simp only [spec_GoodStore.l0] at H
   replace H := ite_ H
   obtain ⟨c4, H⟩ | ⟨c4, H⟩ := H
   rotate_left
   ·have c4b0 := decide_eq_false c4
    clear c4
    replace H := bnd_ H
    obtain ⟨t235, A136, H⟩ := H
    replace H := ifb_ H
    obtain ⟨rfl, H⟩ | ⟨rfl, H⟩ := H
    rotate_left
    ·obtain rfl := Option.some.inj H
     obtain ⟨hcz142_0, hcz142_1, hfz142_0, hfz142_1⟩ := cf2_ BK234.out
     go_wp2_with (first | ((with_reducible refine gate_callee (f := 57) rfl ?_); refine gl_ 109 Try.func57 #[.int .i64 (l0_0.length : Int), .int .i64 1, .int .i64 8] rfl ma_ ?_; (with_reducible refine (spec_l1In.calls (l0_0.length : Int) 1 8 false _ A136.out).mono ?_); rintro e w' ⟨rfl, ⟨nd, rfl⟩⟩; refine ⟨_, rfl, ?_⟩))
     go_ret
     exact ⟨er_, hs_ GE234.out⟩
    replace H := ite_ H
    obtain ⟨c138, H⟩ | ⟨c138, H⟩ := H
    rotate_left
    ·have c138b0 : (a0_1 == x3_1) = false := beq_eq_false_iff_ne.mpr c138
     have c138b1 : (a0_1 != x3_1) = true := bne_iff_ne.mpr c138
     obtain rfl := Option.some.inj H
     obtain ⟨hcz141_0, hcz141_1, hfz141_0, hfz141_1⟩ := cf2_ BK234.out
     go_wp2_with (first | ((with_reducible refine gate_callee (f := 57) rfl ?_); refine gl_ 109 Try.func57 #[.int .i64 (l0_0.length : Int), .int .i64 1, .int .i64 8] rfl ma_ ?_; (with_reducible refine (spec_l1In.calls (l0_0.length : Int) 1 8 true _ A136.out).mono ?_); rintro e w' ⟨rfl, ⟨nd, rfl⟩⟩; refine ⟨_, rfl, ?_⟩))
     go_ret
     exact ⟨er_, hs_ GE234.out⟩
    have c138b0 : (a0_1 == x3_1) = true := beq_iff_eq.mpr c138
    have c138b1 : (a0_1 != x3_1) = false := bne_eq_false_iff_eq.mpr c138
    clear c138
    replace H := bnd_ H
    obtain ⟨t236, A139, H⟩ := H
    obtain rfl := Option.some.inj H
    obtain ⟨hcz140_0, hcz140_1, hfz140_0, hfz140_1⟩ := cf2_ BK234.out
    go_wp2_with (first | ((with_reducible refine gate_callee (f := 57) rfl ?_); refine gl_ 109 Try.func57 #[.int .i64 (l0_0.length : Int), .int .i64 1, .int .i64 8] rfl ma_ ?_; (with_reducible refine (spec_l1In.calls (l0_0.length : Int) 1 8 true _ A136.out).mono ?_); rintro e w' ⟨rfl, ⟨nd, rfl⟩⟩; refine ⟨_, rfl, ?_⟩) | (go_at_call 57; (with_reducible refine (spec_l1In.calls a0_1 0 100000 t236 _ A139.out).mono ?_); rintro e w' ⟨rfl, ⟨nd, rfl⟩⟩))
    go_ret
    exact ⟨er_, hs_ GE234.out⟩
   have c4b0 := decide_eq_true c4
   clear c4
   replace H := ifs_ H
   obtain ⟨c5, H⟩ := H
   have c5b0 := decide_eq_true c5
   clear c5
   replace H := ifs_ H
   obtain ⟨c6, H⟩ := H
   have c6b0 := decide_eq_true c6
   clear c6
   replace H := bnd_ H
   obtain ⟨⟨t239, t240⟩, A7, H⟩ := H
   replace H := red_ H
   have HC8 := Aside0.mk H
   clear H
   have p237 : 0 ≤ (x14_1 : Int) := oa_
   have q237 : x14_1 < (l0_0.length : Int) := oa_
   obtain ⟨ad237, A237_2, c237_2, e237, hx237_0, hx237_1, hx237_2, hl237_2, hi237_2⟩ := at_T65 HR0_0.out x14_1 p237 q237
   cases e237
   replace hx237_0 := pc_ HB.out hx237_0
   replace hx237_1 := pc_ HB.out hx237_1
   replace hx237_2 := pc_ HB.out hx237_2
   have HR237_2 := Aside0.mk hi237_2
   have HC237_2 := Aside0.mk hl237_2
   clear hi237_2 hl237_2
   replace p237 := eq_true p237
   replace q237 := eq_true q237
   go_upto_region 7 with (first | ((with_reducible refine gate_dst (N := 6) rfl ?_); (try (refine gate_guard (by rfl) ?_; dsimp only)); refine box_event ?hg (N := 6) ?hd (cs := #[.int .i64 0, .string (⟨#[]⟩ : ByteArray), .slice none 0 0]) (t := 65) ?hr ?_; (case hd => rfl); (case hg => rfl); (case hr => first | (go_simp; done) | (go_simp; rfl)); intro gb238 hg w9 hbox hb; have BK238 := Aside0.mk (hbox); have GE238 := ge1_ hg GE234; replace HB := nc_ GE234 hb; have NB234_238 := nl_ BK234 hg; have NB238_234 := ng_ BK234 hg; replace BK234 := bK_ BK234 hb; clear hb hbox hg; have hnb10 := NB238_234.out; have hnc10 := NB234_238.out; obtain ⟨hcz11_0, hcz11_1, hcz11_2, hfz11_0, hfz11_1, hfz11_2⟩ := cf3_ BK238.out) | ((with_reducible refine gate_callee (f := 63) rfl ?_); refine gl_ 22 Try.func63 #[.string ((rd_T65 l0_0 x14_1).f1)] rfl ma_ ?_; (with_reducible refine (spec_l1Read.calls k1 ((rd_T65 l0_0 x14_1).f1) t239 t240 _ A7.out).mono ?_); rintro e w12 ⟨v241, rfl, ho0, hb⟩; refine ⟨_, rfl, ?_⟩; have HO242 := Aside0.mk (Kd.S_lower ho0 (below_size (hs2_ GE234.out GE238.out))); replace BK234 := Aside0.mk (blk_below (g := gb234) (o := .cells #[.slice (some ad237) l0_0.length c0_0, .int .i64 a0_1] 24 (0, 0)) (uf_ BK234 NB234_238.out) hb); replace BK238 := Aside0.mk (blk_below (g := gb238) (o := .cells #[.int .i64 ((rd_T65 l0_0 x14_1).f0), .string ((rd_T65 l0_0 x14_1).f1), .slice A237_2 ((rd_T65 l0_0 x14_1).f2).length c237_2] 65 (0, 0)) (up_ BK238) hb); replace HB := nc2_ GE234 GE238 hb; (try clear hb); (try clear hb2); (try clear hk); (try clear hi); (try clear ho0)))
   (try simp only [Act.put, List.setIfInBounds_toArray, List.set_cons_zero, List.set_cons_succ])
   go_cut [77] (fun v77 wc => ∃ (kq : Nat) (x77_7 : Bool), v77 = .bool x77_7 ∧ Aside0 (spec_GoodStore.j1 kq x4_1 t239 l0_0 (l0_0.length : Int) x14_1 x77_7 l0_0 a0_1 ((rd_T65 l0_0 x14_1).f0) ((rd_T65 l0_0 x14_1).f1) ((rd_T65 l0_0 x14_1).f2) = some r) ∧ Aside0 (kq ≤ k1) ∧ Aside0 (Kd.S k43 43 wc w.heap.size (fun _ => True) v241 t239) ∧ Aside0 (wc.heap[gb234]? = some (.cells #[(.slice (some ad237) l0_0.length c0_0), .int .i64 a0_1] 24 (0, 0))) ∧ Aside0 (wc.heap[gb238]? = some (.cells #[.int .i64 ((rd_T65 l0_0 x14_1).f0), .string ((rd_T65 l0_0 x14_1).f1), (.slice A237_2 ((rd_T65 l0_0 x14_1).f2).length c237_2)] 65 (0, 0))) ∧ Aside0 (Below w.heap.size w wc))
   case first =>
    have H := HC8.out
    clear HC8
    replace H := ite_ H
    obtain ⟨c13, H⟩ | ⟨c13, H⟩ := H
    rotate_left
    ·as_aux_lemma =>
      have c13b0 : (t240 == (((rd_T65 l0_0 x14_1).f1).size : Int)) = false := beq_eq_false_iff_ne.mpr c13
      have c13b1 : (t240 != (((rd_T65 l0_0 x14_1).f1).size : Int)) = true := bne_iff_ne.mpr c13
      (first | rw [c13b0] | (simp only [i64_w, i32_w]; rw [c13b0]) | rw [c13b1] | skip)
      have H' := Aside0.mk H
      clear H
      try go_wp2
      replace HO242 := Aside0.mk (Kd.S_drew HO242.out)
      replace BK234 := qK_ BK234
      replace BK238 := qK_ BK238
      replace HB := qH_ HB
      refine start_ (n := 53) (S := fun w' => w'.cell? ⟨gb238, 0, none⟩ = some (.int .i64 ((rd_T65 l0_0 x14_1).f0)) ∧ w'.cell? ⟨gb238, 1, none⟩ = some (.string ((rd_T65 l0_0 x14_1).f1)) ∧ w'.cell? ⟨gb238, 2, none⟩ = some (.slice A237_2 ((rd_T65 l0_0 x14_1).f2).length c237_2)) (ds := []) (List.replicate 53 false).toArray (by kernel_rfl) rfl rfl ⟨bt_ BK238 0, bt_ BK238 1, bt_ BK238 2⟩ (fun hHeld => ?_); refine with_tabW spec_GoodStore.tab7 spec_GoodStore.bits7 (fun HT_ HW_ => ?_)
      generalize w12.drew = w114 at HO242 BK234 BK238 HB hHeld ⊢
      refine pv_ 0 25 ?_
      refine pv_ 1 26 ?_
      refine tk_ 2 27 ?_
      refine pv_ 3 28 ?_
      refine pv_ 4 29 ?_
      refine pv_ 5 30 ?_
      refine po_ 6 31 ?_
      refine po_ 7 32 ?_
      refine po_ 8 33 ?_
      refine po_ 9 34 ?_
      refine po_ 10 35 ?_
      refine po_ 11 36 ?_
      refine po_ 12 37 ?_
      refine po_ 13 38 ?_
      refine po_ 14 39 ?_
      refine pv_ 15 40 ?_
      refine pv_ 16 41 ?_
      refine po_ 17 42 ?_
      refine po_ 18 43 ?_
      refine po_ 19 44 ?_
      refine po_ 20 45 ?_
      refine po_ 21 46 ?_
      refine po_ 22 47 ?_
      refine po_ 23 48 ?_
      refine po_ 24 49 ?_
      refine po_ 25 50 ?_
      refine po_ 26 51 ?_
      refine po_ 27 52 ?_
      refine pv_ 28 53 ?_
      refine pv_ 29 54 ?_
      refine po_ 30 55 ?_
      refine po_ 31 56 ?_
      refine po_ 32 57 ?_
      refine po_ 33 58 ?_
      refine po_ 34 59 ?_
      refine po_ 35 60 ?_
      refine pv_ 36 61 ?_
      refine pv_ 37 62 ?_
      refine po_ 38 63 ?_
      refine po_ 39 64 ?_
      refine po_ 40 65 ?_
      refine po_ 41 66 ?_
      refine pv_ 42 67 ?_
      refine pv_ 43 68 ?_
      refine po_ 44 69 ?_
      refine po_ 45 70 ?_
      refine po_ 46 71 ?_
      refine po_ 47 72 ?_
      refine po_ 48 73 ?_
      refine po_ 49 74 ?_
      refine po_ 50 75 ?_
      refine po_ 51 76 ?_
      refine pv_ 52 77 ?_
      refine done_ (done_of HT_.out (by kernel_rfl)) ?_
      try go_wp2
      go_meet
      case rel => exact ⟨_, (true), sr_, H', ⟨by have := HK1.out; first | omega | exact Nat.le_refl _⟩, ⟨ks_ HO242.out⟩, ⟨kb_ BK234.out⟩, ⟨kb_ BK238.out⟩, ⟨hs2_ GE234.out GE238.out⟩⟩
    have c13b0 : (t240 == (((rd_T65 l0_0 x14_1).f1).size : Int)) = true := beq_iff_eq.mpr c13
    have c13b1 : (t240 != (((rd_T65 l0_0 x14_1).f1).size : Int)) = false := bne_eq_false_iff_eq.mpr c13
    clear c13
    (first | rw [c13b0] | (simp only [i64_w, i32_w]; rw [c13b0]) | rw [c13b1] | skip)
    replace H := ite_ H
    obtain ⟨c14, H⟩ | ⟨c14, H⟩ := H
    rotate_left
    ·as_aux_lemma =>
      have c14b0 := dgf_ c14
      have c14b1 : decide (120 < ((rd_T65 l0_0 x14_1).f1).size) = false := decide_eq_false (by omega)
      clear c14
      replace H := ite_ H
      obtain ⟨c66, H⟩ | ⟨c66, H⟩ := H
      rotate_left
      ·as_aux_lemma =>
        have c66b0 : ((t239.length : Int) == 0) = false := beq_eq_false_iff_ne.mpr c66
        have c66b1 : ((t239.length : Int) != 0) = true := bne_iff_ne.mpr c66
        have c66b2 : ¬ (t239 = []) := fun h_ => c66 (by rw [h_]; rfl)
        replace H := bnd_ H
        obtain ⟨t258, A92, H⟩ := H
        replace H := bnd_ H
        obtain ⟨t261, A93, H⟩ := H
        replace H := ifb_ H
        obtain ⟨rfl, H⟩ | ⟨rfl, H⟩ := H
        rotate_left
        ·as_aux_lemma =>
          have H' := Aside0.mk H
          clear H
          try go_wp2
          replace HO242 := Aside0.mk (Kd.S_drew HO242.out)
          replace BK234 := qK_ BK234
          replace BK238 := qK_ BK238
          replace HB := qH_ HB
          obtain ⟨Ao111, co111, eo111⟩ := Kd.S_slice HO242.out
          (first | subst eo111 | (injection eo111 with f1_ f2_ f3_; have f4_ := f1_.symm; have f5_ := f3_.symm; clear f1_ f2_ f3_; subst f4_; subst f5_))
          refine start_ (n := 53) (S := fun w' => w'.cell? ⟨gb238, 0, none⟩ = some (.int .i64 ((rd_T65 l0_0 x14_1).f0)) ∧ w'.cell? ⟨gb238, 1, none⟩ = some (.string ((rd_T65 l0_0 x14_1).f1)) ∧ w'.cell? ⟨gb238, 2, none⟩ = some (.slice A237_2 ((rd_T65 l0_0 x14_1).f2).length c237_2)) (ds := []) (List.replicate 53 false).toArray (by kernel_rfl) rfl rfl ⟨bt_ BK238 0, bt_ BK238 1, bt_ BK238 2⟩ (fun hHeld => ?_); refine with_tabW spec_GoodStore.tab7 spec_GoodStore.bits7 (fun HT_ HW_ => ?_)
          generalize w12.drew = w110 at HO242 BK234 BK238 HB hHeld ⊢
          refine pv_ 0 25 ?_
          refine pv_ 1 26 ?_
          refine tk_ 2 27 ?_
          refine pv_ 3 28 ?_
          refine pv_ 4 29 ?_
          refine pv_ 5 30 ?_
          refine pv_ 6 31 ?_
          refine tk_ 7 32 ?_
          refine pv_ 8 33 ?_
          refine pv_ 9 34 ?_
          refine pv_ 10 35 ?_
          refine po_ 11 36 ?_
          refine po_ 12 37 ?_
          refine po_ 13 38 ?_
          refine pv_ 14 39 ?_
          refine pv_ 15 40 ?_
          refine pv_ 16 41 ?_
          refine pv_ 17 42 ?_
          refine pv_ 18 43 ?_
          refine pv_ 19 44 ?_
          refine pv_ 20 45 ?_
          refine po_ 21 46 ?_
          refine po_ 22 47 ?_
          refine po_ 23 48 ?_
          refine po_ 24 49 ?_
          refine po_ 25 50 ?_
          refine po_ 26 51 ?_
          refine pv_ 27 52 ?_
          refine pv_ 28 53 ?_
          refine pv_ 29 54 ?_
          refine pv_ 30 55 ?_
          refine pv_ 32 57 ?_
          refine tk_ 31 56 ?_
          refine on_ 33 58 (fun K hK => ?_)
          refine gs_ Try.func65 #[.slice Ao111 t239.length co111] rfl ma_ ?_
          with_reducible refine (spec_l2Index.calls k1 _ _ t239 t258 _ ?side1 ?side2 A92.out).mono ?_
          (case side1 => exact cs_ ((Kd.S_reads' HO242.out).2.2))
          (case side2 => exact (Kd.S_reads' HO242.out).2.1)
          rintro e w112 ⟨v259, rfl, ho0, hb⟩
          refine ⟨_, rfl, ?_⟩
          replace HO242 := sB_ HO242 hb
          have HO260 := Aside0.mk (Kd.R_lower ho0 (below_size (hs2_ GE234.out GE238.out)))
          replace BK234 := bK_ BK234 hb
          replace BK238 := bK_ BK238 hb
          replace HB := nc2_ GE234 GE238 hb
          (try clear hb)
          (try clear hb2)
          (try clear hk)
          (try clear hi)
          (try clear ho0)
          obtain ⟨Ao113, co113, eo113⟩ := Kd.R_slice HO260.out
          (first | subst eo113 | (injection eo113 with f1_ f2_ f3_; have f4_ := f1_.symm; have f5_ := f3_.symm; clear f1_ f2_ f3_; subst f4_; subst f5_))
          refine hK.out _ _ ⟨bt_ BK238 0, bt_ BK238 1, bt_ BK238 2⟩ (fun hHeld => ?_)
          clear hK K
          refine no_ ?_
          refine on_ 34 59 (fun K hK => ?_)
          refine gs_ Try.func64 #[.slice A237_2 ((rd_T65 l0_0 x14_1).f2).length c237_2, .slice Ao113 t258.length co113] rfl ma_ ?_
          with_reducible refine (spec_l2SameMarks.calls k1 _ _ ((rd_T65 l0_0 x14_1).f2) _ _ t258 false _ ?side1 ?side2 ?side3 ?side4 A93.out).mono ?_
          (case side1 => exact cs_ ((Kd.C_below HR237_2.out HB.out)))
          (case side2 => exact HC237_2.out)
          (case side3 => exact cs_ ((Kd.R_reads' HO260.out).2.2))
          (case side4 => exact (Kd.R_reads' HO260.out).2.1)
          rintro e w' ⟨rfl, ⟨nd, rfl⟩⟩
          refine ⟨_, rfl, ?_⟩
          refine hK.out _ _ ⟨bt_ BK238 0, bt_ BK238 1, bt_ BK238 2⟩ (fun hHeld => ?_)
          clear hK K
          refine no_ ?_
          refine pv_ 35 60 ?_
          refine pv_ 36 61 ?_
          refine pv_ 37 62 ?_
          refine po_ 38 63 ?_
          refine po_ 39 64 ?_
          refine po_ 40 65 ?_
          refine po_ 41 66 ?_
          refine pv_ 42 67 ?_
          refine pv_ 43 68 ?_
          refine po_ 44 69 ?_
          refine po_ 45 70 ?_
          refine po_ 46 71 ?_
          refine po_ 47 72 ?_
          refine po_ 48 73 ?_
          refine po_ 49 74 ?_
          refine po_ 50 75 ?_
          refine po_ 51 76 ?_
          refine pv_ 52 77 ?_
          refine done_ (done_of HT_.out (by kernel_rfl)) ?_
          try go_wp2
          go_meet
          case rel => exact ⟨_, (true), sr_, H', ⟨by have := HK1.out; first | omega | exact Nat.le_refl _⟩, ⟨ks_ HO242.out⟩, ⟨kb_ BK234.out⟩, ⟨kb_ BK238.out⟩, ⟨hs2_ GE234.out GE238.out⟩⟩
        replace H := bnd_ H
        obtain ⟨t262, A95, H⟩ := H
        replace H := ifb_ H
        obtain ⟨rfl, H⟩ | ⟨rfl, H⟩ := H
        rotate_left
        ·as_aux_lemma =>
          have H' := Aside0.mk H
          clear H
          try go_wp2
          replace HO242 := Aside0.mk (Kd.S_drew HO242.out)
          replace BK234 := qK_ BK234
          replace BK238 := qK_ BK238
          replace HB := qH_ HB
          obtain ⟨Ao107, co107, eo107⟩ := Kd.S_slice HO242.out
          (first | subst eo107 | (injection eo107 with f1_ f2_ f3_; have f4_ := f1_.symm; have f5_ := f3_.symm; clear f1_ f2_ f3_; subst f4_; subst f5_))
          refine start_ (n := 53) (S := fun w' => w'.cell? ⟨gb238, 0, none⟩ = some (.int .i64 ((rd_T65 l0_0 x14_1).f0)) ∧ w'.cell? ⟨gb238, 1, none⟩ = some (.string ((rd_T65 l0_0 x14_1).f1)) ∧ w'.cell? ⟨gb238, 2, none⟩ = some (.slice A237_2 ((rd_T65 l0_0 x14_1).f2).length c237_2)) (ds := []) (List.replicate 53 false).toArray (by kernel_rfl) rfl rfl ⟨bt_ BK238 0, bt_ BK238 1, bt_ BK238 2⟩ (fun hHeld => ?_); refine with_tabW spec_GoodStore.tab7 spec_GoodStore.bits7 (fun HT_ HW_ => ?_)
          generalize w12.drew = w106 at HO242 BK234 BK238 HB hHeld ⊢
          refine pv_ 0 25 ?_
          refine pv_ 1 26 ?_
          refine tk_ 2 27 ?_
          refine pv_ 3 28 ?_
          refine pv_ 4 29 ?_
          refine pv_ 5 30 ?_
          refine pv_ 6 31 ?_
          refine tk_ 7 32 ?_
          refine pv_ 8 33 ?_
          refine pv_ 9 34 ?_
          refine pv_ 10 35 ?_
          refine po_ 11 36 ?_
          refine po_ 12 37 ?_
          refine po_ 13 38 ?_
          refine pv_ 14 39 ?_
          refine pv_ 15 40 ?_
          refine pv_ 16 41 ?_
          refine pv_ 17 42 ?_
          refine pv_ 18 43 ?_
          refine pv_ 19 44 ?_
          refine pv_ 20 45 ?_
          refine po_ 21 46 ?_
          refine po_ 22 47 ?_
          refine po_ 23 48 ?_
          refine po_ 24 49 ?_
          refine po_ 25 50 ?_
          refine po_ 26 51 ?_
          refine pv_ 27 52 ?_
          refine pv_ 28 53 ?_
          refine pv_ 29 54 ?_
          refine pv_ 30 55 ?_
          refine pv_ 32 57 ?_
          refine tk_ 31 56 ?_
          refine on_ 33 58 (fun K hK => ?_)
          refine gs_ Try.func65 #[.slice Ao107 t239.length co107] rfl ma_ ?_
          with_reducible refine (spec_l2Index.calls k1 _ _ t239 t258 _ ?side1 ?side2 A92.out).mono ?_
          (case side1 => exact cs_ ((Kd.S_reads' HO242.out).2.2))
          (case side2 => exact (Kd.S_reads' HO242.out).2.1)
          rintro e w108 ⟨v259, rfl, ho0, hb⟩
          refine ⟨_, rfl, ?_⟩
          replace HO242 := sB_ HO242 hb
          have HO260 := Aside0.mk (Kd.R_lower ho0 (below_size (hs2_ GE234.out GE238.out)))
          replace BK234 := bK_ BK234 hb
          replace BK238 := bK_ BK238 hb
          replace HB := nc2_ GE234 GE238 hb
          (try clear hb)
          (try clear hb2)
          (try clear hk)
          (try clear hi)
          (try clear ho0)
          obtain ⟨Ao109, co109, eo109⟩ := Kd.R_slice HO260.out
          (first | subst eo109 | (injection eo109 with f1_ f2_ f3_; have f4_ := f1_.symm; have f5_ := f3_.symm; clear f1_ f2_ f3_; subst f4_; subst f5_))
          refine hK.out _ _ ⟨bt_ BK238 0, bt_ BK238 1, bt_ BK238 2⟩ (fun hHeld => ?_)
          clear hK K
          refine no_ ?_
          refine on_ 34 59 (fun K hK => ?_)
          refine gs_ Try.func64 #[.slice A237_2 ((rd_T65 l0_0 x14_1).f2).length c237_2, .slice Ao109 t258.length co109] rfl ma_ ?_
          with_reducible refine (spec_l2SameMarks.calls k1 _ _ ((rd_T65 l0_0 x14_1).f2) _ _ t258 true _ ?side1 ?side2 ?side3 ?side4 A93.out).mono ?_
          (case side1 => exact cs_ ((Kd.C_below HR237_2.out HB.out)))
          (case side2 => exact HC237_2.out)
          (case side3 => exact cs_ ((Kd.R_reads' HO260.out).2.2))
          (case side4 => exact (Kd.R_reads' HO260.out).2.1)
          rintro e w' ⟨rfl, ⟨nd, rfl⟩⟩
          refine ⟨_, rfl, ?_⟩
          refine hK.out _ _ ⟨bt_ BK238 0, bt_ BK238 1, bt_ BK238 2⟩ (fun hHeld => ?_)
          clear hK K
          refine no_ ?_
          refine pv_ 35 60 ?_
          refine pv_ 36 61 ?_
          refine pv_ 37 62 ?_
          refine pv_ 38 63 ?_
          refine tk_ 39 64 ?_
          refine on_ 40 65 (fun K hK => ?_)
          refine gs_ Try.func57 #[.int .i64 ((rd_T65 l0_0 x14_1).f0), .int .i64 0, .int .i64 100000] rfl ma_ ?_
          with_reducible refine (spec_l1In.calls ((rd_T65 l0_0 x14_1).f0) 0 100000 false _ A95.out).mono ?_
          rintro e w' ⟨rfl, ⟨nd, rfl⟩⟩
          refine ⟨_, rfl, ?_⟩
          refine hK.out _ _ ⟨bt_ BK238 0, bt_ BK238 1, bt_ BK238 2⟩ (fun hHeld => ?_)
          clear hK K
          refine no_ ?_
          refine pv_ 41 66 ?_
          refine pv_ 42 67 ?_
          refine pv_ 43 68 ?_
          refine po_ 44 69 ?_
          refine po_ 45 70 ?_
          refine po_ 46 71 ?_
          refine po_ 47 72 ?_
          refine po_ 48 73 ?_
          refine po_ 49 74 ?_
          refine po_ 50 75 ?_
          refine po_ 51 76 ?_
          refine pv_ 52 77 ?_
          refine done_ (done_of HT_.out (by kernel_rfl)) ?_
          try go_wp2
          go_meet
          case rel => exact ⟨_, (true), sr_, H', ⟨by have := HK1.out; first | omega | exact Nat.le_refl _⟩, ⟨ks_ HO242.out⟩, ⟨kb_ BK234.out⟩, ⟨kb_ BK238.out⟩, ⟨hs2_ GE234.out GE238.out⟩⟩
        replace H := ite_ H
        obtain ⟨c97, H⟩ | ⟨c97, H⟩ := H
        ·as_aux_lemma =>
          have c97b0 := dgt_ c97
          clear c97
          have H' := Aside0.mk H
          clear H
          try go_wp2
          replace HO242 := Aside0.mk (Kd.S_drew HO242.out)
          replace BK234 := qK_ BK234
          replace BK238 := qK_ BK238
          replace HB := qH_ HB
          obtain ⟨Ao99, co99, eo99⟩ := Kd.S_slice HO242.out
          (first | subst eo99 | (injection eo99 with f1_ f2_ f3_; have f4_ := f1_.symm; have f5_ := f3_.symm; clear f1_ f2_ f3_; subst f4_; subst f5_))
          refine start_ (n := 53) (S := fun w' => w'.cell? ⟨gb238, 0, none⟩ = some (.int .i64 ((rd_T65 l0_0 x14_1).f0)) ∧ w'.cell? ⟨gb238, 1, none⟩ = some (.string ((rd_T65 l0_0 x14_1).f1)) ∧ w'.cell? ⟨gb238, 2, none⟩ = some (.slice A237_2 ((rd_T65 l0_0 x14_1).f2).length c237_2)) (ds := []) (List.replicate 53 false).toArray (by kernel_rfl) rfl rfl ⟨bt_ BK238 0, bt_ BK238 1, bt_ BK238 2⟩ (fun hHeld => ?_); refine with_tabW spec_GoodStore.tab7 spec_GoodStore.bits7 (fun HT_ HW_ => ?_)
          generalize w12.drew = w98 at HO242 BK234 BK238 HB hHeld ⊢
          refine pv_ 0 25 ?_
          refine pv_ 1 26 ?_
          refine tk_ 2 27 ?_
          refine pv_ 3 28 ?_
          refine pv_ 4 29 ?_
          refine pv_ 5 30 ?_
          refine pv_ 6 31 ?_
          refine tk_ 7 32 ?_
          refine pv_ 8 33 ?_
          refine pv_ 9 34 ?_
          refine pv_ 10 35 ?_
          refine po_ 11 36 ?_
          refine po_ 12 37 ?_
          refine po_ 13 38 ?_
          refine pv_ 14 39 ?_
          refine pv_ 15 40 ?_
          refine pv_ 16 41 ?_
          refine pv_ 17 42 ?_
          refine pv_ 18 43 ?_
          refine pv_ 19 44 ?_
          refine pv_ 20 45 ?_
          refine po_ 21 46 ?_
          refine po_ 22 47 ?_
          refine po_ 23 48 ?_
          refine po_ 24 49 ?_
          refine po_ 25 50 ?_
          refine po_ 26 51 ?_
          refine pv_ 27 52 ?_
          refine pv_ 28 53 ?_
          refine pv_ 29 54 ?_
          refine pv_ 30 55 ?_
          refine pv_ 32 57 ?_
          refine tk_ 31 56 ?_
          refine on_ 33 58 (fun K hK => ?_)
          refine gs_ Try.func65 #[.slice Ao99 t239.length co99] rfl ma_ ?_
          with_reducible refine (spec_l2Index.calls k1 _ _ t239 t258 _ ?side1 ?side2 A92.out).mono ?_
          (case side1 => exact cs_ ((Kd.S_reads' HO242.out).2.2))
          (case side2 => exact (Kd.S_reads' HO242.out).2.1)
          rintro e w100 ⟨v259, rfl, ho0, hb⟩
          refine ⟨_, rfl, ?_⟩
          replace HO242 := sB_ HO242 hb
          have HO260 := Aside0.mk (Kd.R_lower ho0 (below_size (hs2_ GE234.out GE238.out)))
          replace BK234 := bK_ BK234 hb
          replace BK238 := bK_ BK238 hb
          replace HB := nc2_ GE234 GE238 hb
          (try clear hb)
          (try clear hb2)
          (try clear hk)
          (try clear hi)
          (try clear ho0)
          obtain ⟨Ao101, co101, eo101⟩ := Kd.R_slice HO260.out
          (first | subst eo101 | (injection eo101 with f1_ f2_ f3_; have f4_ := f1_.symm; have f5_ := f3_.symm; clear f1_ f2_ f3_; subst f4_; subst f5_))
          refine hK.out _ _ ⟨bt_ BK238 0, bt_ BK238 1, bt_ BK238 2⟩ (fun hHeld => ?_)
          clear hK K
          refine no_ ?_
          refine on_ 34 59 (fun K hK => ?_)
          refine gs_ Try.func64 #[.slice A237_2 ((rd_T65 l0_0 x14_1).f2).length c237_2, .slice Ao101 t258.length co101] rfl ma_ ?_
          with_reducible refine (spec_l2SameMarks.calls k1 _ _ ((rd_T65 l0_0 x14_1).f2) _ _ t258 true _ ?side1 ?side2 ?side3 ?side4 A93.out).mono ?_
          (case side1 => exact cs_ ((Kd.C_below HR237_2.out HB.out)))
          (case side2 => exact HC237_2.out)
          (case side3 => exact cs_ ((Kd.R_reads' HO260.out).2.2))
          (case side4 => exact (Kd.R_reads' HO260.out).2.1)
          rintro e w' ⟨rfl, ⟨nd, rfl⟩⟩
          refine ⟨_, rfl, ?_⟩
          refine hK.out _ _ ⟨bt_ BK238 0, bt_ BK238 1, bt_ BK238 2⟩ (fun hHeld => ?_)
          clear hK K
          refine no_ ?_
          refine pv_ 35 60 ?_
          refine pv_ 36 61 ?_
          refine pv_ 37 62 ?_
          refine pv_ 38 63 ?_
          refine tk_ 39 64 ?_
          refine on_ 40 65 (fun K hK => ?_)
          refine gs_ Try.func57 #[.int .i64 ((rd_T65 l0_0 x14_1).f0), .int .i64 0, .int .i64 100000] rfl ma_ ?_
          with_reducible refine (spec_l1In.calls ((rd_T65 l0_0 x14_1).f0) 0 100000 true _ A95.out).mono ?_
          rintro e w' ⟨rfl, ⟨nd, rfl⟩⟩
          refine ⟨_, rfl, ?_⟩
          refine hK.out _ _ ⟨bt_ BK238 0, bt_ BK238 1, bt_ BK238 2⟩ (fun hHeld => ?_)
          clear hK K
          refine no_ ?_
          refine pv_ 41 66 ?_
          refine pv_ 42 67 ?_
          refine pv_ 43 68 ?_
          refine pv_ 44 69 ?_
          refine pv_ 45 70 ?_
          refine pv_ 46 71 ?_
          refine pv_ 47 72 ?_
          refine pv_ 49 74 ?_
          refine tk_ 48 73 ?_
          refine pv_ 50 75 ?_
          refine pv_ 51 76 ?_
          refine pv_ 52 77 ?_
          refine done_ (done_of HT_.out (by kernel_rfl)) ?_
          try go_wp2
          go_meet
          case rel => exact ⟨_, ((((rd_T65 l0_0 x14_1).f0) != x3_1)), sr_, H', ⟨by have := HK1.out; first | omega | exact Nat.le_refl _⟩, ⟨ks_ HO242.out⟩, ⟨kb_ BK234.out⟩, ⟨kb_ BK238.out⟩, ⟨hs2_ GE234.out GE238.out⟩⟩
        have c97b0 := dgf_ c97
        clear c97
        have H' := Aside0.mk H
        clear H
        try go_wp2
        replace HO242 := Aside0.mk (Kd.S_drew HO242.out)
        replace BK234 := qK_ BK234
        replace BK238 := qK_ BK238
        replace HB := qH_ HB
        obtain ⟨Ao103, co103, eo103⟩ := Kd.S_slice HO242.out
        (first | subst eo103 | (injection eo103 with f1_ f2_ f3_; have f4_ := f1_.symm; have f5_ := f3_.symm; clear f1_ f2_ f3_; subst f4_; subst f5_))
        refine start_ (n := 53) (S := fun w' => w'.cell? ⟨gb238, 0, none⟩ = some (.int .i64 ((rd_T65 l0_0 x14_1).f0)) ∧ w'.cell? ⟨gb238, 1, none⟩ = some (.string ((rd_T65 l0_0 x14_1).f1)) ∧ w'.cell? ⟨gb238, 2, none⟩ = some (.slice A237_2 ((rd_T65 l0_0 x14_1).f2).length c237_2)) (ds := []) (List.replicate 53 false).toArray (by kernel_rfl) rfl rfl ⟨bt_ BK238 0, bt_ BK238 1, bt_ BK238 2⟩ (fun hHeld => ?_); refine with_tabW spec_GoodStore.tab7 spec_GoodStore.bits7 (fun HT_ HW_ => ?_)
        generalize w12.drew = w102 at HO242 BK234 BK238 HB hHeld ⊢
        refine pv_ 0 25 ?_
        refine pv_ 1 26 ?_
        refine tk_ 2 27 ?_
        refine pv_ 3 28 ?_
        refine pv_ 4 29 ?_
        refine pv_ 5 30 ?_
        refine pv_ 6 31 ?_
        refine tk_ 7 32 ?_
        refine pv_ 8 33 ?_
        refine pv_ 9 34 ?_
        refine pv_ 10 35 ?_
        refine po_ 11 36 ?_
        refine po_ 12 37 ?_
        refine po_ 13 38 ?_
        refine pv_ 14 39 ?_
        refine pv_ 15 40 ?_
        refine pv_ 16 41 ?_
        refine pv_ 17 42 ?_
        refine pv_ 18 43 ?_
        refine pv_ 19 44 ?_
        refine pv_ 20 45 ?_
        refine po_ 21 46 ?_
        refine po_ 22 47 ?_
        refine po_ 23 48 ?_
        refine po_ 24 49 ?_
        refine po_ 25 50 ?_
        refine po_ 26 51 ?_
        refine pv_ 27 52 ?_
        refine pv_ 28 53 ?_
        refine pv_ 29 54 ?_
        refine pv_ 30 55 ?_
        refine pv_ 32 57 ?_
        refine tk_ 31 56 ?_
        refine on_ 33 58 (fun K hK => ?_)
        refine gs_ Try.func65 #[.slice Ao103 t239.length co103] rfl ma_ ?_
        with_reducible refine (spec_l2Index.calls k1 _ _ t239 t258 _ ?side1 ?side2 A92.out).mono ?_
        (case side1 => exact cs_ ((Kd.S_reads' HO242.out).2.2))
        (case side2 => exact (Kd.S_reads' HO242.out).2.1)
        rintro e w104 ⟨v259, rfl, ho0, hb⟩
        refine ⟨_, rfl, ?_⟩
        replace HO242 := sB_ HO242 hb
        have HO260 := Aside0.mk (Kd.R_lower ho0 (below_size (hs2_ GE234.out GE238.out)))
        replace BK234 := bK_ BK234 hb
        replace BK238 := bK_ BK238 hb
        replace HB := nc2_ GE234 GE238 hb
        (try clear hb)
        (try clear hb2)
        (try clear hk)
        (try clear hi)
        (try clear ho0)
        obtain ⟨Ao105, co105, eo105⟩ := Kd.R_slice HO260.out
        (first | subst eo105 | (injection eo105 with f1_ f2_ f3_; have f4_ := f1_.symm; have f5_ := f3_.symm; clear f1_ f2_ f3_; subst f4_; subst f5_))
        refine hK.out _ _ ⟨bt_ BK238 0, bt_ BK238 1, bt_ BK238 2⟩ (fun hHeld => ?_)
        clear hK K
        refine no_ ?_
        refine on_ 34 59 (fun K hK => ?_)
        refine gs_ Try.func64 #[.slice A237_2 ((rd_T65 l0_0 x14_1).f2).length c237_2, .slice Ao105 t258.length co105] rfl ma_ ?_
        with_reducible refine (spec_l2SameMarks.calls k1 _ _ ((rd_T65 l0_0 x14_1).f2) _ _ t258 true _ ?side1 ?side2 ?side3 ?side4 A93.out).mono ?_
        (case side1 => exact cs_ ((Kd.C_below HR237_2.out HB.out)))
        (case side2 => exact HC237_2.out)
        (case side3 => exact cs_ ((Kd.R_reads' HO260.out).2.2))
        (case side4 => exact (Kd.R_reads' HO260.out).2.1)
        rintro e w' ⟨rfl, ⟨nd, rfl⟩⟩
        refine ⟨_, rfl, ?_⟩
        refine hK.out _ _ ⟨bt_ BK238 0, bt_ BK238 1, bt_ BK238 2⟩ (fun hHeld => ?_)
        clear hK K
        refine no_ ?_
        refine pv_ 35 60 ?_
        refine pv_ 36 61 ?_
        refine pv_ 37 62 ?_
        refine pv_ 38 63 ?_
        refine tk_ 39 64 ?_
        refine on_ 40 65 (fun K hK => ?_)
        refine gs_ Try.func57 #[.int .i64 ((rd_T65 l0_0 x14_1).f0), .int .i64 0, .int .i64 100000] rfl ma_ ?_
        with_reducible refine (spec_l1In.calls ((rd_T65 l0_0 x14_1).f0) 0 100000 true _ A95.out).mono ?_
        rintro e w' ⟨rfl, ⟨nd, rfl⟩⟩
        refine ⟨_, rfl, ?_⟩
        refine hK.out _ _ ⟨bt_ BK238 0, bt_ BK238 1, bt_ BK238 2⟩ (fun hHeld => ?_)
        clear hK K
        refine no_ ?_
        refine pv_ 41 66 ?_
        refine pv_ 42 67 ?_
        refine pv_ 43 68 ?_
        refine pv_ 44 69 ?_
        refine pv_ 45 70 ?_
        refine pv_ 46 71 ?_
        refine po_ 47 72 ?_
        refine po_ 48 73 ?_
        refine po_ 49 74 ?_
        refine po_ 50 75 ?_
        refine pv_ 51 76 ?_
        refine pv_ 52 77 ?_
        refine done_ (done_of HT_.out (by kernel_rfl)) ?_
        try go_wp2
        go_meet
        case rel => exact ⟨_, (false), sr_, H', ⟨by have := HK1.out; first | omega | exact Nat.le_refl _⟩, ⟨ks_ HO242.out⟩, ⟨kb_ BK234.out⟩, ⟨kb_ BK238.out⟩, ⟨hs2_ GE234.out GE238.out⟩⟩
      have c66b0 : ((t239.length : Int) == 0) = true := beq_iff_eq.mpr c66
      have c66b1 : ((t239.length : Int) != 0) = false := bne_eq_false_iff_eq.mpr c66
      clear c66
      replace H := ite_ H
      obtain ⟨c67, H⟩ | ⟨c67, H⟩ := H
      ·as_aux_lemma =>
        have c67b0 := decide_eq_true c67
        clear c67
        have H' := Aside0.mk H
        clear H
        try go_wp2
        replace HO242 := Aside0.mk (Kd.S_drew HO242.out)
        replace BK234 := qK_ BK234
        replace BK238 := qK_ BK238
        replace HB := qH_ HB
        obtain ⟨Ao69, co69, eo69⟩ := Kd.S_slice HO242.out
        (first | subst eo69 | (injection eo69 with f1_ f2_ f3_; have f4_ := f1_.symm; have f5_ := f3_.symm; clear f1_ f2_ f3_; subst f4_; subst f5_))
        refine start_ (n := 53) (S := fun w' => w'.cell? ⟨gb238, 0, none⟩ = some (.int .i64 ((rd_T65 l0_0 x14_1).f0)) ∧ w'.cell? ⟨gb238, 1, none⟩ = some (.string ((rd_T65 l0_0 x14_1).f1)) ∧ w'.cell? ⟨gb238, 2, none⟩ = some (.slice A237_2 ((rd_T65 l0_0 x14_1).f2).length c237_2) ∧ w'.cell? ⟨gb234, 0, none⟩ = some (.slice (some ad237) l0_0.length c0_0) ∧ w'.cell? ⟨gb234, 1, none⟩ = some (.int .i64 a0_1)) (ds := []) (List.replicate 53 false).toArray (by kernel_rfl) rfl rfl ⟨bt_ BK238 0, bt_ BK238 1, bt_ BK238 2, bt_ BK234 0, bt_ BK234 1⟩ (fun hHeld => ?_); refine with_tabW spec_GoodStore.tab7 spec_GoodStore.bits7 (fun HT_ HW_ => ?_)
        generalize w12.drew = w68 at HO242 BK234 BK238 HB hHeld ⊢
        refine pv_ 0 25 ?_
        refine pv_ 1 26 ?_
        refine tk_ 2 27 ?_
        refine pv_ 3 28 ?_
        refine pv_ 4 29 ?_
        refine pv_ 5 30 ?_
        refine pv_ 6 31 ?_
        refine tk_ 7 32 ?_
        refine pv_ 8 33 ?_
        refine pv_ 9 34 ?_
        refine pv_ 10 35 ?_
        refine po_ 11 36 ?_
        refine po_ 12 37 ?_
        refine po_ 13 38 ?_
        refine pv_ 14 39 ?_
        refine pv_ 15 40 ?_
        refine pv_ 16 41 ?_
        refine pv_ 17 42 ?_
        refine pv_ 18 43 ?_
        refine pv_ 19 44 ?_
        refine pv_ 20 45 ?_
        refine pv_ 21 46 ?_
        refine pv_ 22 47 ?_
        refine tk_ 23 48 ?_
        refine pv_ 24 49 ?_
        refine pv_ 25 50 ?_
        refine pv_ 26 51 ?_
        refine pv_ 27 52 ?_
        refine pv_ 28 53 ?_
        refine pv_ 29 54 ?_
        refine po_ 30 55 ?_
        refine po_ 31 56 ?_
        refine po_ 32 57 ?_
        refine po_ 33 58 ?_
        refine po_ 34 59 ?_
        refine po_ 35 60 ?_
        refine pv_ 36 61 ?_
        refine pv_ 37 62 ?_
        refine po_ 38 63 ?_
        refine po_ 39 64 ?_
        refine po_ 40 65 ?_
        refine po_ 41 66 ?_
        refine pv_ 42 67 ?_
        refine pv_ 43 68 ?_
        refine po_ 44 69 ?_
        refine po_ 45 70 ?_
        refine po_ 46 71 ?_
        refine po_ 47 72 ?_
        refine po_ 48 73 ?_
        refine po_ 49 74 ?_
        refine po_ 50 75 ?_
        refine po_ 51 76 ?_
        refine pv_ 52 77 ?_
        refine done_ (done_of HT_.out (by kernel_rfl)) ?_
        try go_wp2
        go_meet
        case rel => exact ⟨_, (true), sr_, H', ⟨by have := HK1.out; first | omega | exact Nat.le_refl _⟩, ⟨ks_ HO242.out⟩, ⟨kb_ BK234.out⟩, ⟨kb_ BK238.out⟩, ⟨hs2_ GE234.out GE238.out⟩⟩
      have c67b0 := decide_eq_false c67
      clear c67
      replace H := bnd_ H
      obtain ⟨t253, A70, H⟩ := H
      replace H := bnd_ H
      obtain ⟨t256, A71, H⟩ := H
      replace H := ifb_ H
      obtain ⟨rfl, H⟩ | ⟨rfl, H⟩ := H
      rotate_left
      ·as_aux_lemma =>
        have H' := Aside0.mk H
        clear H
        try go_wp2
        replace HO242 := Aside0.mk (Kd.S_drew HO242.out)
        replace BK234 := qK_ BK234
        replace BK238 := qK_ BK238
        replace HB := qH_ HB
        obtain ⟨Ao89, co89, eo89⟩ := Kd.S_slice HO242.out
        (first | subst eo89 | (injection eo89 with f1_ f2_ f3_; have f4_ := f1_.symm; have f5_ := f3_.symm; clear f1_ f2_ f3_; subst f4_; subst f5_))
        refine start_ (n := 53) (S := fun w' => w'.cell? ⟨gb238, 0, none⟩ = some (.int .i64 ((rd_T65 l0_0 x14_1).f0)) ∧ w'.cell? ⟨gb238, 1, none⟩ = some (.string ((rd_T65 l0_0 x14_1).f1)) ∧ w'.cell? ⟨gb238, 2, none⟩ = some (.slice A237_2 ((rd_T65 l0_0 x14_1).f2).length c237_2) ∧ w'.cell? ⟨gb234, 0, none⟩ = some (.slice (some ad237) l0_0.length c0_0) ∧ w'.cell? ⟨gb234, 1, none⟩ = some (.int .i64 a0_1)) (ds := []) (List.replicate 53 false).toArray (by kernel_rfl) rfl rfl ⟨bt_ BK238 0, bt_ BK238 1, bt_ BK238 2, bt_ BK234 0, bt_ BK234 1⟩ (fun hHeld => ?_); refine with_tabW spec_GoodStore.tab7 spec_GoodStore.bits7 (fun HT_ HW_ => ?_)
        generalize w12.drew = w88 at HO242 BK234 BK238 HB hHeld ⊢
        refine pv_ 0 25 ?_
        refine pv_ 1 26 ?_
        refine tk_ 2 27 ?_
        refine pv_ 3 28 ?_
        refine pv_ 4 29 ?_
        refine pv_ 5 30 ?_
        refine pv_ 6 31 ?_
        refine tk_ 7 32 ?_
        refine pv_ 8 33 ?_
        refine pv_ 9 34 ?_
        refine pv_ 10 35 ?_
        refine po_ 11 36 ?_
        refine po_ 12 37 ?_
        refine po_ 13 38 ?_
        refine pv_ 14 39 ?_
        refine pv_ 15 40 ?_
        refine pv_ 16 41 ?_
        refine pv_ 17 42 ?_
        refine pv_ 18 43 ?_
        refine pv_ 19 44 ?_
        refine pv_ 20 45 ?_
        refine pv_ 21 46 ?_
        refine pv_ 22 47 ?_
        refine tk_ 23 48 ?_
        refine pv_ 24 49 ?_
        refine pv_ 25 50 ?_
        refine pv_ 26 51 ?_
        refine pv_ 27 52 ?_
        refine pv_ 28 53 ?_
        refine pv_ 29 54 ?_
        refine pv_ 30 55 ?_
        refine pv_ 32 57 ?_
        refine tk_ 31 56 ?_
        refine on_ 33 58 (fun K hK => ?_)
        refine gs_ Try.func65 #[.slice Ao89 t239.length co89] rfl ma_ ?_
        with_reducible refine (spec_l2Index.calls k1 _ _ t239 t253 _ ?side1 ?side2 A70.out).mono ?_
        (case side1 => exact cs_ ((Kd.S_reads' HO242.out).2.2))
        (case side2 => exact (Kd.S_reads' HO242.out).2.1)
        rintro e w90 ⟨v254, rfl, ho0, hb⟩
        refine ⟨_, rfl, ?_⟩
        replace HO242 := sB_ HO242 hb
        have HO255 := Aside0.mk (Kd.R_lower ho0 (below_size (hs2_ GE234.out GE238.out)))
        replace BK234 := bK_ BK234 hb
        replace BK238 := bK_ BK238 hb
        replace HB := nc2_ GE234 GE238 hb
        (try clear hb)
        (try clear hb2)
        (try clear hk)
        (try clear hi)
        (try clear ho0)
        obtain ⟨Ao91, co91, eo91⟩ := Kd.R_slice HO255.out
        (first | subst eo91 | (injection eo91 with f1_ f2_ f3_; have f4_ := f1_.symm; have f5_ := f3_.symm; clear f1_ f2_ f3_; subst f4_; subst f5_))
        refine hK.out _ _ ⟨bt_ BK238 0, bt_ BK238 1, bt_ BK238 2, bt_ BK234 0, bt_ BK234 1⟩ (fun hHeld => ?_)
        clear hK K
        refine no_ ?_
        refine on_ 34 59 (fun K hK => ?_)
        refine gs_ Try.func64 #[.slice A237_2 ((rd_T65 l0_0 x14_1).f2).length c237_2, .slice Ao91 t253.length co91] rfl ma_ ?_
        with_reducible refine (spec_l2SameMarks.calls k1 _ _ ((rd_T65 l0_0 x14_1).f2) _ _ t253 false _ ?side1 ?side2 ?side3 ?side4 A71.out).mono ?_
        (case side1 => exact cs_ ((Kd.C_below HR237_2.out HB.out)))
        (case side2 => exact HC237_2.out)
        (case side3 => exact cs_ ((Kd.R_reads' HO255.out).2.2))
        (case side4 => exact (Kd.R_reads' HO255.out).2.1)
        rintro e w' ⟨rfl, ⟨nd, rfl⟩⟩
        refine ⟨_, rfl, ?_⟩
        refine hK.out _ _ ⟨bt_ BK238 0, bt_ BK238 1, bt_ BK238 2, bt_ BK234 0, bt_ BK234 1⟩ (fun hHeld => ?_)
        clear hK K
        refine no_ ?_
        refine pv_ 35 60 ?_
        refine pv_ 36 61 ?_
        refine pv_ 37 62 ?_
        refine po_ 38 63 ?_
        refine po_ 39 64 ?_
        refine po_ 40 65 ?_
        refine po_ 41 66 ?_
        refine pv_ 42 67 ?_
        refine pv_ 43 68 ?_
        refine po_ 44 69 ?_
        refine po_ 45 70 ?_
        refine po_ 46 71 ?_
        refine po_ 47 72 ?_
        refine po_ 48 73 ?_
        refine po_ 49 74 ?_
        refine po_ 50 75 ?_
        refine po_ 51 76 ?_
        refine pv_ 52 77 ?_
        refine done_ (done_of HT_.out (by kernel_rfl)) ?_
        try go_wp2
        go_meet
        case rel => exact ⟨_, (true), sr_, H', ⟨by have := HK1.out; first | omega | exact Nat.le_refl _⟩, ⟨ks_ HO242.out⟩, ⟨kb_ BK234.out⟩, ⟨kb_ BK238.out⟩, ⟨hs2_ GE234.out GE238.out⟩⟩
      replace H := bnd_ H
      obtain ⟨t257, A73, H⟩ := H
      replace H := ifb_ H
      obtain ⟨rfl, H⟩ | ⟨rfl, H⟩ := H
      rotate_left
      ·as_aux_lemma =>
        have H' := Aside0.mk H
        clear H
        try go_wp2
        replace HO242 := Aside0.mk (Kd.S_drew HO242.out)
        replace BK234 := qK_ BK234
        replace BK238 := qK_ BK238
        replace HB := qH_ HB
        obtain ⟨Ao85, co85, eo85⟩ := Kd.S_slice HO242.out
        (first | subst eo85 | (injection eo85 with f1_ f2_ f3_; have f4_ := f1_.symm; have f5_ := f3_.symm; clear f1_ f2_ f3_; subst f4_; subst f5_))
        refine start_ (n := 53) (S := fun w' => w'.cell? ⟨gb238, 0, none⟩ = some (.int .i64 ((rd_T65 l0_0 x14_1).f0)) ∧ w'.cell? ⟨gb238, 1, none⟩ = some (.string ((rd_T65 l0_0 x14_1).f1)) ∧ w'.cell? ⟨gb238, 2, none⟩ = some (.slice A237_2 ((rd_T65 l0_0 x14_1).f2).length c237_2) ∧ w'.cell? ⟨gb234, 0, none⟩ = some (.slice (some ad237) l0_0.length c0_0) ∧ w'.cell? ⟨gb234, 1, none⟩ = some (.int .i64 a0_1)) (ds := []) (List.replicate 53 false).toArray (by kernel_rfl) rfl rfl ⟨bt_ BK238 0, bt_ BK238 1, bt_ BK238 2, bt_ BK234 0, bt_ BK234 1⟩ (fun hHeld => ?_); refine with_tabW spec_GoodStore.tab7 spec_GoodStore.bits7 (fun HT_ HW_ => ?_)
        generalize w12.drew = w84 at HO242 BK234 BK238 HB hHeld ⊢
        refine pv_ 0 25 ?_
        refine pv_ 1 26 ?_
        refine tk_ 2 27 ?_
        refine pv_ 3 28 ?_
        refine pv_ 4 29 ?_
        refine pv_ 5 30 ?_
        refine pv_ 6 31 ?_
        refine tk_ 7 32 ?_
        refine pv_ 8 33 ?_
        refine pv_ 9 34 ?_
        refine pv_ 10 35 ?_
        refine po_ 11 36 ?_
        refine po_ 12 37 ?_
        refine po_ 13 38 ?_
        refine pv_ 14 39 ?_
        refine pv_ 15 40 ?_
        refine pv_ 16 41 ?_
        refine pv_ 17 42 ?_
        refine pv_ 18 43 ?_
        refine pv_ 19 44 ?_
        refine pv_ 20 45 ?_
        refine pv_ 21 46 ?_
        refine pv_ 22 47 ?_
        refine tk_ 23 48 ?_
        refine pv_ 24 49 ?_
        refine pv_ 25 50 ?_
        refine pv_ 26 51 ?_
        refine pv_ 27 52 ?_
        refine pv_ 28 53 ?_
        refine pv_ 29 54 ?_
        refine pv_ 30 55 ?_
        refine pv_ 32 57 ?_
        refine tk_ 31 56 ?_
        refine on_ 33 58 (fun K hK => ?_)
        refine gs_ Try.func65 #[.slice Ao85 t239.length co85] rfl ma_ ?_
        with_reducible refine (spec_l2Index.calls k1 _ _ t239 t253 _ ?side1 ?side2 A70.out).mono ?_
        (case side1 => exact cs_ ((Kd.S_reads' HO242.out).2.2))
        (case side2 => exact (Kd.S_reads' HO242.out).2.1)
        rintro e w86 ⟨v254, rfl, ho0, hb⟩
        refine ⟨_, rfl, ?_⟩
        replace HO242 := sB_ HO242 hb
        have HO255 := Aside0.mk (Kd.R_lower ho0 (below_size (hs2_ GE234.out GE238.out)))
        replace BK234 := bK_ BK234 hb
        replace BK238 := bK_ BK238 hb
        replace HB := nc2_ GE234 GE238 hb
        (try clear hb)
        (try clear hb2)
        (try clear hk)
        (try clear hi)
        (try clear ho0)
        obtain ⟨Ao87, co87, eo87⟩ := Kd.R_slice HO255.out
        (first | subst eo87 | (injection eo87 with f1_ f2_ f3_; have f4_ := f1_.symm; have f5_ := f3_.symm; clear f1_ f2_ f3_; subst f4_; subst f5_))
        refine hK.out _ _ ⟨bt_ BK238 0, bt_ BK238 1, bt_ BK238 2, bt_ BK234 0, bt_ BK234 1⟩ (fun hHeld => ?_)
        clear hK K
        refine no_ ?_
        refine on_ 34 59 (fun K hK => ?_)
        refine gs_ Try.func64 #[.slice A237_2 ((rd_T65 l0_0 x14_1).f2).length c237_2, .slice Ao87 t253.length co87] rfl ma_ ?_
        with_reducible refine (spec_l2SameMarks.calls k1 _ _ ((rd_T65 l0_0 x14_1).f2) _ _ t253 true _ ?side1 ?side2 ?side3 ?side4 A71.out).mono ?_
        (case side1 => exact cs_ ((Kd.C_below HR237_2.out HB.out)))
        (case side2 => exact HC237_2.out)
        (case side3 => exact cs_ ((Kd.R_reads' HO255.out).2.2))
        (case side4 => exact (Kd.R_reads' HO255.out).2.1)
        rintro e w' ⟨rfl, ⟨nd, rfl⟩⟩
        refine ⟨_, rfl, ?_⟩
        refine hK.out _ _ ⟨bt_ BK238 0, bt_ BK238 1, bt_ BK238 2, bt_ BK234 0, bt_ BK234 1⟩ (fun hHeld => ?_)
        clear hK K
        refine no_ ?_
        refine pv_ 35 60 ?_
        refine pv_ 36 61 ?_
        refine pv_ 37 62 ?_
        refine pv_ 38 63 ?_
        refine tk_ 39 64 ?_
        refine on_ 40 65 (fun K hK => ?_)
        refine gs_ Try.func57 #[.int .i64 ((rd_T65 l0_0 x14_1).f0), .int .i64 0, .int .i64 100000] rfl ma_ ?_
        with_reducible refine (spec_l1In.calls ((rd_T65 l0_0 x14_1).f0) 0 100000 false _ A73.out).mono ?_
        rintro e w' ⟨rfl, ⟨nd, rfl⟩⟩
        refine ⟨_, rfl, ?_⟩
        refine hK.out _ _ ⟨bt_ BK238 0, bt_ BK238 1, bt_ BK238 2, bt_ BK234 0, bt_ BK234 1⟩ (fun hHeld => ?_)
        clear hK K
        refine no_ ?_
        refine pv_ 41 66 ?_
        refine pv_ 42 67 ?_
        refine pv_ 43 68 ?_
        refine po_ 44 69 ?_
        refine po_ 45 70 ?_
        refine po_ 46 71 ?_
        refine po_ 47 72 ?_
        refine po_ 48 73 ?_
        refine po_ 49 74 ?_
        refine po_ 50 75 ?_
        refine po_ 51 76 ?_
        refine pv_ 52 77 ?_
        refine done_ (done_of HT_.out (by kernel_rfl)) ?_
        try go_wp2
        go_meet
        case rel => exact ⟨_, (true), sr_, H', ⟨by have := HK1.out; first | omega | exact Nat.le_refl _⟩, ⟨ks_ HO242.out⟩, ⟨kb_ BK234.out⟩, ⟨kb_ BK238.out⟩, ⟨hs2_ GE234.out GE238.out⟩⟩
      replace H := ite_ H
      obtain ⟨c75, H⟩ | ⟨c75, H⟩ := H
      ·as_aux_lemma =>
        have c75b0 := dgt_ c75
        clear c75
        have H' := Aside0.mk H
        clear H
        try go_wp2
        replace HO242 := Aside0.mk (Kd.S_drew HO242.out)
        replace BK234 := qK_ BK234
        replace BK238 := qK_ BK238
        replace HB := qH_ HB
        obtain ⟨Ao77, co77, eo77⟩ := Kd.S_slice HO242.out
        (first | subst eo77 | (injection eo77 with f1_ f2_ f3_; have f4_ := f1_.symm; have f5_ := f3_.symm; clear f1_ f2_ f3_; subst f4_; subst f5_))
        refine start_ (n := 53) (S := fun w' => w'.cell? ⟨gb238, 0, none⟩ = some (.int .i64 ((rd_T65 l0_0 x14_1).f0)) ∧ w'.cell? ⟨gb238, 1, none⟩ = some (.string ((rd_T65 l0_0 x14_1).f1)) ∧ w'.cell? ⟨gb238, 2, none⟩ = some (.slice A237_2 ((rd_T65 l0_0 x14_1).f2).length c237_2) ∧ w'.cell? ⟨gb234, 0, none⟩ = some (.slice (some ad237) l0_0.length c0_0) ∧ w'.cell? ⟨gb234, 1, none⟩ = some (.int .i64 a0_1)) (ds := []) (List.replicate 53 false).toArray (by kernel_rfl) rfl rfl ⟨bt_ BK238 0, bt_ BK238 1, bt_ BK238 2, bt_ BK234 0, bt_ BK234 1⟩ (fun hHeld => ?_); refine with_tabW spec_GoodStore.tab7 spec_GoodStore.bits7 (fun HT_ HW_ => ?_)
        generalize w12.drew = w76 at HO242 BK234 BK238 HB hHeld ⊢
        refine pv_ 0 25 ?_
        refine pv_ 1 26 ?_
        refine tk_ 2 27 ?_
        refine pv_ 3 28 ?_
        refine pv_ 4 29 ?_
        refine pv_ 5 30 ?_
        refine pv_ 6 31 ?_
        refine tk_ 7 32 ?_
        refine pv_ 8 33 ?_
        refine pv_ 9 34 ?_
        refine pv_ 10 35 ?_
        refine po_ 11 36 ?_
        refine po_ 12 37 ?_
        refine po_ 13 38 ?_
        refine pv_ 14 39 ?_
        refine pv_ 15 40 ?_
        refine pv_ 16 41 ?_
        refine pv_ 17 42 ?_
        refine pv_ 18 43 ?_
        refine pv_ 19 44 ?_
        refine pv_ 20 45 ?_
        refine pv_ 21 46 ?_
        refine pv_ 22 47 ?_
        refine tk_ 23 48 ?_
        refine pv_ 24 49 ?_
        refine pv_ 25 50 ?_
        refine pv_ 26 51 ?_
        refine pv_ 27 52 ?_
        refine pv_ 28 53 ?_
        refine pv_ 29 54 ?_
        refine pv_ 30 55 ?_
        refine pv_ 32 57 ?_
        refine tk_ 31 56 ?_
        refine on_ 33 58 (fun K hK => ?_)
        refine gs_ Try.func65 #[.slice Ao77 t239.length co77] rfl ma_ ?_
        with_reducible refine (spec_l2Index.calls k1 _ _ t239 t253 _ ?side1 ?side2 A70.out).mono ?_
        (case side1 => exact cs_ ((Kd.S_reads' HO242.out).2.2))
        (case side2 => exact (Kd.S_reads' HO242.out).2.1)
        rintro e w78 ⟨v254, rfl, ho0, hb⟩
        refine ⟨_, rfl, ?_⟩
        replace HO242 := sB_ HO242 hb
        have HO255 := Aside0.mk (Kd.R_lower ho0 (below_size (hs2_ GE234.out GE238.out)))
        replace BK234 := bK_ BK234 hb
        replace BK238 := bK_ BK238 hb
        replace HB := nc2_ GE234 GE238 hb
        (try clear hb)
        (try clear hb2)
        (try clear hk)
        (try clear hi)
        (try clear ho0)
        obtain ⟨Ao79, co79, eo79⟩ := Kd.R_slice HO255.out
        (first | subst eo79 | (injection eo79 with f1_ f2_ f3_; have f4_ := f1_.symm; have f5_ := f3_.symm; clear f1_ f2_ f3_; subst f4_; subst f5_))
        refine hK.out _ _ ⟨bt_ BK238 0, bt_ BK238 1, bt_ BK238 2, bt_ BK234 0, bt_ BK234 1⟩ (fun hHeld => ?_)
        clear hK K
        refine no_ ?_
        refine on_ 34 59 (fun K hK => ?_)
        refine gs_ Try.func64 #[.slice A237_2 ((rd_T65 l0_0 x14_1).f2).length c237_2, .slice Ao79 t253.length co79] rfl ma_ ?_
        with_reducible refine (spec_l2SameMarks.calls k1 _ _ ((rd_T65 l0_0 x14_1).f2) _ _ t253 true _ ?side1 ?side2 ?side3 ?side4 A71.out).mono ?_
        (case side1 => exact cs_ ((Kd.C_below HR237_2.out HB.out)))
        (case side2 => exact HC237_2.out)
        (case side3 => exact cs_ ((Kd.R_reads' HO255.out).2.2))
        (case side4 => exact (Kd.R_reads' HO255.out).2.1)
        rintro e w' ⟨rfl, ⟨nd, rfl⟩⟩
        refine ⟨_, rfl, ?_⟩
        refine hK.out _ _ ⟨bt_ BK238 0, bt_ BK238 1, bt_ BK238 2, bt_ BK234 0, bt_ BK234 1⟩ (fun hHeld => ?_)
        clear hK K
        refine no_ ?_
        refine pv_ 35 60 ?_
        refine pv_ 36 61 ?_
        refine pv_ 37 62 ?_
        refine pv_ 38 63 ?_
        refine tk_ 39 64 ?_
        refine on_ 40 65 (fun K hK => ?_)
        refine gs_ Try.func57 #[.int .i64 ((rd_T65 l0_0 x14_1).f0), .int .i64 0, .int .i64 100000] rfl ma_ ?_
        with_reducible refine (spec_l1In.calls ((rd_T65 l0_0 x14_1).f0) 0 100000 true _ A73.out).mono ?_
        rintro e w' ⟨rfl, ⟨nd, rfl⟩⟩
        refine ⟨_, rfl, ?_⟩
        refine hK.out _ _ ⟨bt_ BK238 0, bt_ BK238 1, bt_ BK238 2, bt_ BK234 0, bt_ BK234 1⟩ (fun hHeld => ?_)
        clear hK K
        refine no_ ?_
        refine pv_ 41 66 ?_
        refine pv_ 42 67 ?_
        refine pv_ 43 68 ?_
        refine pv_ 44 69 ?_
        refine pv_ 45 70 ?_
        refine pv_ 46 71 ?_
        refine pv_ 47 72 ?_
        refine pv_ 49 74 ?_
        refine tk_ 48 73 ?_
        refine pv_ 50 75 ?_
        refine pv_ 51 76 ?_
        refine pv_ 52 77 ?_
        refine done_ (done_of HT_.out (by kernel_rfl)) ?_
        try go_wp2
        go_meet
        case rel => exact ⟨_, ((((rd_T65 l0_0 x14_1).f0) != x3_1)), sr_, H', ⟨by have := HK1.out; first | omega | exact Nat.le_refl _⟩, ⟨ks_ HO242.out⟩, ⟨kb_ BK234.out⟩, ⟨kb_ BK238.out⟩, ⟨hs2_ GE234.out GE238.out⟩⟩
      have c75b0 := dgf_ c75
      clear c75
      have H' := Aside0.mk H
      clear H
      try go_wp2
      replace HO242 := Aside0.mk (Kd.S_drew HO242.out)
      replace BK234 := qK_ BK234
      replace BK238 := qK_ BK238
      replace HB := qH_ HB
      obtain ⟨Ao81, co81, eo81⟩ := Kd.S_slice HO242.out
      (first | subst eo81 | (injection eo81 with f1_ f2_ f3_; have f4_ := f1_.symm; have f5_ := f3_.symm; clear f1_ f2_ f3_; subst f4_; subst f5_))
      refine start_ (n := 53) (S := fun w' => w'.cell? ⟨gb238, 0, none⟩ = some (.int .i64 ((rd_T65 l0_0 x14_1).f0)) ∧ w'.cell? ⟨gb238, 1, none⟩ = some (.string ((rd_T65 l0_0 x14_1).f1)) ∧ w'.cell? ⟨gb238, 2, none⟩ = some (.slice A237_2 ((rd_T65 l0_0 x14_1).f2).length c237_2) ∧ w'.cell? ⟨gb234, 0, none⟩ = some (.slice (some ad237) l0_0.length c0_0) ∧ w'.cell? ⟨gb234, 1, none⟩ = some (.int .i64 a0_1)) (ds := []) (List.replicate 53 false).toArray (by kernel_rfl) rfl rfl ⟨bt_ BK238 0, bt_ BK238 1, bt_ BK238 2, bt_ BK234 0, bt_ BK234 1⟩ (fun hHeld => ?_); refine with_tabW spec_GoodStore.tab7 spec_GoodStore.bits7 (fun HT_ HW_ => ?_)
      generalize w12.drew = w80 at HO242 BK234 BK238 HB hHeld ⊢
      refine pv_ 0 25 ?_
      refine pv_ 1 26 ?_
      refine tk_ 2 27 ?_
      refine pv_ 3 28 ?_
      refine pv_ 4 29 ?_
      refine pv_ 5 30 ?_
      refine pv_ 6 31 ?_
      refine tk_ 7 32 ?_
      refine pv_ 8 33 ?_
      refine pv_ 9 34 ?_
      refine pv_ 10 35 ?_
      refine po_ 11 36 ?_
      refine po_ 12 37 ?_
      refine po_ 13 38 ?_
      refine pv_ 14 39 ?_
      refine pv_ 15 40 ?_
      refine pv_ 16 41 ?_
      refine pv_ 17 42 ?_
      refine pv_ 18 43 ?_
      refine pv_ 19 44 ?_
      refine pv_ 20 45 ?_
      refine pv_ 21 46 ?_
      refine pv_ 22 47 ?_
      refine tk_ 23 48 ?_
      refine pv_ 24 49 ?_
      refine pv_ 25 50 ?_
      refine pv_ 26 51 ?_
      refine pv_ 27 52 ?_
      refine pv_ 28 53 ?_
      refine pv_ 29 54 ?_
      refine pv_ 30 55 ?_
      refine pv_ 32 57 ?_
      refine tk_ 31 56 ?_
      refine on_ 33 58 (fun K hK => ?_)
      refine gs_ Try.func65 #[.slice Ao81 t239.length co81] rfl ma_ ?_
      with_reducible refine (spec_l2Index.calls k1 _ _ t239 t253 _ ?side1 ?side2 A70.out).mono ?_
      (case side1 => exact cs_ ((Kd.S_reads' HO242.out).2.2))
      (case side2 => exact (Kd.S_reads' HO242.out).2.1)
      rintro e w82 ⟨v254, rfl, ho0, hb⟩
      refine ⟨_, rfl, ?_⟩
      replace HO242 := sB_ HO242 hb
      have HO255 := Aside0.mk (Kd.R_lower ho0 (below_size (hs2_ GE234.out GE238.out)))
      replace BK234 := bK_ BK234 hb
      replace BK238 := bK_ BK238 hb
      replace HB := nc2_ GE234 GE238 hb
      (try clear hb)
      (try clear hb2)
      (try clear hk)
      (try clear hi)
      (try clear ho0)
      obtain ⟨Ao83, co83, eo83⟩ := Kd.R_slice HO255.out
      (first | subst eo83 | (injection eo83 with f1_ f2_ f3_; have f4_ := f1_.symm; have f5_ := f3_.symm; clear f1_ f2_ f3_; subst f4_; subst f5_))
      refine hK.out _ _ ⟨bt_ BK238 0, bt_ BK238 1, bt_ BK238 2, bt_ BK234 0, bt_ BK234 1⟩ (fun hHeld => ?_)
      clear hK K
      refine no_ ?_
      refine on_ 34 59 (fun K hK => ?_)
      refine gs_ Try.func64 #[.slice A237_2 ((rd_T65 l0_0 x14_1).f2).length c237_2, .slice Ao83 t253.length co83] rfl ma_ ?_
      with_reducible refine (spec_l2SameMarks.calls k1 _ _ ((rd_T65 l0_0 x14_1).f2) _ _ t253 true _ ?side1 ?side2 ?side3 ?side4 A71.out).mono ?_
      (case side1 => exact cs_ ((Kd.C_below HR237_2.out HB.out)))
      (case side2 => exact HC237_2.out)
      (case side3 => exact cs_ ((Kd.R_reads' HO255.out).2.2))
      (case side4 => exact (Kd.R_reads' HO255.out).2.1)
      rintro e w' ⟨rfl, ⟨nd, rfl⟩⟩
      refine ⟨_, rfl, ?_⟩
      refine hK.out _ _ ⟨bt_ BK238 0, bt_ BK238 1, bt_ BK238 2, bt_ BK234 0, bt_ BK234 1⟩ (fun hHeld => ?_)
      clear hK K
      refine no_ ?_
      refine pv_ 35 60 ?_
      refine pv_ 36 61 ?_
      refine pv_ 37 62 ?_
      refine pv_ 38 63 ?_
      refine tk_ 39 64 ?_
      refine on_ 40 65 (fun K hK => ?_)
      refine gs_ Try.func57 #[.int .i64 ((rd_T65 l0_0 x14_1).f0), .int .i64 0, .int .i64 100000] rfl ma_ ?_
      with_reducible refine (spec_l1In.calls ((rd_T65 l0_0 x14_1).f0) 0 100000 true _ A73.out).mono ?_
      rintro e w' ⟨rfl, ⟨nd, rfl⟩⟩
      refine ⟨_, rfl, ?_⟩
      refine hK.out _ _ ⟨bt_ BK238 0, bt_ BK238 1, bt_ BK238 2, bt_ BK234 0, bt_ BK234 1⟩ (fun hHeld => ?_)
      clear hK K
      refine no_ ?_
      refine pv_ 41 66 ?_
      refine pv_ 42 67 ?_
      refine pv_ 43 68 ?_
      refine pv_ 44 69 ?_
      refine pv_ 45 70 ?_
      refine pv_ 46 71 ?_
      refine po_ 47 72 ?_
      refine po_ 48 73 ?_
      refine po_ 49 74 ?_
      refine po_ 50 75 ?_
      refine pv_ 51 76 ?_
      refine pv_ 52 77 ?_
      refine done_ (done_of HT_.out (by kernel_rfl)) ?_
      try go_wp2
      go_meet
      case rel => exact ⟨_, (false), sr_, H', ⟨by have := HK1.out; first | omega | exact Nat.le_refl _⟩, ⟨ks_ HO242.out⟩, ⟨kb_ BK234.out⟩, ⟨kb_ BK238.out⟩, ⟨hs2_ GE234.out GE238.out⟩⟩
    have c14b0 := dgt_ c14
    have c14b1 : decide (120 < ((rd_T65 l0_0 x14_1).f1).size) = true := decide_eq_true (by omega)
    clear c14
    replace H := ite_ H
    obtain ⟨c15, H⟩ | ⟨c15, H⟩ := H
    ·as_aux_lemma =>
      have c15b0 := dgt_ c15
      have c15b1 : decide (1 < t239.length) = true := decide_eq_true (by omega)
      clear c15
      have H' := Aside0.mk H
      clear H
      try go_wp2
      replace HO242 := Aside0.mk (Kd.S_drew HO242.out)
      replace BK234 := qK_ BK234
      replace BK238 := qK_ BK238
      replace HB := qH_ HB
      obtain ⟨Ao17, co17, eo17⟩ := Kd.S_slice HO242.out
      (first | subst eo17 | (injection eo17 with f1_ f2_ f3_; have f4_ := f1_.symm; have f5_ := f3_.symm; clear f1_ f2_ f3_; subst f4_; subst f5_))
      refine start_ (n := 53) (S := fun w' => w'.cell? ⟨gb238, 0, none⟩ = some (.int .i64 ((rd_T65 l0_0 x14_1).f0)) ∧ w'.cell? ⟨gb238, 1, none⟩ = some (.string ((rd_T65 l0_0 x14_1).f1)) ∧ w'.cell? ⟨gb238, 2, none⟩ = some (.slice A237_2 ((rd_T65 l0_0 x14_1).f2).length c237_2)) (ds := []) (List.replicate 53 false).toArray (by kernel_rfl) rfl rfl ⟨bt_ BK238 0, bt_ BK238 1, bt_ BK238 2⟩ (fun hHeld => ?_); refine with_tabW spec_GoodStore.tab7 spec_GoodStore.bits7 (fun HT_ HW_ => ?_)
      generalize w12.drew = w16 at HO242 BK234 BK238 HB hHeld ⊢
      refine pv_ 0 25 ?_
      refine pv_ 1 26 ?_
      refine tk_ 2 27 ?_
      refine pv_ 3 28 ?_
      refine pv_ 4 29 ?_
      refine pv_ 5 30 ?_
      refine pv_ 6 31 ?_
      refine tk_ 7 32 ?_
      refine pv_ 8 33 ?_
      refine pv_ 9 34 ?_
      refine pv_ 10 35 ?_
      refine pv_ 11 36 ?_
      refine pv_ 12 37 ?_
      refine pv_ 13 38 ?_
      refine pv_ 14 39 ?_
      refine pv_ 15 40 ?_
      refine pv_ 16 41 ?_
      refine po_ 17 42 ?_
      refine po_ 18 43 ?_
      refine po_ 19 44 ?_
      refine po_ 20 45 ?_
      refine po_ 21 46 ?_
      refine po_ 22 47 ?_
      refine po_ 23 48 ?_
      refine po_ 24 49 ?_
      refine po_ 25 50 ?_
      refine po_ 26 51 ?_
      refine po_ 27 52 ?_
      refine pv_ 28 53 ?_
      refine pv_ 29 54 ?_
      refine po_ 30 55 ?_
      refine po_ 31 56 ?_
      refine po_ 32 57 ?_
      refine po_ 33 58 ?_
      refine po_ 34 59 ?_
      refine po_ 35 60 ?_
      refine pv_ 36 61 ?_
      refine pv_ 37 62 ?_
      refine po_ 38 63 ?_
      refine po_ 39 64 ?_
      refine po_ 40 65 ?_
      refine po_ 41 66 ?_
      refine pv_ 42 67 ?_
      refine pv_ 43 68 ?_
      refine po_ 44 69 ?_
      refine po_ 45 70 ?_
      refine po_ 46 71 ?_
      refine po_ 47 72 ?_
      refine po_ 48 73 ?_
      refine po_ 49 74 ?_
      refine po_ 50 75 ?_
      refine po_ 51 76 ?_
      refine pv_ 52 77 ?_
      refine done_ (done_of HT_.out (by kernel_rfl)) ?_
      try go_wp2
      go_meet
      case rel => exact ⟨_, (true), sr_, H', ⟨by have := HK1.out; first | omega | exact Nat.le_refl _⟩, ⟨ks_ HO242.out⟩, ⟨kb_ BK234.out⟩, ⟨kb_ BK238.out⟩, ⟨hs2_ GE234.out GE238.out⟩⟩
    have c15b0 := dgf_ c15
    have c15b1 : decide (1 < t239.length) = false := decide_eq_false (by omega)
    clear c15
    replace H := ite_ H
    obtain ⟨c18, H⟩ | ⟨c18, H⟩ := H
    rotate_left
    ·as_aux_lemma =>
      have c18b0 : ((t239.length : Int) == 0) = false := beq_eq_false_iff_ne.mpr c18
      have c18b1 : ((t239.length : Int) != 0) = true := bne_iff_ne.mpr c18
      have c18b2 : ¬ (t239 = []) := fun h_ => c18 (by rw [h_]; rfl)
      replace H := bnd_ H
      obtain ⟨t248, A44, H⟩ := H
      replace H := bnd_ H
      obtain ⟨t251, A45, H⟩ := H
      replace H := ifb_ H
      obtain ⟨rfl, H⟩ | ⟨rfl, H⟩ := H
      rotate_left
      ·as_aux_lemma =>
        have H' := Aside0.mk H
        clear H
        try go_wp2
        replace HO242 := Aside0.mk (Kd.S_drew HO242.out)
        replace BK234 := qK_ BK234
        replace BK238 := qK_ BK238
        replace HB := qH_ HB
        obtain ⟨Ao63, co63, eo63⟩ := Kd.S_slice HO242.out
        (first | subst eo63 | (injection eo63 with f1_ f2_ f3_; have f4_ := f1_.symm; have f5_ := f3_.symm; clear f1_ f2_ f3_; subst f4_; subst f5_))
        refine start_ (n := 53) (S := fun w' => w'.cell? ⟨gb238, 0, none⟩ = some (.int .i64 ((rd_T65 l0_0 x14_1).f0)) ∧ w'.cell? ⟨gb238, 1, none⟩ = some (.string ((rd_T65 l0_0 x14_1).f1)) ∧ w'.cell? ⟨gb238, 2, none⟩ = some (.slice A237_2 ((rd_T65 l0_0 x14_1).f2).length c237_2)) (ds := []) (List.replicate 53 false).toArray (by kernel_rfl) rfl rfl ⟨bt_ BK238 0, bt_ BK238 1, bt_ BK238 2⟩ (fun hHeld => ?_); refine with_tabW spec_GoodStore.tab7 spec_GoodStore.bits7 (fun HT_ HW_ => ?_)
        generalize w12.drew = w62 at HO242 BK234 BK238 HB hHeld ⊢
        refine pv_ 0 25 ?_
        refine pv_ 1 26 ?_
        refine tk_ 2 27 ?_
        refine pv_ 3 28 ?_
        refine pv_ 4 29 ?_
        refine pv_ 5 30 ?_
        refine pv_ 6 31 ?_
        refine tk_ 7 32 ?_
        refine pv_ 8 33 ?_
        refine pv_ 9 34 ?_
        refine pv_ 10 35 ?_
        refine pv_ 11 36 ?_
        refine pv_ 12 37 ?_
        refine pv_ 13 38 ?_
        refine pv_ 14 39 ?_
        refine pv_ 15 40 ?_
        refine pv_ 16 41 ?_
        refine pv_ 17 42 ?_
        refine pv_ 18 43 ?_
        refine pv_ 19 44 ?_
        refine pv_ 20 45 ?_
        refine po_ 21 46 ?_
        refine po_ 22 47 ?_
        refine po_ 23 48 ?_
        refine po_ 24 49 ?_
        refine po_ 25 50 ?_
        refine po_ 26 51 ?_
        refine pv_ 27 52 ?_
        refine pv_ 28 53 ?_
        refine pv_ 29 54 ?_
        refine pv_ 30 55 ?_
        refine pv_ 32 57 ?_
        refine tk_ 31 56 ?_
        refine on_ 33 58 (fun K hK => ?_)
        refine gs_ Try.func65 #[.slice Ao63 t239.length co63] rfl ma_ ?_
        with_reducible refine (spec_l2Index.calls k1 _ _ t239 t248 _ ?side1 ?side2 A44.out).mono ?_
        (case side1 => exact cs_ ((Kd.S_reads' HO242.out).2.2))
        (case side2 => exact (Kd.S_reads' HO242.out).2.1)
        rintro e w64 ⟨v249, rfl, ho0, hb⟩
        refine ⟨_, rfl, ?_⟩
        replace HO242 := sB_ HO242 hb
        have HO250 := Aside0.mk (Kd.R_lower ho0 (below_size (hs2_ GE234.out GE238.out)))
        replace BK234 := bK_ BK234 hb
        replace BK238 := bK_ BK238 hb
        replace HB := nc2_ GE234 GE238 hb
        (try clear hb)
        (try clear hb2)
        (try clear hk)
        (try clear hi)
        (try clear ho0)
        obtain ⟨Ao65, co65, eo65⟩ := Kd.R_slice HO250.out
        (first | subst eo65 | (injection eo65 with f1_ f2_ f3_; have f4_ := f1_.symm; have f5_ := f3_.symm; clear f1_ f2_ f3_; subst f4_; subst f5_))
        refine hK.out _ _ ⟨bt_ BK238 0, bt_ BK238 1, bt_ BK238 2⟩ (fun hHeld => ?_)
        clear hK K
        refine no_ ?_
        refine on_ 34 59 (fun K hK => ?_)
        refine gs_ Try.func64 #[.slice A237_2 ((rd_T65 l0_0 x14_1).f2).length c237_2, .slice Ao65 t248.length co65] rfl ma_ ?_
        with_reducible refine (spec_l2SameMarks.calls k1 _ _ ((rd_T65 l0_0 x14_1).f2) _ _ t248 false _ ?side1 ?side2 ?side3 ?side4 A45.out).mono ?_
        (case side1 => exact cs_ ((Kd.C_below HR237_2.out HB.out)))
        (case side2 => exact HC237_2.out)
        (case side3 => exact cs_ ((Kd.R_reads' HO250.out).2.2))
        (case side4 => exact (Kd.R_reads' HO250.out).2.1)
        rintro e w' ⟨rfl, ⟨nd, rfl⟩⟩
        refine ⟨_, rfl, ?_⟩
        refine hK.out _ _ ⟨bt_ BK238 0, bt_ BK238 1, bt_ BK238 2⟩ (fun hHeld => ?_)
        clear hK K
        refine no_ ?_
        refine pv_ 35 60 ?_
        refine pv_ 36 61 ?_
        refine pv_ 37 62 ?_
        refine po_ 38 63 ?_
        refine po_ 39 64 ?_
        refine po_ 40 65 ?_
        refine po_ 41 66 ?_
        refine pv_ 42 67 ?_
        refine pv_ 43 68 ?_
        refine po_ 44 69 ?_
        refine po_ 45 70 ?_
        refine po_ 46 71 ?_
        refine po_ 47 72 ?_
        refine po_ 48 73 ?_
        refine po_ 49 74 ?_
        refine po_ 50 75 ?_
        refine po_ 51 76 ?_
        refine pv_ 52 77 ?_
        refine done_ (done_of HT_.out (by kernel_rfl)) ?_
        try go_wp2
        go_meet
        case rel => exact ⟨_, (true), sr_, H', ⟨by have := HK1.out; first | omega | exact Nat.le_refl _⟩, ⟨ks_ HO242.out⟩, ⟨kb_ BK234.out⟩, ⟨kb_ BK238.out⟩, ⟨hs2_ GE234.out GE238.out⟩⟩
      replace H := bnd_ H
      obtain ⟨t252, A47, H⟩ := H
      replace H := ifb_ H
      obtain ⟨rfl, H⟩ | ⟨rfl, H⟩ := H
      rotate_left
      ·as_aux_lemma =>
        have H' := Aside0.mk H
        clear H
        try go_wp2
        replace HO242 := Aside0.mk (Kd.S_drew HO242.out)
        replace BK234 := qK_ BK234
        replace BK238 := qK_ BK238
        replace HB := qH_ HB
        obtain ⟨Ao59, co59, eo59⟩ := Kd.S_slice HO242.out
        (first | subst eo59 | (injection eo59 with f1_ f2_ f3_; have f4_ := f1_.symm; have f5_ := f3_.symm; clear f1_ f2_ f3_; subst f4_; subst f5_))
        refine start_ (n := 53) (S := fun w' => w'.cell? ⟨gb238, 0, none⟩ = some (.int .i64 ((rd_T65 l0_0 x14_1).f0)) ∧ w'.cell? ⟨gb238, 1, none⟩ = some (.string ((rd_T65 l0_0 x14_1).f1)) ∧ w'.cell? ⟨gb238, 2, none⟩ = some (.slice A237_2 ((rd_T65 l0_0 x14_1).f2).length c237_2)) (ds := []) (List.replicate 53 false).toArray (by kernel_rfl) rfl rfl ⟨bt_ BK238 0, bt_ BK238 1, bt_ BK238 2⟩ (fun hHeld => ?_); refine with_tabW spec_GoodStore.tab7 spec_GoodStore.bits7 (fun HT_ HW_ => ?_)
        generalize w12.drew = w58 at HO242 BK234 BK238 HB hHeld ⊢
        refine pv_ 0 25 ?_
        refine pv_ 1 26 ?_
        refine tk_ 2 27 ?_
        refine pv_ 3 28 ?_
        refine pv_ 4 29 ?_
        refine pv_ 5 30 ?_
        refine pv_ 6 31 ?_
        refine tk_ 7 32 ?_
        refine pv_ 8 33 ?_
        refine pv_ 9 34 ?_
        refine pv_ 10 35 ?_
        refine pv_ 11 36 ?_
        refine pv_ 12 37 ?_
        refine pv_ 13 38 ?_
        refine pv_ 14 39 ?_
        refine pv_ 15 40 ?_
        refine pv_ 16 41 ?_
        refine pv_ 17 42 ?_
        refine pv_ 18 43 ?_
        refine pv_ 19 44 ?_
        refine pv_ 20 45 ?_
        refine po_ 21 46 ?_
        refine po_ 22 47 ?_
        refine po_ 23 48 ?_
        refine po_ 24 49 ?_
        refine po_ 25 50 ?_
        refine po_ 26 51 ?_
        refine pv_ 27 52 ?_
        refine pv_ 28 53 ?_
        refine pv_ 29 54 ?_
        refine pv_ 30 55 ?_
        refine pv_ 32 57 ?_
        refine tk_ 31 56 ?_
        refine on_ 33 58 (fun K hK => ?_)
        refine gs_ Try.func65 #[.slice Ao59 t239.length co59] rfl ma_ ?_
        with_reducible refine (spec_l2Index.calls k1 _ _ t239 t248 _ ?side1 ?side2 A44.out).mono ?_
        (case side1 => exact cs_ ((Kd.S_reads' HO242.out).2.2))
        (case side2 => exact (Kd.S_reads' HO242.out).2.1)
        rintro e w60 ⟨v249, rfl, ho0, hb⟩
        refine ⟨_, rfl, ?_⟩
        replace HO242 := sB_ HO242 hb
        have HO250 := Aside0.mk (Kd.R_lower ho0 (below_size (hs2_ GE234.out GE238.out)))
        replace BK234 := bK_ BK234 hb
        replace BK238 := bK_ BK238 hb
        replace HB := nc2_ GE234 GE238 hb
        (try clear hb)
        (try clear hb2)
        (try clear hk)
        (try clear hi)
        (try clear ho0)
        obtain ⟨Ao61, co61, eo61⟩ := Kd.R_slice HO250.out
        (first | subst eo61 | (injection eo61 with f1_ f2_ f3_; have f4_ := f1_.symm; have f5_ := f3_.symm; clear f1_ f2_ f3_; subst f4_; subst f5_))
        refine hK.out _ _ ⟨bt_ BK238 0, bt_ BK238 1, bt_ BK238 2⟩ (fun hHeld => ?_)
        clear hK K
        refine no_ ?_
        refine on_ 34 59 (fun K hK => ?_)
        refine gs_ Try.func64 #[.slice A237_2 ((rd_T65 l0_0 x14_1).f2).length c237_2, .slice Ao61 t248.length co61] rfl ma_ ?_
        with_reducible refine (spec_l2SameMarks.calls k1 _ _ ((rd_T65 l0_0 x14_1).f2) _ _ t248 true _ ?side1 ?side2 ?side3 ?side4 A45.out).mono ?_
        (case side1 => exact cs_ ((Kd.C_below HR237_2.out HB.out)))
        (case side2 => exact HC237_2.out)
        (case side3 => exact cs_ ((Kd.R_reads' HO250.out).2.2))
        (case side4 => exact (Kd.R_reads' HO250.out).2.1)
        rintro e w' ⟨rfl, ⟨nd, rfl⟩⟩
        refine ⟨_, rfl, ?_⟩
        refine hK.out _ _ ⟨bt_ BK238 0, bt_ BK238 1, bt_ BK238 2⟩ (fun hHeld => ?_)
        clear hK K
        refine no_ ?_
        refine pv_ 35 60 ?_
        refine pv_ 36 61 ?_
        refine pv_ 37 62 ?_
        refine pv_ 38 63 ?_
        refine tk_ 39 64 ?_
        refine on_ 40 65 (fun K hK => ?_)
        refine gs_ Try.func57 #[.int .i64 ((rd_T65 l0_0 x14_1).f0), .int .i64 0, .int .i64 100000] rfl ma_ ?_
        with_reducible refine (spec_l1In.calls ((rd_T65 l0_0 x14_1).f0) 0 100000 false _ A47.out).mono ?_
        rintro e w' ⟨rfl, ⟨nd, rfl⟩⟩
        refine ⟨_, rfl, ?_⟩
        refine hK.out _ _ ⟨bt_ BK238 0, bt_ BK238 1, bt_ BK238 2⟩ (fun hHeld => ?_)
        clear hK K
        refine no_ ?_
        refine pv_ 41 66 ?_
        refine pv_ 42 67 ?_
        refine pv_ 43 68 ?_
        refine po_ 44 69 ?_
        refine po_ 45 70 ?_
        refine po_ 46 71 ?_
        refine po_ 47 72 ?_
        refine po_ 48 73 ?_
        refine po_ 49 74 ?_
        refine po_ 50 75 ?_
        refine po_ 51 76 ?_
        refine pv_ 52 77 ?_
        refine done_ (done_of HT_.out (by kernel_rfl)) ?_
        try go_wp2
        go_meet
        case rel => exact ⟨_, (true), sr_, H', ⟨by have := HK1.out; first | omega | exact Nat.le_refl _⟩, ⟨ks_ HO242.out⟩, ⟨kb_ BK234.out⟩, ⟨kb_ BK238.out⟩, ⟨hs2_ GE234.out GE238.out⟩⟩
      replace H := ite_ H
      obtain ⟨c49, H⟩ | ⟨c49, H⟩ := H
      ·as_aux_lemma =>
        have c49b0 := dgt_ c49
        clear c49
        have H' := Aside0.mk H
        clear H
        try go_wp2
        replace HO242 := Aside0.mk (Kd.S_drew HO242.out)
        replace BK234 := qK_ BK234
        replace BK238 := qK_ BK238
        replace HB := qH_ HB
        obtain ⟨Ao51, co51, eo51⟩ := Kd.S_slice HO242.out
        (first | subst eo51 | (injection eo51 with f1_ f2_ f3_; have f4_ := f1_.symm; have f5_ := f3_.symm; clear f1_ f2_ f3_; subst f4_; subst f5_))
        refine start_ (n := 53) (S := fun w' => w'.cell? ⟨gb238, 0, none⟩ = some (.int .i64 ((rd_T65 l0_0 x14_1).f0)) ∧ w'.cell? ⟨gb238, 1, none⟩ = some (.string ((rd_T65 l0_0 x14_1).f1)) ∧ w'.cell? ⟨gb238, 2, none⟩ = some (.slice A237_2 ((rd_T65 l0_0 x14_1).f2).length c237_2)) (ds := []) (List.replicate 53 false).toArray (by kernel_rfl) rfl rfl ⟨bt_ BK238 0, bt_ BK238 1, bt_ BK238 2⟩ (fun hHeld => ?_); refine with_tabW spec_GoodStore.tab7 spec_GoodStore.bits7 (fun HT_ HW_ => ?_)
        generalize w12.drew = w50 at HO242 BK234 BK238 HB hHeld ⊢
        refine pv_ 0 25 ?_
        refine pv_ 1 26 ?_
        refine tk_ 2 27 ?_
        refine pv_ 3 28 ?_
        refine pv_ 4 29 ?_
        refine pv_ 5 30 ?_
        refine pv_ 6 31 ?_
        refine tk_ 7 32 ?_
        refine pv_ 8 33 ?_
        refine pv_ 9 34 ?_
        refine pv_ 10 35 ?_
        refine pv_ 11 36 ?_
        refine pv_ 12 37 ?_
        refine pv_ 13 38 ?_
        refine pv_ 14 39 ?_
        refine pv_ 15 40 ?_
        refine pv_ 16 41 ?_
        refine pv_ 17 42 ?_
        refine pv_ 18 43 ?_
        refine pv_ 19 44 ?_
        refine pv_ 20 45 ?_
        refine po_ 21 46 ?_
        refine po_ 22 47 ?_
        refine po_ 23 48 ?_
        refine po_ 24 49 ?_
        refine po_ 25 50 ?_
        refine po_ 26 51 ?_
        refine pv_ 27 52 ?_
        refine pv_ 28 53 ?_
        refine pv_ 29 54 ?_
        refine pv_ 30 55 ?_
        refine pv_ 32 57 ?_
        refine tk_ 31 56 ?_
        refine on_ 33 58 (fun K hK => ?_)
        refine gs_ Try.func65 #[.slice Ao51 t239.length co51] rfl ma_ ?_
        with_reducible refine (spec_l2Index.calls k1 _ _ t239 t248 _ ?side1 ?side2 A44.out).mono ?_
        (case side1 => exact cs_ ((Kd.S_reads' HO242.out).2.2))
        (case side2 => exact (Kd.S_reads' HO242.out).2.1)
        rintro e w52 ⟨v249, rfl, ho0, hb⟩
        refine ⟨_, rfl, ?_⟩
        replace HO242 := sB_ HO242 hb
        have HO250 := Aside0.mk (Kd.R_lower ho0 (below_size (hs2_ GE234.out GE238.out)))
        replace BK234 := bK_ BK234 hb
        replace BK238 := bK_ BK238 hb
        replace HB := nc2_ GE234 GE238 hb
        (try clear hb)
        (try clear hb2)
        (try clear hk)
        (try clear hi)
        (try clear ho0)
        obtain ⟨Ao53, co53, eo53⟩ := Kd.R_slice HO250.out
        (first | subst eo53 | (injection eo53 with f1_ f2_ f3_; have f4_ := f1_.symm; have f5_ := f3_.symm; clear f1_ f2_ f3_; subst f4_; subst f5_))
        refine hK.out _ _ ⟨bt_ BK238 0, bt_ BK238 1, bt_ BK238 2⟩ (fun hHeld => ?_)
        clear hK K
        refine no_ ?_
        refine on_ 34 59 (fun K hK => ?_)
        refine gs_ Try.func64 #[.slice A237_2 ((rd_T65 l0_0 x14_1).f2).length c237_2, .slice Ao53 t248.length co53] rfl ma_ ?_
        with_reducible refine (spec_l2SameMarks.calls k1 _ _ ((rd_T65 l0_0 x14_1).f2) _ _ t248 true _ ?side1 ?side2 ?side3 ?side4 A45.out).mono ?_
        (case side1 => exact cs_ ((Kd.C_below HR237_2.out HB.out)))
        (case side2 => exact HC237_2.out)
        (case side3 => exact cs_ ((Kd.R_reads' HO250.out).2.2))
        (case side4 => exact (Kd.R_reads' HO250.out).2.1)
        rintro e w' ⟨rfl, ⟨nd, rfl⟩⟩
        refine ⟨_, rfl, ?_⟩
        refine hK.out _ _ ⟨bt_ BK238 0, bt_ BK238 1, bt_ BK238 2⟩ (fun hHeld => ?_)
        clear hK K
        refine no_ ?_
        refine pv_ 35 60 ?_
        refine pv_ 36 61 ?_
        refine pv_ 37 62 ?_
        refine pv_ 38 63 ?_
        refine tk_ 39 64 ?_
        refine on_ 40 65 (fun K hK => ?_)
        refine gs_ Try.func57 #[.int .i64 ((rd_T65 l0_0 x14_1).f0), .int .i64 0, .int .i64 100000] rfl ma_ ?_
        with_reducible refine (spec_l1In.calls ((rd_T65 l0_0 x14_1).f0) 0 100000 true _ A47.out).mono ?_
        rintro e w' ⟨rfl, ⟨nd, rfl⟩⟩
        refine ⟨_, rfl, ?_⟩
        refine hK.out _ _ ⟨bt_ BK238 0, bt_ BK238 1, bt_ BK238 2⟩ (fun hHeld => ?_)
        clear hK K
        refine no_ ?_
        refine pv_ 41 66 ?_
        refine pv_ 42 67 ?_
        refine pv_ 43 68 ?_
        refine pv_ 44 69 ?_
        refine pv_ 45 70 ?_
        refine pv_ 46 71 ?_
        refine pv_ 47 72 ?_
        refine pv_ 49 74 ?_
        refine tk_ 48 73 ?_
        refine pv_ 50 75 ?_
        refine pv_ 51 76 ?_
        refine pv_ 52 77 ?_
        refine done_ (done_of HT_.out (by kernel_rfl)) ?_
        try go_wp2
        go_meet
        case rel => exact ⟨_, ((((rd_T65 l0_0 x14_1).f0) != x3_1)), sr_, H', ⟨by have := HK1.out; first | omega | exact Nat.le_refl _⟩, ⟨ks_ HO242.out⟩, ⟨kb_ BK234.out⟩, ⟨kb_ BK238.out⟩, ⟨hs2_ GE234.out GE238.out⟩⟩
      have c49b0 := dgf_ c49
      clear c49
      have H' := Aside0.mk H
      clear H
      try go_wp2
      replace HO242 := Aside0.mk (Kd.S_drew HO242.out)
      replace BK234 := qK_ BK234
      replace BK238 := qK_ BK238
      replace HB := qH_ HB
      obtain ⟨Ao55, co55, eo55⟩ := Kd.S_slice HO242.out
      (first | subst eo55 | (injection eo55 with f1_ f2_ f3_; have f4_ := f1_.symm; have f5_ := f3_.symm; clear f1_ f2_ f3_; subst f4_; subst f5_))
      refine start_ (n := 53) (S := fun w' => w'.cell? ⟨gb238, 0, none⟩ = some (.int .i64 ((rd_T65 l0_0 x14_1).f0)) ∧ w'.cell? ⟨gb238, 1, none⟩ = some (.string ((rd_T65 l0_0 x14_1).f1)) ∧ w'.cell? ⟨gb238, 2, none⟩ = some (.slice A237_2 ((rd_T65 l0_0 x14_1).f2).length c237_2)) (ds := []) (List.replicate 53 false).toArray (by kernel_rfl) rfl rfl ⟨bt_ BK238 0, bt_ BK238 1, bt_ BK238 2⟩ (fun hHeld => ?_); refine with_tabW spec_GoodStore.tab7 spec_GoodStore.bits7 (fun HT_ HW_ => ?_)
      generalize w12.drew = w54 at HO242 BK234 BK238 HB hHeld ⊢
      refine pv_ 0 25 ?_
      refine pv_ 1 26 ?_
      refine tk_ 2 27 ?_
      refine pv_ 3 28 ?_
      refine pv_ 4 29 ?_
      refine pv_ 5 30 ?_
      refine pv_ 6 31 ?_
      refine tk_ 7 32 ?_
      refine pv_ 8 33 ?_
      refine pv_ 9 34 ?_
      refine pv_ 10 35 ?_
      refine pv_ 11 36 ?_
      refine pv_ 12 37 ?_
      refine pv_ 13 38 ?_
      refine pv_ 14 39 ?_
      refine pv_ 15 40 ?_
      refine pv_ 16 41 ?_
      refine pv_ 17 42 ?_
      refine pv_ 18 43 ?_
      refine pv_ 19 44 ?_
      refine pv_ 20 45 ?_
      refine po_ 21 46 ?_
      refine po_ 22 47 ?_
      refine po_ 23 48 ?_
      refine po_ 24 49 ?_
      refine po_ 25 50 ?_
      refine po_ 26 51 ?_
      refine pv_ 27 52 ?_
      refine pv_ 28 53 ?_
      refine pv_ 29 54 ?_
      refine pv_ 30 55 ?_
      refine pv_ 32 57 ?_
      refine tk_ 31 56 ?_
      refine on_ 33 58 (fun K hK => ?_)
      refine gs_ Try.func65 #[.slice Ao55 t239.length co55] rfl ma_ ?_
      with_reducible refine (spec_l2Index.calls k1 _ _ t239 t248 _ ?side1 ?side2 A44.out).mono ?_
      (case side1 => exact cs_ ((Kd.S_reads' HO242.out).2.2))
      (case side2 => exact (Kd.S_reads' HO242.out).2.1)
      rintro e w56 ⟨v249, rfl, ho0, hb⟩
      refine ⟨_, rfl, ?_⟩
      replace HO242 := sB_ HO242 hb
      have HO250 := Aside0.mk (Kd.R_lower ho0 (below_size (hs2_ GE234.out GE238.out)))
      replace BK234 := bK_ BK234 hb
      replace BK238 := bK_ BK238 hb
      replace HB := nc2_ GE234 GE238 hb
      (try clear hb)
      (try clear hb2)
      (try clear hk)
      (try clear hi)
      (try clear ho0)
      obtain ⟨Ao57, co57, eo57⟩ := Kd.R_slice HO250.out
      (first | subst eo57 | (injection eo57 with f1_ f2_ f3_; have f4_ := f1_.symm; have f5_ := f3_.symm; clear f1_ f2_ f3_; subst f4_; subst f5_))
      refine hK.out _ _ ⟨bt_ BK238 0, bt_ BK238 1, bt_ BK238 2⟩ (fun hHeld => ?_)
      clear hK K
      refine no_ ?_
      refine on_ 34 59 (fun K hK => ?_)
      refine gs_ Try.func64 #[.slice A237_2 ((rd_T65 l0_0 x14_1).f2).length c237_2, .slice Ao57 t248.length co57] rfl ma_ ?_
      with_reducible refine (spec_l2SameMarks.calls k1 _ _ ((rd_T65 l0_0 x14_1).f2) _ _ t248 true _ ?side1 ?side2 ?side3 ?side4 A45.out).mono ?_
      (case side1 => exact cs_ ((Kd.C_below HR237_2.out HB.out)))
      (case side2 => exact HC237_2.out)
      (case side3 => exact cs_ ((Kd.R_reads' HO250.out).2.2))
      (case side4 => exact (Kd.R_reads' HO250.out).2.1)
      rintro e w' ⟨rfl, ⟨nd, rfl⟩⟩
      refine ⟨_, rfl, ?_⟩
      refine hK.out _ _ ⟨bt_ BK238 0, bt_ BK238 1, bt_ BK238 2⟩ (fun hHeld => ?_)
      clear hK K
      refine no_ ?_
      refine pv_ 35 60 ?_
      refine pv_ 36 61 ?_
      refine pv_ 37 62 ?_
      refine pv_ 38 63 ?_
      refine tk_ 39 64 ?_
      refine on_ 40 65 (fun K hK => ?_)
      refine gs_ Try.func57 #[.int .i64 ((rd_T65 l0_0 x14_1).f0), .int .i64 0, .int .i64 100000] rfl ma_ ?_
      with_reducible refine (spec_l1In.calls ((rd_T65 l0_0 x14_1).f0) 0 100000 true _ A47.out).mono ?_
      rintro e w' ⟨rfl, ⟨nd, rfl⟩⟩
      refine ⟨_, rfl, ?_⟩
      refine hK.out _ _ ⟨bt_ BK238 0, bt_ BK238 1, bt_ BK238 2⟩ (fun hHeld => ?_)
      clear hK K
      refine no_ ?_
      refine pv_ 41 66 ?_
      refine pv_ 42 67 ?_
      refine pv_ 43 68 ?_
      refine pv_ 44 69 ?_
      refine pv_ 45 70 ?_
      refine pv_ 46 71 ?_
      refine po_ 47 72 ?_
      refine po_ 48 73 ?_
      refine po_ 49 74 ?_
      refine po_ 50 75 ?_
      refine pv_ 51 76 ?_
      refine pv_ 52 77 ?_
      refine done_ (done_of HT_.out (by kernel_rfl)) ?_
      try go_wp2
      go_meet
      case rel => exact ⟨_, (false), sr_, H', ⟨by have := HK1.out; first | omega | exact Nat.le_refl _⟩, ⟨ks_ HO242.out⟩, ⟨kb_ BK234.out⟩, ⟨kb_ BK238.out⟩, ⟨hs2_ GE234.out GE238.out⟩⟩
    have c18b0 : ((t239.length : Int) == 0) = true := beq_iff_eq.mpr c18
    have c18b1 : ((t239.length : Int) != 0) = false := bne_eq_false_iff_eq.mpr c18
    clear c18
    replace H := ite_ H
    obtain ⟨c19, H⟩ | ⟨c19, H⟩ := H
    ·as_aux_lemma =>
      have c19b0 := decide_eq_true c19
      clear c19
      have H' := Aside0.mk H
      clear H
      try go_wp2
      replace HO242 := Aside0.mk (Kd.S_drew HO242.out)
      replace BK234 := qK_ BK234
      replace BK238 := qK_ BK238
      replace HB := qH_ HB
      obtain ⟨Ao21, co21, eo21⟩ := Kd.S_slice HO242.out
      (first | subst eo21 | (injection eo21 with f1_ f2_ f3_; have f4_ := f1_.symm; have f5_ := f3_.symm; clear f1_ f2_ f3_; subst f4_; subst f5_))
      refine start_ (n := 53) (S := fun w' => w'.cell? ⟨gb238, 0, none⟩ = some (.int .i64 ((rd_T65 l0_0 x14_1).f0)) ∧ w'.cell? ⟨gb238, 1, none⟩ = some (.string ((rd_T65 l0_0 x14_1).f1)) ∧ w'.cell? ⟨gb238, 2, none⟩ = some (.slice A237_2 ((rd_T65 l0_0 x14_1).f2).length c237_2) ∧ w'.cell? ⟨gb234, 0, none⟩ = some (.slice (some ad237) l0_0.length c0_0) ∧ w'.cell? ⟨gb234, 1, none⟩ = some (.int .i64 a0_1)) (ds := []) (List.replicate 53 false).toArray (by kernel_rfl) rfl rfl ⟨bt_ BK238 0, bt_ BK238 1, bt_ BK238 2, bt_ BK234 0, bt_ BK234 1⟩ (fun hHeld => ?_); refine with_tabW spec_GoodStore.tab7 spec_GoodStore.bits7 (fun HT_ HW_ => ?_)
      generalize w12.drew = w20 at HO242 BK234 BK238 HB hHeld ⊢
      refine pv_ 0 25 ?_
      refine pv_ 1 26 ?_
      refine tk_ 2 27 ?_
      refine pv_ 3 28 ?_
      refine pv_ 4 29 ?_
      refine pv_ 5 30 ?_
      refine pv_ 6 31 ?_
      refine tk_ 7 32 ?_
      refine pv_ 8 33 ?_
      refine pv_ 9 34 ?_
      refine pv_ 10 35 ?_
      refine pv_ 11 36 ?_
      refine pv_ 12 37 ?_
      refine pv_ 13 38 ?_
      refine pv_ 14 39 ?_
      refine pv_ 15 40 ?_
      refine pv_ 16 41 ?_
      refine pv_ 17 42 ?_
      refine pv_ 18 43 ?_
      refine pv_ 19 44 ?_
      refine pv_ 20 45 ?_
      refine pv_ 21 46 ?_
      refine pv_ 22 47 ?_
      refine tk_ 23 48 ?_
      refine pv_ 24 49 ?_
      refine pv_ 25 50 ?_
      refine pv_ 26 51 ?_
      refine pv_ 27 52 ?_
      refine pv_ 28 53 ?_
      refine pv_ 29 54 ?_
      refine po_ 30 55 ?_
      refine po_ 31 56 ?_
      refine po_ 32 57 ?_
      refine po_ 33 58 ?_
      refine po_ 34 59 ?_
      refine po_ 35 60 ?_
      refine pv_ 36 61 ?_
      refine pv_ 37 62 ?_
      refine po_ 38 63 ?_
      refine po_ 39 64 ?_
      refine po_ 40 65 ?_
      refine po_ 41 66 ?_
      refine pv_ 42 67 ?_
      refine pv_ 43 68 ?_
      refine po_ 44 69 ?_
      refine po_ 45 70 ?_
      refine po_ 46 71 ?_
      refine po_ 47 72 ?_
      refine po_ 48 73 ?_
      refine po_ 49 74 ?_
      refine po_ 50 75 ?_
      refine po_ 51 76 ?_
      refine pv_ 52 77 ?_
      refine done_ (done_of HT_.out (by kernel_rfl)) ?_
      try go_wp2
      go_meet
      case rel => exact ⟨_, (true), sr_, H', ⟨by have := HK1.out; first | omega | exact Nat.le_refl _⟩, ⟨ks_ HO242.out⟩, ⟨kb_ BK234.out⟩, ⟨kb_ BK238.out⟩, ⟨hs2_ GE234.out GE238.out⟩⟩
    have c19b0 := decide_eq_false c19
    clear c19
    replace H := bnd_ H
    obtain ⟨t243, A22, H⟩ := H
    replace H := bnd_ H
    obtain ⟨t246, A23, H⟩ := H
    replace H := ifb_ H
    obtain ⟨rfl, H⟩ | ⟨rfl, H⟩ := H
    rotate_left
    ·as_aux_lemma =>
      have H' := Aside0.mk H
      clear H
      try go_wp2
      replace HO242 := Aside0.mk (Kd.S_drew HO242.out)
      replace BK234 := qK_ BK234
      replace BK238 := qK_ BK238
      replace HB := qH_ HB
      obtain ⟨Ao41, co41, eo41⟩ := Kd.S_slice HO242.out
      (first | subst eo41 | (injection eo41 with f1_ f2_ f3_; have f4_ := f1_.symm; have f5_ := f3_.symm; clear f1_ f2_ f3_; subst f4_; subst f5_))
      refine start_ (n := 53) (S := fun w' => w'.cell? ⟨gb238, 0, none⟩ = some (.int .i64 ((rd_T65 l0_0 x14_1).f0)) ∧ w'.cell? ⟨gb238, 1, none⟩ = some (.string ((rd_T65 l0_0 x14_1).f1)) ∧ w'.cell? ⟨gb238, 2, none⟩ = some (.slice A237_2 ((rd_T65 l0_0 x14_1).f2).length c237_2) ∧ w'.cell? ⟨gb234, 0, none⟩ = some (.slice (some ad237) l0_0.length c0_0) ∧ w'.cell? ⟨gb234, 1, none⟩ = some (.int .i64 a0_1)) (ds := []) (List.replicate 53 false).toArray (by kernel_rfl) rfl rfl ⟨bt_ BK238 0, bt_ BK238 1, bt_ BK238 2, bt_ BK234 0, bt_ BK234 1⟩ (fun hHeld => ?_); refine with_tabW spec_GoodStore.tab7 spec_GoodStore.bits7 (fun HT_ HW_ => ?_)
      generalize w12.drew = w40 at HO242 BK234 BK238 HB hHeld ⊢
      refine pv_ 0 25 ?_
      refine pv_ 1 26 ?_
      refine tk_ 2 27 ?_
      refine pv_ 3 28 ?_
      refine pv_ 4 29 ?_
      refine pv_ 5 30 ?_
      refine pv_ 6 31 ?_
      refine tk_ 7 32 ?_
      refine pv_ 8 33 ?_
      refine pv_ 9 34 ?_
      refine pv_ 10 35 ?_
      refine pv_ 11 36 ?_
      refine pv_ 12 37 ?_
      refine pv_ 13 38 ?_
      refine pv_ 14 39 ?_
      refine pv_ 15 40 ?_
      refine pv_ 16 41 ?_
      refine pv_ 17 42 ?_
      refine pv_ 18 43 ?_
      refine pv_ 19 44 ?_
      refine pv_ 20 45 ?_
      refine pv_ 21 46 ?_
      refine pv_ 22 47 ?_
      refine tk_ 23 48 ?_
      refine pv_ 24 49 ?_
      refine pv_ 25 50 ?_
      refine pv_ 26 51 ?_
      refine pv_ 27 52 ?_
      refine pv_ 28 53 ?_
      refine pv_ 29 54 ?_
      refine pv_ 30 55 ?_
      refine pv_ 32 57 ?_
      refine tk_ 31 56 ?_
      refine on_ 33 58 (fun K hK => ?_)
      refine gs_ Try.func65 #[.slice Ao41 t239.length co41] rfl ma_ ?_
      with_reducible refine (spec_l2Index.calls k1 _ _ t239 t243 _ ?side1 ?side2 A22.out).mono ?_
      (case side1 => exact cs_ ((Kd.S_reads' HO242.out).2.2))
      (case side2 => exact (Kd.S_reads' HO242.out).2.1)
      rintro e w42 ⟨v244, rfl, ho0, hb⟩
      refine ⟨_, rfl, ?_⟩
      replace HO242 := sB_ HO242 hb
      have HO245 := Aside0.mk (Kd.R_lower ho0 (below_size (hs2_ GE234.out GE238.out)))
      replace BK234 := bK_ BK234 hb
      replace BK238 := bK_ BK238 hb
      replace HB := nc2_ GE234 GE238 hb
      (try clear hb)
      (try clear hb2)
      (try clear hk)
      (try clear hi)
      (try clear ho0)
      obtain ⟨Ao43, co43, eo43⟩ := Kd.R_slice HO245.out
      (first | subst eo43 | (injection eo43 with f1_ f2_ f3_; have f4_ := f1_.symm; have f5_ := f3_.symm; clear f1_ f2_ f3_; subst f4_; subst f5_))
      refine hK.out _ _ ⟨bt_ BK238 0, bt_ BK238 1, bt_ BK238 2, bt_ BK234 0, bt_ BK234 1⟩ (fun hHeld => ?_)
      clear hK K
      refine no_ ?_
      refine on_ 34 59 (fun K hK => ?_)
      refine gs_ Try.func64 #[.slice A237_2 ((rd_T65 l0_0 x14_1).f2).length c237_2, .slice Ao43 t243.length co43] rfl ma_ ?_
      with_reducible refine (spec_l2SameMarks.calls k1 _ _ ((rd_T65 l0_0 x14_1).f2) _ _ t243 false _ ?side1 ?side2 ?side3 ?side4 A23.out).mono ?_
      (case side1 => exact cs_ ((Kd.C_below HR237_2.out HB.out)))
      (case side2 => exact HC237_2.out)
      (case side3 => exact cs_ ((Kd.R_reads' HO245.out).2.2))
      (case side4 => exact (Kd.R_reads' HO245.out).2.1)
      rintro e w' ⟨rfl, ⟨nd, rfl⟩⟩
      refine ⟨_, rfl, ?_⟩
      refine hK.out _ _ ⟨bt_ BK238 0, bt_ BK238 1, bt_ BK238 2, bt_ BK234 0, bt_ BK234 1⟩ (fun hHeld => ?_)
      clear hK K
      refine no_ ?_
      refine pv_ 35 60 ?_
      refine pv_ 36 61 ?_
      refine pv_ 37 62 ?_
      refine po_ 38 63 ?_
      refine po_ 39 64 ?_
      refine po_ 40 65 ?_
      refine po_ 41 66 ?_
      refine pv_ 42 67 ?_
      refine pv_ 43 68 ?_
      refine po_ 44 69 ?_
      refine po_ 45 70 ?_
      refine po_ 46 71 ?_
      refine po_ 47 72 ?_
      refine po_ 48 73 ?_
      refine po_ 49 74 ?_
      refine po_ 50 75 ?_
      refine po_ 51 76 ?_
      refine pv_ 52 77 ?_
      refine done_ (done_of HT_.out (by kernel_rfl)) ?_
      try go_wp2
      go_meet
      case rel => exact ⟨_, (true), sr_, H', ⟨by have := HK1.out; first | omega | exact Nat.le_refl _⟩, ⟨ks_ HO242.out⟩, ⟨kb_ BK234.out⟩, ⟨kb_ BK238.out⟩, ⟨hs2_ GE234.out GE238.out⟩⟩
    replace H := bnd_ H
    obtain ⟨t247, A25, H⟩ := H
    replace H := ifb_ H
    obtain ⟨rfl, H⟩ | ⟨rfl, H⟩ := H
    rotate_left
    ·as_aux_lemma =>
      have H' := Aside0.mk H
      clear H
      try go_wp2
      replace HO242 := Aside0.mk (Kd.S_drew HO242.out)
      replace BK234 := qK_ BK234
      replace BK238 := qK_ BK238
      replace HB := qH_ HB
      obtain ⟨Ao37, co37, eo37⟩ := Kd.S_slice HO242.out
      (first | subst eo37 | (injection eo37 with f1_ f2_ f3_; have f4_ := f1_.symm; have f5_ := f3_.symm; clear f1_ f2_ f3_; subst f4_; subst f5_))
      refine start_ (n := 53) (S := fun w' => w'.cell? ⟨gb238, 0, none⟩ = some (.int .i64 ((rd_T65 l0_0 x14_1).f0)) ∧ w'.cell? ⟨gb238, 1, none⟩ = some (.string ((rd_T65 l0_0 x14_1).f1)) ∧ w'.cell? ⟨gb238, 2, none⟩ = some (.slice A237_2 ((rd_T65 l0_0 x14_1).f2).length c237_2) ∧ w'.cell? ⟨gb234, 0, none⟩ = some (.slice (some ad237) l0_0.length c0_0) ∧ w'.cell? ⟨gb234, 1, none⟩ = some (.int .i64 a0_1)) (ds := []) (List.replicate 53 false).toArray (by kernel_rfl) rfl rfl ⟨bt_ BK238 0, bt_ BK238 1, bt_ BK238 2, bt_ BK234 0, bt_ BK234 1⟩ (fun hHeld => ?_); refine with_tabW spec_GoodStore.tab7 spec_GoodStore.bits7 (fun HT_ HW_ => ?_)
      generalize w12.drew = w36 at HO242 BK234 BK238 HB hHeld ⊢
      refine pv_ 0 25 ?_
      refine pv_ 1 26 ?_
      refine tk_ 2 27 ?_
      refine pv_ 3 28 ?_
      refine pv_ 4 29 ?_
      refine pv_ 5 30 ?_
      refine pv_ 6 31 ?_
      refine tk_ 7 32 ?_
      refine pv_ 8 33 ?_
      refine pv_ 9 34 ?_
      refine pv_ 10 35 ?_
      refine pv_ 11 36 ?_
      refine pv_ 12 37 ?_
      refine pv_ 13 38 ?_
      refine pv_ 14 39 ?_
      refine pv_ 15 40 ?_
      refine pv_ 16 41 ?_
      refine pv_ 17 42 ?_
      refine pv_ 18 43 ?_
      refine pv_ 19 44 ?_
      refine pv_ 20 45 ?_
      refine pv_ 21 46 ?_
      refine pv_ 22 47 ?_
      refine tk_ 23 48 ?_
      refine pv_ 24 49 ?_
      refine pv_ 25 50 ?_
      refine pv_ 26 51 ?_
      refine pv_ 27 52 ?_
      refine pv_ 28 53 ?_
      refine pv_ 29 54 ?_
      refine pv_ 30 55 ?_
      refine pv_ 32 57 ?_
      refine tk_ 31 56 ?_
      refine on_ 33 58 (fun K hK => ?_)
      refine gs_ Try.func65 #[.slice Ao37 t239.length co37] rfl ma_ ?_
      with_reducible refine (spec_l2Index.calls k1 _ _ t239 t243 _ ?side1 ?side2 A22.out).mono ?_
      (case side1 => exact cs_ ((Kd.S_reads' HO242.out).2.2))
      (case side2 => exact (Kd.S_reads' HO242.out).2.1)
      rintro e w38 ⟨v244, rfl, ho0, hb⟩
      refine ⟨_, rfl, ?_⟩
      replace HO242 := sB_ HO242 hb
      have HO245 := Aside0.mk (Kd.R_lower ho0 (below_size (hs2_ GE234.out GE238.out)))
      replace BK234 := bK_ BK234 hb
      replace BK238 := bK_ BK238 hb
      replace HB := nc2_ GE234 GE238 hb
      (try clear hb)
      (try clear hb2)
      (try clear hk)
      (try clear hi)
      (try clear ho0)
      obtain ⟨Ao39, co39, eo39⟩ := Kd.R_slice HO245.out
      (first | subst eo39 | (injection eo39 with f1_ f2_ f3_; have f4_ := f1_.symm; have f5_ := f3_.symm; clear f1_ f2_ f3_; subst f4_; subst f5_))
      refine hK.out _ _ ⟨bt_ BK238 0, bt_ BK238 1, bt_ BK238 2, bt_ BK234 0, bt_ BK234 1⟩ (fun hHeld => ?_)
      clear hK K
      refine no_ ?_
      refine on_ 34 59 (fun K hK => ?_)
      refine gs_ Try.func64 #[.slice A237_2 ((rd_T65 l0_0 x14_1).f2).length c237_2, .slice Ao39 t243.length co39] rfl ma_ ?_
      with_reducible refine (spec_l2SameMarks.calls k1 _ _ ((rd_T65 l0_0 x14_1).f2) _ _ t243 true _ ?side1 ?side2 ?side3 ?side4 A23.out).mono ?_
      (case side1 => exact cs_ ((Kd.C_below HR237_2.out HB.out)))
      (case side2 => exact HC237_2.out)
      (case side3 => exact cs_ ((Kd.R_reads' HO245.out).2.2))
      (case side4 => exact (Kd.R_reads' HO245.out).2.1)
      rintro e w' ⟨rfl, ⟨nd, rfl⟩⟩
      refine ⟨_, rfl, ?_⟩
      refine hK.out _ _ ⟨bt_ BK238 0, bt_ BK238 1, bt_ BK238 2, bt_ BK234 0, bt_ BK234 1⟩ (fun hHeld => ?_)
      clear hK K
      refine no_ ?_
      refine pv_ 35 60 ?_
      refine pv_ 36 61 ?_
      refine pv_ 37 62 ?_
      refine pv_ 38 63 ?_
      refine tk_ 39 64 ?_
      refine on_ 40 65 (fun K hK => ?_)
      refine gs_ Try.func57 #[.int .i64 ((rd_T65 l0_0 x14_1).f0), .int .i64 0, .int .i64 100000] rfl ma_ ?_
      with_reducible refine (spec_l1In.calls ((rd_T65 l0_0 x14_1).f0) 0 100000 false _ A25.out).mono ?_
      rintro e w' ⟨rfl, ⟨nd, rfl⟩⟩
      refine ⟨_, rfl, ?_⟩
      refine hK.out _ _ ⟨bt_ BK238 0, bt_ BK238 1, bt_ BK238 2, bt_ BK234 0, bt_ BK234 1⟩ (fun hHeld => ?_)
      clear hK K
      refine no_ ?_
      refine pv_ 41 66 ?_
      refine pv_ 42 67 ?_
      refine pv_ 43 68 ?_
      refine po_ 44 69 ?_
      refine po_ 45 70 ?_
      refine po_ 46 71 ?_
      refine po_ 47 72 ?_
      refine po_ 48 73 ?_
      refine po_ 49 74 ?_
      refine po_ 50 75 ?_
      refine po_ 51 76 ?_
      refine pv_ 52 77 ?_
      refine done_ (done_of HT_.out (by kernel_rfl)) ?_
      try go_wp2
      go_meet
      case rel => exact ⟨_, (true), sr_, H', ⟨by have := HK1.out; first | omega | exact Nat.le_refl _⟩, ⟨ks_ HO242.out⟩, ⟨kb_ BK234.out⟩, ⟨kb_ BK238.out⟩, ⟨hs2_ GE234.out GE238.out⟩⟩
    replace H := ite_ H
    obtain ⟨c27, H⟩ | ⟨c27, H⟩ := H
    ·as_aux_lemma =>
      have c27b0 := dgt_ c27
      clear c27
      have H' := Aside0.mk H
      clear H
      try go_wp2
      replace HO242 := Aside0.mk (Kd.S_drew HO242.out)
      replace BK234 := qK_ BK234
      replace BK238 := qK_ BK238
      replace HB := qH_ HB
      obtain ⟨Ao29, co29, eo29⟩ := Kd.S_slice HO242.out
      (first | subst eo29 | (injection eo29 with f1_ f2_ f3_; have f4_ := f1_.symm; have f5_ := f3_.symm; clear f1_ f2_ f3_; subst f4_; subst f5_))
      refine start_ (n := 53) (S := fun w' => w'.cell? ⟨gb238, 0, none⟩ = some (.int .i64 ((rd_T65 l0_0 x14_1).f0)) ∧ w'.cell? ⟨gb238, 1, none⟩ = some (.string ((rd_T65 l0_0 x14_1).f1)) ∧ w'.cell? ⟨gb238, 2, none⟩ = some (.slice A237_2 ((rd_T65 l0_0 x14_1).f2).length c237_2) ∧ w'.cell? ⟨gb234, 0, none⟩ = some (.slice (some ad237) l0_0.length c0_0) ∧ w'.cell? ⟨gb234, 1, none⟩ = some (.int .i64 a0_1)) (ds := []) (List.replicate 53 false).toArray (by kernel_rfl) rfl rfl ⟨bt_ BK238 0, bt_ BK238 1, bt_ BK238 2, bt_ BK234 0, bt_ BK234 1⟩ (fun hHeld => ?_); refine with_tabW spec_GoodStore.tab7 spec_GoodStore.bits7 (fun HT_ HW_ => ?_)
      generalize w12.drew = w28 at HO242 BK234 BK238 HB hHeld ⊢
      refine pv_ 0 25 ?_
      refine pv_ 1 26 ?_
      refine tk_ 2 27 ?_
      refine pv_ 3 28 ?_
      refine pv_ 4 29 ?_
      refine pv_ 5 30 ?_
      refine pv_ 6 31 ?_
      refine tk_ 7 32 ?_
      refine pv_ 8 33 ?_
      refine pv_ 9 34 ?_
      refine pv_ 10 35 ?_
      refine pv_ 11 36 ?_
      refine pv_ 12 37 ?_
      refine pv_ 13 38 ?_
      refine pv_ 14 39 ?_
      refine pv_ 15 40 ?_
      refine pv_ 16 41 ?_
      refine pv_ 17 42 ?_
      refine pv_ 18 43 ?_
      refine pv_ 19 44 ?_
      refine pv_ 20 45 ?_
      refine pv_ 21 46 ?_
      refine pv_ 22 47 ?_
      refine tk_ 23 48 ?_
      refine pv_ 24 49 ?_
      refine pv_ 25 50 ?_
      refine pv_ 26 51 ?_
      refine pv_ 27 52 ?_
      refine pv_ 28 53 ?_
      refine pv_ 29 54 ?_
      refine pv_ 30 55 ?_
      refine pv_ 32 57 ?_
      refine tk_ 31 56 ?_
      refine on_ 33 58 (fun K hK => ?_)
      refine gs_ Try.func65 #[.slice Ao29 t239.length co29] rfl ma_ ?_
      with_reducible refine (spec_l2Index.calls k1 _ _ t239 t243 _ ?side1 ?side2 A22.out).mono ?_
      (case side1 => exact cs_ ((Kd.S_reads' HO242.out).2.2))
      (case side2 => exact (Kd.S_reads' HO242.out).2.1)
      rintro e w30 ⟨v244, rfl, ho0, hb⟩
      refine ⟨_, rfl, ?_⟩
      replace HO242 := sB_ HO242 hb
      have HO245 := Aside0.mk (Kd.R_lower ho0 (below_size (hs2_ GE234.out GE238.out)))
      replace BK234 := bK_ BK234 hb
      replace BK238 := bK_ BK238 hb
      replace HB := nc2_ GE234 GE238 hb
      (try clear hb)
      (try clear hb2)
      (try clear hk)
      (try clear hi)
      (try clear ho0)
      obtain ⟨Ao31, co31, eo31⟩ := Kd.R_slice HO245.out
      (first | subst eo31 | (injection eo31 with f1_ f2_ f3_; have f4_ := f1_.symm; have f5_ := f3_.symm; clear f1_ f2_ f3_; subst f4_; subst f5_))
      refine hK.out _ _ ⟨bt_ BK238 0, bt_ BK238 1, bt_ BK238 2, bt_ BK234 0, bt_ BK234 1⟩ (fun hHeld => ?_)
      clear hK K
      refine no_ ?_
      refine on_ 34 59 (fun K hK => ?_)
      refine gs_ Try.func64 #[.slice A237_2 ((rd_T65 l0_0 x14_1).f2).length c237_2, .slice Ao31 t243.length co31] rfl ma_ ?_
      with_reducible refine (spec_l2SameMarks.calls k1 _ _ ((rd_T65 l0_0 x14_1).f2) _ _ t243 true _ ?side1 ?side2 ?side3 ?side4 A23.out).mono ?_
      (case side1 => exact cs_ ((Kd.C_below HR237_2.out HB.out)))
      (case side2 => exact HC237_2.out)
      (case side3 => exact cs_ ((Kd.R_reads' HO245.out).2.2))
      (case side4 => exact (Kd.R_reads' HO245.out).2.1)
      rintro e w' ⟨rfl, ⟨nd, rfl⟩⟩
      refine ⟨_, rfl, ?_⟩
      refine hK.out _ _ ⟨bt_ BK238 0, bt_ BK238 1, bt_ BK238 2, bt_ BK234 0, bt_ BK234 1⟩ (fun hHeld => ?_)
      clear hK K
      refine no_ ?_
      refine pv_ 35 60 ?_
      refine pv_ 36 61 ?_
      refine pv_ 37 62 ?_
      refine pv_ 38 63 ?_
      refine tk_ 39 64 ?_
      refine on_ 40 65 (fun K hK => ?_)
      refine gs_ Try.func57 #[.int .i64 ((rd_T65 l0_0 x14_1).f0), .int .i64 0, .int .i64 100000] rfl ma_ ?_
      with_reducible refine (spec_l1In.calls ((rd_T65 l0_0 x14_1).f0) 0 100000 true _ A25.out).mono ?_
      rintro e w' ⟨rfl, ⟨nd, rfl⟩⟩
      refine ⟨_, rfl, ?_⟩
      refine hK.out _ _ ⟨bt_ BK238 0, bt_ BK238 1, bt_ BK238 2, bt_ BK234 0, bt_ BK234 1⟩ (fun hHeld => ?_)
      clear hK K
      refine no_ ?_
      refine pv_ 41 66 ?_
      refine pv_ 42 67 ?_
      refine pv_ 43 68 ?_
      refine pv_ 44 69 ?_
      refine pv_ 45 70 ?_
      refine pv_ 46 71 ?_
      refine pv_ 47 72 ?_
      refine pv_ 49 74 ?_
      refine tk_ 48 73 ?_
      refine pv_ 50 75 ?_
      refine pv_ 51 76 ?_
      refine pv_ 52 77 ?_
      refine done_ (done_of HT_.out (by kernel_rfl)) ?_
      try go_wp2
      go_meet
      case rel => exact ⟨_, ((((rd_T65 l0_0 x14_1).f0) != x3_1)), sr_, H', ⟨by have := HK1.out; first | omega | exact Nat.le_refl _⟩, ⟨ks_ HO242.out⟩, ⟨kb_ BK234.out⟩, ⟨kb_ BK238.out⟩, ⟨hs2_ GE234.out GE238.out⟩⟩
    have c27b0 := dgf_ c27
    clear c27
    have H' := Aside0.mk H
    clear H
    try go_wp2
    replace HO242 := Aside0.mk (Kd.S_drew HO242.out)
    replace BK234 := qK_ BK234
    replace BK238 := qK_ BK238
    replace HB := qH_ HB
    obtain ⟨Ao33, co33, eo33⟩ := Kd.S_slice HO242.out
    (first | subst eo33 | (injection eo33 with f1_ f2_ f3_; have f4_ := f1_.symm; have f5_ := f3_.symm; clear f1_ f2_ f3_; subst f4_; subst f5_))
    refine start_ (n := 53) (S := fun w' => w'.cell? ⟨gb238, 0, none⟩ = some (.int .i64 ((rd_T65 l0_0 x14_1).f0)) ∧ w'.cell? ⟨gb238, 1, none⟩ = some (.string ((rd_T65 l0_0 x14_1).f1)) ∧ w'.cell? ⟨gb238, 2, none⟩ = some (.slice A237_2 ((rd_T65 l0_0 x14_1).f2).length c237_2) ∧ w'.cell? ⟨gb234, 0, none⟩ = some (.slice (some ad237) l0_0.length c0_0) ∧ w'.cell? ⟨gb234, 1, none⟩ = some (.int .i64 a0_1)) (ds := []) (List.replicate 53 false).toArray (by kernel_rfl) rfl rfl ⟨bt_ BK238 0, bt_ BK238 1, bt_ BK238 2, bt_ BK234 0, bt_ BK234 1⟩ (fun hHeld => ?_); refine with_tabW spec_GoodStore.tab7 spec_GoodStore.bits7 (fun HT_ HW_ => ?_)
    generalize w12.drew = w32 at HO242 BK234 BK238 HB hHeld ⊢
    refine pv_ 0 25 ?_
    refine pv_ 1 26 ?_
    refine tk_ 2 27 ?_
    refine pv_ 3 28 ?_
    refine pv_ 4 29 ?_
    refine pv_ 5 30 ?_
    refine pv_ 6 31 ?_
    refine tk_ 7 32 ?_
    refine pv_ 8 33 ?_
    refine pv_ 9 34 ?_
    refine pv_ 10 35 ?_
    refine pv_ 11 36 ?_
    refine pv_ 12 37 ?_
    refine pv_ 13 38 ?_
    refine pv_ 14 39 ?_
    refine pv_ 15 40 ?_
    refine pv_ 16 41 ?_
    refine pv_ 17 42 ?_
    refine pv_ 18 43 ?_
    refine pv_ 19 44 ?_
    refine pv_ 20 45 ?_
    refine pv_ 21 46 ?_
    refine pv_ 22 47 ?_
    refine tk_ 23 48 ?_
    refine pv_ 24 49 ?_
    refine pv_ 25 50 ?_
    refine pv_ 26 51 ?_
    refine pv_ 27 52 ?_
    refine pv_ 28 53 ?_
    refine pv_ 29 54 ?_
    refine pv_ 30 55 ?_
    refine pv_ 32 57 ?_
    refine tk_ 31 56 ?_
    refine on_ 33 58 (fun K hK => ?_)
    refine gs_ Try.func65 #[.slice Ao33 t239.length co33] rfl ma_ ?_
    with_reducible refine (spec_l2Index.calls k1 _ _ t239 t243 _ ?side1 ?side2 A22.out).mono ?_
    (case side1 => exact cs_ ((Kd.S_reads' HO242.out).2.2))
    (case side2 => exact (Kd.S_reads' HO242.out).2.1)
    rintro e w34 ⟨v244, rfl, ho0, hb⟩
    refine ⟨_, rfl, ?_⟩
    replace HO242 := sB_ HO242 hb
    have HO245 := Aside0.mk (Kd.R_lower ho0 (below_size (hs2_ GE234.out GE238.out)))
    replace BK234 := bK_ BK234 hb
    replace BK238 := bK_ BK238 hb
    replace HB := nc2_ GE234 GE238 hb
    (try clear hb)
    (try clear hb2)
    (try clear hk)
    (try clear hi)
    (try clear ho0)
    obtain ⟨Ao35, co35, eo35⟩ := Kd.R_slice HO245.out
    (first | subst eo35 | (injection eo35 with f1_ f2_ f3_; have f4_ := f1_.symm; have f5_ := f3_.symm; clear f1_ f2_ f3_; subst f4_; subst f5_))
    refine hK.out _ _ ⟨bt_ BK238 0, bt_ BK238 1, bt_ BK238 2, bt_ BK234 0, bt_ BK234 1⟩ (fun hHeld => ?_)
    clear hK K
    refine no_ ?_
    refine on_ 34 59 (fun K hK => ?_)
    refine gs_ Try.func64 #[.slice A237_2 ((rd_T65 l0_0 x14_1).f2).length c237_2, .slice Ao35 t243.length co35] rfl ma_ ?_
    with_reducible refine (spec_l2SameMarks.calls k1 _ _ ((rd_T65 l0_0 x14_1).f2) _ _ t243 true _ ?side1 ?side2 ?side3 ?side4 A23.out).mono ?_
    (case side1 => exact cs_ ((Kd.C_below HR237_2.out HB.out)))
    (case side2 => exact HC237_2.out)
    (case side3 => exact cs_ ((Kd.R_reads' HO245.out).2.2))
    (case side4 => exact (Kd.R_reads' HO245.out).2.1)
    rintro e w' ⟨rfl, ⟨nd, rfl⟩⟩
    refine ⟨_, rfl, ?_⟩
    refine hK.out _ _ ⟨bt_ BK238 0, bt_ BK238 1, bt_ BK238 2, bt_ BK234 0, bt_ BK234 1⟩ (fun hHeld => ?_)
    clear hK K
    refine no_ ?_
    refine pv_ 35 60 ?_
    refine pv_ 36 61 ?_
    refine pv_ 37 62 ?_
    refine pv_ 38 63 ?_
    refine tk_ 39 64 ?_
    refine on_ 40 65 (fun K hK => ?_)
    refine gs_ Try.func57 #[.int .i64 ((rd_T65 l0_0 x14_1).f0), .int .i64 0, .int .i64 100000] rfl ma_ ?_
    with_reducible refine (spec_l1In.calls ((rd_T65 l0_0 x14_1).f0) 0 100000 true _ A25.out).mono ?_
    rintro e w' ⟨rfl, ⟨nd, rfl⟩⟩
    refine ⟨_, rfl, ?_⟩
    refine hK.out _ _ ⟨bt_ BK238 0, bt_ BK238 1, bt_ BK238 2, bt_ BK234 0, bt_ BK234 1⟩ (fun hHeld => ?_)
    clear hK K
    refine no_ ?_
    refine pv_ 41 66 ?_
    refine pv_ 42 67 ?_
    refine pv_ 43 68 ?_
    refine pv_ 44 69 ?_
    refine pv_ 45 70 ?_
    refine pv_ 46 71 ?_
    refine po_ 47 72 ?_
    refine po_ 48 73 ?_
    refine po_ 49 74 ?_
    refine po_ 50 75 ?_
    refine pv_ 51 76 ?_
    refine pv_ 52 77 ?_
    refine done_ (done_of HT_.out (by kernel_rfl)) ?_
    try go_wp2
    go_meet
    case rel => exact ⟨_, (false), sr_, H', ⟨by have := HK1.out; first | omega | exact Nat.le_refl _⟩, ⟨ks_ HO242.out⟩, ⟨kb_ BK234.out⟩, ⟨kb_ BK238.out⟩, ⟨hs2_ GE234.out GE238.out⟩⟩
   case rest =>
    clear HC8
    try clear c6
    obtain ⟨kq, x77_7, rfl, HA, HJ7, HO_7, BK234, BK238, HB⟩ := hcut
    cases kq with
    | zero => exact absurd HA.out (by simp [spec_GoodStore.j1])
    | succ kj7 =>
     have H := HA.out
     clear HA
     simp only [spec_GoodStore.j1] at H
     replace H := ifb_ H
     obtain ⟨rfl, H⟩ | ⟨rfl, H⟩ := H
     ·obtain rfl := Option.some.inj H
      go_wp2
      go_ret
      exact ⟨er_, hs2_ GE234.out GE238.out⟩
     have H' := Aside0.mk H
     clear H
     have hnb116 := NB238_234.out
     have hnc116 := NB234_238.out
     obtain ⟨hcz117_0, hcz117_1, hcz117_2, hfz117_0, hfz117_1, hfz117_2⟩ := cf3_ BK238.out
     obtain ⟨Ao118, co118, eo118⟩ := Kd.S_slice HO_7.out
     subst eo118
     go_wp2
     go_loopg [3, 4, 82] kj7 (fun kq v3 v4 v82 w' => ∃ (x3_3 : Int) (x4_3 : Int) (x82_3 : Int), v3 = .int .i64 x3_3 ∧ v4 = .int .i64 x4_3 ∧ v82 = .int .i64 x82_3 ∧ Aside0 (spec_GoodStore.l1 kq x3_3 x4_3 l0_0 (l0_0.length : Int) x14_1 t239 (t239.length : Int) x82_3 l0_0 a0_1 = some r) ∧ Aside0 (kq ≤ kj7) ∧ Aside0 (Kd.S k43 43 w' w.heap.size (fun _ => True) (.slice Ao118 t239.length co118) t239) ∧ Aside0 (w'.heap[gb234]? = some (.cells #[(.slice (some ad237) l0_0.length c0_0), .int .i64 a0_1] 24 (0, 0))) ∧ Aside0 (w'.heap[gb238]? = some (.cells #[.int .i64 ((rd_T65 l0_0 x14_1).f0), .string ((rd_T65 l0_0 x14_1).f1), (.slice A237_2 ((rd_T65 l0_0 x14_1).f2).length c237_2)] 65 (0, 0))) ∧ Aside0 (Below w.heap.size w w'))
     case atStart => exact ⟨(((rd_T65 l0_0 x14_1).f0)), (x4_1), (0), sr_, sr_, sr_, H', ⟨Nat.le_refl _⟩, ⟨ks_ HO_7.out⟩, ⟨kb_ BK234.out⟩, ⟨kb_ BK238.out⟩, ⟨hs2_ GE234.out GE238.out⟩⟩
     case round =>
      clear H'
      try clear c6
      try clear hcz117_0
      try clear hcz117_1
      try clear hcz117_2
      try clear hfz117_0
      try clear hfz117_1
      try clear hfz117_2
      obtain ⟨x3_3, x4_3, x82_3, rfl, rfl, rfl, HA, HK3, HO_80, BK234, BK238, HB⟩ := hrel
      cases gk with
      | zero => exact absurd HA.out (by simp [spec_GoodStore.l1])
      | succ k3 =>
       have H := HA.out
       clear HA
       simp only [spec_GoodStore.l1] at H
       replace H := ite_ H
       obtain ⟨c119, H⟩ | ⟨c119, H⟩ := H
       rotate_left
       ·have c119b0 := decide_eq_false c119
        clear c119
        have H' := Aside0.mk H
        clear H
        go_wp2
        go_roundg k3
        case measure => have := HK1.out; have := HJ7.out; have := HK3.out; omega
        case rel => exact ⟨(x3_3), (x4_3), (wrap64 (x14_1 + 1)), sr_, sr_, sr_, H', ⟨by have := HK1.out; have := HJ7.out; have := HK3.out; omega⟩, ⟨kb_ BK234.out⟩, ⟨hs2_ GE234.out GE238.out⟩⟩
       have c119b0 := decide_eq_true c119
       clear c119
       replace H := ifs_ H
       obtain ⟨c120, H⟩ := H
       have c120b0 := decide_eq_true c120
       clear c120
       replace H := ifs_ H
       obtain ⟨c121, H⟩ := H
       have c121b0 := decide_eq_true c121
       clear c121
       replace H := ite_ H
       obtain ⟨c122, H⟩ | ⟨c122, H⟩ := H
       rotate_left
       ·have c122b0 : (((rd_T43 t239 x82_3).f0) == x3_3) = false := beq_eq_false_iff_ne.mpr c122
        have c122b1 : (((rd_T43 t239 x82_3).f0) != x3_3) = true := bne_iff_ne.mpr c122
        obtain rfl := Option.some.inj H
        have p263 : 0 ≤ (x82_3 : Int) := oa_
        have q263 : x82_3 < (t239.length : Int) := oa_
        obtain ⟨ad263, A263_4, c263_4, e263, hx263_0, hx263_1, hx263_2, hx263_3, hx263_4, hl263_4, hi263_4⟩ := at_T43 (Kd.S_reads' HO_80.out).2.2 x82_3 p263 q263
        cases e263
        obtain ⟨ce263, hce263, hMe263, hcc263⟩ := Kd.S_get HO_80.out z43 x82_3 p263 (by first | exact q263 | exact oa_ | (have e_ := (Kd.S_reads' HO_80.out).1; omega))
        obtain ⟨ve263_4, rfl, ge263_4⟩ := k43_openM hMe263
        have hv263_4 := hcc263 4 _ rfl
        rw [add_field _ _ 4 (by omega)] at hv263_4
        replace hv263_4 := Option.some.inj (hv263_4.symm.trans hx263_4)
        rw [hv263_4] at ge263_4
        have HL263_4 := Aside0.mk (show Kd.R Kd.string 9 _ _ _ _ ((rd_T43 t239 x82_3).f4) from ge263_4)
        clear hv263_4 ge263_4
        clear hcc263 hce263
        have HR263_4 := Aside0.mk hi263_4
        have HC263_4 := Aside0.mk hl263_4
        clear hi263_4 hl263_4
        replace p263 := eq_true p263
        replace q263 := eq_true q263
        go_wp2_with (first | ((with_reducible refine gate_dst (N := 10) rfl ?_); (try (refine gate_guard (by rfl) ?_; dsimp only)); refine bq_ (N := 10) #[.int .i64 0, .int .i64 0, .int .i64 0, .int .i64 0, .slice none 0 0] 43 ?_; intro gb264 hg w132 BK264 hb; replace HO_80 := Aside0.mk (Kd.S_below (Kd.S_elderB (ks_ HO_80.out) gb264 (Nat.le_of_eq hg.symm)) hb); replace HL263_4 := rB_ HL263_4 hb; replace HR263_4 := Aside0.mk (Kd.C_below (by repeat (first | (with_reducible exact HR263_4.out) | (with_reducible refine Kd.C_alloc ?_ _) | (with_reducible refine Kd.C_drewN ?_ _) | (with_reducible refine Kd.C_drew ?_) | exact HR263_4.out)) hb); have GE264 := ge2_ hg GE234 GE238; replace HB := nc2_ GE234 GE238 hb; have NB234_264 := nl_ BK234 hg; have NB264_234 := ng_ BK234 hg; replace BK234 := bK_ BK234 hb; have NB238_264 := nl_ BK238 hg; have NB264_238 := ng_ BK238 hg; replace BK238 := bK_ BK238 hb; clear hb hg; have hnb133 := NB264_234.out; have hnc133 := NB234_264.out; have hnb134 := NB264_238.out; have hnc134 := NB238_264.out; obtain ⟨hcz135_0, hcz135_1, hcz135_2, hcz135_3, hcz135_4, hfz135_0, hfz135_1, hfz135_2, hfz135_3, hfz135_4⟩ := cf5_ BK264.out))
        go_ret
        exact ⟨er_, hs3_ GE234.out GE238.out GE264.out⟩
       have c122b0 : (((rd_T43 t239 x82_3).f0) == x3_3) = true := beq_iff_eq.mpr c122
       have c122b1 : (((rd_T43 t239 x82_3).f0) != x3_3) = false := bne_eq_false_iff_eq.mpr c122
       clear c122
       replace H := ite_ H
       obtain ⟨c123, H⟩ | ⟨c123, H⟩ := H
       ·have c123b0 := decide_eq_true c123
        clear c123
        obtain rfl := Option.some.inj H
        have p263 : 0 ≤ (x82_3 : Int) := oa_
        have q263 : x82_3 < (t239.length : Int) := oa_
        obtain ⟨ad263, A263_4, c263_4, e263, hx263_0, hx263_1, hx263_2, hx263_3, hx263_4, hl263_4, hi263_4⟩ := at_T43 (Kd.S_reads' HO_80.out).2.2 x82_3 p263 q263
        cases e263
        obtain ⟨ce263, hce263, hMe263, hcc263⟩ := Kd.S_get HO_80.out z43 x82_3 p263 (by first | exact q263 | exact oa_ | (have e_ := (Kd.S_reads' HO_80.out).1; omega))
        obtain ⟨ve263_4, rfl, ge263_4⟩ := k43_openM hMe263
        have hv263_4 := hcc263 4 _ rfl
        rw [add_field _ _ 4 (by omega)] at hv263_4
        replace hv263_4 := Option.some.inj (hv263_4.symm.trans hx263_4)
        rw [hv263_4] at ge263_4
        have HL263_4 := Aside0.mk (show Kd.R Kd.string 9 _ _ _ _ ((rd_T43 t239 x82_3).f4) from ge263_4)
        clear hv263_4 ge263_4
        clear hcc263 hce263
        have HR263_4 := Aside0.mk hi263_4
        have HC263_4 := Aside0.mk hl263_4
        clear hi263_4 hl263_4
        replace p263 := eq_true p263
        replace q263 := eq_true q263
        go_wp2_with (first | ((with_reducible refine gate_dst (N := 10) rfl ?_); (try (refine gate_guard (by rfl) ?_; dsimp only)); refine bq_ (N := 10) #[.int .i64 0, .int .i64 0, .int .i64 0, .int .i64 0, .slice none 0 0] 43 ?_; intro gb264 hg w124 BK264 hb; replace HO_80 := Aside0.mk (Kd.S_below (Kd.S_elderB (ks_ HO_80.out) gb264 (Nat.le_of_eq hg.symm)) hb); replace HL263_4 := rB_ HL263_4 hb; replace HR263_4 := Aside0.mk (Kd.C_below (by repeat (first | (with_reducible exact HR263_4.out) | (with_reducible refine Kd.C_alloc ?_ _) | (with_reducible refine Kd.C_drewN ?_ _) | (with_reducible refine Kd.C_drew ?_) | exact HR263_4.out)) hb); have GE264 := ge2_ hg GE234 GE238; replace HB := nc2_ GE234 GE238 hb; have NB234_264 := nl_ BK234 hg; have NB264_234 := ng_ BK234 hg; replace BK234 := bK_ BK234 hb; have NB238_264 := nl_ BK238 hg; have NB264_238 := ng_ BK238 hg; replace BK238 := bK_ BK238 hb; clear hb hg; have hnb125 := NB264_234.out; have hnc125 := NB234_264.out; have hnb126 := NB264_238.out; have hnc126 := NB238_264.out; obtain ⟨hcz127_0, hcz127_1, hcz127_2, hcz127_3, hcz127_4, hfz127_0, hfz127_1, hfz127_2, hfz127_3, hfz127_4⟩ := cf5_ BK264.out))
        go_ret
        exact ⟨er_, hs3_ GE234.out GE238.out GE264.out⟩
       have c123b0 := decide_eq_false c123
       clear c123
       have H' := Aside0.mk H
       clear H
       have p263 : 0 ≤ (x82_3 : Int) := oa_
       have q263 : x82_3 < (t239.length : Int) := oa_
       obtain ⟨ad263, A263_4, c263_4, e263, hx263_0, hx263_1, hx263_2, hx263_3, hx263_4, hl263_4, hi263_4⟩ := at_T43 (Kd.S_reads' HO_80.out).2.2 x82_3 p263 q263
       cases e263
       obtain ⟨ce263, hce263, hMe263, hcc263⟩ := Kd.S_get HO_80.out z43 x82_3 p263 (by first | exact q263 | exact oa_ | (have e_ := (Kd.S_reads' HO_80.out).1; omega))
       obtain ⟨ve263_4, rfl, ge263_4⟩ := k43_openM hMe263
       have hv263_4 := hcc263 4 _ rfl
       rw [add_field _ _ 4 (by omega)] at hv263_4
       replace hv263_4 := Option.some.inj (hv263_4.symm.trans hx263_4)
       rw [hv263_4] at ge263_4
       have HL263_4 := Aside0.mk (show Kd.R Kd.string 9 _ _ _ _ ((rd_T43 t239 x82_3).f4) from ge263_4)
       clear hv263_4 ge263_4
       clear hcc263 hce263
       have HR263_4 := Aside0.mk hi263_4
       have HC263_4 := Aside0.mk hl263_4
       clear hi263_4 hl263_4
       replace p263 := eq_true p263
       replace q263 := eq_true q263
       go_wp2_with (first | ((with_reducible refine gate_dst (N := 10) rfl ?_); (try (refine gate_guard (by rfl) ?_; dsimp only)); refine bq_ (N := 10) #[.int .i64 0, .int .i64 0, .int .i64 0, .int .i64 0, .slice none 0 0] 43 ?_; intro gb264 hg w128 BK264 hb; replace HO_80 := Aside0.mk (Kd.S_below (Kd.S_elderB (ks_ HO_80.out) gb264 (Nat.le_of_eq hg.symm)) hb); replace HL263_4 := rB_ HL263_4 hb; replace HR263_4 := Aside0.mk (Kd.C_below (by repeat (first | (with_reducible exact HR263_4.out) | (with_reducible refine Kd.C_alloc ?_ _) | (with_reducible refine Kd.C_drewN ?_ _) | (with_reducible refine Kd.C_drew ?_) | exact HR263_4.out)) hb); have GE264 := ge2_ hg GE234 GE238; replace HB := nc2_ GE234 GE238 hb; have NB234_264 := nl_ BK234 hg; have NB264_234 := ng_ BK234 hg; replace BK234 := bK_ BK234 hb; have NB238_264 := nl_ BK238 hg; have NB264_238 := ng_ BK238 hg; replace BK238 := bK_ BK238 hb; clear hb hg; have hnb129 := NB264_234.out; have hnc129 := NB234_264.out; have hnb130 := NB264_238.out; have hnc130 := NB238_264.out; obtain ⟨hcz131_0, hcz131_1, hcz131_2, hcz131_3, hcz131_4, hfz131_0, hfz131_1, hfz131_2, hfz131_3, hfz131_4⟩ := cf5_ BK264.out))
       go_roundg k3
       case measure => have := HK1.out; have := HJ7.out; have := HK3.out; omega
       case rel => exact ⟨(wrap64 (((rd_T43 t239 x82_3).f0) + (((rd_T43 t239 x82_3).f4).length : Int))), ((rd_T43 t239 x82_3).f1), (wrap64 (x82_3 + 1)), sr_, sr_, sr_, H', ⟨by have := HK1.out; have := HJ7.out; have := HK3.out; omega⟩, ⟨Kd.S_mono (sF_ (Kd.S_mono HO_80.out (fun k_ hk => (⟨hk, hk.2⟩ : _ ∧ k_ ≠ gb264)))) (fun _ hk => trivial)⟩, ⟨uf_ BK234 NB234_264.out⟩, ⟨uf_ BK238 NB238_264.out⟩, ⟨hs3_ GE234.out GE238.out GE264.out⟩⟩
end Go.Proofs.Ytffpeklekkpbjaa.QFnExactTruncateTo
