/- Functions that one statement reaches: of each a plain function, and the proof that calls come to it. Conditions: those that each contract names. Written by a program of this repository. -/
import Derived.Test.YtffpeklekkpbjaaVFindBatcha
import Derived.Test.YtffpeklekkpbjaaQFnExactFindBatchx0
import Derived.Test.YtffpeklekkpbjaaQFnExactFindBatchx1
import Derived.Test.YtffpeklekkpbjaaQFnExactFindBatchx6
namespace Go.Proofs.Ytffpeklekkpbjaa.QFnExactFindBatch
open Go.RowKit Go.Proofs.YtffpeklekkpbjaaW.PrintWords Go.Proofs.YtffpeklekkpbjaaW.PrintLast Go.Proofs.YtffpeklekkpbjaaW.PrintMore
attribute [local go_sem] max2_int min2_int max_two min_two max_three min_three max_four min_four Go.Proofs.YtffpeklekkpbjaaW.PrintMore2.isSome_setCell   -- for this text's walks alone
set_option linter.unusedVariables false
set_option linter.unusedSimpArgs false

attribute [local go_sem high] eqA89
/-! ### spec_l2SameMarks: function 64 -/
def spec_l2SameMarks.l0 : Nat → List (S89) → List (S89) → Int → Int → Option (Bool)
 | 0, _, _, _, _ => none
 | k + 1, x0, x1, x12, x13 => if x13 < x12 then (if 0 ≤ x13 then (if x13 < (x0.length : Int) then (if x13 < (x1.length : Int) then (if (!(((rd_T89 x0 x13).f0) == ((rd_T89 x1 x13).f0)) || (!(((rd_T89 x0 x13).f1) == ((rd_T89 x1 x13).f1)))) = true then (some false) else (spec_l2SameMarks.l0 k x0 x1 x12 (wrap64 (x13 + 1)))) else (none)) else (none)) else (none)) else (some true)
def spec_l2SameMarks.f (k : Nat) (l0 : List (S89)) (l1 : List (S89)) : Option (Bool) := if (l0.length : Int) = (l1.length : Int) then (spec_l2SameMarks.l0 k l0 l1 (l0.length : Int) 0) else (some false)
theorem spec_l2SameMarks.mono_l : ∀ k, (∀ y0 y1 y2 y3, LeO (spec_l2SameMarks.l0 k y0 y1 y2 y3) (spec_l2SameMarks.l0 (k + 1) y0 y1 y2 y3))
 | 0 => fun _ _ _ _ r h => by simp [spec_l2SameMarks.l0] at h
 | k + 1 => by
  have ih0 := spec_l2SameMarks.mono_l k
  ·intro y0 y1 y2 y3
   unfold spec_l2SameMarks.l0
   repeat' first
   | (with_reducible first | apply ih0 | exact LeO.refl _ | exact LeO.none _ | refine LeO.ite ?_ ?_ | refine LeO.bind ?_ (fun _ => ?_))
theorem spec_l2SameMarks.mono : ∀ a0 a1 k, LeO (spec_l2SameMarks.f k a0 a1) (spec_l2SameMarks.f (k + 1) a0 a1) := by
 intro a0 a1 k
 have ih0 := spec_l2SameMarks.mono_l k
 unfold spec_l2SameMarks.f
 repeat' first
   | (with_reducible first | apply ih0 | exact LeO.refl _ | exact LeO.none _ | refine LeO.ite ?_ ?_ | refine LeO.bind ?_ (fun _ => ?_))
set_option maxHeartbeats 8000000 in
set_option maxRecDepth 100000 in
theorem spec_l2SameMarks.calls (k : Nat) (A0 : Option Addr) (c0 : Nat) (l0 : List (S89)) (A1 : Option Addr) (c1 : Nat) (l1 : List (S89)) (r : Bool) (w : World) (hr0 : Kd.C k89 w A0 l0.length l0) (hc0 : l0.length ≤ c0) (hr1 : Kd.C k89 w A1 l1.length l1) (hc1 : l1.length ≤ c1) (h : spec_l2SameMarks.f k l0 l1 = some r) :
  Calls Try.prog 64 #[.slice A0 l0.length c0, .slice A1 l1.length c1] w fun e w' => e = .returned (.bool r) ∧ Drawn0 w w' := by
 have hu89 := Try.underlying89
 have HR0 := Aside0.mk hr0
 have HC0 := Aside0.mk hc0
 clear hr0 hc0
 have HR1 := Aside0.mk hr1
 have HC1 := Aside0.mk hc1
 clear hr1 hc1
 have H : (if (l0.length : Int) = (l1.length : Int) then (spec_l2SameMarks.l0 k l0 l1 (l0.length : Int) 0) else (some false)) = some r := h
 clear h
 replace H := ite_ H
 obtain ⟨c3, H⟩ | ⟨c3, H⟩ := H
 rotate_left
 ·have c3b0 : ((l0.length : Int) == (l1.length : Int)) = false := beq_eq_false_iff_ne.mpr c3
  have c3b1 : ((l0.length : Int) != (l1.length : Int)) = true := bne_iff_ne.mpr c3
  have c3b2 : (l0.length == l1.length) = false := by first | simpa using c3 | (simp at c3 ⊢; omega)
  obtain rfl := Option.some.inj H
  go_enter Try.func64, Try.ntmps64
  go_wp2
  repeat (go_quiet (fail); try go_wp2)
  go_ret
  exact ⟨by first | rfl | (simp; done) | (simp [*]; done), dr_⟩
 have c3b0 : ((l0.length : Int) == (l1.length : Int)) = true := beq_iff_eq.mpr c3
 have c3b1 : ((l0.length : Int) != (l1.length : Int)) = false := bne_eq_false_iff_eq.mpr c3
 have c3b2 : (l0.length == l1.length) = true := by first | simpa using c3 | (simp at c3 ⊢; omega)
 clear c3
 have H' := Aside0.mk H
 clear H
 go_enter Try.func64, Try.ntmps64
 go_wp2
 repeat (go_quiet (fail); try go_wp2)
 go_loopg [13] k (fun kq v13 w' => ∃ (x13_1 : Int), v13 = .int .i64 x13_1 ∧ Aside0 (spec_l2SameMarks.l0 kq l0 l1 (l0.length : Int) x13_1 = some r) ∧ Aside0 (kq ≤ k) ∧ Drawn0 w w')
 case atStart => exact ⟨(0), sr_, H', ⟨Nat.le_refl _⟩, dr_⟩
 case round =>
  clear H'
  try clear c1
  try clear c3
  try clear c3b0
  try clear c3b1
  try clear c3b2
  obtain ⟨x13_1, rfl, HA, HK1, ⟨m1, rfl⟩⟩ := hrel
  cases gk with
  | zero => exact absurd HA.out (by simp [spec_l2SameMarks.l0])
  | succ k1 =>
   have H := HA.out
   clear HA
   simp only [spec_l2SameMarks.l0] at H
   replace H := ite_ H
   obtain ⟨c4, H⟩ | ⟨c4, H⟩ := H
   rotate_left
   ·have c4b0 := decide_eq_false c4
    clear c4
    obtain rfl := Option.some.inj H
    go_wp2
    repeat (go_quiet (fail); try go_wp2)
    go_ret
    exact ⟨by first | rfl | (simp; done) | (simp [*]; done), dr_⟩
   have c4b0 := decide_eq_true c4
   clear c4
   replace H := ifs_ H
   obtain ⟨c5, H⟩ := H
   have c5b0 := decide_eq_true c5
   clear c5
   replace H := ifs_ H
   obtain ⟨c6, H⟩ := H
   have c6b0 := decide_eq_true c6
   clear c6
   replace H := ifs_ H
   obtain ⟨c7, H⟩ := H
   have c7b0 := decide_eq_true c7
   clear c7
   replace H := ite_ H
   obtain ⟨c8, H⟩ | ⟨c8, H⟩ := H
   ·have c8b0 : (!(((rd_T89 l0 x13_1).f0) == ((rd_T89 l1 x13_1).f0)) || (!(((rd_T89 l0 x13_1).f1) == ((rd_T89 l1 x13_1).f1)))) = true := c8
    clear c8
    obtain rfl := Option.some.inj H
    have p211 : 0 ≤ (x13_1 : Int) := oa_
    have q211 : x13_1 < (l0.length : Int) := oa_
    obtain ⟨ad211, e211, hx211_0, hx211_1⟩ := at_T89 HR0.out x13_1 p211 q211
    cases e211
    replace p211 := eq_true p211
    replace q211 := eq_true q211
    have p212 : 0 ≤ (x13_1 : Int) := oa_
    have q212 : x13_1 < (l1.length : Int) := oa_
    obtain ⟨ad212, e212, hx212_0, hx212_1⟩ := at_T89 HR1.out x13_1 p212 q212
    cases e212
    replace p212 := eq_true p212
    replace q212 := eq_true q212
    go_wp2
    repeat (go_quiet (fail); try go_wp2)
    go_ret
    exact ⟨by first | rfl | (simp; done) | (simp [*]; done), dr_⟩
   have c8b0 : (!(((rd_T89 l0 x13_1).f0) == ((rd_T89 l1 x13_1).f0)) || (!(((rd_T89 l0 x13_1).f1) == ((rd_T89 l1 x13_1).f1)))) = false := by simpa using c8
   clear c8
   have H' := Aside0.mk H
   clear H
   have p211 : 0 ≤ (x13_1 : Int) := oa_
   have q211 : x13_1 < (l0.length : Int) := oa_
   obtain ⟨ad211, e211, hx211_0, hx211_1⟩ := at_T89 HR0.out x13_1 p211 q211
   cases e211
   replace p211 := eq_true p211
   replace q211 := eq_true q211
   have p212 : 0 ≤ (x13_1 : Int) := oa_
   have q212 : x13_1 < (l1.length : Int) := oa_
   obtain ⟨ad212, e212, hx212_0, hx212_1⟩ := at_T89 HR1.out x13_1 p212 q212
   cases e212
   replace p212 := eq_true p212
   replace q212 := eq_true q212
   go_wp2
   repeat (go_quiet (fail); try go_wp2)
   go_roundg k1
   case measure => have := HK1.out; omega
   case rel => exact ⟨(wrap64 (x13_1 + 1)), sr_, H', ⟨by have := HK1.out; omega⟩, dr_⟩

/-! ### spec_l2Index: function 65 -/
def spec_l2Index.l0 : Nat → List (S89) → Int → List (S43) → Int → Int → Option ((List (S89)))
 | 0, _, _, _, _, _ => none
 | k + 1, x3, x4, x7, x8, x9 => if x9 < x8 then (if 0 ≤ x9 then (if x9 < (x7.length : Int) then (if x9 = 0 then (if x3.length < 8796093022208 then ((spec_l1Batch.f k ((rd_T43 x7 x9).f0) ((rd_T43 x7 x9).f1) ((rd_T43 x7 x9).f2) ((rd_T43 x7 x9).f3) ((rd_T43 x7 x9).f4)).bind fun t218 => (spec_l2Index.l0 k (x3 ++ [(⟨(rd_T43 x7 x9).f0, x4⟩ : S89)]) (wrap64 (x4 + (t218.size : Int))) x7 x8 (wrap64 (x9 + 1)))) else (none)) else (if 0 ≤ (wrap64 ((x3.length : Int) - 1)) then (if (wrap64 ((x3.length : Int) - 1)) < (x3.length : Int) then (if (wrap64 (x4 - ((rd_T89 x3 (wrap64 ((x3.length : Int) - 1))).f1))) ≥ 40 then (if x3.length < 8796093022208 then ((spec_l1Batch.f k ((rd_T43 x7 x9).f0) ((rd_T43 x7 x9).f1) ((rd_T43 x7 x9).f2) ((rd_T43 x7 x9).f3) ((rd_T43 x7 x9).f4)).bind fun t223 => (spec_l2Index.l0 k (x3 ++ [(⟨(rd_T43 x7 x9).f0, x4⟩ : S89)]) (wrap64 (x4 + (t223.size : Int))) x7 x8 (wrap64 (x9 + 1)))) else (none)) else ((spec_l1Batch.f k ((rd_T43 x7 x9).f0) ((rd_T43 x7 x9).f1) ((rd_T43 x7 x9).f2) ((rd_T43 x7 x9).f3) ((rd_T43 x7 x9).f4)).bind fun t224 => (spec_l2Index.l0 k x3 (wrap64 (x4 + (t224.size : Int))) x7 x8 (wrap64 (x9 + 1))))) else (none)) else (none))) else (none)) else (none)) else (some x3)
def spec_l2Index.f (k : Nat) (l0 : List (S43)) : Option ((List (S89))) := spec_l2Index.l0 k ([] : List (S89)) 0 l0 (l0.length : Int) 0
theorem spec_l2Index.mono_l : ∀ k, (∀ y0 y1 y2 y3 y4, LeO (spec_l2Index.l0 k y0 y1 y2 y3 y4) (spec_l2Index.l0 (k + 1) y0 y1 y2 y3 y4))
 | 0 => fun _ _ _ _ _ r h => by simp [spec_l2Index.l0] at h
 | k + 1 => by
  have ih0 := spec_l2Index.mono_l k
  ·intro y0 y1 y2 y3 y4
   unfold spec_l2Index.l0
   repeat' first
   | (with_reducible first | apply ih0 | apply spec_l1Batch.mono | exact LeO.refl _ | exact LeO.none _ | refine LeO.ite ?_ ?_ | refine LeO.bind ?_ (fun _ => ?_))
theorem spec_l2Index.mono : ∀ a0 k, LeO (spec_l2Index.f k a0) (spec_l2Index.f (k + 1) a0) := by
 intro a0 k
 have ih0 := spec_l2Index.mono_l k
 unfold spec_l2Index.f
 repeat' first
   | (with_reducible first | apply ih0 | apply spec_l1Batch.mono | exact LeO.refl _ | exact LeO.none _ | refine LeO.ite ?_ ?_ | refine LeO.bind ?_ (fun _ => ?_))
set_option maxHeartbeats 8000000 in
set_option maxRecDepth 100000 in
theorem spec_l2Index.calls (k : Nat) (A0 : Option Addr) (c0 : Nat) (l0 : List (S43)) (r : List (S89)) (w : World) (hr0 : Kd.C k43 w A0 l0.length l0) (hc0 : l0.length ≤ c0) (h : spec_l2Index.f k l0 = some r) :
  Calls Try.prog 65 #[.slice A0 l0.length c0] w fun e w' => ∃ v0_ : Value, e = .returned (v0_) ∧ Kd.R k89 89 w' w.heap.size (fun _ => True) v0_ r ∧ Below w.heap.size w w' := by
 have hu43 := Try.underlying43
 have hu89 := Try.underlying89
 have HR0 := Aside0.mk hr0
 have HC0 := Aside0.mk hc0
 clear hr0 hc0
 have HB := Aside0.mk (Below.refl w.heap.size w)
 have H : (spec_l2Index.l0 k ([] : List (S89)) 0 l0 (l0.length : Int) 0) = some r := h
 clear h
 have H' := Aside0.mk H
 clear H
 go_enter Try.func65, Try.ntmps65
 go_wp2
 go_loopg [3, 4, 9] k (fun kq v3 v4 v9 w' => ∃ (x3_1 : List (S89)) (x4_1 : Int) (x9_1 : Int), v4 = .int .i64 x4_1 ∧ v9 = .int .i64 x9_1 ∧ Aside0 (spec_l2Index.l0 kq x3_1 x4_1 l0 (l0.length : Int) x9_1 = some r) ∧ Aside0 (kq ≤ k) ∧ Aside0 (Kd.R k89 89 w' w.heap.size (fun _ => True) v3 x3_1) ∧ Aside0 (Below w.heap.size w w'))
 case atStart => exact ⟨(([] : List (S89))), (0), (0), sr_, sr_, H', ⟨Nat.le_refl _⟩, ⟨ni_⟩, ⟨hb_⟩⟩
 case round =>
  clear H'
  obtain ⟨x3_1, x4_1, x9_1, rfl, rfl, HA, HK1, HO_3, HB⟩ := hrel
  cases gk with
  | zero => exact absurd HA.out (by simp [spec_l2Index.l0])
  | succ k1 =>
   have H := HA.out
   clear HA
   simp only [spec_l2Index.l0] at H
   replace H := ite_ H
   obtain ⟨c2, H⟩ | ⟨c2, H⟩ := H
   rotate_left
   ·have c2b0 := decide_eq_false c2
    clear c2
    obtain rfl := Option.some.inj H
    go_wp2
    go_ret
    exact ⟨_, er_, kr_ HO_3.out, hb_⟩
   have c2b0 := decide_eq_true c2
   clear c2
   replace H := ifs_ H
   obtain ⟨c3, H⟩ := H
   have c3b0 := decide_eq_true c3
   clear c3
   replace H := ifs_ H
   obtain ⟨c4, H⟩ := H
   have c4b0 := decide_eq_true c4
   clear c4
   replace H := ite_ H
   obtain ⟨c5, H⟩ | ⟨c5, H⟩ := H
   ·have c5b0 : (x9_1 == 0) = true := beq_iff_eq.mpr c5
    have c5b1 : (x9_1 != 0) = false := bne_eq_false_iff_eq.mpr c5
    clear c5
    replace H := ifs_ H
    obtain ⟨c6, H⟩ := H
    have LMc6 := Aside0.mk c6
    clear c6
    obtain ⟨y215, hy215⟩ : ∃ y_ : List (S89), y_ = (x3_1 ++ [(⟨(rd_T43 l0 x9_1).f0, x4_1⟩ : S89)]) := ⟨_, rfl⟩
    replace H : ((spec_l1Batch.f k1 ((rd_T43 l0 x9_1).f0) ((rd_T43 l0 x9_1).f1) ((rd_T43 l0 x9_1).f2) ((rd_T43 l0 x9_1).f3) ((rd_T43 l0 x9_1).f4)).bind fun t218 => (spec_l2Index.l0 k1 y215 (wrap64 (x4_1 + (t218.size : Int))) l0 (l0.length : Int) (wrap64 (x9_1 + 1)))) = some r := by first | (rw [hy215]; with_reducible exact H) | (have H2_ := (Option.bind_some _ _).symm.trans H; rw [hy215]; with_reducible exact H2_) | (have H2_ := (Option.bind_some _ _).symm.trans H; with_reducible exact H2_) | with_reducible exact H | (rw [hy215]; exact H) | exact H
    have Ny215 := Aside0.mk hy215
    clear hy215
    replace H := bnd_ H
    obtain ⟨t218, A7, H⟩ := H
    have H' := Aside0.mk H
    clear H
    have p213 : 0 ≤ (x9_1 : Int) := oa_
    have q213 : x9_1 < (l0.length : Int) := oa_
    obtain ⟨ad213, A213_4, c213_4, e213, hx213_0, hx213_1, hx213_2, hx213_3, hx213_4, hl213_4, hi213_4⟩ := at_T43 HR0.out x9_1 p213 q213
    cases e213
    replace hx213_0 := pc_ HB.out hx213_0
    replace hx213_1 := pc_ HB.out hx213_1
    replace hx213_2 := pc_ HB.out hx213_2
    replace hx213_3 := pc_ HB.out hx213_3
    replace hx213_4 := pc_ HB.out hx213_4
    have HR213_4 := Aside0.mk hi213_4
    have HC213_4 := Aside0.mk hl213_4
    clear hi213_4 hl213_4
    replace p213 := eq_true p213
    replace q213 := eq_true q213
    go_wp2_with (first | ((with_reducible refine gate_dst (N := 6) rfl ?_); (try (refine gate_guard (by rfl) ?_; dsimp only)); refine bq_ (N := 6) #[.int .i64 0, .int .i64 0, .int .i64 0, .int .i64 0, .slice none 0 0] 43 ?_; intro gb214 hg w8 BK214 hb; replace HO_3 := rB_ HO_3 hb; have GE214 := ge_ hg; replace HB := nb_ hb; clear hb hg; obtain ⟨hcz9_0, hcz9_1, hcz9_2, hcz9_3, hcz9_4, hfz9_0, hfz9_1, hfz9_2, hfz9_3, hfz9_4⟩ := cf5_ BK214.out) | ((with_reducible refine gate_builtin (b := .append) (xs := #[.tmp 28, .tmp 33]) rfl ?_); (try (refine gate_guard (by rfl) ?_; dsimp only)); at_builtin; refine Kd.R_append k89 (w0 := w) w.heap.size rfl (.tmp 28) (.tmp 33) 63 89 (.agg #[(.int .i64 0), (.int .i64 0)]) 16 rfl Try.underlying63 info89 rfl (by decide) (by omega) u3 x3_1 (⟨(rd_T43 l0 x9_1).f0, x4_1⟩ : S89) [.int .i64 ((rd_T43 l0 x9_1).f0), .int .i64 x4_1] (fun _ => True) (fun _ => False) rfl (by first | (go_simp; done) | (go_simp; rfl)) ?aP (fun _ hk => hk.elim) ?aF ?aO ?aB ?aS ?aL ?_; (case aP => exact k89_mkM _ _ _ (⟨(rd_T43 l0 x9_1).f0, x4_1⟩ : S89)); (case aB => exact (hs_ GE214.out)); (case aF => exact (fun _ _ => trivial)); (case aO => exact (Kd.R_mono (rF_ (Kd.R_types HO_3.out BK214.out (by decide))) (fun _ hk => trivial))); (case aS => exact (below_size (hs_ GE214.out))); (case aL => have := LMc6.out; omega); intro v216 w10 ho hb hg hat; rw [← Ny215.out] at ho; replace BK214 := Aside0.mk (blk_grown (g := gb214) (o := .cells #[.int .i64 ((rd_T43 l0 x9_1).f0), .int .i64 ((rd_T43 l0 x9_1).f1), .int .i64 ((rd_T43 l0 x9_1).f2), .int .i64 ((rd_T43 l0 x9_1).f3), .slice A213_4 ((rd_T43 l0 x9_1).f4).length c213_4] 43 (0, 0)) (up_ BK214) hg (Kd.R_ne HO_3.out BK214.out (by decide))); replace HB := Aside0.mk (hb); have HO217 := Aside0.mk (ho); clear HO_3; clear ho hb hg hat; obtain ⟨hcz11_0, hcz11_1, hcz11_2, hcz11_3, hcz11_4, hfz11_0, hfz11_1, hfz11_2, hfz11_3, hfz11_4⟩ := cf5_ BK214.out) | ((with_reducible refine gate_callee (f := 82) rfl ?_); refine gl_ 37 Try.func82 #[.agg #[.int .i64 ((rd_T43 l0 x9_1).f0), .int .i64 ((rd_T43 l0 x9_1).f1), .int .i64 ((rd_T43 l0 x9_1).f2), .int .i64 ((rd_T43 l0 x9_1).f3), .slice A213_4 ((rd_T43 l0 x9_1).f4).length c213_4]] rfl ma_ ?_; (with_reducible refine (spec_l1Batch.calls k1 ((rd_T43 l0 x9_1).f0) ((rd_T43 l0 x9_1).f1) ((rd_T43 l0 x9_1).f2) ((rd_T43 l0 x9_1).f3) _ _ ((rd_T43 l0 x9_1).f4) t218 _ ?side1 ?side2 A7.out).mono ?_); (case side1 => exact cs_ ((Kd.C_below HR213_4.out HB.out))); (case side2 => exact HC213_4.out); rintro e w12 ⟨rfl, hb⟩; refine ⟨_, rfl, ?_⟩; replace HO217 := rB_ HO217 hb; replace BK214 := bK_ BK214 hb; replace HB := nc_ GE214 hb; (try clear hb); (try clear hb2); (try clear hk); (try clear hi)))
    go_roundg k1
    case measure => have := HK1.out; omega
    case rel => exact ⟨(y215), (wrap64 (x4_1 + (t218.size : Int))), (wrap64 (x9_1 + 1)), sr_, sr_, H', ⟨by have := HK1.out; omega⟩, ⟨kr_ HO217.out⟩, ⟨hs_ GE214.out⟩⟩
   have c5b0 : (x9_1 == 0) = false := beq_eq_false_iff_ne.mpr c5
   have c5b1 : (x9_1 != 0) = true := bne_iff_ne.mpr c5
   obtain ⟨ji13, hji13⟩ : ∃ j_ : Int, (wrap64 ((x3_1.length : Int) - 1)) = j_ := ⟨_, rfl⟩
   first | rw [hji13] at H | simp only [hji13] at H
   have hji13w : (IntKind.i64.wrap ((x3_1.length : Int) - 1)) = ji13 := (i64_w _).trans hji13
   replace H := ifs_ H
   obtain ⟨c14, H⟩ := H
   have c14b0 := decide_eq_true c14
   clear c14
   replace H := ifs_ H
   obtain ⟨c15, H⟩ := H
   have c15b0 := decide_eq_true c15
   clear c15
   replace H := ite_ H
   obtain ⟨c16, H⟩ | ⟨c16, H⟩ := H
   rotate_left
   ·have c16b0 := dne_ c16
    clear c16
    replace H := bnd_ H
    obtain ⟨t224, A25, H⟩ := H
    have H' := Aside0.mk H
    clear H
    have p213 : 0 ≤ (x9_1 : Int) := oa_
    have q213 : x9_1 < (l0.length : Int) := oa_
    obtain ⟨ad213, A213_4, c213_4, e213, hx213_0, hx213_1, hx213_2, hx213_3, hx213_4, hl213_4, hi213_4⟩ := at_T43 HR0.out x9_1 p213 q213
    cases e213
    replace hx213_0 := pc_ HB.out hx213_0
    replace hx213_1 := pc_ HB.out hx213_1
    replace hx213_2 := pc_ HB.out hx213_2
    replace hx213_3 := pc_ HB.out hx213_3
    replace hx213_4 := pc_ HB.out hx213_4
    have HR213_4 := Aside0.mk hi213_4
    have HC213_4 := Aside0.mk hl213_4
    clear hi213_4 hl213_4
    replace p213 := eq_true p213
    replace q213 := eq_true q213
    go_wp2_with (first | ((with_reducible refine gate_dst (N := 6) rfl ?_); (try (refine gate_guard (by rfl) ?_; dsimp only)); refine bq_ (N := 6) #[.int .i64 0, .int .i64 0, .int .i64 0, .int .i64 0, .slice none 0 0] 43 ?_; intro gb214 hg w26 BK214 hb; replace HO_3 := rB_ HO_3 hb; have GE214 := ge_ hg; replace HB := nb_ hb; clear hb hg; obtain ⟨hcz27_0, hcz27_1, hcz27_2, hcz27_3, hcz27_4, hfz27_0, hfz27_1, hfz27_2, hfz27_3, hfz27_4⟩ := cf5_ BK214.out; obtain ⟨Ao28, co28, eo28⟩ := Kd.R_slice HO_3.out; subst eo28; have p219 : 0 ≤ ((ji13) : Int) := oa_; have q219 : (ji13) < (x3_1.length : Int) := oa_; obtain ⟨ad219, e219, hx219_0, hx219_1⟩ := at_T89 (Kd.R_reads' HO_3.out).2.2 (ji13) p219 q219; cases e219; have hn219_0 : ad219.block ≠ gb214 := Kd.own_blk (Kd.R_ne HO_3.out BK214.out (by decide)); have hn219_1 : ad219.block ≠ gb214 := Kd.own_blk (Kd.R_ne HO_3.out BK214.out (by decide)); have hn219_2 : ad219.block ≠ gb214 := Kd.own_blk (Kd.R_ne HO_3.out BK214.out (by decide)); have hn219_3 : ad219.block ≠ gb214 := Kd.own_blk (Kd.R_ne HO_3.out BK214.out (by decide)); have hn219_4 : ad219.block ≠ gb214 := Kd.own_blk (Kd.R_ne HO_3.out BK214.out (by decide)); replace hx219_0 := (cell_far (p := ⟨gb214, 0, none⟩) (by first | (rw [add_block]; exact hn219_0) | (show (Addr.add _ _).block ≠ _; rw [add_block]; exact hn219_0) | exact hn219_0) (.int .i64 ((rd_T43 l0 x9_1).f0))).trans hx219_0; replace hx219_1 := (cell_far (p := ⟨gb214, 0, none⟩) (by first | (rw [add_block]; exact hn219_0) | (show (Addr.add _ _).block ≠ _; rw [add_block]; exact hn219_0) | exact hn219_0) (.int .i64 ((rd_T43 l0 x9_1).f0))).trans hx219_1; replace hx219_0 := (cell_far (p := ⟨gb214, 1, none⟩) (by first | (rw [add_block]; exact hn219_1) | (show (Addr.add _ _).block ≠ _; rw [add_block]; exact hn219_1) | exact hn219_1) (.int .i64 ((rd_T43 l0 x9_1).f1))).trans hx219_0; replace hx219_1 := (cell_far (p := ⟨gb214, 1, none⟩) (by first | (rw [add_block]; exact hn219_1) | (show (Addr.add _ _).block ≠ _; rw [add_block]; exact hn219_1) | exact hn219_1) (.int .i64 ((rd_T43 l0 x9_1).f1))).trans hx219_1; replace hx219_0 := (cell_far (p := ⟨gb214, 2, none⟩) (by first | (rw [add_block]; exact hn219_2) | (show (Addr.add _ _).block ≠ _; rw [add_block]; exact hn219_2) | exact hn219_2) (.int .i64 ((rd_T43 l0 x9_1).f2))).trans hx219_0; replace hx219_1 := (cell_far (p := ⟨gb214, 2, none⟩) (by first | (rw [add_block]; exact hn219_2) | (show (Addr.add _ _).block ≠ _; rw [add_block]; exact hn219_2) | exact hn219_2) (.int .i64 ((rd_T43 l0 x9_1).f2))).trans hx219_1; replace hx219_0 := (cell_far (p := ⟨gb214, 3, none⟩) (by first | (rw [add_block]; exact hn219_3) | (show (Addr.add _ _).block ≠ _; rw [add_block]; exact hn219_3) | exact hn219_3) (.int .i64 ((rd_T43 l0 x9_1).f3))).trans hx219_0; replace hx219_1 := (cell_far (p := ⟨gb214, 3, none⟩) (by first | (rw [add_block]; exact hn219_3) | (show (Addr.add _ _).block ≠ _; rw [add_block]; exact hn219_3) | exact hn219_3) (.int .i64 ((rd_T43 l0 x9_1).f3))).trans hx219_1; replace hx219_0 := (cell_far (p := ⟨gb214, 4, none⟩) (by first | (rw [add_block]; exact hn219_4) | (show (Addr.add _ _).block ≠ _; rw [add_block]; exact hn219_4) | exact hn219_4) (.slice A213_4 ((rd_T43 l0 x9_1).f4).length c213_4)).trans hx219_0; replace hx219_1 := (cell_far (p := ⟨gb214, 4, none⟩) (by first | (rw [add_block]; exact hn219_4) | (show (Addr.add _ _).block ≠ _; rw [add_block]; exact hn219_4) | exact hn219_4) (.slice A213_4 ((rd_T43 l0 x9_1).f4).length c213_4)).trans hx219_1; clear hn219_0; clear hn219_1; clear hn219_2; clear hn219_3; clear hn219_4; replace p219 := eq_true p219; replace q219 := eq_true q219) | ((with_reducible refine gate_callee (f := 82) rfl ?_); refine gl_ 37 Try.func82 #[.agg #[.int .i64 ((rd_T43 l0 x9_1).f0), .int .i64 ((rd_T43 l0 x9_1).f1), .int .i64 ((rd_T43 l0 x9_1).f2), .int .i64 ((rd_T43 l0 x9_1).f3), .slice A213_4 ((rd_T43 l0 x9_1).f4).length c213_4]] rfl ma_ ?_; (with_reducible refine (spec_l1Batch.calls k1 ((rd_T43 l0 x9_1).f0) ((rd_T43 l0 x9_1).f1) ((rd_T43 l0 x9_1).f2) ((rd_T43 l0 x9_1).f3) _ _ ((rd_T43 l0 x9_1).f4) t224 _ ?side1 ?side2 A25.out).mono ?_); (case side1 => exact Kd.C_below HR213_4.out (hs_ GE214.out)); (case side2 => exact HC213_4.out); rintro e w29 ⟨rfl, hb⟩; refine ⟨_, rfl, ?_⟩; replace HO_3 := Aside0.mk (Kd.R_below ((Kd.R_mono (rF_ (Kd.R_types HO_3.out BK214.out (by decide))) (fun _ h_ => h_.1))) hb); replace BK214 := Aside0.mk (blk_below (g := gb214) (o := .cells #[.int .i64 ((rd_T43 l0 x9_1).f0), .int .i64 ((rd_T43 l0 x9_1).f1), .int .i64 ((rd_T43 l0 x9_1).f2), .int .i64 ((rd_T43 l0 x9_1).f3), .slice A213_4 ((rd_T43 l0 x9_1).f4).length c213_4] 43 (0, 0)) (up_ BK214) hb); replace HB := nc_ GE214 hb; (try clear hb); (try clear hb2); (try clear hk); (try clear hi)))
    go_roundg k1
    case measure => have := HK1.out; omega
    case rel => exact ⟨(x3_1), (wrap64 (x4_1 + (t224.size : Int))), (wrap64 (x9_1 + 1)), sr_, sr_, H', ⟨by have := HK1.out; omega⟩, ⟨kr_ HO_3.out⟩, ⟨hs_ GE214.out⟩⟩
   have c16b0 := dge_ c16
   clear c16
   replace H := ifs_ H
   obtain ⟨c17, H⟩ := H
   have LMc17 := Aside0.mk c17
   clear c17
   obtain ⟨y220, hy220⟩ : ∃ y_ : List (S89), y_ = (x3_1 ++ [(⟨(rd_T43 l0 x9_1).f0, x4_1⟩ : S89)]) := ⟨_, rfl⟩
   replace H : ((spec_l1Batch.f k1 ((rd_T43 l0 x9_1).f0) ((rd_T43 l0 x9_1).f1) ((rd_T43 l0 x9_1).f2) ((rd_T43 l0 x9_1).f3) ((rd_T43 l0 x9_1).f4)).bind fun t223 => (spec_l2Index.l0 k1 y220 (wrap64 (x4_1 + (t223.size : Int))) l0 (l0.length : Int) (wrap64 (x9_1 + 1)))) = some r := by first | (rw [hy220]; with_reducible exact H) | (have H2_ := (Option.bind_some _ _).symm.trans H; rw [hy220]; with_reducible exact H2_) | (have H2_ := (Option.bind_some _ _).symm.trans H; with_reducible exact H2_) | with_reducible exact H | (rw [hy220]; exact H) | exact H
   have Ny220 := Aside0.mk hy220
   clear hy220
   replace H := bnd_ H
   obtain ⟨t223, A18, H⟩ := H
   have H' := Aside0.mk H
   clear H
   have p213 : 0 ≤ (x9_1 : Int) := oa_
   have q213 : x9_1 < (l0.length : Int) := oa_
   obtain ⟨ad213, A213_4, c213_4, e213, hx213_0, hx213_1, hx213_2, hx213_3, hx213_4, hl213_4, hi213_4⟩ := at_T43 HR0.out x9_1 p213 q213
   cases e213
   replace hx213_0 := pc_ HB.out hx213_0
   replace hx213_1 := pc_ HB.out hx213_1
   replace hx213_2 := pc_ HB.out hx213_2
   replace hx213_3 := pc_ HB.out hx213_3
   replace hx213_4 := pc_ HB.out hx213_4
   have HR213_4 := Aside0.mk hi213_4
   have HC213_4 := Aside0.mk hl213_4
   clear hi213_4 hl213_4
   replace p213 := eq_true p213
   replace q213 := eq_true q213
   go_wp2_with (first | ((with_reducible refine gate_dst (N := 6) rfl ?_); (try (refine gate_guard (by rfl) ?_; dsimp only)); refine bq_ (N := 6) #[.int .i64 0, .int .i64 0, .int .i64 0, .int .i64 0, .slice none 0 0] 43 ?_; intro gb214 hg w19 BK214 hb; replace HO_3 := rB_ HO_3 hb; have GE214 := ge_ hg; replace HB := nb_ hb; clear hb hg; obtain ⟨hcz20_0, hcz20_1, hcz20_2, hcz20_3, hcz20_4, hfz20_0, hfz20_1, hfz20_2, hfz20_3, hfz20_4⟩ := cf5_ BK214.out; obtain ⟨Ao21, co21, eo21⟩ := Kd.R_slice HO_3.out; subst eo21; have p219 : 0 ≤ ((ji13) : Int) := oa_; have q219 : (ji13) < (x3_1.length : Int) := oa_; obtain ⟨ad219, e219, hx219_0, hx219_1⟩ := at_T89 (Kd.R_reads' HO_3.out).2.2 (ji13) p219 q219; cases e219; have hn219_0 : ad219.block ≠ gb214 := Kd.own_blk (Kd.R_ne HO_3.out BK214.out (by decide)); have hn219_1 : ad219.block ≠ gb214 := Kd.own_blk (Kd.R_ne HO_3.out BK214.out (by decide)); have hn219_2 : ad219.block ≠ gb214 := Kd.own_blk (Kd.R_ne HO_3.out BK214.out (by decide)); have hn219_3 : ad219.block ≠ gb214 := Kd.own_blk (Kd.R_ne HO_3.out BK214.out (by decide)); have hn219_4 : ad219.block ≠ gb214 := Kd.own_blk (Kd.R_ne HO_3.out BK214.out (by decide)); replace hx219_0 := (cell_far (p := ⟨gb214, 0, none⟩) (by first | (rw [add_block]; exact hn219_0) | (show (Addr.add _ _).block ≠ _; rw [add_block]; exact hn219_0) | exact hn219_0) (.int .i64 ((rd_T43 l0 x9_1).f0))).trans hx219_0; replace hx219_1 := (cell_far (p := ⟨gb214, 0, none⟩) (by first | (rw [add_block]; exact hn219_0) | (show (Addr.add _ _).block ≠ _; rw [add_block]; exact hn219_0) | exact hn219_0) (.int .i64 ((rd_T43 l0 x9_1).f0))).trans hx219_1; replace hx219_0 := (cell_far (p := ⟨gb214, 1, none⟩) (by first | (rw [add_block]; exact hn219_1) | (show (Addr.add _ _).block ≠ _; rw [add_block]; exact hn219_1) | exact hn219_1) (.int .i64 ((rd_T43 l0 x9_1).f1))).trans hx219_0; replace hx219_1 := (cell_far (p := ⟨gb214, 1, none⟩) (by first | (rw [add_block]; exact hn219_1) | (show (Addr.add _ _).block ≠ _; rw [add_block]; exact hn219_1) | exact hn219_1) (.int .i64 ((rd_T43 l0 x9_1).f1))).trans hx219_1; replace hx219_0 := (cell_far (p := ⟨gb214, 2, none⟩) (by first | (rw [add_block]; exact hn219_2) | (show (Addr.add _ _).block ≠ _; rw [add_block]; exact hn219_2) | exact hn219_2) (.int .i64 ((rd_T43 l0 x9_1).f2))).trans hx219_0; replace hx219_1 := (cell_far (p := ⟨gb214, 2, none⟩) (by first | (rw [add_block]; exact hn219_2) | (show (Addr.add _ _).block ≠ _; rw [add_block]; exact hn219_2) | exact hn219_2) (.int .i64 ((rd_T43 l0 x9_1).f2))).trans hx219_1; replace hx219_0 := (cell_far (p := ⟨gb214, 3, none⟩) (by first | (rw [add_block]; exact hn219_3) | (show (Addr.add _ _).block ≠ _; rw [add_block]; exact hn219_3) | exact hn219_3) (.int .i64 ((rd_T43 l0 x9_1).f3))).trans hx219_0; replace hx219_1 := (cell_far (p := ⟨gb214, 3, none⟩) (by first | (rw [add_block]; exact hn219_3) | (show (Addr.add _ _).block ≠ _; rw [add_block]; exact hn219_3) | exact hn219_3) (.int .i64 ((rd_T43 l0 x9_1).f3))).trans hx219_1; replace hx219_0 := (cell_far (p := ⟨gb214, 4, none⟩) (by first | (rw [add_block]; exact hn219_4) | (show (Addr.add _ _).block ≠ _; rw [add_block]; exact hn219_4) | exact hn219_4) (.slice A213_4 ((rd_T43 l0 x9_1).f4).length c213_4)).trans hx219_0; replace hx219_1 := (cell_far (p := ⟨gb214, 4, none⟩) (by first | (rw [add_block]; exact hn219_4) | (show (Addr.add _ _).block ≠ _; rw [add_block]; exact hn219_4) | exact hn219_4) (.slice A213_4 ((rd_T43 l0 x9_1).f4).length c213_4)).trans hx219_1; clear hn219_0; clear hn219_1; clear hn219_2; clear hn219_3; clear hn219_4; replace p219 := eq_true p219; replace q219 := eq_true q219) | ((with_reducible refine gate_builtin (b := .append) (xs := #[.tmp 28, .tmp 33]) rfl ?_); (try (refine gate_guard (by rfl) ?_; dsimp only)); at_builtin; refine Kd.R_append k89 (w0 := w) w.heap.size rfl (.tmp 28) (.tmp 33) 63 89 (.agg #[(.int .i64 0), (.int .i64 0)]) 16 rfl Try.underlying63 info89 rfl (by decide) (by omega) (.slice (some ad219) x3_1.length co21) x3_1 (⟨(rd_T43 l0 x9_1).f0, x4_1⟩ : S89) [.int .i64 ((rd_T43 l0 x9_1).f0), .int .i64 x4_1] (fun _ => True) (fun _ => False) rfl (by first | (go_simp; done) | (go_simp; rfl)) ?aP (fun _ hk => hk.elim) ?aF ?aO ?aB ?aS ?aL ?_; (case aP => exact k89_mkM _ _ _ (⟨(rd_T43 l0 x9_1).f0, x4_1⟩ : S89)); (case aB => exact (hs_ GE214.out)); (case aF => exact (fun _ _ => trivial)); (case aO => exact (Kd.R_mono (rF_ (Kd.R_types HO_3.out BK214.out (by decide))) (fun _ hk => trivial))); (case aS => exact (below_size (hs_ GE214.out))); (case aL => have := LMc17.out; omega); intro v221 w22 ho hb hg hat; rw [← Ny220.out] at ho; replace BK214 := Aside0.mk (blk_grown (g := gb214) (o := .cells #[.int .i64 ((rd_T43 l0 x9_1).f0), .int .i64 ((rd_T43 l0 x9_1).f1), .int .i64 ((rd_T43 l0 x9_1).f2), .int .i64 ((rd_T43 l0 x9_1).f3), .slice A213_4 ((rd_T43 l0 x9_1).f4).length c213_4] 43 (0, 0)) (up_ BK214) hg (Kd.R_ne HO_3.out BK214.out (by decide))); replace HB := Aside0.mk (hb); have HO222 := Aside0.mk (ho); clear HO_3; clear ho hb hg hat; obtain ⟨hcz23_0, hcz23_1, hcz23_2, hcz23_3, hcz23_4, hfz23_0, hfz23_1, hfz23_2, hfz23_3, hfz23_4⟩ := cf5_ BK214.out) | ((with_reducible refine gate_callee (f := 82) rfl ?_); refine gl_ 37 Try.func82 #[.agg #[.int .i64 ((rd_T43 l0 x9_1).f0), .int .i64 ((rd_T43 l0 x9_1).f1), .int .i64 ((rd_T43 l0 x9_1).f2), .int .i64 ((rd_T43 l0 x9_1).f3), .slice A213_4 ((rd_T43 l0 x9_1).f4).length c213_4]] rfl ma_ ?_; (with_reducible refine (spec_l1Batch.calls k1 ((rd_T43 l0 x9_1).f0) ((rd_T43 l0 x9_1).f1) ((rd_T43 l0 x9_1).f2) ((rd_T43 l0 x9_1).f3) _ _ ((rd_T43 l0 x9_1).f4) t223 _ ?side1 ?side2 A18.out).mono ?_); (case side1 => exact cs_ ((Kd.C_below HR213_4.out HB.out))); (case side2 => exact HC213_4.out); rintro e w24 ⟨rfl, hb⟩; refine ⟨_, rfl, ?_⟩; replace HO222 := rB_ HO222 hb; replace BK214 := bK_ BK214 hb; replace HB := nc_ GE214 hb; (try clear hb); (try clear hb2); (try clear hk); (try clear hi)))
   go_roundg k1
   case measure => have := HK1.out; omega
   case rel => exact ⟨(y220), (wrap64 (x4_1 + (t223.size : Int))), (wrap64 (x9_1 + 1)), sr_, sr_, H', ⟨by have := HK1.out; omega⟩, ⟨kr_ HO222.out⟩, ⟨hs_ GE214.out⟩⟩

end Go.Proofs.Ytffpeklekkpbjaa.QFnExactFindBatch
