/- Functions that one statement reaches: of each a plain function, and the proof that calls come to it. Conditions: those that each contract names. Written by a program of this repository. -/
import Derived.Test.YtffpeklekkpbjaaVTruncateToa
import Derived.Test.YtffpeklekkpbjaaQFnExactTruncateTox2
import Derived.Test.YtffpeklekkpbjaaQFnExactTruncateTox9
import Derived.Test.YtffpeklekkpbjaaQFnExactTruncateTox7
namespace Go.Proofs.Ytffpeklekkpbjaa.QFnExactTruncateTo
open Go.RowKit Go.Proofs.YtffpeklekkpbjaaW.PrintWords Go.Proofs.YtffpeklekkpbjaaW.PrintLast Go.Proofs.YtffpeklekkpbjaaW.PrintMore
attribute [local go_sem] max2_int min2_int max_two min_two max_three min_three max_four min_four Go.Proofs.YtffpeklekkpbjaaW.PrintMore2.isSome_setCell   -- for this text's walks alone
set_option linter.unusedVariables false
set_option linter.unusedSimpArgs false

/-! ### spec_l1Read: function 63 -/
def spec_l1Read.l0 : Nat → ByteArray → List (S43) → Int → Option ((List (S43)) × Int)
 | 0, _, _, _ => none
 | k + 1, x0, x4, x5 => if x5 < (x0.size : Int) then ((spec_l1Take.f k x0 x5).bind fun bt203 => (if bt203.2.2.2.2.2 = 0 then (some (x4, x5)) else (if (x4.length : Int) > 0 then (if 0 ≤ (wrap64 ((x4.length : Int) - 1)) then (if (wrap64 ((x4.length : Int) - 1)) < (x4.length : Int) then ((spec_l1Next.f ((rd_T43 x4 (wrap64 ((x4.length : Int) - 1))).f0) ((rd_T43 x4 (wrap64 ((x4.length : Int) - 1))).f1) ((rd_T43 x4 (wrap64 ((x4.length : Int) - 1))).f2) ((rd_T43 x4 (wrap64 ((x4.length : Int) - 1))).f3) ((rd_T43 x4 (wrap64 ((x4.length : Int) - 1))).f4) bt203.1 bt203.2.1 bt203.2.2.1 bt203.2.2.2.1 bt203.2.2.2.2.1).bind fun t213 => (if t213 = true then (if x4.length < 2513169434916 then (spec_l1Read.l0 k x0 (x4 ++ [(⟨bt203.1, bt203.2.1, bt203.2.2.1, bt203.2.2.2.1, bt203.2.2.2.2.1⟩ : S43)]) bt203.2.2.2.2.2) else (none)) else (some (x4, x5)))) else (none)) else (none)) else (if x4.length < 2513169434916 then (spec_l1Read.l0 k x0 (x4 ++ [(⟨bt203.1, bt203.2.1, bt203.2.2.1, bt203.2.2.2.1, bt203.2.2.2.2.1⟩ : S43)]) bt203.2.2.2.2.2) else (none))))) else (some (x4, x5))
def spec_l1Read.f (k : Nat) (a0 : ByteArray) : Option ((List (S43)) × Int) := spec_l1Read.l0 k a0 ([] : List (S43)) 0
theorem spec_l1Read.mono_l : ∀ k, (∀ y0 y1 y2, LeO (spec_l1Read.l0 k y0 y1 y2) (spec_l1Read.l0 (k + 1) y0 y1 y2))
 | 0 => fun _ _ _ r h => by simp [spec_l1Read.l0] at h
 | k + 1 => by
  have ih0 := spec_l1Read.mono_l k
  ·intro y0 y1 y2
   unfold spec_l1Read.l0
   repeat' first
   | (with_reducible first | apply ih0 | apply spec_l1Take.mono | exact LeO.refl _ | exact LeO.none _ | refine LeO.ite ?_ ?_ | refine LeO.bind ?_ (fun _ => ?_))
theorem spec_l1Read.mono : ∀ a0 k, LeO (spec_l1Read.f k a0) (spec_l1Read.f (k + 1) a0) := by
 intro a0 k
 have ih0 := spec_l1Read.mono_l k
 unfold spec_l1Read.f
 repeat' first
   | (with_reducible first | apply ih0 | apply spec_l1Take.mono | exact LeO.refl _ | exact LeO.none _ | refine LeO.ite ?_ ?_ | refine LeO.bind ?_ (fun _ => ?_))
def spec_l1Read.T5 : Bool × List (List Nat × List Nat) := (true, [([], []), ([0], [0]), ([1], [1]), ([2], [2]), ([3, 2], [2, 3]), ([4, 2], [2, 4]), ([5, 2, 2], [2, 5]), ([6], [6]), ([6], [6]), ([8, 6], [6, 8]), ([9, 6], [6, 9]), ([7, 10, 6], [6, 7, 10]), ([11, 6], [6, 11]), ([6], [6]), ([12, 13, 6, 6], [6, 12, 13]), ([14, 6], [6, 14]), ([6, 15, 2], [2, 6, 15]), ([2, 16], [2, 16])])
def spec_l1Read.B5 : List Nat := [0, 1, 3, 7, 15, 31, 63, 127, 127, 383, 895, 2047, 4095, 127, 16383, 32767, 65535, 131071]
theorem spec_l1Read.tab5 : rtab .any (opsOf Try.f63 5) = spec_l1Read.T5 := by kernel_rfl
theorem spec_l1Read.bits5 : waitsOk spec_l1Read.T5.2 spec_l1Read.B5 = true := by kernel_rfl
set_option maxHeartbeats 8000000 in
set_option maxRecDepth 100000 in
theorem spec_l1Read.calls (k : Nat) (a0 : ByteArray) (r1 : List (S43)) (r2 : Int) (w : World) (h : spec_l1Read.f k a0 = some (r1, r2)) :
  Calls Try.prog 63 #[.string a0] w fun e w' => ∃ v0_ : Value, e = .returned (.tuple #[v0_, .int .i64 r2]) ∧ Kd.S k43 43 w' w.heap.size (fun _ => True) v0_ r1 ∧ Below w.heap.size w w' := by
 have hu43 := Try.underlying43
 have HB := Aside0.mk (Below.refl w.heap.size w)
 have H : (spec_l1Read.l0 k a0 ([] : List (S43)) 0) = some (r1, r2) := h
 clear h
 have H' := Aside0.mk H
 clear H
 go_enter Try.func63, Try.ntmps63
 go_wp2
 go_loopg [4, 5] k (fun kq v4 v5 w' => ∃ (x4_1 : List (S43)) (x5_1 : Int), v5 = .int .i64 x5_1 ∧ Aside0 (spec_l1Read.l0 kq a0 x4_1 x5_1 = some (r1, r2)) ∧ Aside0 (kq ≤ k) ∧ Aside0 (Kd.S k43 43 w' w.heap.size (fun _ => True) v4 x4_1) ∧ Aside0 (Below w.heap.size w w'))
 case atStart => exact ⟨(([] : List (S43))), (0), sr_, H', ⟨Nat.le_refl _⟩, ⟨by first | exact Kd.S_nil _ _ _ _ _ | exact Kd.N_nil _ _ _ _ _ | exact Kd.V_nil _ _ _ _ _ | exact Kd.Q_nil _ _ _ _ _ | exact Kd.R_nil _ _ _ _ _⟩, ⟨hb_⟩⟩
 case round =>
  clear H'
  obtain ⟨x4_1, x5_1, rfl, HA, HK1, HO_4, HB⟩ := hrel
  cases gk with
  | zero => exact absurd HA.out (by simp [spec_l1Read.l0])
  | succ k1 =>
   have H := HA.out
   clear HA
   simp only [spec_l1Read.l0] at H
   replace H := ite_ H
   obtain ⟨c2, H⟩ | ⟨c2, H⟩ := H
   rotate_left
   ·have c2b0 := decide_eq_false c2
    clear c2
    simp only [Option.some.injEq, Prod.mk.injEq] at H
    obtain ⟨rfl, rfl⟩ := H
    go_wp2
    go_ret2
    exact ⟨_, er_, ks_ HO_4.out, hb_⟩
   have c2b0 := decide_eq_true c2
   clear c2
   replace H := bnd_ H
   obtain ⟨⟨t203, t204, t205, t206, t207, t210⟩, A3, H⟩ := H
   replace H := red_ H
   replace H := ite_ H
   obtain ⟨c4, H⟩ | ⟨c4, H⟩ := H
   ·have c4b0 : (t210 == 0) = true := beq_iff_eq.mpr c4
    have c4b1 : (t210 != 0) = false := bne_eq_false_iff_eq.mpr c4
    clear c4
    simp only [Option.some.injEq, Prod.mk.injEq] at H
    obtain ⟨rfl, rfl⟩ := H
    try go_wp2_with (first | ((with_reducible refine gate_callee (f := 98) rfl ?_); refine gl_ 15 Try.func98 #[.string a0, .int .i64 x5_1] rfl ma_ ?_; (with_reducible refine (spec_l1Take.calls k1 a0 x5_1 t203 t204 t205 t206 t207 t210 _ A3.out).mono ?_); rintro e w5 ⟨v208, rfl, ho0, hb⟩; refine ⟨_, rfl, ?_⟩; replace HO_4 := Aside0.mk (Kd.S_elder' (ks_ HO_4.out) (Kd.R_base ho0) hb); have HO209 := Aside0.mk (Kd.R_lower ho0 (below_size (hb_))); replace HB := nb_ hb; (try clear hb); (try clear hb2); (try clear hk); (try clear hi); (try clear ho0)) | ((with_reducible refine gate_dst (N := 6) rfl ?_); (try (refine gate_guard (by rfl) ?_; dsimp only)); refine bq_ (N := 6) #[.int .i64 0, .int .i64 0, .int .i64 0, .int .i64 0, .slice none 0 0] 43 ?_; intro gb211 hg w6 BK211 hb; replace HO_4 := Aside0.mk (Kd.S_below (Kd.S_elderB (ks_ HO_4.out) gb211 (Nat.le_of_eq hg.symm)) hb); replace HO209 := rB_ HO209 hb; have GE211 := ge_ hg; replace HB := nb_ hb; clear hb hg; obtain ⟨hcz7_0, hcz7_1, hcz7_2, hcz7_3, hcz7_4, hfz7_0, hfz7_1, hfz7_2, hfz7_3, hfz7_4⟩ := cf5_ BK211.out; obtain ⟨Ao8, co8, eo8⟩ := Kd.R_slice HO209.out; subst eo8))
    have n0_ : Aside0 (Kd.S k43 43 (((((w6.setCell ⟨gb211, 0, none⟩ (.int .i64 t203)).setCell ⟨gb211, 1, none⟩ (.int .i64 t204)).setCell ⟨gb211, 2, none⟩ (.int .i64 t205)).setCell ⟨gb211, 3, none⟩ (.int .i64 t206)).setCell ⟨gb211, 4, none⟩ (.slice Ao8 t207.length co8)) w.heap.size (fun k_ => some k_ ≠ (.slice Ao8 t207.length co8 : Value).ownBlock ∧ k_ ≠ gb211) u4 x4_1) := ⟨Kd.S_mono (sF_ (Kd.S_mono HO_4.out (fun k_ hk => (⟨hk, hk.2⟩ : _ ∧ k_ ≠ gb211)))) (fun _ hk => ⟨hk.1.1.2, hk.1.2⟩)⟩
    have n1_ : Aside0 (Kd.R Kd.string 9 (((((w6.setCell ⟨gb211, 0, none⟩ (.int .i64 t203)).setCell ⟨gb211, 1, none⟩ (.int .i64 t204)).setCell ⟨gb211, 2, none⟩ (.int .i64 t205)).setCell ⟨gb211, 3, none⟩ (.int .i64 t206)).setCell ⟨gb211, 4, none⟩ (.slice Ao8 t207.length co8)) w.heap.size (fun _ => True) (.slice Ao8 t207.length co8) t207) := ⟨Kd.R_mono (rF_ (Kd.R_types HO209.out BK211.out (by decide))) (fun _ hk => trivial)⟩
    have n2_ : Aside0 ((((((w6.setCell ⟨gb211, 0, none⟩ (.int .i64 t203)).setCell ⟨gb211, 1, none⟩ (.int .i64 t204)).setCell ⟨gb211, 2, none⟩ (.int .i64 t205)).setCell ⟨gb211, 3, none⟩ (.int .i64 t206)).setCell ⟨gb211, 4, none⟩ (.slice Ao8 t207.length co8)).heap[gb211]? = some (.cells #[.int .i64 t203, .int .i64 t204, .int .i64 t205, .int .i64 t206, .slice Ao8 t207.length co8] 43 (0, 0))) := ⟨up_ BK211⟩
    have n3_ : Aside0 (Below w.heap.size w (((((w6.setCell ⟨gb211, 0, none⟩ (.int .i64 t203)).setCell ⟨gb211, 1, none⟩ (.int .i64 t204)).setCell ⟨gb211, 2, none⟩ (.int .i64 t205)).setCell ⟨gb211, 3, none⟩ (.int .i64 t206)).setCell ⟨gb211, 4, none⟩ (.slice Ao8 t207.length co8))) := ⟨hs_ GE211.out⟩
    (try clear HO_4)
    (try clear HO209)
    (try clear BK211)
    (try clear HB)
    generalize (((((w6.setCell ⟨gb211, 0, none⟩ (.int .i64 t203)).setCell ⟨gb211, 1, none⟩ (.int .i64 t204)).setCell ⟨gb211, 2, none⟩ (.int .i64 t205)).setCell ⟨gb211, 3, none⟩ (.int .i64 t206)).setCell ⟨gb211, 4, none⟩ (.slice Ao8 t207.length co8)) = w9 at n0_ n1_ n2_ n3_ ⊢
    have HO_4 := n0_
    have HO209 := n1_
    have BK211 := n2_
    have HB := n3_
    clear n0_ n1_ n2_ n3_
    replace HO_4 := Aside0.mk (Kd.S_drew HO_4.out)
    replace HO209 := qR_ HO209
    replace BK211 := qK_ BK211
    replace HB := qH_ HB
    refine start_ (n := 18) (S := fun w' => True) (ds := []) (List.replicate 18 false).toArray (by kernel_rfl) rfl rfl trivial (fun hHeld => ?_); refine with_tabW spec_l1Read.tab5 spec_l1Read.bits5 (fun HT_ HW_ => ?_)
    generalize w9.drew = w10 at HO_4 HO209 BK211 HB hHeld ⊢
    refine pv_ 0 18 ?_
    refine pv_ 1 19 ?_
    refine pv_ 2 20 ?_
    refine po_ 3 21 ?_
    refine po_ 4 22 ?_
    refine po_ 5 23 ?_
    refine po_ 6 24 ?_
    refine po_ 7 25 ?_
    refine po_ 8 26 ?_
    refine po_ 9 27 ?_
    refine po_ 10 28 ?_
    refine po_ 11 29 ?_
    refine po_ 12 30 ?_
    refine po_ 13 31 ?_
    refine po_ 14 32 ?_
    refine po_ 15 33 ?_
    refine po_ 16 34 ?_
    refine pv_ 17 35 ?_
    refine done_ (done_of HT_.out (by kernel_rfl)) ?_
    try go_wp2
    go_ret2
    exact ⟨_, er_, sF_ (Kd.S_mono HO_4.out (fun _ hk => trivial)), hs_ GE211.out⟩
   have c4b0 : (t210 == 0) = false := beq_eq_false_iff_ne.mpr c4
   have c4b1 : (t210 != 0) = true := bne_iff_ne.mpr c4
   replace H := ite_ H
   obtain ⟨c11, H⟩ | ⟨c11, H⟩ := H
   rotate_left
   ·have c11b0 := dgf_ c11
    have c11b1 : decide (0 < x4_1.length) = false := decide_eq_false (by omega)
    clear c11
    replace H := ifs_ H
    obtain ⟨c36, H⟩ := H
    have LMc36 := Aside0.mk c36
    clear c36
    obtain ⟨y217, hy217⟩ : ∃ y_ : List (S43), y_ = (x4_1 ++ [(⟨t203, t204, t205, t206, t207⟩ : S43)]) := ⟨_, rfl⟩
    replace H : (spec_l1Read.l0 k1 a0 y217 t210) = some (r1, r2) := by first | (rw [hy217]; with_reducible exact H) | (have H2_ := (Option.bind_some _ _).symm.trans H; rw [hy217]; with_reducible exact H2_) | (have H2_ := (Option.bind_some _ _).symm.trans H; with_reducible exact H2_) | with_reducible exact H | (rw [hy217]; exact H) | exact H
    have Ny217 := Aside0.mk hy217
    clear hy217
    have H' := Aside0.mk H
    clear H
    try go_wp2_with (first | ((with_reducible refine gate_callee (f := 98) rfl ?_); refine gl_ 15 Try.func98 #[.string a0, .int .i64 x5_1] rfl ma_ ?_; (with_reducible refine (spec_l1Take.calls k1 a0 x5_1 t203 t204 t205 t206 t207 t210 _ A3.out).mono ?_); rintro e w37 ⟨v208, rfl, ho0, hb⟩; refine ⟨_, rfl, ?_⟩; replace HO_4 := Aside0.mk (Kd.S_elder' (ks_ HO_4.out) (Kd.R_base ho0) hb); have HO209 := Aside0.mk (Kd.R_lower ho0 (below_size (hb_))); replace HB := nb_ hb; (try clear hb); (try clear hb2); (try clear hk); (try clear hi); (try clear ho0)) | ((with_reducible refine gate_dst (N := 6) rfl ?_); (try (refine gate_guard (by rfl) ?_; dsimp only)); refine bq_ (N := 6) #[.int .i64 0, .int .i64 0, .int .i64 0, .int .i64 0, .slice none 0 0] 43 ?_; intro gb211 hg w38 BK211 hb; replace HO_4 := Aside0.mk (Kd.S_below (Kd.S_elderB (ks_ HO_4.out) gb211 (Nat.le_of_eq hg.symm)) hb); replace HO209 := rB_ HO209 hb; have GE211 := ge_ hg; replace HB := nb_ hb; clear hb hg; obtain ⟨hcz39_0, hcz39_1, hcz39_2, hcz39_3, hcz39_4, hfz39_0, hfz39_1, hfz39_2, hfz39_3, hfz39_4⟩ := cf5_ BK211.out; obtain ⟨Ao40, co40, eo40⟩ := Kd.R_slice HO209.out; subst eo40))
    have n0_ : Aside0 (Kd.S k43 43 (((((w38.setCell ⟨gb211, 0, none⟩ (.int .i64 t203)).setCell ⟨gb211, 1, none⟩ (.int .i64 t204)).setCell ⟨gb211, 2, none⟩ (.int .i64 t205)).setCell ⟨gb211, 3, none⟩ (.int .i64 t206)).setCell ⟨gb211, 4, none⟩ (.slice Ao40 t207.length co40)) w.heap.size (fun k_ => some k_ ≠ (.slice Ao40 t207.length co40 : Value).ownBlock ∧ k_ ≠ gb211) u4 x4_1) := ⟨Kd.S_mono (sF_ (Kd.S_mono HO_4.out (fun k_ hk => (⟨hk, hk.2⟩ : _ ∧ k_ ≠ gb211)))) (fun _ hk => ⟨hk.1.1.2, hk.1.2⟩)⟩
    have n1_ : Aside0 (Kd.R Kd.string 9 (((((w38.setCell ⟨gb211, 0, none⟩ (.int .i64 t203)).setCell ⟨gb211, 1, none⟩ (.int .i64 t204)).setCell ⟨gb211, 2, none⟩ (.int .i64 t205)).setCell ⟨gb211, 3, none⟩ (.int .i64 t206)).setCell ⟨gb211, 4, none⟩ (.slice Ao40 t207.length co40)) w.heap.size (fun _ => True) (.slice Ao40 t207.length co40) t207) := ⟨Kd.R_mono (rF_ (Kd.R_types HO209.out BK211.out (by decide))) (fun _ hk => trivial)⟩
    have n2_ : Aside0 ((((((w38.setCell ⟨gb211, 0, none⟩ (.int .i64 t203)).setCell ⟨gb211, 1, none⟩ (.int .i64 t204)).setCell ⟨gb211, 2, none⟩ (.int .i64 t205)).setCell ⟨gb211, 3, none⟩ (.int .i64 t206)).setCell ⟨gb211, 4, none⟩ (.slice Ao40 t207.length co40)).heap[gb211]? = some (.cells #[.int .i64 t203, .int .i64 t204, .int .i64 t205, .int .i64 t206, .slice Ao40 t207.length co40] 43 (0, 0))) := ⟨up_ BK211⟩
    have n3_ : Aside0 (Below w.heap.size w (((((w38.setCell ⟨gb211, 0, none⟩ (.int .i64 t203)).setCell ⟨gb211, 1, none⟩ (.int .i64 t204)).setCell ⟨gb211, 2, none⟩ (.int .i64 t205)).setCell ⟨gb211, 3, none⟩ (.int .i64 t206)).setCell ⟨gb211, 4, none⟩ (.slice Ao40 t207.length co40))) := ⟨hs_ GE211.out⟩
    (try clear HO_4)
    (try clear HO209)
    (try clear BK211)
    (try clear HB)
    generalize (((((w38.setCell ⟨gb211, 0, none⟩ (.int .i64 t203)).setCell ⟨gb211, 1, none⟩ (.int .i64 t204)).setCell ⟨gb211, 2, none⟩ (.int .i64 t205)).setCell ⟨gb211, 3, none⟩ (.int .i64 t206)).setCell ⟨gb211, 4, none⟩ (.slice Ao40 t207.length co40)) = w41 at n0_ n1_ n2_ n3_ ⊢
    have HO_4 := n0_
    have HO209 := n1_
    have BK211 := n2_
    have HB := n3_
    clear n0_ n1_ n2_ n3_
    replace HO_4 := Aside0.mk (Kd.S_drew HO_4.out)
    replace HO209 := qR_ HO209
    replace BK211 := qK_ BK211
    replace HB := qH_ HB
    obtain ⟨Ao43, co43, eo43⟩ := Kd.S_slice HO_4.out
    (first | subst eo43 | (injection eo43 with f1_ f2_ f3_; have f4_ := f1_.symm; have f5_ := f3_.symm; clear f1_ f2_ f3_; subst f4_; subst f5_))
    refine start_ (n := 18) (S := fun w' => True) (ds := []) (List.replicate 18 false).toArray (by kernel_rfl) rfl rfl trivial (fun hHeld => ?_); refine with_tabW spec_l1Read.tab5 spec_l1Read.bits5 (fun HT_ HW_ => ?_)
    generalize w41.drew = w42 at HO_4 HO209 BK211 HB hHeld ⊢
    refine pv_ 0 18 ?_
    refine pv_ 1 19 ?_
    refine pv_ 2 20 ?_
    refine pv_ 3 21 ?_
    refine pv_ 4 22 ?_
    refine pv_ 5 23 ?_
    refine pv_ 6 24 ?_
    refine po_ 7 25 ?_
    refine po_ 8 26 ?_
    refine po_ 9 27 ?_
    refine po_ 10 28 ?_
    refine po_ 11 29 ?_
    refine po_ 12 30 ?_
    refine po_ 13 31 ?_
    refine po_ 14 32 ?_
    refine po_ 15 33 ?_
    refine pv_ 16 34 ?_
    refine pv_ 17 35 ?_
    refine done_ (done_of HT_.out (by kernel_rfl)) ?_
    obtain ⟨hcz44_0, hcz44_1, hcz44_2, hcz44_3, hcz44_4, hfz44_0, hfz44_1, hfz44_2, hfz44_3, hfz44_4⟩ := cf5_ BK211.out
    try go_wp2_with (first | ((with_reducible refine gate_builtin (b := .append) (xs := #[.tmp 36, .tmp 38]) rfl ?_); (try (refine gate_guard (by rfl) ?_; dsimp only)); at_builtin; refine Kd.S_append k43 (w0 := w) w.heap.size rfl (.tmp 36) (.tmp 38) 48 43 (.agg #[(.int .i64 0), (.int .i64 0), (.int .i64 0), (.int .i64 0), (.slice none 0 0)]) 56 rfl Try.underlying48 info43 rfl (by decide) (by omega) (.slice Ao43 x4_1.length co43) x4_1 (⟨t203, t204, t205, t206, t207⟩ : S43) [.int .i64 t203, .int .i64 t204, .int .i64 t205, .int .i64 t206, .slice Ao40 t207.length co40] (fun k_ => k_ ≠ gb211) (fun k_ => some k_ = (.slice Ao40 t207.length co40 : Value).ownBlock) rfl rfl ?aP (fun k_ hk_ => ((Kd.R_mono (ok' := fun k_ => ((fun k_ => k_ ≠ gb211)) k_ ∧ some k_ ≠ (.slice Ao43 x4_1.length co43 : Value).ownBlock) (Kd.R_types (Kd.R_apart' (HO209.out) (Kd.S_typed HO_4.out) (by decide)) BK211.out (by decide)) (fun k_ hk => ⟨hk.2, hk.1.2⟩))).1 k_ hk_.symm) ?aF ?aO ?aB ?aS ?aL ?_; (case aP => exact k43_mkM _ _ _ (⟨t203, t204, t205, t206, t207⟩ : S43) (Kd.R_mono (Kd.R_tight rfl (Kd.R_mono (ok' := fun k_ => ((fun k_ => k_ ≠ gb211)) k_ ∧ some k_ ≠ (.slice Ao43 x4_1.length co43 : Value).ownBlock) (Kd.R_types (Kd.R_apart' (HO209.out) (Kd.S_typed HO_4.out) (by decide)) BK211.out (by decide)) (fun k_ hk => ⟨hk.2, hk.1.2⟩))) (fun _ h_ => h_))); (case aB => exact (hs_ GE211.out)); (case aF => exact (fun k_ hk => Kd.freshB (g := gb211) (o := .cells #[.int .i64 t203, .int .i64 t204, .int .i64 t205, .int .i64 t206, .slice Ao40 t207.length co40] 43 (0, 0)) (kb_ BK211.out) k_ hk)); (case aO => exact (sF_ (Kd.S_mono HO_4.out (fun k_ hk => ⟨hk.2, fun e_ => hk.1 e_⟩)))); (case aS => exact (below_size (hs_ GE211.out))); (case aL => have := LMc36.out; omega); intro v218 w45 ho hb hg hat; rw [← Ny217.out] at ho; replace BK211 := Aside0.mk (blk_grown (g := gb211) (o := .cells #[.int .i64 t203, .int .i64 t204, .int .i64 t205, .int .i64 t206, .slice Ao40 t207.length co40] 43 (0, 0)) (kb_ BK211.out) hg (Kd.S_away HO_4.out (fun _ hk => hk.2))); replace HB := Aside0.mk (hb); have HO219 := Aside0.mk (ho); clear HO_4 HO209; clear ho hb hg hat))
    go_roundg k1
    case measure => have := HK1.out; omega
    case rel => exact ⟨(y217), (t210), sr_, H', ⟨by have := HK1.out; omega⟩, ⟨sF_ (Kd.S_mono HO219.out (fun _ hk => trivial))⟩, ⟨hs_ GE211.out⟩⟩
   have c11b0 := dgt_ c11
   have c11b1 : decide (0 < x4_1.length) = true := decide_eq_true (by omega)
   clear c11
   obtain ⟨ji12, hji12⟩ : ∃ j_ : Int, (wrap64 ((x4_1.length : Int) - 1)) = j_ := ⟨_, rfl⟩
   first | rw [hji12] at H | simp only [hji12] at H
   (try rw [hji12] at A3)
   have hji12w : (IntKind.i64.wrap ((x4_1.length : Int) - 1)) = ji12 := (i64_w _).trans hji12
   replace H := ifs_ H
   obtain ⟨c13, H⟩ := H
   have c13b0 := decide_eq_true c13
   clear c13
   replace H := ifs_ H
   obtain ⟨c14, H⟩ := H
   have c14b0 := decide_eq_true c14
   clear c14
   replace H := bnd_ H
   obtain ⟨t213, A15, H⟩ := H
   replace H := ifb_ H
   obtain ⟨rfl, H⟩ | ⟨rfl, H⟩ := H
   rotate_left
   ·simp only [Option.some.injEq, Prod.mk.injEq] at H
    obtain ⟨rfl, rfl⟩ := H
    try go_wp2_with (first | ((with_reducible refine gate_callee (f := 98) rfl ?_); refine gl_ 15 Try.func98 #[.string a0, .int .i64 x5_1] rfl ma_ ?_; (with_reducible refine (spec_l1Take.calls k1 a0 x5_1 t203 t204 t205 t206 t207 t210 _ A3.out).mono ?_); rintro e w28 ⟨v208, rfl, ho0, hb⟩; refine ⟨_, rfl, ?_⟩; replace HO_4 := Aside0.mk (Kd.S_elder' (ks_ HO_4.out) (Kd.R_base ho0) hb); have HO209 := Aside0.mk (Kd.R_lower ho0 (below_size (hb_))); replace HB := nb_ hb; (try clear hb); (try clear hb2); (try clear hk); (try clear hi); (try clear ho0)) | ((with_reducible refine gate_dst (N := 6) rfl ?_); (try (refine gate_guard (by rfl) ?_; dsimp only)); refine bq_ (N := 6) #[.int .i64 0, .int .i64 0, .int .i64 0, .int .i64 0, .slice none 0 0] 43 ?_; intro gb211 hg w29 BK211 hb; replace HO_4 := Aside0.mk (Kd.S_below (Kd.S_elderB (ks_ HO_4.out) gb211 (Nat.le_of_eq hg.symm)) hb); replace HO209 := rB_ HO209 hb; have GE211 := ge_ hg; replace HB := nb_ hb; clear hb hg; obtain ⟨hcz30_0, hcz30_1, hcz30_2, hcz30_3, hcz30_4, hfz30_0, hfz30_1, hfz30_2, hfz30_3, hfz30_4⟩ := cf5_ BK211.out; obtain ⟨Ao31, co31, eo31⟩ := Kd.R_slice HO209.out; subst eo31))
    have n0_ : Aside0 (Kd.S k43 43 (((((w29.setCell ⟨gb211, 0, none⟩ (.int .i64 t203)).setCell ⟨gb211, 1, none⟩ (.int .i64 t204)).setCell ⟨gb211, 2, none⟩ (.int .i64 t205)).setCell ⟨gb211, 3, none⟩ (.int .i64 t206)).setCell ⟨gb211, 4, none⟩ (.slice Ao31 t207.length co31)) w.heap.size (fun k_ => some k_ ≠ (.slice Ao31 t207.length co31 : Value).ownBlock ∧ k_ ≠ gb211) u4 x4_1) := ⟨Kd.S_mono (sF_ (Kd.S_mono HO_4.out (fun k_ hk => (⟨hk, hk.2⟩ : _ ∧ k_ ≠ gb211)))) (fun _ hk => ⟨hk.1.1.2, hk.1.2⟩)⟩
    have n1_ : Aside0 (Kd.R Kd.string 9 (((((w29.setCell ⟨gb211, 0, none⟩ (.int .i64 t203)).setCell ⟨gb211, 1, none⟩ (.int .i64 t204)).setCell ⟨gb211, 2, none⟩ (.int .i64 t205)).setCell ⟨gb211, 3, none⟩ (.int .i64 t206)).setCell ⟨gb211, 4, none⟩ (.slice Ao31 t207.length co31)) w.heap.size (fun _ => True) (.slice Ao31 t207.length co31) t207) := ⟨Kd.R_mono (rF_ (Kd.R_types HO209.out BK211.out (by decide))) (fun _ hk => trivial)⟩
    have n2_ : Aside0 ((((((w29.setCell ⟨gb211, 0, none⟩ (.int .i64 t203)).setCell ⟨gb211, 1, none⟩ (.int .i64 t204)).setCell ⟨gb211, 2, none⟩ (.int .i64 t205)).setCell ⟨gb211, 3, none⟩ (.int .i64 t206)).setCell ⟨gb211, 4, none⟩ (.slice Ao31 t207.length co31)).heap[gb211]? = some (.cells #[.int .i64 t203, .int .i64 t204, .int .i64 t205, .int .i64 t206, .slice Ao31 t207.length co31] 43 (0, 0))) := ⟨up_ BK211⟩
    have n3_ : Aside0 (Below w.heap.size w (((((w29.setCell ⟨gb211, 0, none⟩ (.int .i64 t203)).setCell ⟨gb211, 1, none⟩ (.int .i64 t204)).setCell ⟨gb211, 2, none⟩ (.int .i64 t205)).setCell ⟨gb211, 3, none⟩ (.int .i64 t206)).setCell ⟨gb211, 4, none⟩ (.slice Ao31 t207.length co31))) := ⟨hs_ GE211.out⟩
    (try clear HO_4)
    (try clear HO209)
    (try clear BK211)
    (try clear HB)
    generalize (((((w29.setCell ⟨gb211, 0, none⟩ (.int .i64 t203)).setCell ⟨gb211, 1, none⟩ (.int .i64 t204)).setCell ⟨gb211, 2, none⟩ (.int .i64 t205)).setCell ⟨gb211, 3, none⟩ (.int .i64 t206)).setCell ⟨gb211, 4, none⟩ (.slice Ao31 t207.length co31)) = w32 at n0_ n1_ n2_ n3_ ⊢
    have HO_4 := n0_
    have HO209 := n1_
    have BK211 := n2_
    have HB := n3_
    clear n0_ n1_ n2_ n3_
    replace HO_4 := Aside0.mk (Kd.S_drew HO_4.out)
    replace HO209 := qR_ HO209
    replace BK211 := qK_ BK211
    replace HB := qH_ HB
    obtain ⟨Ao34, co34, eo34⟩ := Kd.S_slice HO_4.out
    (first | subst eo34 | (injection eo34 with f1_ f2_ f3_; have f4_ := f1_.symm; have f5_ := f3_.symm; clear f1_ f2_ f3_; subst f4_; subst f5_))
    have p212 : 0 ≤ ((ji12) : Int) := oa_
    have q212 : (ji12) < (x4_1.length : Int) := oa_
    obtain ⟨ad212, A212_4, c212_4, e212, hx212_0, hx212_1, hx212_2, hx212_3, hx212_4, hl212_4, hi212_4⟩ := at_T43 (Kd.S_reads' HO_4.out).2.2 (ji12) p212 q212
    cases e212
    obtain ⟨ce212, hce212, hMe212, hcc212⟩ := Kd.S_get HO_4.out z43 (ji12) p212 (by first | exact q212 | exact oa_ | (have e_ := (Kd.S_reads' HO_4.out).1; omega))
    obtain ⟨ve212_4, rfl, ge212_4⟩ := k43_openM hMe212
    have hv212_4 := hcc212 4 _ rfl
    rw [add_field _ _ 4 (by omega)] at hv212_4
    replace hv212_4 := Option.some.inj (hv212_4.symm.trans hx212_4)
    rw [hv212_4] at ge212_4
    have HL212_4 := Aside0.mk (show Kd.R Kd.string 9 _ _ _ _ ((rd_T43 x4_1 (ji12)).f4) from ge212_4)
    clear hv212_4 ge212_4
    clear hcc212 hce212
    have HR212_4 := Aside0.mk hi212_4
    have HC212_4 := Aside0.mk hl212_4
    clear hi212_4 hl212_4
    replace p212 := eq_true p212
    replace q212 := eq_true q212
    refine start_ (n := 18) (S := fun w' => w'.cell? ⟨gb211, 0, none⟩ = some (.int .i64 t203) ∧ w'.cell? ⟨gb211, 1, none⟩ = some (.int .i64 t204) ∧ w'.cell? ⟨gb211, 2, none⟩ = some (.int .i64 t205) ∧ w'.cell? ⟨gb211, 3, none⟩ = some (.int .i64 t206) ∧ w'.cell? ⟨gb211, 4, none⟩ = some (.slice Ao31 t207.length co31) ∧ w'.cell? (ad212.add (((ji12)).toNat * 5)) = some (.int .i64 ((rd_T43 x4_1 (ji12)).f0)) ∧ w'.cell? ⟨(ad212.add (((ji12)).toNat * 5)).block, (ad212.add (((ji12)).toNat * 5)).off + 1, none⟩ = some (.int .i64 ((rd_T43 x4_1 (ji12)).f1)) ∧ w'.cell? ⟨(ad212.add (((ji12)).toNat * 5)).block, (ad212.add (((ji12)).toNat * 5)).off + 2, none⟩ = some (.int .i64 ((rd_T43 x4_1 (ji12)).f2)) ∧ w'.cell? ⟨(ad212.add (((ji12)).toNat * 5)).block, (ad212.add (((ji12)).toNat * 5)).off + 3, none⟩ = some (.int .i64 ((rd_T43 x4_1 (ji12)).f3)) ∧ w'.cell? ⟨(ad212.add (((ji12)).toNat * 5)).block, (ad212.add (((ji12)).toNat * 5)).off + 4, none⟩ = some (.slice A212_4 ((rd_T43 x4_1 (ji12)).f4).length c212_4)) (ds := []) (List.replicate 18 false).toArray (by kernel_rfl) rfl rfl ⟨bt_ BK211 0, bt_ BK211 1, bt_ BK211 2, bt_ BK211 3, bt_ BK211 4, hx212_0, hx212_1, hx212_2, hx212_3, hx212_4⟩ (fun hHeld => ?_); refine with_tabW spec_l1Read.tab5 spec_l1Read.bits5 (fun HT_ HW_ => ?_)
    generalize w32.drew = w33 at HO_4 HO209 BK211 HB HL212_4 HR212_4 hx212_0 hx212_1 hx212_2 hx212_3 hx212_4 hHeld ⊢
    refine pv_ 0 18 ?_
    refine pv_ 1 19 ?_
    refine pv_ 2 20 ?_
    refine pv_ 3 21 ?_
    refine pv_ 4 22 ?_
    refine pv_ 5 23 ?_
    refine pv_ 6 24 ?_
    refine pv_ 7 25 ?_
    refine pv_ 8 26 ?_
    refine pv_ 9 27 ?_
    refine pv_ 10 28 ?_
    refine pv_ 11 29 ?_
    refine tk_ 12 30 ?_
    refine tk_ 13 31 ?_
    refine on_ 14 32 (fun K hK => ?_)
    refine gs_ Try.func99 #[.agg #[.int .i64 ((rd_T43 x4_1 (ji12)).f0), .int .i64 ((rd_T43 x4_1 (ji12)).f1), .int .i64 ((rd_T43 x4_1 (ji12)).f2), .int .i64 ((rd_T43 x4_1 (ji12)).f3), .slice A212_4 ((rd_T43 x4_1 (ji12)).f4).length c212_4], .agg #[.int .i64 t203, .int .i64 t204, .int .i64 t205, .int .i64 t206, .slice Ao31 t207.length co31]] rfl (mb_ hji12) ?_
    with_reducible refine (spec_l1Next.calls ((rd_T43 x4_1 (ji12)).f0) ((rd_T43 x4_1 (ji12)).f1) ((rd_T43 x4_1 (ji12)).f2) ((rd_T43 x4_1 (ji12)).f3) _ _ ((rd_T43 x4_1 (ji12)).f4) t203 t204 t205 t206 _ _ t207 false _ ?side1 ?side2 ?side3 ?side4 A15.out).mono ?_
    (case side1 => repeat (first | exact (by repeat (first | (with_reducible exact HR212_4.out) | (with_reducible refine Kd.C_alloc ?_ _) | (with_reducible refine Kd.C_drewN ?_ _) | (with_reducible refine Kd.C_drew ?_) | exact HR212_4.out)) | (with_reducible refine Kd.C_alloc ?_ _) | (with_reducible refine Kd.C_drewN ?_ _) | (with_reducible refine Kd.C_drew ?_)))
    (case side2 => exact HC212_4.out)
    (case side3 => exact cs_ ((Kd.R_reads' HO209.out).2.2))
    (case side4 => exact (Kd.R_reads' HO209.out).2.1)
    rintro e w35 ⟨rfl, hb⟩
    have HS5_ := (hb.cell (World.block_lt_of_cell? _ _ (hHeld.2.2.2.2.2.1))).trans (hHeld.2.2.2.2.2.1)
    have HS6_ := (hb.cell (World.block_lt_of_cell? _ _ (hHeld.2.2.2.2.2.2.1))).trans (hHeld.2.2.2.2.2.2.1)
    have HS7_ := (hb.cell (World.block_lt_of_cell? _ _ (hHeld.2.2.2.2.2.2.2.1))).trans (hHeld.2.2.2.2.2.2.2.1)
    have HS8_ := (hb.cell (World.block_lt_of_cell? _ _ (hHeld.2.2.2.2.2.2.2.2.1))).trans (hHeld.2.2.2.2.2.2.2.2.1)
    have HS9_ := (hb.cell (World.block_lt_of_cell? _ _ (hHeld.2.2.2.2.2.2.2.2.2))).trans (hHeld.2.2.2.2.2.2.2.2.2)
    refine ⟨_, rfl, ?_⟩
    replace HO_4 := sB_ HO_4 hb
    replace HO209 := rB_ HO209 hb
    replace HL212_4 := rB_ HL212_4 hb
    replace BK211 := bK_ BK211 hb
    replace HR212_4 := Aside0.mk (Kd.C_below (by repeat (first | (with_reducible exact HR212_4.out) | (with_reducible refine Kd.C_alloc ?_ _) | (with_reducible refine Kd.C_drewN ?_ _) | (with_reducible refine Kd.C_drew ?_) | exact HR212_4.out)) hb)
    replace HB := nc_ GE211 hb
    (try clear hb)
    (try clear hb2)
    (try clear hk)
    (try clear hi)
    refine hK.out _ _ ⟨bt_ BK211 0, bt_ BK211 1, bt_ BK211 2, bt_ BK211 3, bt_ BK211 4, HS5_, HS6_, HS7_, HS8_, HS9_⟩ (fun hHeld => ?_)
    clear hK K
    refine no_ ?_
    refine pv_ 15 33 ?_
    refine pv_ 16 34 ?_
    refine pv_ 17 35 ?_
    refine done_ (done_of HT_.out (by kernel_rfl)) ?_
    try go_wp2
    go_ret2
    exact ⟨_, by first | rfl | (simp [errW_none, errW_some] <;> rfl) | (simp only [← hji12]; first | rfl | (simp [errW_none, errW_some] <;> rfl)) | (simp [*, errW_none, errW_some] <;> rfl), sF_ (Kd.S_mono HO_4.out (fun _ hk => trivial)), hs_ GE211.out⟩
   replace H := ifs_ H
   obtain ⟨c17, H⟩ := H
   have LMc17 := Aside0.mk c17
   clear c17
   obtain ⟨y214, hy214⟩ : ∃ y_ : List (S43), y_ = (x4_1 ++ [(⟨t203, t204, t205, t206, t207⟩ : S43)]) := ⟨_, rfl⟩
   replace H : (spec_l1Read.l0 k1 a0 y214 t210) = some (r1, r2) := by first | (rw [hy214]; with_reducible exact H) | (have H2_ := (Option.bind_some _ _).symm.trans H; rw [hy214]; with_reducible exact H2_) | (have H2_ := (Option.bind_some _ _).symm.trans H; with_reducible exact H2_) | with_reducible exact H | (rw [hy214]; exact H) | exact H
   have Ny214 := Aside0.mk hy214
   clear hy214
   have H' := Aside0.mk H
   clear H
   try go_wp2_with (first | ((with_reducible refine gate_callee (f := 98) rfl ?_); refine gl_ 15 Try.func98 #[.string a0, .int .i64 x5_1] rfl ma_ ?_; (with_reducible refine (spec_l1Take.calls k1 a0 x5_1 t203 t204 t205 t206 t207 t210 _ A3.out).mono ?_); rintro e w18 ⟨v208, rfl, ho0, hb⟩; refine ⟨_, rfl, ?_⟩; replace HO_4 := Aside0.mk (Kd.S_elder' (ks_ HO_4.out) (Kd.R_base ho0) hb); have HO209 := Aside0.mk (Kd.R_lower ho0 (below_size (hb_))); replace HB := nb_ hb; (try clear hb); (try clear hb2); (try clear hk); (try clear hi); (try clear ho0)) | ((with_reducible refine gate_dst (N := 6) rfl ?_); (try (refine gate_guard (by rfl) ?_; dsimp only)); refine bq_ (N := 6) #[.int .i64 0, .int .i64 0, .int .i64 0, .int .i64 0, .slice none 0 0] 43 ?_; intro gb211 hg w19 BK211 hb; replace HO_4 := Aside0.mk (Kd.S_below (Kd.S_elderB (ks_ HO_4.out) gb211 (Nat.le_of_eq hg.symm)) hb); replace HO209 := rB_ HO209 hb; have GE211 := ge_ hg; replace HB := nb_ hb; clear hb hg; obtain ⟨hcz20_0, hcz20_1, hcz20_2, hcz20_3, hcz20_4, hfz20_0, hfz20_1, hfz20_2, hfz20_3, hfz20_4⟩ := cf5_ BK211.out; obtain ⟨Ao21, co21, eo21⟩ := Kd.R_slice HO209.out; subst eo21))
   have n0_ : Aside0 (Kd.S k43 43 (((((w19.setCell ⟨gb211, 0, none⟩ (.int .i64 t203)).setCell ⟨gb211, 1, none⟩ (.int .i64 t204)).setCell ⟨gb211, 2, none⟩ (.int .i64 t205)).setCell ⟨gb211, 3, none⟩ (.int .i64 t206)).setCell ⟨gb211, 4, none⟩ (.slice Ao21 t207.length co21)) w.heap.size (fun k_ => some k_ ≠ (.slice Ao21 t207.length co21 : Value).ownBlock ∧ k_ ≠ gb211) u4 x4_1) := ⟨Kd.S_mono (sF_ (Kd.S_mono HO_4.out (fun k_ hk => (⟨hk, hk.2⟩ : _ ∧ k_ ≠ gb211)))) (fun _ hk => ⟨hk.1.1.2, hk.1.2⟩)⟩
   have n1_ : Aside0 (Kd.R Kd.string 9 (((((w19.setCell ⟨gb211, 0, none⟩ (.int .i64 t203)).setCell ⟨gb211, 1, none⟩ (.int .i64 t204)).setCell ⟨gb211, 2, none⟩ (.int .i64 t205)).setCell ⟨gb211, 3, none⟩ (.int .i64 t206)).setCell ⟨gb211, 4, none⟩ (.slice Ao21 t207.length co21)) w.heap.size (fun _ => True) (.slice Ao21 t207.length co21) t207) := ⟨Kd.R_mono (rF_ (Kd.R_types HO209.out BK211.out (by decide))) (fun _ hk => trivial)⟩
   have n2_ : Aside0 ((((((w19.setCell ⟨gb211, 0, none⟩ (.int .i64 t203)).setCell ⟨gb211, 1, none⟩ (.int .i64 t204)).setCell ⟨gb211, 2, none⟩ (.int .i64 t205)).setCell ⟨gb211, 3, none⟩ (.int .i64 t206)).setCell ⟨gb211, 4, none⟩ (.slice Ao21 t207.length co21)).heap[gb211]? = some (.cells #[.int .i64 t203, .int .i64 t204, .int .i64 t205, .int .i64 t206, .slice Ao21 t207.length co21] 43 (0, 0))) := ⟨up_ BK211⟩
   have n3_ : Aside0 (Below w.heap.size w (((((w19.setCell ⟨gb211, 0, none⟩ (.int .i64 t203)).setCell ⟨gb211, 1, none⟩ (.int .i64 t204)).setCell ⟨gb211, 2, none⟩ (.int .i64 t205)).setCell ⟨gb211, 3, none⟩ (.int .i64 t206)).setCell ⟨gb211, 4, none⟩ (.slice Ao21 t207.length co21))) := ⟨hs_ GE211.out⟩
   (try clear HO_4)
   (try clear HO209)
   (try clear BK211)
   (try clear HB)
   generalize (((((w19.setCell ⟨gb211, 0, none⟩ (.int .i64 t203)).setCell ⟨gb211, 1, none⟩ (.int .i64 t204)).setCell ⟨gb211, 2, none⟩ (.int .i64 t205)).setCell ⟨gb211, 3, none⟩ (.int .i64 t206)).setCell ⟨gb211, 4, none⟩ (.slice Ao21 t207.length co21)) = w22 at n0_ n1_ n2_ n3_ ⊢
   have HO_4 := n0_
   have HO209 := n1_
   have BK211 := n2_
   have HB := n3_
   clear n0_ n1_ n2_ n3_
   replace HO_4 := Aside0.mk (Kd.S_drew HO_4.out)
   replace HO209 := qR_ HO209
   replace BK211 := qK_ BK211
   replace HB := qH_ HB
   obtain ⟨Ao24, co24, eo24⟩ := Kd.S_slice HO_4.out
   (first | subst eo24 | (injection eo24 with f1_ f2_ f3_; have f4_ := f1_.symm; have f5_ := f3_.symm; clear f1_ f2_ f3_; subst f4_; subst f5_))
   have p212 : 0 ≤ ((ji12) : Int) := oa_
   have q212 : (ji12) < (x4_1.length : Int) := oa_
   obtain ⟨ad212, A212_4, c212_4, e212, hx212_0, hx212_1, hx212_2, hx212_3, hx212_4, hl212_4, hi212_4⟩ := at_T43 (Kd.S_reads' HO_4.out).2.2 (ji12) p212 q212
   cases e212
   obtain ⟨ce212, hce212, hMe212, hcc212⟩ := Kd.S_get HO_4.out z43 (ji12) p212 (by first | exact q212 | exact oa_ | (have e_ := (Kd.S_reads' HO_4.out).1; omega))
   obtain ⟨ve212_4, rfl, ge212_4⟩ := k43_openM hMe212
   have hv212_4 := hcc212 4 _ rfl
   rw [add_field _ _ 4 (by omega)] at hv212_4
   replace hv212_4 := Option.some.inj (hv212_4.symm.trans hx212_4)
   rw [hv212_4] at ge212_4
   have HL212_4 := Aside0.mk (show Kd.R Kd.string 9 _ _ _ _ ((rd_T43 x4_1 (ji12)).f4) from ge212_4)
   clear hv212_4 ge212_4
   clear hcc212 hce212
   have HR212_4 := Aside0.mk hi212_4
   have HC212_4 := Aside0.mk hl212_4
   clear hi212_4 hl212_4
   replace p212 := eq_true p212
   replace q212 := eq_true q212
   refine start_ (n := 18) (S := fun w' => w'.cell? ⟨gb211, 0, none⟩ = some (.int .i64 t203) ∧ w'.cell? ⟨gb211, 1, none⟩ = some (.int .i64 t204) ∧ w'.cell? ⟨gb211, 2, none⟩ = some (.int .i64 t205) ∧ w'.cell? ⟨gb211, 3, none⟩ = some (.int .i64 t206) ∧ w'.cell? ⟨gb211, 4, none⟩ = some (.slice Ao21 t207.length co21) ∧ w'.cell? (ad212.add (((ji12)).toNat * 5)) = some (.int .i64 ((rd_T43 x4_1 (ji12)).f0)) ∧ w'.cell? ⟨(ad212.add (((ji12)).toNat * 5)).block, (ad212.add (((ji12)).toNat * 5)).off + 1, none⟩ = some (.int .i64 ((rd_T43 x4_1 (ji12)).f1)) ∧ w'.cell? ⟨(ad212.add (((ji12)).toNat * 5)).block, (ad212.add (((ji12)).toNat * 5)).off + 2, none⟩ = some (.int .i64 ((rd_T43 x4_1 (ji12)).f2)) ∧ w'.cell? ⟨(ad212.add (((ji12)).toNat * 5)).block, (ad212.add (((ji12)).toNat * 5)).off + 3, none⟩ = some (.int .i64 ((rd_T43 x4_1 (ji12)).f3)) ∧ w'.cell? ⟨(ad212.add (((ji12)).toNat * 5)).block, (ad212.add (((ji12)).toNat * 5)).off + 4, none⟩ = some (.slice A212_4 ((rd_T43 x4_1 (ji12)).f4).length c212_4)) (ds := []) (List.replicate 18 false).toArray (by kernel_rfl) rfl rfl ⟨bt_ BK211 0, bt_ BK211 1, bt_ BK211 2, bt_ BK211 3, bt_ BK211 4, hx212_0, hx212_1, hx212_2, hx212_3, hx212_4⟩ (fun hHeld => ?_); refine with_tabW spec_l1Read.tab5 spec_l1Read.bits5 (fun HT_ HW_ => ?_)
   generalize w22.drew = w23 at HO_4 HO209 BK211 HB HL212_4 HR212_4 hx212_0 hx212_1 hx212_2 hx212_3 hx212_4 hHeld ⊢
   refine pv_ 0 18 ?_
   refine pv_ 1 19 ?_
   refine pv_ 2 20 ?_
   refine pv_ 3 21 ?_
   refine pv_ 4 22 ?_
   refine pv_ 5 23 ?_
   refine pv_ 6 24 ?_
   refine pv_ 7 25 ?_
   refine pv_ 8 26 ?_
   refine pv_ 9 27 ?_
   refine pv_ 10 28 ?_
   refine pv_ 11 29 ?_
   refine tk_ 12 30 ?_
   refine tk_ 13 31 ?_
   refine on_ 14 32 (fun K hK => ?_)
   refine gs_ Try.func99 #[.agg #[.int .i64 ((rd_T43 x4_1 (ji12)).f0), .int .i64 ((rd_T43 x4_1 (ji12)).f1), .int .i64 ((rd_T43 x4_1 (ji12)).f2), .int .i64 ((rd_T43 x4_1 (ji12)).f3), .slice A212_4 ((rd_T43 x4_1 (ji12)).f4).length c212_4], .agg #[.int .i64 t203, .int .i64 t204, .int .i64 t205, .int .i64 t206, .slice Ao21 t207.length co21]] rfl (mb_ hji12) ?_
   with_reducible refine (spec_l1Next.calls ((rd_T43 x4_1 (ji12)).f0) ((rd_T43 x4_1 (ji12)).f1) ((rd_T43 x4_1 (ji12)).f2) ((rd_T43 x4_1 (ji12)).f3) _ _ ((rd_T43 x4_1 (ji12)).f4) t203 t204 t205 t206 _ _ t207 true _ ?side1 ?side2 ?side3 ?side4 A15.out).mono ?_
   (case side1 => repeat (first | exact (by repeat (first | (with_reducible exact HR212_4.out) | (with_reducible refine Kd.C_alloc ?_ _) | (with_reducible refine Kd.C_drewN ?_ _) | (with_reducible refine Kd.C_drew ?_) | exact HR212_4.out)) | (with_reducible refine Kd.C_alloc ?_ _) | (with_reducible refine Kd.C_drewN ?_ _) | (with_reducible refine Kd.C_drew ?_)))
   (case side2 => exact HC212_4.out)
   (case side3 => exact cs_ ((Kd.R_reads' HO209.out).2.2))
   (case side4 => exact (Kd.R_reads' HO209.out).2.1)
   rintro e w25 ⟨rfl, hb⟩
   have HS5_ := (hb.cell (World.block_lt_of_cell? _ _ (hHeld.2.2.2.2.2.1))).trans (hHeld.2.2.2.2.2.1)
   have HS6_ := (hb.cell (World.block_lt_of_cell? _ _ (hHeld.2.2.2.2.2.2.1))).trans (hHeld.2.2.2.2.2.2.1)
   have HS7_ := (hb.cell (World.block_lt_of_cell? _ _ (hHeld.2.2.2.2.2.2.2.1))).trans (hHeld.2.2.2.2.2.2.2.1)
   have HS8_ := (hb.cell (World.block_lt_of_cell? _ _ (hHeld.2.2.2.2.2.2.2.2.1))).trans (hHeld.2.2.2.2.2.2.2.2.1)
   have HS9_ := (hb.cell (World.block_lt_of_cell? _ _ (hHeld.2.2.2.2.2.2.2.2.2))).trans (hHeld.2.2.2.2.2.2.2.2.2)
   refine ⟨_, rfl, ?_⟩
   replace HO_4 := sB_ HO_4 hb
   replace HO209 := rB_ HO209 hb
   replace HL212_4 := rB_ HL212_4 hb
   replace BK211 := bK_ BK211 hb
   replace HR212_4 := Aside0.mk (Kd.C_below (by repeat (first | (with_reducible exact HR212_4.out) | (with_reducible refine Kd.C_alloc ?_ _) | (with_reducible refine Kd.C_drewN ?_ _) | (with_reducible refine Kd.C_drew ?_) | exact HR212_4.out)) hb)
   replace HB := nc_ GE211 hb
   (try clear hb)
   (try clear hb2)
   (try clear hk)
   (try clear hi)
   refine hK.out _ _ ⟨bt_ BK211 0, bt_ BK211 1, bt_ BK211 2, bt_ BK211 3, bt_ BK211 4, HS5_, HS6_, HS7_, HS8_, HS9_⟩ (fun hHeld => ?_)
   clear hK K
   refine no_ ?_
   refine pv_ 15 33 ?_
   refine pv_ 16 34 ?_
   refine pv_ 17 35 ?_
   refine done_ (done_of HT_.out (by kernel_rfl)) ?_
   obtain ⟨hcz26_0, hcz26_1, hcz26_2, hcz26_3, hcz26_4, hfz26_0, hfz26_1, hfz26_2, hfz26_3, hfz26_4⟩ := cf5_ BK211.out
   try go_wp2_with (first | ((with_reducible refine gate_builtin (b := .append) (xs := #[.tmp 36, .tmp 38]) rfl ?_); (try (refine gate_guard (by rfl) ?_; dsimp only)); at_builtin; refine Kd.S_append k43 (w0 := w) w.heap.size rfl (.tmp 36) (.tmp 38) 48 43 (.agg #[(.int .i64 0), (.int .i64 0), (.int .i64 0), (.int .i64 0), (.slice none 0 0)]) 56 rfl Try.underlying48 info43 rfl (by decide) (by omega) (.slice (some ad212) x4_1.length co24) x4_1 (⟨t203, t204, t205, t206, t207⟩ : S43) [.int .i64 t203, .int .i64 t204, .int .i64 t205, .int .i64 t206, .slice Ao21 t207.length co21] (fun k_ => k_ ≠ gb211) (fun k_ => some k_ = (.slice Ao21 t207.length co21 : Value).ownBlock) rfl rfl ?aP (fun k_ hk_ => ((Kd.R_mono (ok' := fun k_ => ((fun k_ => k_ ≠ gb211)) k_ ∧ some k_ ≠ (.slice (some ad212) x4_1.length co24 : Value).ownBlock) (Kd.R_types (Kd.R_apart' (HO209.out) (Kd.S_typed HO_4.out) (by decide)) BK211.out (by decide)) (fun k_ hk => ⟨hk.2, hk.1.2⟩))).1 k_ hk_.symm) ?aF ?aO ?aB ?aS ?aL ?_; (case aP => exact k43_mkM _ _ _ (⟨t203, t204, t205, t206, t207⟩ : S43) (Kd.R_mono (Kd.R_tight rfl (Kd.R_mono (ok' := fun k_ => ((fun k_ => k_ ≠ gb211)) k_ ∧ some k_ ≠ (.slice (some ad212) x4_1.length co24 : Value).ownBlock) (Kd.R_types (Kd.R_apart' (HO209.out) (Kd.S_typed HO_4.out) (by decide)) BK211.out (by decide)) (fun k_ hk => ⟨hk.2, hk.1.2⟩))) (fun _ h_ => h_))); (case aB => exact (hs_ GE211.out)); (case aF => exact (fun k_ hk => Kd.freshB (g := gb211) (o := .cells #[.int .i64 t203, .int .i64 t204, .int .i64 t205, .int .i64 t206, .slice Ao21 t207.length co21] 43 (0, 0)) (kb_ BK211.out) k_ hk)); (case aO => exact (sF_ (Kd.S_mono HO_4.out (fun k_ hk => ⟨hk.2, fun e_ => hk.1 e_⟩)))); (case aS => exact (below_size (hs_ GE211.out))); (case aL => have := LMc17.out; omega); intro v215 w27 ho hb hg hat; rw [← Ny214.out] at ho; replace BK211 := Aside0.mk (blk_grown (g := gb211) (o := .cells #[.int .i64 t203, .int .i64 t204, .int .i64 t205, .int .i64 t206, .slice Ao21 t207.length co21] 43 (0, 0)) (kb_ BK211.out) hg (Kd.S_away HO_4.out (fun _ hk => hk.2))); replace HL212_4 := Aside0.mk (Kd.R_after (ok := (fun k_ => some k_ ≠ (.slice Ao21 t207.length co21 : Value).ownBlock ∧ k_ ≠ gb211)) (kr_ HL212_4.out) hg hat); replace HB := Aside0.mk (hb); have HO216 := Aside0.mk (ho); clear HO_4 HO209; clear ho hb hg hat))
   go_roundg k1
   case measure => have := HK1.out; omega
   case rel => exact ⟨(y214), (t210), sr_, H', ⟨by have := HK1.out; omega⟩, ⟨sF_ (Kd.S_mono HO216.out (fun _ hk => trivial))⟩, ⟨hs_ GE211.out⟩⟩
attribute [local go_sem high] eqA89
/-! ### spec_l2SameMarks: function 64 -/
def spec_l2SameMarks.l0 : Nat → List (S89) → List (S89) → Int → Int → Option (Bool)
 | 0, _, _, _, _ => none
 | k + 1, x0, x1, x12, x13 => if x13 < x12 then (if 0 ≤ x13 then (if x13 < (x0.length : Int) then (if x13 < (x1.length : Int) then (if (!(((rd_T89 x0 x13).f0) == ((rd_T89 x1 x13).f0)) || (!(((rd_T89 x0 x13).f1) == ((rd_T89 x1 x13).f1)))) = true then (some false) else (spec_l2SameMarks.l0 k x0 x1 x12 (wrap64 (x13 + 1)))) else (none)) else (none)) else (none)) else (some true)
def spec_l2SameMarks.f (k : Nat) (l0 : List (S89)) (l1 : List (S89)) : Option (Bool) := if (l0.length : Int) = (l1.length : Int) then (spec_l2SameMarks.l0 k l0 l1 (l0.length : Int) 0) else (some false)
theorem spec_l2SameMarks.mono_l : ∀ k, (∀ y0 y1 y2 y3, LeO (spec_l2SameMarks.l0 k y0 y1 y2 y3) (spec_l2SameMarks.l0 (k + 1) y0 y1 y2 y3))
 | 0 => fun _ _ _ _ r h => by simp [spec_l2SameMarks.l0] at h
 | k + 1 => by
  have ih0 := spec_l2SameMarks.mono_l k
  ·intro y0 y1 y2 y3
   unfold spec_l2SameMarks.l0
   repeat' first
   | (with_reducible first | apply ih0 | exact LeO.refl _ | exact LeO.none _ | refine LeO.ite ?_ ?_ | refine LeO.bind ?_ (fun _ => ?_))
theorem spec_l2SameMarks.mono : ∀ a0 a1 k, LeO (spec_l2SameMarks.f k a0 a1) (spec_l2SameMarks.f (k + 1) a0 a1) := by
 intro a0 a1 k
 have ih0 := spec_l2SameMarks.mono_l k
 unfold spec_l2SameMarks.f
 repeat' first
   | (with_reducible first | apply ih0 | exact LeO.refl _ | exact LeO.none _ | refine LeO.ite ?_ ?_ | refine LeO.bind ?_ (fun _ => ?_))
set_option maxHeartbeats 8000000 in
set_option maxRecDepth 100000 in
theorem spec_l2SameMarks.calls (k : Nat) (A0 : Option Addr) (c0 : Nat) (l0 : List (S89)) (A1 : Option Addr) (c1 : Nat) (l1 : List (S89)) (r : Bool) (w : World) (hr0 : Kd.C k89 w A0 l0.length l0) (hc0 : l0.length ≤ c0) (hr1 : Kd.C k89 w A1 l1.length l1) (hc1 : l1.length ≤ c1) (h : spec_l2SameMarks.f k l0 l1 = some r) :
  Calls Try.prog 64 #[.slice A0 l0.length c0, .slice A1 l1.length c1] w fun e w' => e = .returned (.bool r) ∧ Drawn0 w w' := by
 have hu89 := Try.underlying89
 have HR0 := Aside0.mk hr0
 have HC0 := Aside0.mk hc0
 clear hr0 hc0
 have HR1 := Aside0.mk hr1
 have HC1 := Aside0.mk hc1
 clear hr1 hc1
 have H : (if (l0.length : Int) = (l1.length : Int) then (spec_l2SameMarks.l0 k l0 l1 (l0.length : Int) 0) else (some false)) = some r := h
 clear h
 replace H := ite_ H
 obtain ⟨c3, H⟩ | ⟨c3, H⟩ := H
 rotate_left
 ·have c3b0 : ((l0.length : Int) == (l1.length : Int)) = false := beq_eq_false_iff_ne.mpr c3
  have c3b1 : ((l0.length : Int) != (l1.length : Int)) = true := bne_iff_ne.mpr c3
  have c3b2 : (l0.length == l1.length) = false := by first | simpa using c3 | (simp at c3 ⊢; omega)
  obtain rfl := Option.some.inj H
  go_enter Try.func64, Try.ntmps64
  go_wp2
  repeat (go_quiet (fail); try go_wp2)
  go_ret
  exact ⟨by first | rfl | (simp; done) | (simp [*]; done), dr_⟩
 have c3b0 : ((l0.length : Int) == (l1.length : Int)) = true := beq_iff_eq.mpr c3
 have c3b1 : ((l0.length : Int) != (l1.length : Int)) = false := bne_eq_false_iff_eq.mpr c3
 have c3b2 : (l0.length == l1.length) = true := by first | simpa using c3 | (simp at c3 ⊢; omega)
 clear c3
 have H' := Aside0.mk H
 clear H
 go_enter Try.func64, Try.ntmps64
 go_wp2
 repeat (go_quiet (fail); try go_wp2)
 go_loopg [13] k (fun kq v13 w' => ∃ (x13_1 : Int), v13 = .int .i64 x13_1 ∧ Aside0 (spec_l2SameMarks.l0 kq l0 l1 (l0.length : Int) x13_1 = some r) ∧ Aside0 (kq ≤ k) ∧ Drawn0 w w')
 case atStart => exact ⟨(0), sr_, H', ⟨Nat.le_refl _⟩, dr_⟩
 case round =>
  clear H'
  try clear c1
  try clear c3
  try clear c3b0
  try clear c3b1
  try clear c3b2
  obtain ⟨x13_1, rfl, HA, HK1, ⟨m1, rfl⟩⟩ := hrel
  cases gk with
  | zero => exact absurd HA.out (by simp [spec_l2SameMarks.l0])
  | succ k1 =>
   have H := HA.out
   clear HA
   simp only [spec_l2SameMarks.l0] at H
   replace H := ite_ H
   obtain ⟨c4, H⟩ | ⟨c4, H⟩ := H
   rotate_left
   ·have c4b0 := decide_eq_false c4
    clear c4
    obtain rfl := Option.some.inj H
    go_wp2
    repeat (go_quiet (fail); try go_wp2)
    go_ret
    exact ⟨by first | rfl | (simp; done) | (simp [*]; done), dr_⟩
   have c4b0 := decide_eq_true c4
   clear c4
   replace H := ifs_ H
   obtain ⟨c5, H⟩ := H
   have c5b0 := decide_eq_true c5
   clear c5
   replace H := ifs_ H
   obtain ⟨c6, H⟩ := H
   have c6b0 := decide_eq_true c6
   clear c6
   replace H := ifs_ H
   obtain ⟨c7, H⟩ := H
   have c7b0 := decide_eq_true c7
   clear c7
   replace H := ite_ H
   obtain ⟨c8, H⟩ | ⟨c8, H⟩ := H
   ·have c8b0 : (!(((rd_T89 l0 x13_1).f0) == ((rd_T89 l1 x13_1).f0)) || (!(((rd_T89 l0 x13_1).f1) == ((rd_T89 l1 x13_1).f1)))) = true := c8
    clear c8
    obtain rfl := Option.some.inj H
    have p220 : 0 ≤ (x13_1 : Int) := oa_
    have q220 : x13_1 < (l0.length : Int) := oa_
    obtain ⟨ad220, e220, hx220_0, hx220_1⟩ := at_T89 HR0.out x13_1 p220 q220
    cases e220
    replace p220 := eq_true p220
    replace q220 := eq_true q220
    have p221 : 0 ≤ (x13_1 : Int) := oa_
    have q221 : x13_1 < (l1.length : Int) := oa_
    obtain ⟨ad221, e221, hx221_0, hx221_1⟩ := at_T89 HR1.out x13_1 p221 q221
    cases e221
    replace p221 := eq_true p221
    replace q221 := eq_true q221
    go_wp2
    repeat (go_quiet (fail); try go_wp2)
    go_ret
    exact ⟨by first | rfl | (simp; done) | (simp [*]; done), dr_⟩
   have c8b0 : (!(((rd_T89 l0 x13_1).f0) == ((rd_T89 l1 x13_1).f0)) || (!(((rd_T89 l0 x13_1).f1) == ((rd_T89 l1 x13_1).f1)))) = false := by simpa using c8
   clear c8
   have H' := Aside0.mk H
   clear H
   have p220 : 0 ≤ (x13_1 : Int) := oa_
   have q220 : x13_1 < (l0.length : Int) := oa_
   obtain ⟨ad220, e220, hx220_0, hx220_1⟩ := at_T89 HR0.out x13_1 p220 q220
   cases e220
   replace p220 := eq_true p220
   replace q220 := eq_true q220
   have p221 : 0 ≤ (x13_1 : Int) := oa_
   have q221 : x13_1 < (l1.length : Int) := oa_
   obtain ⟨ad221, e221, hx221_0, hx221_1⟩ := at_T89 HR1.out x13_1 p221 q221
   cases e221
   replace p221 := eq_true p221
   replace q221 := eq_true q221
   go_wp2
   repeat (go_quiet (fail); try go_wp2)
   go_roundg k1
   case measure => have := HK1.out; omega
   case rel => exact ⟨(wrap64 (x13_1 + 1)), sr_, H', ⟨by have := HK1.out; omega⟩, dr_⟩

/-! ### spec_l2Index: function 65 -/
def spec_l2Index.l0 : Nat → List (S89) → Int → List (S43) → Int → Int → Option ((List (S89)))
 | 0, _, _, _, _, _ => none
 | k + 1, x3, x4, x7, x8, x9 => if x9 < x8 then (if 0 ≤ x9 then (if x9 < (x7.length : Int) then (if x9 = 0 then (if x3.length < 8796093022208 then ((spec_l1Batch.f k ((rd_T43 x7 x9).f0) ((rd_T43 x7 x9).f1) ((rd_T43 x7 x9).f2) ((rd_T43 x7 x9).f3) ((rd_T43 x7 x9).f4)).bind fun t227 => (spec_l2Index.l0 k (x3 ++ [(⟨(rd_T43 x7 x9).f0, x4⟩ : S89)]) (wrap64 (x4 + (t227.size : Int))) x7 x8 (wrap64 (x9 + 1)))) else (none)) else (if 0 ≤ (wrap64 ((x3.length : Int) - 1)) then (if (wrap64 ((x3.length : Int) - 1)) < (x3.length : Int) then (if (wrap64 (x4 - ((rd_T89 x3 (wrap64 ((x3.length : Int) - 1))).f1))) ≥ 40 then (if x3.length < 8796093022208 then ((spec_l1Batch.f k ((rd_T43 x7 x9).f0) ((rd_T43 x7 x9).f1) ((rd_T43 x7 x9).f2) ((rd_T43 x7 x9).f3) ((rd_T43 x7 x9).f4)).bind fun t232 => (spec_l2Index.l0 k (x3 ++ [(⟨(rd_T43 x7 x9).f0, x4⟩ : S89)]) (wrap64 (x4 + (t232.size : Int))) x7 x8 (wrap64 (x9 + 1)))) else (none)) else ((spec_l1Batch.f k ((rd_T43 x7 x9).f0) ((rd_T43 x7 x9).f1) ((rd_T43 x7 x9).f2) ((rd_T43 x7 x9).f3) ((rd_T43 x7 x9).f4)).bind fun t233 => (spec_l2Index.l0 k x3 (wrap64 (x4 + (t233.size : Int))) x7 x8 (wrap64 (x9 + 1))))) else (none)) else (none))) else (none)) else (none)) else (some x3)
def spec_l2Index.f (k : Nat) (l0 : List (S43)) : Option ((List (S89))) := spec_l2Index.l0 k ([] : List (S89)) 0 l0 (l0.length : Int) 0
theorem spec_l2Index.mono_l : ∀ k, (∀ y0 y1 y2 y3 y4, LeO (spec_l2Index.l0 k y0 y1 y2 y3 y4) (spec_l2Index.l0 (k + 1) y0 y1 y2 y3 y4))
 | 0 => fun _ _ _ _ _ r h => by simp [spec_l2Index.l0] at h
 | k + 1 => by
  have ih0 := spec_l2Index.mono_l k
  ·intro y0 y1 y2 y3 y4
   unfold spec_l2Index.l0
   repeat' first
   | (with_reducible first | apply ih0 | apply spec_l1Batch.mono | exact LeO.refl _ | exact LeO.none _ | refine LeO.ite ?_ ?_ | refine LeO.bind ?_ (fun _ => ?_))
theorem spec_l2Index.mono : ∀ a0 k, LeO (spec_l2Index.f k a0) (spec_l2Index.f (k + 1) a0) := by
 intro a0 k
 have ih0 := spec_l2Index.mono_l k
 unfold spec_l2Index.f
 repeat' first
   | (with_reducible first | apply ih0 | apply spec_l1Batch.mono | exact LeO.refl _ | exact LeO.none _ | refine LeO.ite ?_ ?_ | refine LeO.bind ?_ (fun _ => ?_))
set_option maxHeartbeats 8000000 in
set_option maxRecDepth 100000 in
theorem spec_l2Index.calls (k : Nat) (A0 : Option Addr) (c0 : Nat) (l0 : List (S43)) (r : List (S89)) (w : World) (hr0 : Kd.C k43 w A0 l0.length l0) (hc0 : l0.length ≤ c0) (h : spec_l2Index.f k l0 = some r) :
  Calls Try.prog 65 #[.slice A0 l0.length c0] w fun e w' => ∃ v0_ : Value, e = .returned (v0_) ∧ Kd.R k89 89 w' w.heap.size (fun _ => True) v0_ r ∧ Below w.heap.size w w' := by
 have hu43 := Try.underlying43
 have hu89 := Try.underlying89
 have HR0 := Aside0.mk hr0
 have HC0 := Aside0.mk hc0
 clear hr0 hc0
 have HB := Aside0.mk (Below.refl w.heap.size w)
 have H : (spec_l2Index.l0 k ([] : List (S89)) 0 l0 (l0.length : Int) 0) = some r := h
 clear h
 have H' := Aside0.mk H
 clear H
 go_enter Try.func65, Try.ntmps65
 go_wp2
 go_loopg [3, 4, 9] k (fun kq v3 v4 v9 w' => ∃ (x3_1 : List (S89)) (x4_1 : Int) (x9_1 : Int), v4 = .int .i64 x4_1 ∧ v9 = .int .i64 x9_1 ∧ Aside0 (spec_l2Index.l0 kq x3_1 x4_1 l0 (l0.length : Int) x9_1 = some r) ∧ Aside0 (kq ≤ k) ∧ Aside0 (Kd.R k89 89 w' w.heap.size (fun _ => True) v3 x3_1) ∧ Aside0 (Below w.heap.size w w'))
 case atStart => exact ⟨(([] : List (S89))), (0), (0), sr_, sr_, H', ⟨Nat.le_refl _⟩, ⟨ni_⟩, ⟨hb_⟩⟩
 case round =>
  clear H'
  obtain ⟨x3_1, x4_1, x9_1, rfl, rfl, HA, HK1, HO_3, HB⟩ := hrel
  cases gk with
  | zero => exact absurd HA.out (by simp [spec_l2Index.l0])
  | succ k1 =>
   have H := HA.out
   clear HA
   simp only [spec_l2Index.l0] at H
   replace H := ite_ H
   obtain ⟨c2, H⟩ | ⟨c2, H⟩ := H
   rotate_left
   ·have c2b0 := decide_eq_false c2
    clear c2
    obtain rfl := Option.some.inj H
    go_wp2
    go_ret
    exact ⟨_, er_, kr_ HO_3.out, hb_⟩
   have c2b0 := decide_eq_true c2
   clear c2
   replace H := ifs_ H
   obtain ⟨c3, H⟩ := H
   have c3b0 := decide_eq_true c3
   clear c3
   replace H := ifs_ H
   obtain ⟨c4, H⟩ := H
   have c4b0 := decide_eq_true c4
   clear c4
   replace H := ite_ H
   obtain ⟨c5, H⟩ | ⟨c5, H⟩ := H
   ·have c5b0 : (x9_1 == 0) = true := beq_iff_eq.mpr c5
    have c5b1 : (x9_1 != 0) = false := bne_eq_false_iff_eq.mpr c5
    clear c5
    replace H := ifs_ H
    obtain ⟨c6, H⟩ := H
    have LMc6 := Aside0.mk c6
    clear c6
    obtain ⟨y224, hy224⟩ : ∃ y_ : List (S89), y_ = (x3_1 ++ [(⟨(rd_T43 l0 x9_1).f0, x4_1⟩ : S89)]) := ⟨_, rfl⟩
    replace H : ((spec_l1Batch.f k1 ((rd_T43 l0 x9_1).f0) ((rd_T43 l0 x9_1).f1) ((rd_T43 l0 x9_1).f2) ((rd_T43 l0 x9_1).f3) ((rd_T43 l0 x9_1).f4)).bind fun t227 => (spec_l2Index.l0 k1 y224 (wrap64 (x4_1 + (t227.size : Int))) l0 (l0.length : Int) (wrap64 (x9_1 + 1)))) = some r := by first | (rw [hy224]; with_reducible exact H) | (have H2_ := (Option.bind_some _ _).symm.trans H; rw [hy224]; with_reducible exact H2_) | (have H2_ := (Option.bind_some _ _).symm.trans H; with_reducible exact H2_) | with_reducible exact H | (rw [hy224]; exact H) | exact H
    have Ny224 := Aside0.mk hy224
    clear hy224
    replace H := bnd_ H
    obtain ⟨t227, A7, H⟩ := H
    have H' := Aside0.mk H
    clear H
    have p222 : 0 ≤ (x9_1 : Int) := oa_
    have q222 : x9_1 < (l0.length : Int) := oa_
    obtain ⟨ad222, A222_4, c222_4, e222, hx222_0, hx222_1, hx222_2, hx222_3, hx222_4, hl222_4, hi222_4⟩ := at_T43 HR0.out x9_1 p222 q222
    cases e222
    replace hx222_0 := pc_ HB.out hx222_0
    replace hx222_1 := pc_ HB.out hx222_1
    replace hx222_2 := pc_ HB.out hx222_2
    replace hx222_3 := pc_ HB.out hx222_3
    replace hx222_4 := pc_ HB.out hx222_4
    have HR222_4 := Aside0.mk hi222_4
    have HC222_4 := Aside0.mk hl222_4
    clear hi222_4 hl222_4
    replace p222 := eq_true p222
    replace q222 := eq_true q222
    go_wp2_with (first | ((with_reducible refine gate_dst (N := 6) rfl ?_); (try (refine gate_guard (by rfl) ?_; dsimp only)); refine bq_ (N := 6) #[.int .i64 0, .int .i64 0, .int .i64 0, .int .i64 0, .slice none 0 0] 43 ?_; intro gb223 hg w8 BK223 hb; replace HO_3 := rB_ HO_3 hb; have GE223 := ge_ hg; replace HB := nb_ hb; clear hb hg; obtain ⟨hcz9_0, hcz9_1, hcz9_2, hcz9_3, hcz9_4, hfz9_0, hfz9_1, hfz9_2, hfz9_3, hfz9_4⟩ := cf5_ BK223.out) | ((with_reducible refine gate_builtin (b := .append) (xs := #[.tmp 28, .tmp 33]) rfl ?_); (try (refine gate_guard (by rfl) ?_; dsimp only)); at_builtin; refine Kd.R_append k89 (w0 := w) w.heap.size rfl (.tmp 28) (.tmp 33) 63 89 (.agg #[(.int .i64 0), (.int .i64 0)]) 16 rfl Try.underlying63 info89 rfl (by decide) (by omega) u3 x3_1 (⟨(rd_T43 l0 x9_1).f0, x4_1⟩ : S89) [.int .i64 ((rd_T43 l0 x9_1).f0), .int .i64 x4_1] (fun _ => True) (fun _ => False) rfl (by first | (go_simp; done) | (go_simp; rfl)) ?aP (fun _ hk => hk.elim) ?aF ?aO ?aB ?aS ?aL ?_; (case aP => exact k89_mkM _ _ _ (⟨(rd_T43 l0 x9_1).f0, x4_1⟩ : S89)); (case aB => exact (hs_ GE223.out)); (case aF => exact (fun _ _ => trivial)); (case aO => exact (Kd.R_mono (rF_ (Kd.R_types HO_3.out BK223.out (by decide))) (fun _ hk => trivial))); (case aS => exact (below_size (hs_ GE223.out))); (case aL => have := LMc6.out; omega); intro v225 w10 ho hb hg hat; rw [← Ny224.out] at ho; replace BK223 := Aside0.mk (blk_grown (g := gb223) (o := .cells #[.int .i64 ((rd_T43 l0 x9_1).f0), .int .i64 ((rd_T43 l0 x9_1).f1), .int .i64 ((rd_T43 l0 x9_1).f2), .int .i64 ((rd_T43 l0 x9_1).f3), .slice A222_4 ((rd_T43 l0 x9_1).f4).length c222_4] 43 (0, 0)) (up_ BK223) hg (Kd.R_ne HO_3.out BK223.out (by decide))); replace HB := Aside0.mk (hb); have HO226 := Aside0.mk (ho); clear HO_3; clear ho hb hg hat; obtain ⟨hcz11_0, hcz11_1, hcz11_2, hcz11_3, hcz11_4, hfz11_0, hfz11_1, hfz11_2, hfz11_3, hfz11_4⟩ := cf5_ BK223.out) | ((with_reducible refine gate_callee (f := 82) rfl ?_); refine gl_ 37 Try.func82 #[.agg #[.int .i64 ((rd_T43 l0 x9_1).f0), .int .i64 ((rd_T43 l0 x9_1).f1), .int .i64 ((rd_T43 l0 x9_1).f2), .int .i64 ((rd_T43 l0 x9_1).f3), .slice A222_4 ((rd_T43 l0 x9_1).f4).length c222_4]] rfl ma_ ?_; (with_reducible refine (spec_l1Batch.calls k1 ((rd_T43 l0 x9_1).f0) ((rd_T43 l0 x9_1).f1) ((rd_T43 l0 x9_1).f2) ((rd_T43 l0 x9_1).f3) _ _ ((rd_T43 l0 x9_1).f4) t227 _ ?side1 ?side2 A7.out).mono ?_); (case side1 => exact cs_ ((Kd.C_below HR222_4.out HB.out))); (case side2 => exact HC222_4.out); rintro e w12 ⟨rfl, hb⟩; refine ⟨_, rfl, ?_⟩; replace HO226 := rB_ HO226 hb; replace BK223 := bK_ BK223 hb; replace HB := nc_ GE223 hb; (try clear hb); (try clear hb2); (try clear hk); (try clear hi)))
    go_roundg k1
    case measure => have := HK1.out; omega
    case rel => exact ⟨(y224), (wrap64 (x4_1 + (t227.size : Int))), (wrap64 (x9_1 + 1)), sr_, sr_, H', ⟨by have := HK1.out; omega⟩, ⟨kr_ HO226.out⟩, ⟨hs_ GE223.out⟩⟩
   have c5b0 : (x9_1 == 0) = false := beq_eq_false_iff_ne.mpr c5
   have c5b1 : (x9_1 != 0) = true := bne_iff_ne.mpr c5
   obtain ⟨ji13, hji13⟩ : ∃ j_ : Int, (wrap64 ((x3_1.length : Int) - 1)) = j_ := ⟨_, rfl⟩
   first | rw [hji13] at H | simp only [hji13] at H
   have hji13w : (IntKind.i64.wrap ((x3_1.length : Int) - 1)) = ji13 := (i64_w _).trans hji13
   replace H := ifs_ H
   obtain ⟨c14, H⟩ := H
   have c14b0 := decide_eq_true c14
   clear c14
   replace H := ifs_ H
   obtain ⟨c15, H⟩ := H
   have c15b0 := decide_eq_true c15
   clear c15
   replace H := ite_ H
   obtain ⟨c16, H⟩ | ⟨c16, H⟩ := H
   rotate_left
   ·have c16b0 := dne_ c16
    clear c16
    replace H := bnd_ H
    obtain ⟨t233, A25, H⟩ := H
    have H' := Aside0.mk H
    clear H
    have p222 : 0 ≤ (x9_1 : Int) := oa_
    have q222 : x9_1 < (l0.length : Int) := oa_
    obtain ⟨ad222, A222_4, c222_4, e222, hx222_0, hx222_1, hx222_2, hx222_3, hx222_4, hl222_4, hi222_4⟩ := at_T43 HR0.out x9_1 p222 q222
    cases e222
    replace hx222_0 := pc_ HB.out hx222_0
    replace hx222_1 := pc_ HB.out hx222_1
    replace hx222_2 := pc_ HB.out hx222_2
    replace hx222_3 := pc_ HB.out hx222_3
    replace hx222_4 := pc_ HB.out hx222_4
    have HR222_4 := Aside0.mk hi222_4
    have HC222_4 := Aside0.mk hl222_4
    clear hi222_4 hl222_4
    replace p222 := eq_true p222
    replace q222 := eq_true q222
    go_wp2_with (first | ((with_reducible refine gate_dst (N := 6) rfl ?_); (try (refine gate_guard (by rfl) ?_; dsimp only)); refine bq_ (N := 6) #[.int .i64 0, .int .i64 0, .int .i64 0, .int .i64 0, .slice none 0 0] 43 ?_; intro gb223 hg w26 BK223 hb; replace HO_3 := rB_ HO_3 hb; have GE223 := ge_ hg; replace HB := nb_ hb; clear hb hg; obtain ⟨hcz27_0, hcz27_1, hcz27_2, hcz27_3, hcz27_4, hfz27_0, hfz27_1, hfz27_2, hfz27_3, hfz27_4⟩ := cf5_ BK223.out; obtain ⟨Ao28, co28, eo28⟩ := Kd.R_slice HO_3.out; subst eo28; have p228 : 0 ≤ ((ji13) : Int) := oa_; have q228 : (ji13) < (x3_1.length : Int) := oa_; obtain ⟨ad228, e228, hx228_0, hx228_1⟩ := at_T89 (Kd.R_reads' HO_3.out).2.2 (ji13) p228 q228; cases e228; have hn228_0 : ad228.block ≠ gb223 := Kd.own_blk (Kd.R_ne HO_3.out BK223.out (by decide)); have hn228_1 : ad228.block ≠ gb223 := Kd.own_blk (Kd.R_ne HO_3.out BK223.out (by decide)); have hn228_2 : ad228.block ≠ gb223 := Kd.own_blk (Kd.R_ne HO_3.out BK223.out (by decide)); have hn228_3 : ad228.block ≠ gb223 := Kd.own_blk (Kd.R_ne HO_3.out BK223.out (by decide)); have hn228_4 : ad228.block ≠ gb223 := Kd.own_blk (Kd.R_ne HO_3.out BK223.out (by decide)); replace hx228_0 := (cell_far (p := ⟨gb223, 0, none⟩) (by first | (rw [add_block]; exact hn228_0) | (show (Addr.add _ _).block ≠ _; rw [add_block]; exact hn228_0) | exact hn228_0) (.int .i64 ((rd_T43 l0 x9_1).f0))).trans hx228_0; replace hx228_1 := (cell_far (p := ⟨gb223, 0, none⟩) (by first | (rw [add_block]; exact hn228_0) | (show (Addr.add _ _).block ≠ _; rw [add_block]; exact hn228_0) | exact hn228_0) (.int .i64 ((rd_T43 l0 x9_1).f0))).trans hx228_1; replace hx228_0 := (cell_far (p := ⟨gb223, 1, none⟩) (by first | (rw [add_block]; exact hn228_1) | (show (Addr.add _ _).block ≠ _; rw [add_block]; exact hn228_1) | exact hn228_1) (.int .i64 ((rd_T43 l0 x9_1).f1))).trans hx228_0; replace hx228_1 := (cell_far (p := ⟨gb223, 1, none⟩) (by first | (rw [add_block]; exact hn228_1) | (show (Addr.add _ _).block ≠ _; rw [add_block]; exact hn228_1) | exact hn228_1) (.int .i64 ((rd_T43 l0 x9_1).f1))).trans hx228_1; replace hx228_0 := (cell_far (p := ⟨gb223, 2, none⟩) (by first | (rw [add_block]; exact hn228_2) | (show (Addr.add _ _).block ≠ _; rw [add_block]; exact hn228_2) | exact hn228_2) (.int .i64 ((rd_T43 l0 x9_1).f2))).trans hx228_0; replace hx228_1 := (cell_far (p := ⟨gb223, 2, none⟩) (by first | (rw [add_block]; exact hn228_2) | (show (Addr.add _ _).block ≠ _; rw [add_block]; exact hn228_2) | exact hn228_2) (.int .i64 ((rd_T43 l0 x9_1).f2))).trans hx228_1; replace hx228_0 := (cell_far (p := ⟨gb223, 3, none⟩) (by first | (rw [add_block]; exact hn228_3) | (show (Addr.add _ _).block ≠ _; rw [add_block]; exact hn228_3) | exact hn228_3) (.int .i64 ((rd_T43 l0 x9_1).f3))).trans hx228_0; replace hx228_1 := (cell_far (p := ⟨gb223, 3, none⟩) (by first | (rw [add_block]; exact hn228_3) | (show (Addr.add _ _).block ≠ _; rw [add_block]; exact hn228_3) | exact hn228_3) (.int .i64 ((rd_T43 l0 x9_1).f3))).trans hx228_1; replace hx228_0 := (cell_far (p := ⟨gb223, 4, none⟩) (by first | (rw [add_block]; exact hn228_4) | (show (Addr.add _ _).block ≠ _; rw [add_block]; exact hn228_4) | exact hn228_4) (.slice A222_4 ((rd_T43 l0 x9_1).f4).length c222_4)).trans hx228_0; replace hx228_1 := (cell_far (p := ⟨gb223, 4, none⟩) (by first | (rw [add_block]; exact hn228_4) | (show (Addr.add _ _).block ≠ _; rw [add_block]; exact hn228_4) | exact hn228_4) (.slice A222_4 ((rd_T43 l0 x9_1).f4).length c222_4)).trans hx228_1; clear hn228_0; clear hn228_1; clear hn228_2; clear hn228_3; clear hn228_4; replace p228 := eq_true p228; replace q228 := eq_true q228) | ((with_reducible refine gate_callee (f := 82) rfl ?_); refine gl_ 37 Try.func82 #[.agg #[.int .i64 ((rd_T43 l0 x9_1).f0), .int .i64 ((rd_T43 l0 x9_1).f1), .int .i64 ((rd_T43 l0 x9_1).f2), .int .i64 ((rd_T43 l0 x9_1).f3), .slice A222_4 ((rd_T43 l0 x9_1).f4).length c222_4]] rfl ma_ ?_; (with_reducible refine (spec_l1Batch.calls k1 ((rd_T43 l0 x9_1).f0) ((rd_T43 l0 x9_1).f1) ((rd_T43 l0 x9_1).f2) ((rd_T43 l0 x9_1).f3) _ _ ((rd_T43 l0 x9_1).f4) t233 _ ?side1 ?side2 A25.out).mono ?_); (case side1 => exact Kd.C_below HR222_4.out (hs_ GE223.out)); (case side2 => exact HC222_4.out); rintro e w29 ⟨rfl, hb⟩; refine ⟨_, rfl, ?_⟩; replace HO_3 := Aside0.mk (Kd.R_below ((Kd.R_mono (rF_ (Kd.R_types HO_3.out BK223.out (by decide))) (fun _ h_ => h_.1))) hb); replace BK223 := Aside0.mk (blk_below (g := gb223) (o := .cells #[.int .i64 ((rd_T43 l0 x9_1).f0), .int .i64 ((rd_T43 l0 x9_1).f1), .int .i64 ((rd_T43 l0 x9_1).f2), .int .i64 ((rd_T43 l0 x9_1).f3), .slice A222_4 ((rd_T43 l0 x9_1).f4).length c222_4] 43 (0, 0)) (up_ BK223) hb); replace HB := nc_ GE223 hb; (try clear hb); (try clear hb2); (try clear hk); (try clear hi)))
    go_roundg k1
    case measure => have := HK1.out; omega
    case rel => exact ⟨(x3_1), (wrap64 (x4_1 + (t233.size : Int))), (wrap64 (x9_1 + 1)), sr_, sr_, H', ⟨by have := HK1.out; omega⟩, ⟨kr_ HO_3.out⟩, ⟨hs_ GE223.out⟩⟩
   have c16b0 := dge_ c16
   clear c16
   replace H := ifs_ H
   obtain ⟨c17, H⟩ := H
   have LMc17 := Aside0.mk c17
   clear c17
   obtain ⟨y229, hy229⟩ : ∃ y_ : List (S89), y_ = (x3_1 ++ [(⟨(rd_T43 l0 x9_1).f0, x4_1⟩ : S89)]) := ⟨_, rfl⟩
   replace H : ((spec_l1Batch.f k1 ((rd_T43 l0 x9_1).f0) ((rd_T43 l0 x9_1).f1) ((rd_T43 l0 x9_1).f2) ((rd_T43 l0 x9_1).f3) ((rd_T43 l0 x9_1).f4)).bind fun t232 => (spec_l2Index.l0 k1 y229 (wrap64 (x4_1 + (t232.size : Int))) l0 (l0.length : Int) (wrap64 (x9_1 + 1)))) = some r := by first | (rw [hy229]; with_reducible exact H) | (have H2_ := (Option.bind_some _ _).symm.trans H; rw [hy229]; with_reducible exact H2_) | (have H2_ := (Option.bind_some _ _).symm.trans H; with_reducible exact H2_) | with_reducible exact H | (rw [hy229]; exact H) | exact H
   have Ny229 := Aside0.mk hy229
   clear hy229
   replace H := bnd_ H
   obtain ⟨t232, A18, H⟩ := H
   have H' := Aside0.mk H
   clear H
   have p222 : 0 ≤ (x9_1 : Int) := oa_
   have q222 : x9_1 < (l0.length : Int) := oa_
   obtain ⟨ad222, A222_4, c222_4, e222, hx222_0, hx222_1, hx222_2, hx222_3, hx222_4, hl222_4, hi222_4⟩ := at_T43 HR0.out x9_1 p222 q222
   cases e222
   replace hx222_0 := pc_ HB.out hx222_0
   replace hx222_1 := pc_ HB.out hx222_1
   replace hx222_2 := pc_ HB.out hx222_2
   replace hx222_3 := pc_ HB.out hx222_3
   replace hx222_4 := pc_ HB.out hx222_4
   have HR222_4 := Aside0.mk hi222_4
   have HC222_4 := Aside0.mk hl222_4
   clear hi222_4 hl222_4
   replace p222 := eq_true p222
   replace q222 := eq_true q222
   go_wp2_with (first | ((with_reducible refine gate_dst (N := 6) rfl ?_); (try (refine gate_guard (by rfl) ?_; dsimp only)); refine bq_ (N := 6) #[.int .i64 0, .int .i64 0, .int .i64 0, .int .i64 0, .slice none 0 0] 43 ?_; intro gb223 hg w19 BK223 hb; replace HO_3 := rB_ HO_3 hb; have GE223 := ge_ hg; replace HB := nb_ hb; clear hb hg; obtain ⟨hcz20_0, hcz20_1, hcz20_2, hcz20_3, hcz20_4, hfz20_0, hfz20_1, hfz20_2, hfz20_3, hfz20_4⟩ := cf5_ BK223.out; obtain ⟨Ao21, co21, eo21⟩ := Kd.R_slice HO_3.out; subst eo21; have p228 : 0 ≤ ((ji13) : Int) := oa_; have q228 : (ji13) < (x3_1.length : Int) := oa_; obtain ⟨ad228, e228, hx228_0, hx228_1⟩ := at_T89 (Kd.R_reads' HO_3.out).2.2 (ji13) p228 q228; cases e228; have hn228_0 : ad228.block ≠ gb223 := Kd.own_blk (Kd.R_ne HO_3.out BK223.out (by decide)); have hn228_1 : ad228.block ≠ gb223 := Kd.own_blk (Kd.R_ne HO_3.out BK223.out (by decide)); have hn228_2 : ad228.block ≠ gb223 := Kd.own_blk (Kd.R_ne HO_3.out BK223.out (by decide)); have hn228_3 : ad228.block ≠ gb223 := Kd.own_blk (Kd.R_ne HO_3.out BK223.out (by decide)); have hn228_4 : ad228.block ≠ gb223 := Kd.own_blk (Kd.R_ne HO_3.out BK223.out (by decide)); replace hx228_0 := (cell_far (p := ⟨gb223, 0, none⟩) (by first | (rw [add_block]; exact hn228_0) | (show (Addr.add _ _).block ≠ _; rw [add_block]; exact hn228_0) | exact hn228_0) (.int .i64 ((rd_T43 l0 x9_1).f0))).trans hx228_0; replace hx228_1 := (cell_far (p := ⟨gb223, 0, none⟩) (by first | (rw [add_block]; exact hn228_0) | (show (Addr.add _ _).block ≠ _; rw [add_block]; exact hn228_0) | exact hn228_0) (.int .i64 ((rd_T43 l0 x9_1).f0))).trans hx228_1; replace hx228_0 := (cell_far (p := ⟨gb223, 1, none⟩) (by first | (rw [add_block]; exact hn228_1) | (show (Addr.add _ _).block ≠ _; rw [add_block]; exact hn228_1) | exact hn228_1) (.int .i64 ((rd_T43 l0 x9_1).f1))).trans hx228_0; replace hx228_1 := (cell_far (p := ⟨gb223, 1, none⟩) (by first | (rw [add_block]; exact hn228_1) | (show (Addr.add _ _).block ≠ _; rw [add_block]; exact hn228_1) | exact hn228_1) (.int .i64 ((rd_T43 l0 x9_1).f1))).trans hx228_1; replace hx228_0 := (cell_far (p := ⟨gb223, 2, none⟩) (by first | (rw [add_block]; exact hn228_2) | (show (Addr.add _ _).block ≠ _; rw [add_block]; exact hn228_2) | exact hn228_2) (.int .i64 ((rd_T43 l0 x9_1).f2))).trans hx228_0; replace hx228_1 := (cell_far (p := ⟨gb223, 2, none⟩) (by first | (rw [add_block]; exact hn228_2) | (show (Addr.add _ _).block ≠ _; rw [add_block]; exact hn228_2) | exact hn228_2) (.int .i64 ((rd_T43 l0 x9_1).f2))).trans hx228_1; replace hx228_0 := (cell_far (p := ⟨gb223, 3, none⟩) (by first | (rw [add_block]; exact hn228_3) | (show (Addr.add _ _).block ≠ _; rw [add_block]; exact hn228_3) | exact hn228_3) (.int .i64 ((rd_T43 l0 x9_1).f3))).trans hx228_0; replace hx228_1 := (cell_far (p := ⟨gb223, 3, none⟩) (by first | (rw [add_block]; exact hn228_3) | (show (Addr.add _ _).block ≠ _; rw [add_block]; exact hn228_3) | exact hn228_3) (.int .i64 ((rd_T43 l0 x9_1).f3))).trans hx228_1; replace hx228_0 := (cell_far (p := ⟨gb223, 4, none⟩) (by first | (rw [add_block]; exact hn228_4) | (show (Addr.add _ _).block ≠ _; rw [add_block]; exact hn228_4) | exact hn228_4) (.slice A222_4 ((rd_T43 l0 x9_1).f4).length c222_4)).trans hx228_0; replace hx228_1 := (cell_far (p := ⟨gb223, 4, none⟩) (by first | (rw [add_block]; exact hn228_4) | (show (Addr.add _ _).block ≠ _; rw [add_block]; exact hn228_4) | exact hn228_4) (.slice A222_4 ((rd_T43 l0 x9_1).f4).length c222_4)).trans hx228_1; clear hn228_0; clear hn228_1; clear hn228_2; clear hn228_3; clear hn228_4; replace p228 := eq_true p228; replace q228 := eq_true q228) | ((with_reducible refine gate_builtin (b := .append) (xs := #[.tmp 28, .tmp 33]) rfl ?_); (try (refine gate_guard (by rfl) ?_; dsimp only)); at_builtin; refine Kd.R_append k89 (w0 := w) w.heap.size rfl (.tmp 28) (.tmp 33) 63 89 (.agg #[(.int .i64 0), (.int .i64 0)]) 16 rfl Try.underlying63 info89 rfl (by decide) (by omega) (.slice (some ad228) x3_1.length co21) x3_1 (⟨(rd_T43 l0 x9_1).f0, x4_1⟩ : S89) [.int .i64 ((rd_T43 l0 x9_1).f0), .int .i64 x4_1] (fun _ => True) (fun _ => False) rfl (by first | (go_simp; done) | (go_simp; rfl)) ?aP (fun _ hk => hk.elim) ?aF ?aO ?aB ?aS ?aL ?_; (case aP => exact k89_mkM _ _ _ (⟨(rd_T43 l0 x9_1).f0, x4_1⟩ : S89)); (case aB => exact (hs_ GE223.out)); (case aF => exact (fun _ _ => trivial)); (case aO => exact (Kd.R_mono (rF_ (Kd.R_types HO_3.out BK223.out (by decide))) (fun _ hk => trivial))); (case aS => exact (below_size (hs_ GE223.out))); (case aL => have := LMc17.out; omega); intro v230 w22 ho hb hg hat; rw [← Ny229.out] at ho; replace BK223 := Aside0.mk (blk_grown (g := gb223) (o := .cells #[.int .i64 ((rd_T43 l0 x9_1).f0), .int .i64 ((rd_T43 l0 x9_1).f1), .int .i64 ((rd_T43 l0 x9_1).f2), .int .i64 ((rd_T43 l0 x9_1).f3), .slice A222_4 ((rd_T43 l0 x9_1).f4).length c222_4] 43 (0, 0)) (up_ BK223) hg (Kd.R_ne HO_3.out BK223.out (by decide))); replace HB := Aside0.mk (hb); have HO231 := Aside0.mk (ho); clear HO_3; clear ho hb hg hat; obtain ⟨hcz23_0, hcz23_1, hcz23_2, hcz23_3, hcz23_4, hfz23_0, hfz23_1, hfz23_2, hfz23_3, hfz23_4⟩ := cf5_ BK223.out) | ((with_reducible refine gate_callee (f := 82) rfl ?_); refine gl_ 37 Try.func82 #[.agg #[.int .i64 ((rd_T43 l0 x9_1).f0), .int .i64 ((rd_T43 l0 x9_1).f1), .int .i64 ((rd_T43 l0 x9_1).f2), .int .i64 ((rd_T43 l0 x9_1).f3), .slice A222_4 ((rd_T43 l0 x9_1).f4).length c222_4]] rfl ma_ ?_; (with_reducible refine (spec_l1Batch.calls k1 ((rd_T43 l0 x9_1).f0) ((rd_T43 l0 x9_1).f1) ((rd_T43 l0 x9_1).f2) ((rd_T43 l0 x9_1).f3) _ _ ((rd_T43 l0 x9_1).f4) t232 _ ?side1 ?side2 A18.out).mono ?_); (case side1 => exact cs_ ((Kd.C_below HR222_4.out HB.out))); (case side2 => exact HC222_4.out); rintro e w24 ⟨rfl, hb⟩; refine ⟨_, rfl, ?_⟩; replace HO231 := rB_ HO231 hb; replace BK223 := bK_ BK223 hb; replace HB := nc_ GE223 hb; (try clear hb); (try clear hb2); (try clear hk); (try clear hi)))
   go_roundg k1
   case measure => have := HK1.out; omega
   case rel => exact ⟨(y229), (wrap64 (x4_1 + (t232.size : Int))), (wrap64 (x9_1 + 1)), sr_, sr_, H', ⟨by have := HK1.out; omega⟩, ⟨kr_ HO231.out⟩, ⟨hs_ GE223.out⟩⟩
end Go.Proofs.Ytffpeklekkpbjaa.QFnExactTruncateTo
