/- Functions that one statement reaches: of each a plain function, and the proof that calls come to it. Conditions: those that each contract names. Written by a program of this repository. -/
import Derived.Test.YtpdpipfkllfhmaaVFnTorna
import Derived.Test.YtpdpipfkllfhmaaQFnTornx2
import Derived.Test.YtpdpipfkllfhmaaQFnTornx4
namespace Go.Proofs.Ytpdpipfkllfhmaa.QFnTorn
open Go.RowKit Go.Proofs.YtpdpipfkllfhmaaW.PrintWords Go.Proofs.YtpdpipfkllfhmaaW.PrintLast Go.Proofs.YtpdpipfkllfhmaaW.PrintMore
attribute [local go_sem] max2_int min2_int max_two min_two max_three min_three max_four min_four Go.Proofs.YtpdpipfkllfhmaaW.PrintMore2.isSome_setCell   -- for this text's walks alone
set_option linter.unusedVariables false
set_option linter.unusedSimpArgs false

/-! ### spec_l1Read: function 50 -/
def spec_l1Read.l0 : Nat → ByteArray → List (S44) → Int → Option ((List (S44)) × Int)
 | 0, _, _, _ => none
 | k + 1, x0, x4, x5 => if x5 < (x0.size : Int) then ((spec_l1Take.f k x0 x5).bind fun bt143 => (if bt143.2.2.2.2.2 = 0 then (some (x4, x5)) else (if (x4.length : Int) > 0 then (if 0 ≤ (wrap64 ((x4.length : Int) - 1)) then (if (wrap64 ((x4.length : Int) - 1)) < (x4.length : Int) then ((spec_l1Next.f ((rd_T44 x4 (wrap64 ((x4.length : Int) - 1))).f0) ((rd_T44 x4 (wrap64 ((x4.length : Int) - 1))).f1) ((rd_T44 x4 (wrap64 ((x4.length : Int) - 1))).f2) ((rd_T44 x4 (wrap64 ((x4.length : Int) - 1))).f3) ((rd_T44 x4 (wrap64 ((x4.length : Int) - 1))).f4) bt143.1 bt143.2.1 bt143.2.2.1 bt143.2.2.2.1 bt143.2.2.2.2.1).bind fun t153 => (if t153 = true then (if x4.length < 2513169434916 then (spec_l1Read.l0 k x0 (x4 ++ [(⟨bt143.1, bt143.2.1, bt143.2.2.1, bt143.2.2.2.1, bt143.2.2.2.2.1⟩ : S44)]) bt143.2.2.2.2.2) else (none)) else (some (x4, x5)))) else (none)) else (none)) else (if x4.length < 2513169434916 then (spec_l1Read.l0 k x0 (x4 ++ [(⟨bt143.1, bt143.2.1, bt143.2.2.1, bt143.2.2.2.1, bt143.2.2.2.2.1⟩ : S44)]) bt143.2.2.2.2.2) else (none))))) else (some (x4, x5))
def spec_l1Read.f (k : Nat) (a0 : ByteArray) : Option ((List (S44)) × Int) := spec_l1Read.l0 k a0 ([] : List (S44)) 0
theorem spec_l1Read.mono_l : ∀ k, (∀ y0 y1 y2, LeO (spec_l1Read.l0 k y0 y1 y2) (spec_l1Read.l0 (k + 1) y0 y1 y2))
 | 0 => fun _ _ _ r h => by simp [spec_l1Read.l0] at h
 | k + 1 => by
  have ih0 := spec_l1Read.mono_l k
  ·intro y0 y1 y2
   unfold spec_l1Read.l0
   repeat' first
   | (with_reducible first | apply ih0 | apply spec_l1Take.mono | exact LeO.refl _ | exact LeO.none _ | refine LeO.ite ?_ ?_ | refine LeO.bind ?_ (fun _ => ?_))
theorem spec_l1Read.mono : ∀ a0 k, LeO (spec_l1Read.f k a0) (spec_l1Read.f (k + 1) a0) := by
 intro a0 k
 have ih0 := spec_l1Read.mono_l k
 unfold spec_l1Read.f
 repeat' first
   | (with_reducible first | apply ih0 | apply spec_l1Take.mono | exact LeO.refl _ | exact LeO.none _ | refine LeO.ite ?_ ?_ | refine LeO.bind ?_ (fun _ => ?_))
def spec_l1Read.T5 : Bool × List (List Nat × List Nat) := (true, [([], []), ([0], [0]), ([1], [1]), ([2], [2]), ([3, 2], [2, 3]), ([4, 2], [2, 4]), ([5, 2, 2], [2, 5]), ([6], [6]), ([6], [6]), ([8, 6], [6, 8]), ([9, 6], [6, 9]), ([7, 10, 6], [6, 7, 10]), ([11, 6], [6, 11]), ([6], [6]), ([12, 13, 6, 6], [6, 12, 13]), ([14, 6], [6, 14]), ([6, 15, 2], [2, 6, 15]), ([2, 16], [2, 16])])
def spec_l1Read.B5 : List Nat := [0, 1, 3, 7, 15, 31, 63, 127, 127, 383, 895, 2047, 4095, 127, 16383, 32767, 65535, 131071]
theorem spec_l1Read.tab5 : rtab .any (opsOf Try.f50 5) = spec_l1Read.T5 := by kernel_rfl
theorem spec_l1Read.bits5 : waitsOk spec_l1Read.T5.2 spec_l1Read.B5 = true := by kernel_rfl
set_option maxHeartbeats 8000000 in
set_option maxRecDepth 100000 in
theorem spec_l1Read.calls (k : Nat) (a0 : ByteArray) (r1 : List (S44)) (r2 : Int) (w : World) (h : spec_l1Read.f k a0 = some (r1, r2)) :
  Calls Try.prog 50 #[.string a0] w fun e w' => ∃ v0_ : Value, e = .returned (.tuple #[v0_, .int .i64 r2]) ∧ Kd.S k44 44 w' w.heap.size (fun _ => True) v0_ r1 ∧ Below w.heap.size w w' := by
 have hu44 := Try.underlying44
 have HB := Aside0.mk (Below.refl w.heap.size w)
 have H : (spec_l1Read.l0 k a0 ([] : List (S44)) 0) = some (r1, r2) := h
 clear h
 have H' := Aside0.mk H
 clear H
 go_enter Try.func50, Try.ntmps50
 go_wp2
 go_loopg [4, 5] k (fun kq v4 v5 w' => ∃ (x4_1 : List (S44)) (x5_1 : Int), v5 = .int .i64 x5_1 ∧ Aside0 (spec_l1Read.l0 kq a0 x4_1 x5_1 = some (r1, r2)) ∧ Aside0 (kq ≤ k) ∧ Aside0 (Kd.S k44 44 w' w.heap.size (fun _ => True) v4 x4_1) ∧ Aside0 (Below w.heap.size w w'))
 case atStart => exact ⟨(([] : List (S44))), (0), sr_, H', ⟨Nat.le_refl _⟩, ⟨by first | exact Kd.S_nil _ _ _ _ _ | exact Kd.N_nil _ _ _ _ _ | exact Kd.V_nil _ _ _ _ _ | exact Kd.Q_nil _ _ _ _ _ | exact Kd.R_nil _ _ _ _ _⟩, ⟨hb_⟩⟩
 case round =>
  clear H'
  obtain ⟨x4_1, x5_1, rfl, HA, HK1, HO_4, HB⟩ := hrel
  cases gk with
  | zero => exact absurd HA.out (by simp [spec_l1Read.l0])
  | succ k1 =>
   have H := HA.out
   clear HA
   simp only [spec_l1Read.l0] at H
   replace H := ite_ H
   obtain ⟨c2, H⟩ | ⟨c2, H⟩ := H
   rotate_left
   ·have c2b0 := decide_eq_false c2
    clear c2
    simp only [Option.some.injEq, Prod.mk.injEq] at H
    obtain ⟨rfl, rfl⟩ := H
    go_wp2
    go_ret2
    exact ⟨_, er_, ks_ HO_4.out, hb_⟩
   have c2b0 := decide_eq_true c2
   clear c2
   replace H := bnd_ H
   obtain ⟨⟨t143, t144, t145, t146, t147, t150⟩, A3, H⟩ := H
   replace H := red_ H
   replace H := ite_ H
   obtain ⟨c4, H⟩ | ⟨c4, H⟩ := H
   ·have c4b0 : (t150 == 0) = true := beq_iff_eq.mpr c4
    have c4b1 : (t150 != 0) = false := bne_eq_false_iff_eq.mpr c4
    clear c4
    simp only [Option.some.injEq, Prod.mk.injEq] at H
    obtain ⟨rfl, rfl⟩ := H
    try go_wp2_with (first | ((with_reducible refine gate_callee (f := 81) rfl ?_); refine gl_ 15 Try.func81 #[.string a0, .int .i64 x5_1] rfl ma_ ?_; (with_reducible refine (spec_l1Take.calls k1 a0 x5_1 t143 t144 t145 t146 t147 t150 _ A3.out).mono ?_); rintro e w5 ⟨v148, rfl, ho0, hb⟩; refine ⟨_, rfl, ?_⟩; replace HO_4 := Aside0.mk (Kd.S_elder' (ks_ HO_4.out) (Kd.R_base ho0) hb); have HO149 := Aside0.mk (Kd.R_lower ho0 (below_size (hb_))); replace HB := nb_ hb; (try clear hb); (try clear hb2); (try clear hk); (try clear hi); (try clear ho0)) | ((with_reducible refine gate_dst (N := 6) rfl ?_); (try (refine gate_guard (by rfl) ?_; dsimp only)); refine bq_ (N := 6) #[.int .i64 0, .int .i64 0, .int .i64 0, .int .i64 0, .slice none 0 0] 44 ?_; intro gb151 hg w6 BK151 hb; replace HO_4 := Aside0.mk (Kd.S_below (Kd.S_elderB (ks_ HO_4.out) gb151 (Nat.le_of_eq hg.symm)) hb); replace HO149 := rB_ HO149 hb; have GE151 := ge_ hg; replace HB := nb_ hb; clear hb hg; obtain ⟨hcz7_0, hcz7_1, hcz7_2, hcz7_3, hcz7_4, hfz7_0, hfz7_1, hfz7_2, hfz7_3, hfz7_4⟩ := cf5_ BK151.out; obtain ⟨Ao8, co8, eo8⟩ := Kd.R_slice HO149.out; subst eo8))
    have n0_ : Aside0 (Kd.S k44 44 (((((w6.setCell ⟨gb151, 0, none⟩ (.int .i64 t143)).setCell ⟨gb151, 1, none⟩ (.int .i64 t144)).setCell ⟨gb151, 2, none⟩ (.int .i64 t145)).setCell ⟨gb151, 3, none⟩ (.int .i64 t146)).setCell ⟨gb151, 4, none⟩ (.slice Ao8 t147.length co8)) w.heap.size (fun k_ => some k_ ≠ (.slice Ao8 t147.length co8 : Value).ownBlock ∧ k_ ≠ gb151) u4 x4_1) := ⟨Kd.S_mono (sF_ (Kd.S_mono HO_4.out (fun k_ hk => (⟨hk, hk.2⟩ : _ ∧ k_ ≠ gb151)))) (fun _ hk => ⟨hk.1.1.2, hk.1.2⟩)⟩
    have n1_ : Aside0 (Kd.R Kd.string 9 (((((w6.setCell ⟨gb151, 0, none⟩ (.int .i64 t143)).setCell ⟨gb151, 1, none⟩ (.int .i64 t144)).setCell ⟨gb151, 2, none⟩ (.int .i64 t145)).setCell ⟨gb151, 3, none⟩ (.int .i64 t146)).setCell ⟨gb151, 4, none⟩ (.slice Ao8 t147.length co8)) w.heap.size (fun _ => True) (.slice Ao8 t147.length co8) t147) := ⟨Kd.R_mono (rF_ (Kd.R_types HO149.out BK151.out (by decide))) (fun _ hk => trivial)⟩
    have n2_ : Aside0 ((((((w6.setCell ⟨gb151, 0, none⟩ (.int .i64 t143)).setCell ⟨gb151, 1, none⟩ (.int .i64 t144)).setCell ⟨gb151, 2, none⟩ (.int .i64 t145)).setCell ⟨gb151, 3, none⟩ (.int .i64 t146)).setCell ⟨gb151, 4, none⟩ (.slice Ao8 t147.length co8)).heap[gb151]? = some (.cells #[.int .i64 t143, .int .i64 t144, .int .i64 t145, .int .i64 t146, .slice Ao8 t147.length co8] 44 (0, 0))) := ⟨up_ BK151⟩
    have n3_ : Aside0 (Below w.heap.size w (((((w6.setCell ⟨gb151, 0, none⟩ (.int .i64 t143)).setCell ⟨gb151, 1, none⟩ (.int .i64 t144)).setCell ⟨gb151, 2, none⟩ (.int .i64 t145)).setCell ⟨gb151, 3, none⟩ (.int .i64 t146)).setCell ⟨gb151, 4, none⟩ (.slice Ao8 t147.length co8))) := ⟨hs_ GE151.out⟩
    (try clear HO_4)
    (try clear HO149)
    (try clear BK151)
    (try clear HB)
    generalize (((((w6.setCell ⟨gb151, 0, none⟩ (.int .i64 t143)).setCell ⟨gb151, 1, none⟩ (.int .i64 t144)).setCell ⟨gb151, 2, none⟩ (.int .i64 t145)).setCell ⟨gb151, 3, none⟩ (.int .i64 t146)).setCell ⟨gb151, 4, none⟩ (.slice Ao8 t147.length co8)) = w9 at n0_ n1_ n2_ n3_ ⊢
    have HO_4 := n0_
    have HO149 := n1_
    have BK151 := n2_
    have HB := n3_
    clear n0_ n1_ n2_ n3_
    replace HO_4 := Aside0.mk (Kd.S_drew HO_4.out)
    replace HO149 := qR_ HO149
    replace BK151 := qK_ BK151
    replace HB := qH_ HB
    refine start_ (n := 18) (S := fun w' => True) (ds := []) (List.replicate 18 false).toArray (by kernel_rfl) rfl rfl trivial (fun hHeld => ?_); refine with_tabW spec_l1Read.tab5 spec_l1Read.bits5 (fun HT_ HW_ => ?_)
    generalize w9.drew = w10 at HO_4 HO149 BK151 HB hHeld ⊢
    refine pv_ 0 18 ?_
    refine pv_ 1 19 ?_
    refine pv_ 2 20 ?_
    refine po_ 3 21 ?_
    refine po_ 4 22 ?_
    refine po_ 5 23 ?_
    refine po_ 6 24 ?_
    refine po_ 7 25 ?_
    refine po_ 8 26 ?_
    refine po_ 9 27 ?_
    refine po_ 10 28 ?_
    refine po_ 11 29 ?_
    refine po_ 12 30 ?_
    refine po_ 13 31 ?_
    refine po_ 14 32 ?_
    refine po_ 15 33 ?_
    refine po_ 16 34 ?_
    refine pv_ 17 35 ?_
    refine done_ (done_of HT_.out (by kernel_rfl)) ?_
    try go_wp2
    go_ret2
    exact ⟨_, er_, sF_ (Kd.S_mono HO_4.out (fun _ hk => trivial)), hs_ GE151.out⟩
   have c4b0 : (t150 == 0) = false := beq_eq_false_iff_ne.mpr c4
   have c4b1 : (t150 != 0) = true := bne_iff_ne.mpr c4
   replace H := ite_ H
   obtain ⟨c11, H⟩ | ⟨c11, H⟩ := H
   rotate_left
   ·have c11b0 := dgf_ c11
    have c11b1 : decide (0 < x4_1.length) = false := decide_eq_false (by omega)
    clear c11
    replace H := ifs_ H
    obtain ⟨c36, H⟩ := H
    have LMc36 := Aside0.mk c36
    clear c36
    obtain ⟨y157, hy157⟩ : ∃ y_ : List (S44), y_ = (x4_1 ++ [(⟨t143, t144, t145, t146, t147⟩ : S44)]) := ⟨_, rfl⟩
    replace H : (spec_l1Read.l0 k1 a0 y157 t150) = some (r1, r2) := by first | (rw [hy157]; with_reducible exact H) | (have H2_ := (Option.bind_some _ _).symm.trans H; rw [hy157]; with_reducible exact H2_) | (have H2_ := (Option.bind_some _ _).symm.trans H; with_reducible exact H2_) | with_reducible exact H | (rw [hy157]; exact H) | exact H
    have Ny157 := Aside0.mk hy157
    clear hy157
    have H' := Aside0.mk H
    clear H
    try go_wp2_with (first | ((with_reducible refine gate_callee (f := 81) rfl ?_); refine gl_ 15 Try.func81 #[.string a0, .int .i64 x5_1] rfl ma_ ?_; (with_reducible refine (spec_l1Take.calls k1 a0 x5_1 t143 t144 t145 t146 t147 t150 _ A3.out).mono ?_); rintro e w37 ⟨v148, rfl, ho0, hb⟩; refine ⟨_, rfl, ?_⟩; replace HO_4 := Aside0.mk (Kd.S_elder' (ks_ HO_4.out) (Kd.R_base ho0) hb); have HO149 := Aside0.mk (Kd.R_lower ho0 (below_size (hb_))); replace HB := nb_ hb; (try clear hb); (try clear hb2); (try clear hk); (try clear hi); (try clear ho0)) | ((with_reducible refine gate_dst (N := 6) rfl ?_); (try (refine gate_guard (by rfl) ?_; dsimp only)); refine bq_ (N := 6) #[.int .i64 0, .int .i64 0, .int .i64 0, .int .i64 0, .slice none 0 0] 44 ?_; intro gb151 hg w38 BK151 hb; replace HO_4 := Aside0.mk (Kd.S_below (Kd.S_elderB (ks_ HO_4.out) gb151 (Nat.le_of_eq hg.symm)) hb); replace HO149 := rB_ HO149 hb; have GE151 := ge_ hg; replace HB := nb_ hb; clear hb hg; obtain ⟨hcz39_0, hcz39_1, hcz39_2, hcz39_3, hcz39_4, hfz39_0, hfz39_1, hfz39_2, hfz39_3, hfz39_4⟩ := cf5_ BK151.out; obtain ⟨Ao40, co40, eo40⟩ := Kd.R_slice HO149.out; subst eo40))
    have n0_ : Aside0 (Kd.S k44 44 (((((w38.setCell ⟨gb151, 0, none⟩ (.int .i64 t143)).setCell ⟨gb151, 1, none⟩ (.int .i64 t144)).setCell ⟨gb151, 2, none⟩ (.int .i64 t145)).setCell ⟨gb151, 3, none⟩ (.int .i64 t146)).setCell ⟨gb151, 4, none⟩ (.slice Ao40 t147.length co40)) w.heap.size (fun k_ => some k_ ≠ (.slice Ao40 t147.length co40 : Value).ownBlock ∧ k_ ≠ gb151) u4 x4_1) := ⟨Kd.S_mono (sF_ (Kd.S_mono HO_4.out (fun k_ hk => (⟨hk, hk.2⟩ : _ ∧ k_ ≠ gb151)))) (fun _ hk => ⟨hk.1.1.2, hk.1.2⟩)⟩
    have n1_ : Aside0 (Kd.R Kd.string 9 (((((w38.setCell ⟨gb151, 0, none⟩ (.int .i64 t143)).setCell ⟨gb151, 1, none⟩ (.int .i64 t144)).setCell ⟨gb151, 2, none⟩ (.int .i64 t145)).setCell ⟨gb151, 3, none⟩ (.int .i64 t146)).setCell ⟨gb151, 4, none⟩ (.slice Ao40 t147.length co40)) w.heap.size (fun _ => True) (.slice Ao40 t147.length co40) t147) := ⟨Kd.R_mono (rF_ (Kd.R_types HO149.out BK151.out (by decide))) (fun _ hk => trivial)⟩
    have n2_ : Aside0 ((((((w38.setCell ⟨gb151, 0, none⟩ (.int .i64 t143)).setCell ⟨gb151, 1, none⟩ (.int .i64 t144)).setCell ⟨gb151, 2, none⟩ (.int .i64 t145)).setCell ⟨gb151, 3, none⟩ (.int .i64 t146)).setCell ⟨gb151, 4, none⟩ (.slice Ao40 t147.length co40)).heap[gb151]? = some (.cells #[.int .i64 t143, .int .i64 t144, .int .i64 t145, .int .i64 t146, .slice Ao40 t147.length co40] 44 (0, 0))) := ⟨up_ BK151⟩
    have n3_ : Aside0 (Below w.heap.size w (((((w38.setCell ⟨gb151, 0, none⟩ (.int .i64 t143)).setCell ⟨gb151, 1, none⟩ (.int .i64 t144)).setCell ⟨gb151, 2, none⟩ (.int .i64 t145)).setCell ⟨gb151, 3, none⟩ (.int .i64 t146)).setCell ⟨gb151, 4, none⟩ (.slice Ao40 t147.length co40))) := ⟨hs_ GE151.out⟩
    (try clear HO_4)
    (try clear HO149)
    (try clear BK151)
    (try clear HB)
    generalize (((((w38.setCell ⟨gb151, 0, none⟩ (.int .i64 t143)).setCell ⟨gb151, 1, none⟩ (.int .i64 t144)).setCell ⟨gb151, 2, none⟩ (.int .i64 t145)).setCell ⟨gb151, 3, none⟩ (.int .i64 t146)).setCell ⟨gb151, 4, none⟩ (.slice Ao40 t147.length co40)) = w41 at n0_ n1_ n2_ n3_ ⊢
    have HO_4 := n0_
    have HO149 := n1_
    have BK151 := n2_
    have HB := n3_
    clear n0_ n1_ n2_ n3_
    replace HO_4 := Aside0.mk (Kd.S_drew HO_4.out)
    replace HO149 := qR_ HO149
    replace BK151 := qK_ BK151
    replace HB := qH_ HB
    obtain ⟨Ao43, co43, eo43⟩ := Kd.S_slice HO_4.out
    (first | subst eo43 | (injection eo43 with f1_ f2_ f3_; have f4_ := f1_.symm; have f5_ := f3_.symm; clear f1_ f2_ f3_; subst f4_; subst f5_))
    refine start_ (n := 18) (S := fun w' => True) (ds := []) (List.replicate 18 false).toArray (by kernel_rfl) rfl rfl trivial (fun hHeld => ?_); refine with_tabW spec_l1Read.tab5 spec_l1Read.bits5 (fun HT_ HW_ => ?_)
    generalize w41.drew = w42 at HO_4 HO149 BK151 HB hHeld ⊢
    refine pv_ 0 18 ?_
    refine pv_ 1 19 ?_
    refine pv_ 2 20 ?_
    refine pv_ 3 21 ?_
    refine pv_ 4 22 ?_
    refine pv_ 5 23 ?_
    refine pv_ 6 24 ?_
    refine po_ 7 25 ?_
    refine po_ 8 26 ?_
    refine po_ 9 27 ?_
    refine po_ 10 28 ?_
    refine po_ 11 29 ?_
    refine po_ 12 30 ?_
    refine po_ 13 31 ?_
    refine po_ 14 32 ?_
    refine po_ 15 33 ?_
    refine pv_ 16 34 ?_
    refine pv_ 17 35 ?_
    refine done_ (done_of HT_.out (by kernel_rfl)) ?_
    obtain ⟨hcz44_0, hcz44_1, hcz44_2, hcz44_3, hcz44_4, hfz44_0, hfz44_1, hfz44_2, hfz44_3, hfz44_4⟩ := cf5_ BK151.out
    try go_wp2_with (first | ((with_reducible refine gate_builtin (b := .append) (xs := #[.tmp 36, .tmp 38]) rfl ?_); (try (refine gate_guard (by rfl) ?_; dsimp only)); at_builtin; refine Kd.S_append k44 (w0 := w) w.heap.size rfl (.tmp 36) (.tmp 38) 26 44 (.agg #[(.int .i64 0), (.int .i64 0), (.int .i64 0), (.int .i64 0), (.slice none 0 0)]) 56 rfl Try.underlying26 info44 rfl (by decide) (by omega) (.slice Ao43 x4_1.length co43) x4_1 (⟨t143, t144, t145, t146, t147⟩ : S44) [.int .i64 t143, .int .i64 t144, .int .i64 t145, .int .i64 t146, .slice Ao40 t147.length co40] (fun k_ => k_ ≠ gb151) (fun k_ => some k_ = (.slice Ao40 t147.length co40 : Value).ownBlock) rfl rfl ?aP (fun k_ hk_ => ((Kd.R_mono (ok' := fun k_ => ((fun k_ => k_ ≠ gb151)) k_ ∧ some k_ ≠ (.slice Ao43 x4_1.length co43 : Value).ownBlock) (Kd.R_types (Kd.R_apart' (HO149.out) (Kd.S_typed HO_4.out) (by decide)) BK151.out (by decide)) (fun k_ hk => ⟨hk.2, hk.1.2⟩))).1 k_ hk_.symm) ?aF ?aO ?aB ?aS ?aL ?_; (case aP => exact k44_mkM _ _ _ (⟨t143, t144, t145, t146, t147⟩ : S44) (Kd.R_mono (Kd.R_tight rfl (Kd.R_mono (ok' := fun k_ => ((fun k_ => k_ ≠ gb151)) k_ ∧ some k_ ≠ (.slice Ao43 x4_1.length co43 : Value).ownBlock) (Kd.R_types (Kd.R_apart' (HO149.out) (Kd.S_typed HO_4.out) (by decide)) BK151.out (by decide)) (fun k_ hk => ⟨hk.2, hk.1.2⟩))) (fun _ h_ => h_))); (case aB => exact (hs_ GE151.out)); (case aF => exact (fun k_ hk => Kd.freshB (g := gb151) (o := .cells #[.int .i64 t143, .int .i64 t144, .int .i64 t145, .int .i64 t146, .slice Ao40 t147.length co40] 44 (0, 0)) (kb_ BK151.out) k_ hk)); (case aO => exact (sF_ (Kd.S_mono HO_4.out (fun k_ hk => ⟨hk.2, fun e_ => hk.1 e_⟩)))); (case aS => exact (below_size (hs_ GE151.out))); (case aL => have := LMc36.out; omega); intro v158 w45 ho hb hg hat; rw [← Ny157.out] at ho; replace BK151 := Aside0.mk (blk_grown (g := gb151) (o := .cells #[.int .i64 t143, .int .i64 t144, .int .i64 t145, .int .i64 t146, .slice Ao40 t147.length co40] 44 (0, 0)) (kb_ BK151.out) hg (Kd.S_away HO_4.out (fun _ hk => hk.2))); replace HB := Aside0.mk (hb); have HO159 := Aside0.mk (ho); clear HO_4 HO149; clear ho hb hg hat))
    go_roundg k1
    case measure => have := HK1.out; omega
    case rel => exact ⟨(y157), (t150), sr_, H', ⟨by have := HK1.out; omega⟩, ⟨sF_ (Kd.S_mono HO159.out (fun _ hk => trivial))⟩, ⟨hs_ GE151.out⟩⟩
   have c11b0 := dgt_ c11
   have c11b1 : decide (0 < x4_1.length) = true := decide_eq_true (by omega)
   clear c11
   obtain ⟨ji12, hji12⟩ : ∃ j_ : Int, (wrap64 ((x4_1.length : Int) - 1)) = j_ := ⟨_, rfl⟩
   first | rw [hji12] at H | simp only [hji12] at H
   (try rw [hji12] at A3)
   have hji12w : (IntKind.i64.wrap ((x4_1.length : Int) - 1)) = ji12 := (i64_w _).trans hji12
   replace H := ifs_ H
   obtain ⟨c13, H⟩ := H
   have c13b0 := decide_eq_true c13
   clear c13
   replace H := ifs_ H
   obtain ⟨c14, H⟩ := H
   have c14b0 := decide_eq_true c14
   clear c14
   replace H := bnd_ H
   obtain ⟨t153, A15, H⟩ := H
   replace H := ifb_ H
   obtain ⟨rfl, H⟩ | ⟨rfl, H⟩ := H
   rotate_left
   ·simp only [Option.some.injEq, Prod.mk.injEq] at H
    obtain ⟨rfl, rfl⟩ := H
    try go_wp2_with (first | ((with_reducible refine gate_callee (f := 81) rfl ?_); refine gl_ 15 Try.func81 #[.string a0, .int .i64 x5_1] rfl ma_ ?_; (with_reducible refine (spec_l1Take.calls k1 a0 x5_1 t143 t144 t145 t146 t147 t150 _ A3.out).mono ?_); rintro e w28 ⟨v148, rfl, ho0, hb⟩; refine ⟨_, rfl, ?_⟩; replace HO_4 := Aside0.mk (Kd.S_elder' (ks_ HO_4.out) (Kd.R_base ho0) hb); have HO149 := Aside0.mk (Kd.R_lower ho0 (below_size (hb_))); replace HB := nb_ hb; (try clear hb); (try clear hb2); (try clear hk); (try clear hi); (try clear ho0)) | ((with_reducible refine gate_dst (N := 6) rfl ?_); (try (refine gate_guard (by rfl) ?_; dsimp only)); refine bq_ (N := 6) #[.int .i64 0, .int .i64 0, .int .i64 0, .int .i64 0, .slice none 0 0] 44 ?_; intro gb151 hg w29 BK151 hb; replace HO_4 := Aside0.mk (Kd.S_below (Kd.S_elderB (ks_ HO_4.out) gb151 (Nat.le_of_eq hg.symm)) hb); replace HO149 := rB_ HO149 hb; have GE151 := ge_ hg; replace HB := nb_ hb; clear hb hg; obtain ⟨hcz30_0, hcz30_1, hcz30_2, hcz30_3, hcz30_4, hfz30_0, hfz30_1, hfz30_2, hfz30_3, hfz30_4⟩ := cf5_ BK151.out; obtain ⟨Ao31, co31, eo31⟩ := Kd.R_slice HO149.out; subst eo31))
    have n0_ : Aside0 (Kd.S k44 44 (((((w29.setCell ⟨gb151, 0, none⟩ (.int .i64 t143)).setCell ⟨gb151, 1, none⟩ (.int .i64 t144)).setCell ⟨gb151, 2, none⟩ (.int .i64 t145)).setCell ⟨gb151, 3, none⟩ (.int .i64 t146)).setCell ⟨gb151, 4, none⟩ (.slice Ao31 t147.length co31)) w.heap.size (fun k_ => some k_ ≠ (.slice Ao31 t147.length co31 : Value).ownBlock ∧ k_ ≠ gb151) u4 x4_1) := ⟨Kd.S_mono (sF_ (Kd.S_mono HO_4.out (fun k_ hk => (⟨hk, hk.2⟩ : _ ∧ k_ ≠ gb151)))) (fun _ hk => ⟨hk.1.1.2, hk.1.2⟩)⟩
    have n1_ : Aside0 (Kd.R Kd.string 9 (((((w29.setCell ⟨gb151, 0, none⟩ (.int .i64 t143)).setCell ⟨gb151, 1, none⟩ (.int .i64 t144)).setCell ⟨gb151, 2, none⟩ (.int .i64 t145)).setCell ⟨gb151, 3, none⟩ (.int .i64 t146)).setCell ⟨gb151, 4, none⟩ (.slice Ao31 t147.length co31)) w.heap.size (fun _ => True) (.slice Ao31 t147.length co31) t147) := ⟨Kd.R_mono (rF_ (Kd.R_types HO149.out BK151.out (by decide))) (fun _ hk => trivial)⟩
    have n2_ : Aside0 ((((((w29.setCell ⟨gb151, 0, none⟩ (.int .i64 t143)).setCell ⟨gb151, 1, none⟩ (.int .i64 t144)).setCell ⟨gb151, 2, none⟩ (.int .i64 t145)).setCell ⟨gb151, 3, none⟩ (.int .i64 t146)).setCell ⟨gb151, 4, none⟩ (.slice Ao31 t147.length co31)).heap[gb151]? = some (.cells #[.int .i64 t143, .int .i64 t144, .int .i64 t145, .int .i64 t146, .slice Ao31 t147.length co31] 44 (0, 0))) := ⟨up_ BK151⟩
    have n3_ : Aside0 (Below w.heap.size w (((((w29.setCell ⟨gb151, 0, none⟩ (.int .i64 t143)).setCell ⟨gb151, 1, none⟩ (.int .i64 t144)).setCell ⟨gb151, 2, none⟩ (.int .i64 t145)).setCell ⟨gb151, 3, none⟩ (.int .i64 t146)).setCell ⟨gb151, 4, none⟩ (.slice Ao31 t147.length co31))) := ⟨hs_ GE151.out⟩
    (try clear HO_4)
    (try clear HO149)
    (try clear BK151)
    (try clear HB)
    generalize (((((w29.setCell ⟨gb151, 0, none⟩ (.int .i64 t143)).setCell ⟨gb151, 1, none⟩ (.int .i64 t144)).setCell ⟨gb151, 2, none⟩ (.int .i64 t145)).setCell ⟨gb151, 3, none⟩ (.int .i64 t146)).setCell ⟨gb151, 4, none⟩ (.slice Ao31 t147.length co31)) = w32 at n0_ n1_ n2_ n3_ ⊢
    have HO_4 := n0_
    have HO149 := n1_
    have BK151 := n2_
    have HB := n3_
    clear n0_ n1_ n2_ n3_
    replace HO_4 := Aside0.mk (Kd.S_drew HO_4.out)
    replace HO149 := qR_ HO149
    replace BK151 := qK_ BK151
    replace HB := qH_ HB
    obtain ⟨Ao34, co34, eo34⟩ := Kd.S_slice HO_4.out
    (first | subst eo34 | (injection eo34 with f1_ f2_ f3_; have f4_ := f1_.symm; have f5_ := f3_.symm; clear f1_ f2_ f3_; subst f4_; subst f5_))
    have p152 : 0 ≤ ((ji12) : Int) := oa_
    have q152 : (ji12) < (x4_1.length : Int) := oa_
    obtain ⟨ad152, A152_4, c152_4, e152, hx152_0, hx152_1, hx152_2, hx152_3, hx152_4, hl152_4, hi152_4⟩ := at_T44 (Kd.S_reads' HO_4.out).2.2 (ji12) p152 q152
    cases e152
    obtain ⟨ce152, hce152, hMe152, hcc152⟩ := Kd.S_get HO_4.out z44 (ji12) p152 (by first | exact q152 | exact oa_ | (have e_ := (Kd.S_reads' HO_4.out).1; omega))
    obtain ⟨ve152_4, rfl, ge152_4⟩ := k44_openM hMe152
    have hv152_4 := hcc152 4 _ rfl
    rw [add_field _ _ 4 (by omega)] at hv152_4
    replace hv152_4 := Option.some.inj (hv152_4.symm.trans hx152_4)
    rw [hv152_4] at ge152_4
    have HL152_4 := Aside0.mk (show Kd.R Kd.string 9 _ _ _ _ ((rd_T44 x4_1 (ji12)).f4) from ge152_4)
    clear hv152_4 ge152_4
    clear hcc152 hce152
    have HR152_4 := Aside0.mk hi152_4
    have HC152_4 := Aside0.mk hl152_4
    clear hi152_4 hl152_4
    replace p152 := eq_true p152
    replace q152 := eq_true q152
    refine start_ (n := 18) (S := fun w' => w'.cell? ⟨gb151, 0, none⟩ = some (.int .i64 t143) ∧ w'.cell? ⟨gb151, 1, none⟩ = some (.int .i64 t144) ∧ w'.cell? ⟨gb151, 2, none⟩ = some (.int .i64 t145) ∧ w'.cell? ⟨gb151, 3, none⟩ = some (.int .i64 t146) ∧ w'.cell? ⟨gb151, 4, none⟩ = some (.slice Ao31 t147.length co31) ∧ w'.cell? (ad152.add (((ji12)).toNat * 5)) = some (.int .i64 ((rd_T44 x4_1 (ji12)).f0)) ∧ w'.cell? ⟨(ad152.add (((ji12)).toNat * 5)).block, (ad152.add (((ji12)).toNat * 5)).off + 1, none⟩ = some (.int .i64 ((rd_T44 x4_1 (ji12)).f1)) ∧ w'.cell? ⟨(ad152.add (((ji12)).toNat * 5)).block, (ad152.add (((ji12)).toNat * 5)).off + 2, none⟩ = some (.int .i64 ((rd_T44 x4_1 (ji12)).f2)) ∧ w'.cell? ⟨(ad152.add (((ji12)).toNat * 5)).block, (ad152.add (((ji12)).toNat * 5)).off + 3, none⟩ = some (.int .i64 ((rd_T44 x4_1 (ji12)).f3)) ∧ w'.cell? ⟨(ad152.add (((ji12)).toNat * 5)).block, (ad152.add (((ji12)).toNat * 5)).off + 4, none⟩ = some (.slice A152_4 ((rd_T44 x4_1 (ji12)).f4).length c152_4)) (ds := []) (List.replicate 18 false).toArray (by kernel_rfl) rfl rfl ⟨bt_ BK151 0, bt_ BK151 1, bt_ BK151 2, bt_ BK151 3, bt_ BK151 4, hx152_0, hx152_1, hx152_2, hx152_3, hx152_4⟩ (fun hHeld => ?_); refine with_tabW spec_l1Read.tab5 spec_l1Read.bits5 (fun HT_ HW_ => ?_)
    generalize w32.drew = w33 at HO_4 HO149 BK151 HB HL152_4 HR152_4 hx152_0 hx152_1 hx152_2 hx152_3 hx152_4 hHeld ⊢
    refine pv_ 0 18 ?_
    refine pv_ 1 19 ?_
    refine pv_ 2 20 ?_
    refine pv_ 3 21 ?_
    refine pv_ 4 22 ?_
    refine pv_ 5 23 ?_
    refine pv_ 6 24 ?_
    refine pv_ 7 25 ?_
    refine pv_ 8 26 ?_
    refine pv_ 9 27 ?_
    refine pv_ 10 28 ?_
    refine pv_ 11 29 ?_
    refine tk_ 12 30 ?_
    refine tk_ 13 31 ?_
    refine on_ 14 32 (fun K hK => ?_)
    refine gs_ Try.func60 #[.agg #[.int .i64 ((rd_T44 x4_1 (ji12)).f0), .int .i64 ((rd_T44 x4_1 (ji12)).f1), .int .i64 ((rd_T44 x4_1 (ji12)).f2), .int .i64 ((rd_T44 x4_1 (ji12)).f3), .slice A152_4 ((rd_T44 x4_1 (ji12)).f4).length c152_4], .agg #[.int .i64 t143, .int .i64 t144, .int .i64 t145, .int .i64 t146, .slice Ao31 t147.length co31]] rfl (mb_ hji12) ?_
    with_reducible refine (spec_l1Next.calls ((rd_T44 x4_1 (ji12)).f0) ((rd_T44 x4_1 (ji12)).f1) ((rd_T44 x4_1 (ji12)).f2) ((rd_T44 x4_1 (ji12)).f3) _ _ ((rd_T44 x4_1 (ji12)).f4) t143 t144 t145 t146 _ _ t147 false _ ?side1 ?side2 ?side3 ?side4 A15.out).mono ?_
    (case side1 => repeat (first | exact (by repeat (first | (with_reducible exact HR152_4.out) | (with_reducible refine Kd.C_alloc ?_ _) | (with_reducible refine Kd.C_drewN ?_ _) | (with_reducible refine Kd.C_drew ?_) | exact HR152_4.out)) | (with_reducible refine Kd.C_alloc ?_ _) | (with_reducible refine Kd.C_drewN ?_ _) | (with_reducible refine Kd.C_drew ?_)))
    (case side2 => exact HC152_4.out)
    (case side3 => exact cs_ ((Kd.R_reads' HO149.out).2.2))
    (case side4 => exact (Kd.R_reads' HO149.out).2.1)
    rintro e w35 ⟨rfl, hb⟩
    have HS5_ := (hb.cell (World.block_lt_of_cell? _ _ (hHeld.2.2.2.2.2.1))).trans (hHeld.2.2.2.2.2.1)
    have HS6_ := (hb.cell (World.block_lt_of_cell? _ _ (hHeld.2.2.2.2.2.2.1))).trans (hHeld.2.2.2.2.2.2.1)
    have HS7_ := (hb.cell (World.block_lt_of_cell? _ _ (hHeld.2.2.2.2.2.2.2.1))).trans (hHeld.2.2.2.2.2.2.2.1)
    have HS8_ := (hb.cell (World.block_lt_of_cell? _ _ (hHeld.2.2.2.2.2.2.2.2.1))).trans (hHeld.2.2.2.2.2.2.2.2.1)
    have HS9_ := (hb.cell (World.block_lt_of_cell? _ _ (hHeld.2.2.2.2.2.2.2.2.2))).trans (hHeld.2.2.2.2.2.2.2.2.2)
    refine ⟨_, rfl, ?_⟩
    replace HO_4 := sB_ HO_4 hb
    replace HO149 := rB_ HO149 hb
    replace HL152_4 := rB_ HL152_4 hb
    replace BK151 := bK_ BK151 hb
    replace HR152_4 := Aside0.mk (Kd.C_below (by repeat (first | (with_reducible exact HR152_4.out) | (with_reducible refine Kd.C_alloc ?_ _) | (with_reducible refine Kd.C_drewN ?_ _) | (with_reducible refine Kd.C_drew ?_) | exact HR152_4.out)) hb)
    replace HB := nc_ GE151 hb
    (try clear hb)
    (try clear hb2)
    (try clear hk)
    (try clear hi)
    refine hK.out _ _ ⟨bt_ BK151 0, bt_ BK151 1, bt_ BK151 2, bt_ BK151 3, bt_ BK151 4, HS5_, HS6_, HS7_, HS8_, HS9_⟩ (fun hHeld => ?_)
    clear hK K
    refine no_ ?_
    refine pv_ 15 33 ?_
    refine pv_ 16 34 ?_
    refine pv_ 17 35 ?_
    refine done_ (done_of HT_.out (by kernel_rfl)) ?_
    try go_wp2
    go_ret2
    exact ⟨_, by first | rfl | (simp [errW_none, errW_some] <;> rfl) | (simp only [← hji12]; first | rfl | (simp [errW_none, errW_some] <;> rfl)) | (simp [*, errW_none, errW_some] <;> rfl), sF_ (Kd.S_mono HO_4.out (fun _ hk => trivial)), hs_ GE151.out⟩
   replace H := ifs_ H
   obtain ⟨c17, H⟩ := H
   have LMc17 := Aside0.mk c17
   clear c17
   obtain ⟨y154, hy154⟩ : ∃ y_ : List (S44), y_ = (x4_1 ++ [(⟨t143, t144, t145, t146, t147⟩ : S44)]) := ⟨_, rfl⟩
   replace H : (spec_l1Read.l0 k1 a0 y154 t150) = some (r1, r2) := by first | (rw [hy154]; with_reducible exact H) | (have H2_ := (Option.bind_some _ _).symm.trans H; rw [hy154]; with_reducible exact H2_) | (have H2_ := (Option.bind_some _ _).symm.trans H; with_reducible exact H2_) | with_reducible exact H | (rw [hy154]; exact H) | exact H
   have Ny154 := Aside0.mk hy154
   clear hy154
   have H' := Aside0.mk H
   clear H
   try go_wp2_with (first | ((with_reducible refine gate_callee (f := 81) rfl ?_); refine gl_ 15 Try.func81 #[.string a0, .int .i64 x5_1] rfl ma_ ?_; (with_reducible refine (spec_l1Take.calls k1 a0 x5_1 t143 t144 t145 t146 t147 t150 _ A3.out).mono ?_); rintro e w18 ⟨v148, rfl, ho0, hb⟩; refine ⟨_, rfl, ?_⟩; replace HO_4 := Aside0.mk (Kd.S_elder' (ks_ HO_4.out) (Kd.R_base ho0) hb); have HO149 := Aside0.mk (Kd.R_lower ho0 (below_size (hb_))); replace HB := nb_ hb; (try clear hb); (try clear hb2); (try clear hk); (try clear hi); (try clear ho0)) | ((with_reducible refine gate_dst (N := 6) rfl ?_); (try (refine gate_guard (by rfl) ?_; dsimp only)); refine bq_ (N := 6) #[.int .i64 0, .int .i64 0, .int .i64 0, .int .i64 0, .slice none 0 0] 44 ?_; intro gb151 hg w19 BK151 hb; replace HO_4 := Aside0.mk (Kd.S_below (Kd.S_elderB (ks_ HO_4.out) gb151 (Nat.le_of_eq hg.symm)) hb); replace HO149 := rB_ HO149 hb; have GE151 := ge_ hg; replace HB := nb_ hb; clear hb hg; obtain ⟨hcz20_0, hcz20_1, hcz20_2, hcz20_3, hcz20_4, hfz20_0, hfz20_1, hfz20_2, hfz20_3, hfz20_4⟩ := cf5_ BK151.out; obtain ⟨Ao21, co21, eo21⟩ := Kd.R_slice HO149.out; subst eo21))
   have n0_ : Aside0 (Kd.S k44 44 (((((w19.setCell ⟨gb151, 0, none⟩ (.int .i64 t143)).setCell ⟨gb151, 1, none⟩ (.int .i64 t144)).setCell ⟨gb151, 2, none⟩ (.int .i64 t145)).setCell ⟨gb151, 3, none⟩ (.int .i64 t146)).setCell ⟨gb151, 4, none⟩ (.slice Ao21 t147.length co21)) w.heap.size (fun k_ => some k_ ≠ (.slice Ao21 t147.length co21 : Value).ownBlock ∧ k_ ≠ gb151) u4 x4_1) := ⟨Kd.S_mono (sF_ (Kd.S_mono HO_4.out (fun k_ hk => (⟨hk, hk.2⟩ : _ ∧ k_ ≠ gb151)))) (fun _ hk => ⟨hk.1.1.2, hk.1.2⟩)⟩
   have n1_ : Aside0 (Kd.R Kd.string 9 (((((w19.setCell ⟨gb151, 0, none⟩ (.int .i64 t143)).setCell ⟨gb151, 1, none⟩ (.int .i64 t144)).setCell ⟨gb151, 2, none⟩ (.int .i64 t145)).setCell ⟨gb151, 3, none⟩ (.int .i64 t146)).setCell ⟨gb151, 4, none⟩ (.slice Ao21 t147.length co21)) w.heap.size (fun _ => True) (.slice Ao21 t147.length co21) t147) := ⟨Kd.R_mono (rF_ (Kd.R_types HO149.out BK151.out (by decide))) (fun _ hk => trivial)⟩
   have n2_ : Aside0 ((((((w19.setCell ⟨gb151, 0, none⟩ (.int .i64 t143)).setCell ⟨gb151, 1, none⟩ (.int .i64 t144)).setCell ⟨gb151, 2, none⟩ (.int .i64 t145)).setCell ⟨gb151, 3, none⟩ (.int .i64 t146)).setCell ⟨gb151, 4, none⟩ (.slice Ao21 t147.length co21)).heap[gb151]? = some (.cells #[.int .i64 t143, .int .i64 t144, .int .i64 t145, .int .i64 t146, .slice Ao21 t147.length co21] 44 (0, 0))) := ⟨up_ BK151⟩
   have n3_ : Aside0 (Below w.heap.size w (((((w19.setCell ⟨gb151, 0, none⟩ (.int .i64 t143)).setCell ⟨gb151, 1, none⟩ (.int .i64 t144)).setCell ⟨gb151, 2, none⟩ (.int .i64 t145)).setCell ⟨gb151, 3, none⟩ (.int .i64 t146)).setCell ⟨gb151, 4, none⟩ (.slice Ao21 t147.length co21))) := ⟨hs_ GE151.out⟩
   (try clear HO_4)
   (try clear HO149)
   (try clear BK151)
   (try clear HB)
   generalize (((((w19.setCell ⟨gb151, 0, none⟩ (.int .i64 t143)).setCell ⟨gb151, 1, none⟩ (.int .i64 t144)).setCell ⟨gb151, 2, none⟩ (.int .i64 t145)).setCell ⟨gb151, 3, none⟩ (.int .i64 t146)).setCell ⟨gb151, 4, none⟩ (.slice Ao21 t147.length co21)) = w22 at n0_ n1_ n2_ n3_ ⊢
   have HO_4 := n0_
   have HO149 := n1_
   have BK151 := n2_
   have HB := n3_
   clear n0_ n1_ n2_ n3_
   replace HO_4 := Aside0.mk (Kd.S_drew HO_4.out)
   replace HO149 := qR_ HO149
   replace BK151 := qK_ BK151
   replace HB := qH_ HB
   obtain ⟨Ao24, co24, eo24⟩ := Kd.S_slice HO_4.out
   (first | subst eo24 | (injection eo24 with f1_ f2_ f3_; have f4_ := f1_.symm; have f5_ := f3_.symm; clear f1_ f2_ f3_; subst f4_; subst f5_))
   have p152 : 0 ≤ ((ji12) : Int) := oa_
   have q152 : (ji12) < (x4_1.length : Int) := oa_
   obtain ⟨ad152, A152_4, c152_4, e152, hx152_0, hx152_1, hx152_2, hx152_3, hx152_4, hl152_4, hi152_4⟩ := at_T44 (Kd.S_reads' HO_4.out).2.2 (ji12) p152 q152
   cases e152
   obtain ⟨ce152, hce152, hMe152, hcc152⟩ := Kd.S_get HO_4.out z44 (ji12) p152 (by first | exact q152 | exact oa_ | (have e_ := (Kd.S_reads' HO_4.out).1; omega))
   obtain ⟨ve152_4, rfl, ge152_4⟩ := k44_openM hMe152
   have hv152_4 := hcc152 4 _ rfl
   rw [add_field _ _ 4 (by omega)] at hv152_4
   replace hv152_4 := Option.some.inj (hv152_4.symm.trans hx152_4)
   rw [hv152_4] at ge152_4
   have HL152_4 := Aside0.mk (show Kd.R Kd.string 9 _ _ _ _ ((rd_T44 x4_1 (ji12)).f4) from ge152_4)
   clear hv152_4 ge152_4
   clear hcc152 hce152
   have HR152_4 := Aside0.mk hi152_4
   have HC152_4 := Aside0.mk hl152_4
   clear hi152_4 hl152_4
   replace p152 := eq_true p152
   replace q152 := eq_true q152
   refine start_ (n := 18) (S := fun w' => w'.cell? ⟨gb151, 0, none⟩ = some (.int .i64 t143) ∧ w'.cell? ⟨gb151, 1, none⟩ = some (.int .i64 t144) ∧ w'.cell? ⟨gb151, 2, none⟩ = some (.int .i64 t145) ∧ w'.cell? ⟨gb151, 3, none⟩ = some (.int .i64 t146) ∧ w'.cell? ⟨gb151, 4, none⟩ = some (.slice Ao21 t147.length co21) ∧ w'.cell? (ad152.add (((ji12)).toNat * 5)) = some (.int .i64 ((rd_T44 x4_1 (ji12)).f0)) ∧ w'.cell? ⟨(ad152.add (((ji12)).toNat * 5)).block, (ad152.add (((ji12)).toNat * 5)).off + 1, none⟩ = some (.int .i64 ((rd_T44 x4_1 (ji12)).f1)) ∧ w'.cell? ⟨(ad152.add (((ji12)).toNat * 5)).block, (ad152.add (((ji12)).toNat * 5)).off + 2, none⟩ = some (.int .i64 ((rd_T44 x4_1 (ji12)).f2)) ∧ w'.cell? ⟨(ad152.add (((ji12)).toNat * 5)).block, (ad152.add (((ji12)).toNat * 5)).off + 3, none⟩ = some (.int .i64 ((rd_T44 x4_1 (ji12)).f3)) ∧ w'.cell? ⟨(ad152.add (((ji12)).toNat * 5)).block, (ad152.add (((ji12)).toNat * 5)).off + 4, none⟩ = some (.slice A152_4 ((rd_T44 x4_1 (ji12)).f4).length c152_4)) (ds := []) (List.replicate 18 false).toArray (by kernel_rfl) rfl rfl ⟨bt_ BK151 0, bt_ BK151 1, bt_ BK151 2, bt_ BK151 3, bt_ BK151 4, hx152_0, hx152_1, hx152_2, hx152_3, hx152_4⟩ (fun hHeld => ?_); refine with_tabW spec_l1Read.tab5 spec_l1Read.bits5 (fun HT_ HW_ => ?_)
   generalize w22.drew = w23 at HO_4 HO149 BK151 HB HL152_4 HR152_4 hx152_0 hx152_1 hx152_2 hx152_3 hx152_4 hHeld ⊢
   refine pv_ 0 18 ?_
   refine pv_ 1 19 ?_
   refine pv_ 2 20 ?_
   refine pv_ 3 21 ?_
   refine pv_ 4 22 ?_
   refine pv_ 5 23 ?_
   refine pv_ 6 24 ?_
   refine pv_ 7 25 ?_
   refine pv_ 8 26 ?_
   refine pv_ 9 27 ?_
   refine pv_ 10 28 ?_
   refine pv_ 11 29 ?_
   refine tk_ 12 30 ?_
   refine tk_ 13 31 ?_
   refine on_ 14 32 (fun K hK => ?_)
   refine gs_ Try.func60 #[.agg #[.int .i64 ((rd_T44 x4_1 (ji12)).f0), .int .i64 ((rd_T44 x4_1 (ji12)).f1), .int .i64 ((rd_T44 x4_1 (ji12)).f2), .int .i64 ((rd_T44 x4_1 (ji12)).f3), .slice A152_4 ((rd_T44 x4_1 (ji12)).f4).length c152_4], .agg #[.int .i64 t143, .int .i64 t144, .int .i64 t145, .int .i64 t146, .slice Ao21 t147.length co21]] rfl (mb_ hji12) ?_
   with_reducible refine (spec_l1Next.calls ((rd_T44 x4_1 (ji12)).f0) ((rd_T44 x4_1 (ji12)).f1) ((rd_T44 x4_1 (ji12)).f2) ((rd_T44 x4_1 (ji12)).f3) _ _ ((rd_T44 x4_1 (ji12)).f4) t143 t144 t145 t146 _ _ t147 true _ ?side1 ?side2 ?side3 ?side4 A15.out).mono ?_
   (case side1 => repeat (first | exact (by repeat (first | (with_reducible exact HR152_4.out) | (with_reducible refine Kd.C_alloc ?_ _) | (with_reducible refine Kd.C_drewN ?_ _) | (with_reducible refine Kd.C_drew ?_) | exact HR152_4.out)) | (with_reducible refine Kd.C_alloc ?_ _) | (with_reducible refine Kd.C_drewN ?_ _) | (with_reducible refine Kd.C_drew ?_)))
   (case side2 => exact HC152_4.out)
   (case side3 => exact cs_ ((Kd.R_reads' HO149.out).2.2))
   (case side4 => exact (Kd.R_reads' HO149.out).2.1)
   rintro e w25 ⟨rfl, hb⟩
   have HS5_ := (hb.cell (World.block_lt_of_cell? _ _ (hHeld.2.2.2.2.2.1))).trans (hHeld.2.2.2.2.2.1)
   have HS6_ := (hb.cell (World.block_lt_of_cell? _ _ (hHeld.2.2.2.2.2.2.1))).trans (hHeld.2.2.2.2.2.2.1)
   have HS7_ := (hb.cell (World.block_lt_of_cell? _ _ (hHeld.2.2.2.2.2.2.2.1))).trans (hHeld.2.2.2.2.2.2.2.1)
   have HS8_ := (hb.cell (World.block_lt_of_cell? _ _ (hHeld.2.2.2.2.2.2.2.2.1))).trans (hHeld.2.2.2.2.2.2.2.2.1)
   have HS9_ := (hb.cell (World.block_lt_of_cell? _ _ (hHeld.2.2.2.2.2.2.2.2.2))).trans (hHeld.2.2.2.2.2.2.2.2.2)
   refine ⟨_, rfl, ?_⟩
   replace HO_4 := sB_ HO_4 hb
   replace HO149 := rB_ HO149 hb
   replace HL152_4 := rB_ HL152_4 hb
   replace BK151 := bK_ BK151 hb
   replace HR152_4 := Aside0.mk (Kd.C_below (by repeat (first | (with_reducible exact HR152_4.out) | (with_reducible refine Kd.C_alloc ?_ _) | (with_reducible refine Kd.C_drewN ?_ _) | (with_reducible refine Kd.C_drew ?_) | exact HR152_4.out)) hb)
   replace HB := nc_ GE151 hb
   (try clear hb)
   (try clear hb2)
   (try clear hk)
   (try clear hi)
   refine hK.out _ _ ⟨bt_ BK151 0, bt_ BK151 1, bt_ BK151 2, bt_ BK151 3, bt_ BK151 4, HS5_, HS6_, HS7_, HS8_, HS9_⟩ (fun hHeld => ?_)
   clear hK K
   refine no_ ?_
   refine pv_ 15 33 ?_
   refine pv_ 16 34 ?_
   refine pv_ 17 35 ?_
   refine done_ (done_of HT_.out (by kernel_rfl)) ?_
   obtain ⟨hcz26_0, hcz26_1, hcz26_2, hcz26_3, hcz26_4, hfz26_0, hfz26_1, hfz26_2, hfz26_3, hfz26_4⟩ := cf5_ BK151.out
   try go_wp2_with (first | ((with_reducible refine gate_builtin (b := .append) (xs := #[.tmp 36, .tmp 38]) rfl ?_); (try (refine gate_guard (by rfl) ?_; dsimp only)); at_builtin; refine Kd.S_append k44 (w0 := w) w.heap.size rfl (.tmp 36) (.tmp 38) 26 44 (.agg #[(.int .i64 0), (.int .i64 0), (.int .i64 0), (.int .i64 0), (.slice none 0 0)]) 56 rfl Try.underlying26 info44 rfl (by decide) (by omega) (.slice (some ad152) x4_1.length co24) x4_1 (⟨t143, t144, t145, t146, t147⟩ : S44) [.int .i64 t143, .int .i64 t144, .int .i64 t145, .int .i64 t146, .slice Ao21 t147.length co21] (fun k_ => k_ ≠ gb151) (fun k_ => some k_ = (.slice Ao21 t147.length co21 : Value).ownBlock) rfl rfl ?aP (fun k_ hk_ => ((Kd.R_mono (ok' := fun k_ => ((fun k_ => k_ ≠ gb151)) k_ ∧ some k_ ≠ (.slice (some ad152) x4_1.length co24 : Value).ownBlock) (Kd.R_types (Kd.R_apart' (HO149.out) (Kd.S_typed HO_4.out) (by decide)) BK151.out (by decide)) (fun k_ hk => ⟨hk.2, hk.1.2⟩))).1 k_ hk_.symm) ?aF ?aO ?aB ?aS ?aL ?_; (case aP => exact k44_mkM _ _ _ (⟨t143, t144, t145, t146, t147⟩ : S44) (Kd.R_mono (Kd.R_tight rfl (Kd.R_mono (ok' := fun k_ => ((fun k_ => k_ ≠ gb151)) k_ ∧ some k_ ≠ (.slice (some ad152) x4_1.length co24 : Value).ownBlock) (Kd.R_types (Kd.R_apart' (HO149.out) (Kd.S_typed HO_4.out) (by decide)) BK151.out (by decide)) (fun k_ hk => ⟨hk.2, hk.1.2⟩))) (fun _ h_ => h_))); (case aB => exact (hs_ GE151.out)); (case aF => exact (fun k_ hk => Kd.freshB (g := gb151) (o := .cells #[.int .i64 t143, .int .i64 t144, .int .i64 t145, .int .i64 t146, .slice Ao21 t147.length co21] 44 (0, 0)) (kb_ BK151.out) k_ hk)); (case aO => exact (sF_ (Kd.S_mono HO_4.out (fun k_ hk => ⟨hk.2, fun e_ => hk.1 e_⟩)))); (case aS => exact (below_size (hs_ GE151.out))); (case aL => have := LMc17.out; omega); intro v155 w27 ho hb hg hat; rw [← Ny154.out] at ho; replace BK151 := Aside0.mk (blk_grown (g := gb151) (o := .cells #[.int .i64 t143, .int .i64 t144, .int .i64 t145, .int .i64 t146, .slice Ao21 t147.length co21] 44 (0, 0)) (kb_ BK151.out) hg (Kd.S_away HO_4.out (fun _ hk => hk.2))); replace HL152_4 := Aside0.mk (Kd.R_after (ok := (fun k_ => some k_ ≠ (.slice Ao21 t147.length co21 : Value).ownBlock ∧ k_ ≠ gb151)) (kr_ HL152_4.out) hg hat); replace HB := Aside0.mk (hb); have HO156 := Aside0.mk (ho); clear HO_4 HO149; clear ho hb hg hat))
   go_roundg k1
   case measure => have := HK1.out; omega
   case rel => exact ⟨(y154), (t150), sr_, H', ⟨by have := HK1.out; omega⟩, ⟨sF_ (Kd.S_mono HO156.out (fun _ hk => trivial))⟩, ⟨hs_ GE151.out⟩⟩
end Go.Proofs.Ytpdpipfkllfhmaa.QFnTorn
