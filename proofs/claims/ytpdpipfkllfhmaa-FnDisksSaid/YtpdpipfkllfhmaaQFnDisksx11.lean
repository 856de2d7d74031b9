/- Functions that one statement reaches: of each a plain function, and the proof that calls come to it. Conditions: those that each contract names. Written by a program of this repository. -/
import Derived.Test.YtpdpipfkllfhmaaVFnDisksa
import Derived.Test.YtpdpipfkllfhmaaQFnDisksx3
import Derived.Test.YtpdpipfkllfhmaaQFnDisksx6
import Derived.Test.YtpdpipfkllfhmaaQFnDisksx9
import Derived.Test.YtpdpipfkllfhmaaQFnDisksx8
namespace Go.Proofs.Ytpdpipfkllfhmaa.QFnDisks
open Go.RowKit Go.Proofs.YtpdpipfkllfhmaaW.PrintWords Go.Proofs.YtpdpipfkllfhmaaW.PrintLast Go.Proofs.YtpdpipfkllfhmaaW.PrintMore
attribute [local go_sem] max2_int min2_int max_two min_two max_three min_three max_four min_four Go.Proofs.YtpdpipfkllfhmaaW.PrintMore2.isSome_setCell   -- for this text's walks alone
set_option linter.unusedVariables false
set_option linter.unusedSimpArgs false

/-! ### spec_l1Read: function 50 -/
def spec_l1Read.l0 : Nat → ByteArray → List (S44) → Int → Option ((List (S44)) × Int)
 | 0, _, _, _ => none
 | k + 1, x0, x4, x5 => if x5 < (x0.size : Int) then ((spec_l1Take.f k x0 x5).bind fun bt231 => (if bt231.2.2.2.2.2 = 0 then (some (x4, x5)) else (if (x4.length : Int) > 0 then (if 0 ≤ (wrap64 ((x4.length : Int) - 1)) then (if (wrap64 ((x4.length : Int) - 1)) < (x4.length : Int) then ((spec_l1Next.f ((rd_T44 x4 (wrap64 ((x4.length : Int) - 1))).f0) ((rd_T44 x4 (wrap64 ((x4.length : Int) - 1))).f1) ((rd_T44 x4 (wrap64 ((x4.length : Int) - 1))).f2) ((rd_T44 x4 (wrap64 ((x4.length : Int) - 1))).f3) ((rd_T44 x4 (wrap64 ((x4.length : Int) - 1))).f4) bt231.1 bt231.2.1 bt231.2.2.1 bt231.2.2.2.1 bt231.2.2.2.2.1).bind fun t241 => (if t241 = true then (if x4.length < 2513169434916 then (spec_l1Read.l0 k x0 (x4 ++ [(⟨bt231.1, bt231.2.1, bt231.2.2.1, bt231.2.2.2.1, bt231.2.2.2.2.1⟩ : S44)]) bt231.2.2.2.2.2) else (none)) else (some (x4, x5)))) else (none)) else (none)) else (if x4.length < 2513169434916 then (spec_l1Read.l0 k x0 (x4 ++ [(⟨bt231.1, bt231.2.1, bt231.2.2.1, bt231.2.2.2.1, bt231.2.2.2.2.1⟩ : S44)]) bt231.2.2.2.2.2) else (none))))) else (some (x4, x5))
def spec_l1Read.f (k : Nat) (a0 : ByteArray) : Option ((List (S44)) × Int) := spec_l1Read.l0 k a0 ([] : List (S44)) 0
theorem spec_l1Read.mono_l : ∀ k, (∀ y0 y1 y2, LeO (spec_l1Read.l0 k y0 y1 y2) (spec_l1Read.l0 (k + 1) y0 y1 y2))
 | 0 => fun _ _ _ r h => by simp [spec_l1Read.l0] at h
 | k + 1 => by
  have ih0 := spec_l1Read.mono_l k
  ·intro y0 y1 y2
   unfold spec_l1Read.l0
   repeat' first
   | (with_reducible first | apply ih0 | apply spec_l1Take.mono | exact LeO.refl _ | exact LeO.none _ | refine LeO.ite ?_ ?_ | refine LeO.bind ?_ (fun _ => ?_))
theorem spec_l1Read.mono : ∀ a0 k, LeO (spec_l1Read.f k a0) (spec_l1Read.f (k + 1) a0) := by
 intro a0 k
 have ih0 := spec_l1Read.mono_l k
 unfold spec_l1Read.f
 repeat' first
   | (with_reducible first | apply ih0 | apply spec_l1Take.mono | exact LeO.refl _ | exact LeO.none _ | refine LeO.ite ?_ ?_ | refine LeO.bind ?_ (fun _ => ?_))
def spec_l1Read.T5 : Bool × List (List Nat × List Nat) := (true, [([], []), ([0], [0]), ([1], [1]), ([2], [2]), ([3, 2], [2, 3]), ([4, 2], [2, 4]), ([5, 2, 2], [2, 5]), ([6], [6]), ([6], [6]), ([8, 6], [6, 8]), ([9, 6], [6, 9]), ([7, 10, 6], [6, 7, 10]), ([11, 6], [6, 11]), ([6], [6]), ([12, 13, 6, 6], [6, 12, 13]), ([14, 6], [6, 14]), ([6, 15, 2], [2, 6, 15]), ([2, 16], [2, 16])])
def spec_l1Read.B5 : List Nat := [0, 1, 3, 7, 15, 31, 63, 127, 127, 383, 895, 2047, 4095, 127, 16383, 32767, 65535, 131071]
theorem spec_l1Read.tab5 : rtab .any (opsOf Try.f50 5) = spec_l1Read.T5 := by kernel_rfl
theorem spec_l1Read.bits5 : waitsOk spec_l1Read.T5.2 spec_l1Read.B5 = true := by kernel_rfl
set_option maxHeartbeats 8000000 in
set_option maxRecDepth 100000 in
theorem spec_l1Read.calls (k : Nat) (a0 : ByteArray) (r1 : List (S44)) (r2 : Int) (w : World) (h : spec_l1Read.f k a0 = some (r1, r2)) :
  Calls Try.prog 50 #[.string a0] w fun e w' => ∃ v0_ : Value, e = .returned (.tuple #[v0_, .int .i64 r2]) ∧ Kd.S k44 44 w' w.heap.size (fun _ => True) v0_ r1 ∧ Below w.heap.size w w' := by
 have hu44 := Try.underlying44
 have HB := Aside0.mk (Below.refl w.heap.size w)
 have H : (spec_l1Read.l0 k a0 ([] : List (S44)) 0) = some (r1, r2) := h
 clear h
 have H' := Aside0.mk H
 clear H
 go_enter Try.func50, Try.ntmps50
 go_wp2
 go_loopg [4, 5] k (fun kq v4 v5 w' => ∃ (fA : List (S44)) (bB : Int), v5 = .int .i64 bB ∧ Aside0 (spec_l1Read.l0 kq a0 fA bB = some (r1, r2)) ∧ Aside0 (kq ≤ k) ∧ Aside0 (Kd.S k44 44 w' w.heap.size (fun _ => True) v4 fA) ∧ Aside0 (Below w.heap.size w w'))
 case atStart => exact ⟨(([] : List (S44))), (0), sr_, H', ⟨Nat.le_refl _⟩, ⟨by first | exact Kd.S_nil _ _ _ _ _ | exact Kd.N_nil _ _ _ _ _ | exact Kd.V_nil _ _ _ _ _ | exact Kd.Q_nil _ _ _ _ _ | exact Kd.R_nil _ _ _ _ _⟩, ⟨hb_⟩⟩
 case round =>
  clear H'
  obtain ⟨fA, bB, rfl, HA, lC, dA, HB⟩ := hrel
  cases gk with
  | zero => exact absurd HA.out (by simp [spec_l1Read.l0])
  | succ k1 =>
   have H := HA.out
   clear HA
   simp only [spec_l1Read.l0] at H
   replace H := ite_ H
   obtain ⟨c2, H⟩ | ⟨c2, H⟩ := H
   rotate_left
   ·have kE := decide_eq_false c2
    clear c2
    simp only [Option.some.injEq, Prod.mk.injEq] at H
    obtain ⟨rfl, rfl⟩ := H
    go_wp2
    go_ret2
    exact ⟨_, er_, ks_ dA.out, hb_⟩
   have kE := decide_eq_true c2
   clear c2
   replace H := bnd_ H
   obtain ⟨⟨gA, hA, iA, jA, eA, xA⟩, A3, H⟩ := H
   replace H := red_ H
   replace H := ite_ H
   obtain ⟨c4, H⟩ | ⟨c4, H⟩ := H
   ·have lE : (xA == 0) = true := beq_iff_eq.mpr c4
    have mE : (xA != 0) = false := bne_eq_false_iff_eq.mpr c4
    clear c4
    simp only [Option.some.injEq, Prod.mk.injEq] at H
    obtain ⟨rfl, rfl⟩ := H
    try go_wp2_with (first | ((with_reducible refine gate_callee (f := 81) rfl ?_); refine gl_ 15 Try.func81 #[.string a0, .int .i64 bB] rfl ma_ ?_; (with_reducible refine (spec_l1Take.calls k1 a0 bB gA hA iA jA eA xA _ A3.out).mono ?_); rintro e w5 ⟨pB, rfl, mB, hb⟩; refine ⟨_, rfl, ?_⟩; replace dA := Aside0.mk (Kd.S_elder' (ks_ dA.out) (Kd.R_base mB) hb); have cA := Aside0.mk (Kd.R_lower mB (below_size (hb_))); replace HB := nb_ hb; (try clear hb); (try clear hb2); (try clear hk); (try clear hi); (try clear mB)) | ((with_reducible refine gate_dst (N := 6) rfl ?_); (try (refine gate_guard (by rfl) ?_; dsimp only)); refine bq_ (N := 6) #[.int .i64 0, .int .i64 0, .int .i64 0, .int .i64 0, .slice none 0 0] 44 ?_; intro aA hg w6 bA hb; replace dA := Aside0.mk (Kd.S_below (Kd.S_elderB (ks_ dA.out) aA (Nat.le_of_eq hg.symm)) hb); replace cA := rB_ cA hb; have mA := ge_ hg; replace HB := nb_ hb; clear hb hg; obtain ⟨nE, oE, pE, qE, rE, sE, tE, uE, vE, wE⟩ := cf5_ bA.out; obtain ⟨nB, oB, iF⟩ := Kd.R_slice cA.out; subst iF))
    have n0_ : Aside0 (Kd.S k44 44 (((((w6.setCell ⟨aA, 0, none⟩ (.int .i64 gA)).setCell ⟨aA, 1, none⟩ (.int .i64 hA)).setCell ⟨aA, 2, none⟩ (.int .i64 iA)).setCell ⟨aA, 3, none⟩ (.int .i64 jA)).setCell ⟨aA, 4, none⟩ (.slice nB eA.length oB)) w.heap.size (fun k_ => some k_ ≠ (.slice nB eA.length oB : Value).ownBlock ∧ k_ ≠ aA) u4 fA) := ⟨Kd.S_mono (sF_ (Kd.S_mono dA.out (fun k_ hk => (⟨hk, hk.2⟩ : _ ∧ k_ ≠ aA)))) (fun _ hk => ⟨hk.1.1.2, hk.1.2⟩)⟩
    have n1_ : Aside0 (Kd.R Kd.string 9 (((((w6.setCell ⟨aA, 0, none⟩ (.int .i64 gA)).setCell ⟨aA, 1, none⟩ (.int .i64 hA)).setCell ⟨aA, 2, none⟩ (.int .i64 iA)).setCell ⟨aA, 3, none⟩ (.int .i64 jA)).setCell ⟨aA, 4, none⟩ (.slice nB eA.length oB)) w.heap.size (fun _ => True) (.slice nB eA.length oB) eA) := ⟨Kd.R_mono (rF_ (Kd.R_types cA.out bA.out (by decide))) (fun _ hk => trivial)⟩
    have n2_ : Aside0 ((((((w6.setCell ⟨aA, 0, none⟩ (.int .i64 gA)).setCell ⟨aA, 1, none⟩ (.int .i64 hA)).setCell ⟨aA, 2, none⟩ (.int .i64 iA)).setCell ⟨aA, 3, none⟩ (.int .i64 jA)).setCell ⟨aA, 4, none⟩ (.slice nB eA.length oB)).heap[aA]? = some (.cells #[.int .i64 gA, .int .i64 hA, .int .i64 iA, .int .i64 jA, .slice nB eA.length oB] 44 (0, 0))) := ⟨up_ bA⟩
    have n3_ : Aside0 (Below w.heap.size w (((((w6.setCell ⟨aA, 0, none⟩ (.int .i64 gA)).setCell ⟨aA, 1, none⟩ (.int .i64 hA)).setCell ⟨aA, 2, none⟩ (.int .i64 iA)).setCell ⟨aA, 3, none⟩ (.int .i64 jA)).setCell ⟨aA, 4, none⟩ (.slice nB eA.length oB))) := ⟨hs_ mA.out⟩
    (try clear dA)
    (try clear cA)
    (try clear bA)
    (try clear HB)
    generalize (((((w6.setCell ⟨aA, 0, none⟩ (.int .i64 gA)).setCell ⟨aA, 1, none⟩ (.int .i64 hA)).setCell ⟨aA, 2, none⟩ (.int .i64 iA)).setCell ⟨aA, 3, none⟩ (.int .i64 jA)).setCell ⟨aA, 4, none⟩ (.slice nB eA.length oB)) = w9 at n0_ n1_ n2_ n3_ ⊢
    have dA := n0_
    have cA := n1_
    have bA := n2_
    have HB := n3_
    clear n0_ n1_ n2_ n3_
    replace dA := Aside0.mk (Kd.S_drew dA.out)
    replace cA := qR_ cA
    replace bA := qK_ bA
    replace HB := qH_ HB
    refine start_ (n := 18) (S := fun w' => True) (ds := []) (List.replicate 18 false).toArray (by kernel_rfl) rfl rfl trivial (fun hHeld => ?_); refine with_tabW spec_l1Read.tab5 spec_l1Read.bits5 (fun HT_ HW_ => ?_)
    generalize w9.drew = sF at dA cA bA HB hHeld ⊢
    refine pv_ 0 18 ?_
    refine pv_ 1 19 ?_
    refine pv_ 2 20 ?_
    refine po_ 3 21 ?_
    refine po_ 4 22 ?_
    refine po_ 5 23 ?_
    refine po_ 6 24 ?_
    refine po_ 7 25 ?_
    refine po_ 8 26 ?_
    refine po_ 9 27 ?_
    refine po_ 10 28 ?_
    refine po_ 11 29 ?_
    refine po_ 12 30 ?_
    refine po_ 13 31 ?_
    refine po_ 14 32 ?_
    refine po_ 15 33 ?_
    refine po_ 16 34 ?_
    refine pv_ 17 35 ?_
    refine done_ (done_of HT_.out (by kernel_rfl)) ?_
    try go_wp2
    go_ret2
    exact ⟨_, er_, sF_ (Kd.S_mono dA.out (fun _ hk => trivial)), hs_ mA.out⟩
   have lE : (xA == 0) = false := beq_eq_false_iff_ne.mpr c4
   have mE : (xA != 0) = true := bne_iff_ne.mpr c4
   replace H := ite_ H
   obtain ⟨uB, H⟩ | ⟨uB, H⟩ := H
   rotate_left
   ·have vB := dgf_ uB
    have wB : decide (0 < fA.length) = false := decide_eq_false (by omega)
    clear uB
    replace H := ifs_ H
    obtain ⟨bF, H⟩ := H
    have xB := Aside0.mk bF
    clear bF
    obtain ⟨yB, kB⟩ : ∃ y_ : List (S44), y_ = (fA ++ [(⟨gA, hA, iA, jA, eA⟩ : S44)]) := ⟨_, rfl⟩
    replace H : (spec_l1Read.l0 k1 a0 yB xA) = some (r1, r2) := by first | (rw [kB]; with_reducible exact H) | (have H2_ := (Option.bind_some _ _).symm.trans H; rw [kB]; with_reducible exact H2_) | (have H2_ := (Option.bind_some _ _).symm.trans H; with_reducible exact H2_) | with_reducible exact H | (rw [kB]; exact H) | exact H
    have zB := Aside0.mk kB
    clear kB
    have H' := Aside0.mk H
    clear H
    try go_wp2_with (first | ((with_reducible refine gate_callee (f := 81) rfl ?_); refine gl_ 15 Try.func81 #[.string a0, .int .i64 bB] rfl ma_ ?_; (with_reducible refine (spec_l1Take.calls k1 a0 bB gA hA iA jA eA xA _ A3.out).mono ?_); rintro e tF ⟨pB, rfl, mB, hb⟩; refine ⟨_, rfl, ?_⟩; replace dA := Aside0.mk (Kd.S_elder' (ks_ dA.out) (Kd.R_base mB) hb); have cA := Aside0.mk (Kd.R_lower mB (below_size (hb_))); replace HB := nb_ hb; (try clear hb); (try clear hb2); (try clear hk); (try clear hi); (try clear mB)) | ((with_reducible refine gate_dst (N := 6) rfl ?_); (try (refine gate_guard (by rfl) ?_; dsimp only)); refine bq_ (N := 6) #[.int .i64 0, .int .i64 0, .int .i64 0, .int .i64 0, .slice none 0 0] 44 ?_; intro aA hg aC bA hb; replace dA := Aside0.mk (Kd.S_below (Kd.S_elderB (ks_ dA.out) aA (Nat.le_of_eq hg.symm)) hb); replace cA := rB_ cA hb; have mA := ge_ hg; replace HB := nb_ hb; clear hb hg; obtain ⟨mC, nC, oC, pC, qC, rC, sC, tC, uC, vC⟩ := cf5_ bA.out; obtain ⟨yA, zA, xE⟩ := Kd.R_slice cA.out; subst xE))
    have n0_ : Aside0 (Kd.S k44 44 (((((aC.setCell ⟨aA, 0, none⟩ (.int .i64 gA)).setCell ⟨aA, 1, none⟩ (.int .i64 hA)).setCell ⟨aA, 2, none⟩ (.int .i64 iA)).setCell ⟨aA, 3, none⟩ (.int .i64 jA)).setCell ⟨aA, 4, none⟩ (.slice yA eA.length zA)) w.heap.size (fun k_ => some k_ ≠ (.slice yA eA.length zA : Value).ownBlock ∧ k_ ≠ aA) u4 fA) := ⟨Kd.S_mono (sF_ (Kd.S_mono dA.out (fun k_ hk => (⟨hk, hk.2⟩ : _ ∧ k_ ≠ aA)))) (fun _ hk => ⟨hk.1.1.2, hk.1.2⟩)⟩
    have n1_ : Aside0 (Kd.R Kd.string 9 (((((aC.setCell ⟨aA, 0, none⟩ (.int .i64 gA)).setCell ⟨aA, 1, none⟩ (.int .i64 hA)).setCell ⟨aA, 2, none⟩ (.int .i64 iA)).setCell ⟨aA, 3, none⟩ (.int .i64 jA)).setCell ⟨aA, 4, none⟩ (.slice yA eA.length zA)) w.heap.size (fun _ => True) (.slice yA eA.length zA) eA) := ⟨Kd.R_mono (rF_ (Kd.R_types cA.out bA.out (by decide))) (fun _ hk => trivial)⟩
    have n2_ : Aside0 ((((((aC.setCell ⟨aA, 0, none⟩ (.int .i64 gA)).setCell ⟨aA, 1, none⟩ (.int .i64 hA)).setCell ⟨aA, 2, none⟩ (.int .i64 iA)).setCell ⟨aA, 3, none⟩ (.int .i64 jA)).setCell ⟨aA, 4, none⟩ (.slice yA eA.length zA)).heap[aA]? = some (.cells #[.int .i64 gA, .int .i64 hA, .int .i64 iA, .int .i64 jA, .slice yA eA.length zA] 44 (0, 0))) := ⟨up_ bA⟩
    have n3_ : Aside0 (Below w.heap.size w (((((aC.setCell ⟨aA, 0, none⟩ (.int .i64 gA)).setCell ⟨aA, 1, none⟩ (.int .i64 hA)).setCell ⟨aA, 2, none⟩ (.int .i64 iA)).setCell ⟨aA, 3, none⟩ (.int .i64 jA)).setCell ⟨aA, 4, none⟩ (.slice yA eA.length zA))) := ⟨hs_ mA.out⟩
    (try clear dA)
    (try clear cA)
    (try clear bA)
    (try clear HB)
    generalize (((((aC.setCell ⟨aA, 0, none⟩ (.int .i64 gA)).setCell ⟨aA, 1, none⟩ (.int .i64 hA)).setCell ⟨aA, 2, none⟩ (.int .i64 iA)).setCell ⟨aA, 3, none⟩ (.int .i64 jA)).setCell ⟨aA, 4, none⟩ (.slice yA eA.length zA)) = jF at n0_ n1_ n2_ n3_ ⊢
    have dA := n0_
    have cA := n1_
    have bA := n2_
    have HB := n3_
    clear n0_ n1_ n2_ n3_
    replace dA := Aside0.mk (Kd.S_drew dA.out)
    replace cA := qR_ cA
    replace bA := qK_ bA
    replace HB := qH_ HB
    obtain ⟨qB, rB, bC⟩ := Kd.S_slice dA.out
    (first | subst bC | (injection bC with f1_ f2_ f3_; have f4_ := f1_.symm; have f5_ := f3_.symm; clear f1_ f2_ f3_; subst f4_; subst f5_))
    refine start_ (n := 18) (S := fun w' => True) (ds := []) (List.replicate 18 false).toArray (by kernel_rfl) rfl rfl trivial (fun hHeld => ?_); refine with_tabW spec_l1Read.tab5 spec_l1Read.bits5 (fun HT_ HW_ => ?_)
    generalize jF.drew = uF at dA cA bA HB hHeld ⊢
    refine pv_ 0 18 ?_
    refine pv_ 1 19 ?_
    refine pv_ 2 20 ?_
    refine pv_ 3 21 ?_
    refine pv_ 4 22 ?_
    refine pv_ 5 23 ?_
    refine pv_ 6 24 ?_
    refine po_ 7 25 ?_
    refine po_ 8 26 ?_
    refine po_ 9 27 ?_
    refine po_ 10 28 ?_
    refine po_ 11 29 ?_
    refine po_ 12 30 ?_
    refine po_ 13 31 ?_
    refine po_ 14 32 ?_
    refine po_ 15 33 ?_
    refine pv_ 16 34 ?_
    refine pv_ 17 35 ?_
    refine done_ (done_of HT_.out (by kernel_rfl)) ?_
    obtain ⟨wC, xC, yC, zC, aD, bD, cD, dD, eD, fD⟩ := cf5_ bA.out
    try go_wp2_with (first | ((with_reducible refine gate_builtin (b := .append) (xs := #[.tmp 36, .tmp 38]) rfl ?_); (try (refine gate_guard (by rfl) ?_; dsimp only)); at_builtin; refine Kd.S_append k44 (w0 := w) w.heap.size rfl (.tmp 36) (.tmp 38) 26 44 (.agg #[(.int .i64 0), (.int .i64 0), (.int .i64 0), (.int .i64 0), (.slice none 0 0)]) 56 rfl Try.underlying26 info44 rfl (by decide) (by omega) (.slice qB fA.length rB) fA (⟨gA, hA, iA, jA, eA⟩ : S44) [.int .i64 gA, .int .i64 hA, .int .i64 iA, .int .i64 jA, .slice yA eA.length zA] (fun k_ => k_ ≠ aA) (fun k_ => some k_ = (.slice yA eA.length zA : Value).ownBlock) rfl rfl ?aP (fun k_ hk_ => ((Kd.R_mono (ok' := fun k_ => ((fun k_ => k_ ≠ aA)) k_ ∧ some k_ ≠ (.slice qB fA.length rB : Value).ownBlock) (Kd.R_types (Kd.R_apart' (cA.out) (Kd.S_typed dA.out) (by decide)) bA.out (by decide)) (fun k_ hk => ⟨hk.2, hk.1.2⟩))).1 k_ hk_.symm) ?aF ?aO ?aB ?aS ?aL ?_; (case aP => exact k44_mkM _ _ _ (⟨gA, hA, iA, jA, eA⟩ : S44) (Kd.R_mono (Kd.R_tight rfl (Kd.R_mono (ok' := fun k_ => ((fun k_ => k_ ≠ aA)) k_ ∧ some k_ ≠ (.slice qB fA.length rB : Value).ownBlock) (Kd.R_types (Kd.R_apart' (cA.out) (Kd.S_typed dA.out) (by decide)) bA.out (by decide)) (fun k_ hk => ⟨hk.2, hk.1.2⟩))) (fun _ h_ => h_))); (case aB => exact (hs_ mA.out)); (case aF => exact (fun k_ hk => Kd.freshB (g := aA) (o := .cells #[.int .i64 gA, .int .i64 hA, .int .i64 iA, .int .i64 jA, .slice yA eA.length zA] 44 (0, 0)) (kb_ bA.out) k_ hk)); (case aO => exact (sF_ (Kd.S_mono dA.out (fun k_ hk => ⟨hk.2, fun e_ => hk.1 e_⟩)))); (case aS => exact (below_size (hs_ mA.out))); (case aL => have := xB.out; omega); intro kF vF ho hb hg hat; rw [← zB.out] at ho; replace bA := Aside0.mk (blk_grown (g := aA) (o := .cells #[.int .i64 gA, .int .i64 hA, .int .i64 iA, .int .i64 jA, .slice yA eA.length zA] 44 (0, 0)) (kb_ bA.out) hg (Kd.S_away dA.out (fun _ hk => hk.2))); replace HB := Aside0.mk (hb); have cC := Aside0.mk (ho); clear dA cA; clear ho hb hg hat))
    go_roundg k1
    case measure => have := lC.out; omega
    case rel => exact ⟨(yB), (xA), sr_, H', ⟨by have := lC.out; omega⟩, ⟨sF_ (Kd.S_mono cC.out (fun _ hk => trivial))⟩, ⟨hs_ mA.out⟩⟩
   have vB := dgt_ uB
   have wB : decide (0 < fA.length) = true := decide_eq_true (by omega)
   clear uB
   obtain ⟨ji12, hji12⟩ : ∃ j_ : Int, (wrap64 ((fA.length : Int) - 1)) = j_ := ⟨_, rfl⟩
   first | rw [hji12] at H | simp only [hji12] at H
   (try rw [hji12] at A3)
   have hji12w : (IntKind.i64.wrap ((fA.length : Int) - 1)) = ji12 := (i64_w _).trans hji12
   replace H := ifs_ H
   obtain ⟨cF, H⟩ := H
   have dF := decide_eq_true cF
   clear cF
   replace H := ifs_ H
   obtain ⟨eF, H⟩ := H
   have fF := decide_eq_true eF
   clear eF
   replace H := bnd_ H
   obtain ⟨lF, gF, H⟩ := H
   replace H := ifb_ H
   obtain ⟨rfl, H⟩ | ⟨rfl, H⟩ := H
   rotate_left
   ·simp only [Option.some.injEq, Prod.mk.injEq] at H
    obtain ⟨rfl, rfl⟩ := H
    try go_wp2_with (first | ((with_reducible refine gate_callee (f := 81) rfl ?_); refine gl_ 15 Try.func81 #[.string a0, .int .i64 bB] rfl ma_ ?_; (with_reducible refine (spec_l1Take.calls k1 a0 bB gA hA iA jA eA xA _ A3.out).mono ?_); rintro e wF ⟨pB, rfl, mB, hb⟩; refine ⟨_, rfl, ?_⟩; replace dA := Aside0.mk (Kd.S_elder' (ks_ dA.out) (Kd.R_base mB) hb); have cA := Aside0.mk (Kd.R_lower mB (below_size (hb_))); replace HB := nb_ hb; (try clear hb); (try clear hb2); (try clear hk); (try clear hi); (try clear mB)) | ((with_reducible refine gate_dst (N := 6) rfl ?_); (try (refine gate_guard (by rfl) ?_; dsimp only)); refine bq_ (N := 6) #[.int .i64 0, .int .i64 0, .int .i64 0, .int .i64 0, .slice none 0 0] 44 ?_; intro aA hg dC bA hb; replace dA := Aside0.mk (Kd.S_below (Kd.S_elderB (ks_ dA.out) aA (Nat.le_of_eq hg.symm)) hb); replace cA := rB_ cA hb; have mA := ge_ hg; replace HB := nb_ hb; clear hb hg; obtain ⟨gD, hD, iD, jD, kD, lD, mD, nD, oD, pD⟩ := cf5_ bA.out; obtain ⟨fB, gB, yE⟩ := Kd.R_slice cA.out; subst yE))
    have n0_ : Aside0 (Kd.S k44 44 (((((dC.setCell ⟨aA, 0, none⟩ (.int .i64 gA)).setCell ⟨aA, 1, none⟩ (.int .i64 hA)).setCell ⟨aA, 2, none⟩ (.int .i64 iA)).setCell ⟨aA, 3, none⟩ (.int .i64 jA)).setCell ⟨aA, 4, none⟩ (.slice fB eA.length gB)) w.heap.size (fun k_ => some k_ ≠ (.slice fB eA.length gB : Value).ownBlock ∧ k_ ≠ aA) u4 fA) := ⟨Kd.S_mono (sF_ (Kd.S_mono dA.out (fun k_ hk => (⟨hk, hk.2⟩ : _ ∧ k_ ≠ aA)))) (fun _ hk => ⟨hk.1.1.2, hk.1.2⟩)⟩
    have n1_ : Aside0 (Kd.R Kd.string 9 (((((dC.setCell ⟨aA, 0, none⟩ (.int .i64 gA)).setCell ⟨aA, 1, none⟩ (.int .i64 hA)).setCell ⟨aA, 2, none⟩ (.int .i64 iA)).setCell ⟨aA, 3, none⟩ (.int .i64 jA)).setCell ⟨aA, 4, none⟩ (.slice fB eA.length gB)) w.heap.size (fun _ => True) (.slice fB eA.length gB) eA) := ⟨Kd.R_mono (rF_ (Kd.R_types cA.out bA.out (by decide))) (fun _ hk => trivial)⟩
    have n2_ : Aside0 ((((((dC.setCell ⟨aA, 0, none⟩ (.int .i64 gA)).setCell ⟨aA, 1, none⟩ (.int .i64 hA)).setCell ⟨aA, 2, none⟩ (.int .i64 iA)).setCell ⟨aA, 3, none⟩ (.int .i64 jA)).setCell ⟨aA, 4, none⟩ (.slice fB eA.length gB)).heap[aA]? = some (.cells #[.int .i64 gA, .int .i64 hA, .int .i64 iA, .int .i64 jA, .slice fB eA.length gB] 44 (0, 0))) := ⟨up_ bA⟩
    have n3_ : Aside0 (Below w.heap.size w (((((dC.setCell ⟨aA, 0, none⟩ (.int .i64 gA)).setCell ⟨aA, 1, none⟩ (.int .i64 hA)).setCell ⟨aA, 2, none⟩ (.int .i64 iA)).setCell ⟨aA, 3, none⟩ (.int .i64 jA)).setCell ⟨aA, 4, none⟩ (.slice fB eA.length gB))) := ⟨hs_ mA.out⟩
    (try clear dA)
    (try clear cA)
    (try clear bA)
    (try clear HB)
    generalize (((((dC.setCell ⟨aA, 0, none⟩ (.int .i64 gA)).setCell ⟨aA, 1, none⟩ (.int .i64 hA)).setCell ⟨aA, 2, none⟩ (.int .i64 iA)).setCell ⟨aA, 3, none⟩ (.int .i64 jA)).setCell ⟨aA, 4, none⟩ (.slice fB eA.length gB)) = mF at n0_ n1_ n2_ n3_ ⊢
    have dA := n0_
    have cA := n1_
    have bA := n2_
    have HB := n3_
    clear n0_ n1_ n2_ n3_
    replace dA := Aside0.mk (Kd.S_drew dA.out)
    replace cA := qR_ cA
    replace bA := qK_ bA
    replace HB := qH_ HB
    obtain ⟨nF, oF, eC⟩ := Kd.S_slice dA.out
    (first | subst eC | (injection eC with f1_ f2_ f3_; have f4_ := f1_.symm; have f5_ := f3_.symm; clear f1_ f2_ f3_; subst f4_; subst f5_))
    have hB : 0 ≤ ((ji12) : Int) := oa_
    have iB : (ji12) < (fA.length : Int) := oa_
    obtain ⟨lA, cB, dB, sB, rA, sA, tA, uA, oA, vA, wA⟩ := at_T44 (Kd.S_reads' dA.out).2.2 (ji12) hB iB
    cases sB
    obtain ⟨ce240, hce240, hMe240, eB⟩ := Kd.S_get dA.out z44 (ji12) hB (by first | exact iB | exact oa_ | (have e_ := (Kd.S_reads' dA.out).1; omega))
    obtain ⟨ve240_4, rfl, ge240_4⟩ := k44_openM hMe240
    have hv240_4 := eB 4 _ rfl
    rw [add_field _ _ 4 (by omega)] at hv240_4
    replace hv240_4 := Option.some.inj (hv240_4.symm.trans oA)
    rw [hv240_4] at ge240_4
    have nA := Aside0.mk (show Kd.R Kd.string 9 _ _ _ _ ((rd_T44 fA (ji12)).f4) from ge240_4)
    clear hv240_4 ge240_4
    clear eB hce240
    have kA := Aside0.mk wA
    have jB := Aside0.mk vA
    clear wA vA
    replace hB := eq_true hB
    replace iB := eq_true iB
    refine start_ (n := 18) (S := fun w' => w'.cell? ⟨aA, 0, none⟩ = some (.int .i64 gA) ∧ w'.cell? ⟨aA, 1, none⟩ = some (.int .i64 hA) ∧ w'.cell? ⟨aA, 2, none⟩ = some (.int .i64 iA) ∧ w'.cell? ⟨aA, 3, none⟩ = some (.int .i64 jA) ∧ w'.cell? ⟨aA, 4, none⟩ = some (.slice fB eA.length gB) ∧ w'.cell? (lA.add (((ji12)).toNat * 5)) = some (.int .i64 ((rd_T44 fA (ji12)).f0)) ∧ w'.cell? ⟨(lA.add (((ji12)).toNat * 5)).block, (lA.add (((ji12)).toNat * 5)).off + 1, none⟩ = some (.int .i64 ((rd_T44 fA (ji12)).f1)) ∧ w'.cell? ⟨(lA.add (((ji12)).toNat * 5)).block, (lA.add (((ji12)).toNat * 5)).off + 2, none⟩ = some (.int .i64 ((rd_T44 fA (ji12)).f2)) ∧ w'.cell? ⟨(lA.add (((ji12)).toNat * 5)).block, (lA.add (((ji12)).toNat * 5)).off + 3, none⟩ = some (.int .i64 ((rd_T44 fA (ji12)).f3)) ∧ w'.cell? ⟨(lA.add (((ji12)).toNat * 5)).block, (lA.add (((ji12)).toNat * 5)).off + 4, none⟩ = some (.slice cB ((rd_T44 fA (ji12)).f4).length dB)) (ds := []) (List.replicate 18 false).toArray (by kernel_rfl) rfl rfl ⟨bt_ bA 0, bt_ bA 1, bt_ bA 2, bt_ bA 3, bt_ bA 4, rA, sA, tA, uA, oA⟩ (fun hHeld => ?_); refine with_tabW spec_l1Read.tab5 spec_l1Read.bits5 (fun HT_ HW_ => ?_)
    generalize mF.drew = xF at dA cA bA HB nA kA rA sA tA uA oA hHeld ⊢
    refine pv_ 0 18 ?_
    refine pv_ 1 19 ?_
    refine pv_ 2 20 ?_
    refine pv_ 3 21 ?_
    refine pv_ 4 22 ?_
    refine pv_ 5 23 ?_
    refine pv_ 6 24 ?_
    refine pv_ 7 25 ?_
    refine pv_ 8 26 ?_
    refine pv_ 9 27 ?_
    refine pv_ 10 28 ?_
    refine pv_ 11 29 ?_
    refine tk_ 12 30 ?_
    refine tk_ 13 31 ?_
    refine on_ 14 32 (fun K hK => ?_)
    refine gs_ Try.func60 #[.agg #[.int .i64 ((rd_T44 fA (ji12)).f0), .int .i64 ((rd_T44 fA (ji12)).f1), .int .i64 ((rd_T44 fA (ji12)).f2), .int .i64 ((rd_T44 fA (ji12)).f3), .slice cB ((rd_T44 fA (ji12)).f4).length dB], .agg #[.int .i64 gA, .int .i64 hA, .int .i64 iA, .int .i64 jA, .slice fB eA.length gB]] rfl (mb_ hji12) ?_
    with_reducible refine (spec_l1Next.calls ((rd_T44 fA (ji12)).f0) ((rd_T44 fA (ji12)).f1) ((rd_T44 fA (ji12)).f2) ((rd_T44 fA (ji12)).f3) _ _ ((rd_T44 fA (ji12)).f4) gA hA iA jA _ _ eA false _ ?side1 ?side2 ?side3 ?side4 gF.out).mono ?_
    (case side1 => repeat (first | exact (by repeat (first | (with_reducible exact kA.out) | (with_reducible refine Kd.C_alloc ?_ _) | (with_reducible refine Kd.C_drewN ?_ _) | (with_reducible refine Kd.C_drew ?_) | exact kA.out)) | (with_reducible refine Kd.C_alloc ?_ _) | (with_reducible refine Kd.C_drewN ?_ _) | (with_reducible refine Kd.C_drew ?_)))
    (case side2 => exact jB.out)
    (case side3 => exact cs_ ((Kd.R_reads' cA.out).2.2))
    (case side4 => exact (Kd.R_reads' cA.out).2.1)
    rintro e yF ⟨rfl, hb⟩
    have HS5_ := (hb.cell (World.block_lt_of_cell? _ _ (hHeld.2.2.2.2.2.1))).trans (hHeld.2.2.2.2.2.1)
    have HS6_ := (hb.cell (World.block_lt_of_cell? _ _ (hHeld.2.2.2.2.2.2.1))).trans (hHeld.2.2.2.2.2.2.1)
    have HS7_ := (hb.cell (World.block_lt_of_cell? _ _ (hHeld.2.2.2.2.2.2.2.1))).trans (hHeld.2.2.2.2.2.2.2.1)
    have HS8_ := (hb.cell (World.block_lt_of_cell? _ _ (hHeld.2.2.2.2.2.2.2.2.1))).trans (hHeld.2.2.2.2.2.2.2.2.1)
    have HS9_ := (hb.cell (World.block_lt_of_cell? _ _ (hHeld.2.2.2.2.2.2.2.2.2))).trans (hHeld.2.2.2.2.2.2.2.2.2)
    refine ⟨_, rfl, ?_⟩
    replace dA := sB_ dA hb
    replace cA := rB_ cA hb
    replace nA := rB_ nA hb
    replace bA := bK_ bA hb
    replace kA := Aside0.mk (Kd.C_below (by repeat (first | (with_reducible exact kA.out) | (with_reducible refine Kd.C_alloc ?_ _) | (with_reducible refine Kd.C_drewN ?_ _) | (with_reducible refine Kd.C_drew ?_) | exact kA.out)) hb)
    replace HB := nc_ mA hb
    (try clear hb)
    (try clear hb2)
    (try clear hk)
    (try clear hi)
    refine hK.out _ _ ⟨bt_ bA 0, bt_ bA 1, bt_ bA 2, bt_ bA 3, bt_ bA 4, HS5_, HS6_, HS7_, HS8_, HS9_⟩ (fun hHeld => ?_)
    clear hK K
    refine no_ ?_
    refine pv_ 15 33 ?_
    refine pv_ 16 34 ?_
    refine pv_ 17 35 ?_
    refine done_ (done_of HT_.out (by kernel_rfl)) ?_
    try go_wp2
    go_ret2
    exact ⟨_, by first | rfl | (simp [errW_none, errW_some] <;> rfl) | (simp only [← hji12]; first | rfl | (simp [errW_none, errW_some] <;> rfl)) | (simp [*, errW_none, errW_some] <;> rfl), sF_ (Kd.S_mono dA.out (fun _ hk => trivial)), hs_ mA.out⟩
   replace H := ifs_ H
   obtain ⟨hF, H⟩ := H
   have fC := Aside0.mk hF
   clear hF
   obtain ⟨gC, lB⟩ : ∃ y_ : List (S44), y_ = (fA ++ [(⟨gA, hA, iA, jA, eA⟩ : S44)]) := ⟨_, rfl⟩
   replace H : (spec_l1Read.l0 k1 a0 gC xA) = some (r1, r2) := by first | (rw [lB]; with_reducible exact H) | (have H2_ := (Option.bind_some _ _).symm.trans H; rw [lB]; with_reducible exact H2_) | (have H2_ := (Option.bind_some _ _).symm.trans H; with_reducible exact H2_) | with_reducible exact H | (rw [lB]; exact H) | exact H
   have hC := Aside0.mk lB
   clear lB
   have H' := Aside0.mk H
   clear H
   try go_wp2_with (first | ((with_reducible refine gate_callee (f := 81) rfl ?_); refine gl_ 15 Try.func81 #[.string a0, .int .i64 bB] rfl ma_ ?_; (with_reducible refine (spec_l1Take.calls k1 a0 bB gA hA iA jA eA xA _ A3.out).mono ?_); rintro e zF ⟨pB, rfl, mB, hb⟩; refine ⟨_, rfl, ?_⟩; replace dA := Aside0.mk (Kd.S_elder' (ks_ dA.out) (Kd.R_base mB) hb); have cA := Aside0.mk (Kd.R_lower mB (below_size (hb_))); replace HB := nb_ hb; (try clear hb); (try clear hb2); (try clear hk); (try clear hi); (try clear mB)) | ((with_reducible refine gate_dst (N := 6) rfl ?_); (try (refine gate_guard (by rfl) ?_; dsimp only)); refine bq_ (N := 6) #[.int .i64 0, .int .i64 0, .int .i64 0, .int .i64 0, .slice none 0 0] 44 ?_; intro aA hg iC bA hb; replace dA := Aside0.mk (Kd.S_below (Kd.S_elderB (ks_ dA.out) aA (Nat.le_of_eq hg.symm)) hb); replace cA := rB_ cA hb; have mA := ge_ hg; replace HB := nb_ hb; clear hb hg; obtain ⟨qD, rD, sD, tD, uD, vD, wD, xD, yD, zD⟩ := cf5_ bA.out; obtain ⟨pA, qA, zE⟩ := Kd.R_slice cA.out; subst zE))
   have n0_ : Aside0 (Kd.S k44 44 (((((iC.setCell ⟨aA, 0, none⟩ (.int .i64 gA)).setCell ⟨aA, 1, none⟩ (.int .i64 hA)).setCell ⟨aA, 2, none⟩ (.int .i64 iA)).setCell ⟨aA, 3, none⟩ (.int .i64 jA)).setCell ⟨aA, 4, none⟩ (.slice pA eA.length qA)) w.heap.size (fun k_ => some k_ ≠ (.slice pA eA.length qA : Value).ownBlock ∧ k_ ≠ aA) u4 fA) := ⟨Kd.S_mono (sF_ (Kd.S_mono dA.out (fun k_ hk => (⟨hk, hk.2⟩ : _ ∧ k_ ≠ aA)))) (fun _ hk => ⟨hk.1.1.2, hk.1.2⟩)⟩
   have n1_ : Aside0 (Kd.R Kd.string 9 (((((iC.setCell ⟨aA, 0, none⟩ (.int .i64 gA)).setCell ⟨aA, 1, none⟩ (.int .i64 hA)).setCell ⟨aA, 2, none⟩ (.int .i64 iA)).setCell ⟨aA, 3, none⟩ (.int .i64 jA)).setCell ⟨aA, 4, none⟩ (.slice pA eA.length qA)) w.heap.size (fun _ => True) (.slice pA eA.length qA) eA) := ⟨Kd.R_mono (rF_ (Kd.R_types cA.out bA.out (by decide))) (fun _ hk => trivial)⟩
   have n2_ : Aside0 ((((((iC.setCell ⟨aA, 0, none⟩ (.int .i64 gA)).setCell ⟨aA, 1, none⟩ (.int .i64 hA)).setCell ⟨aA, 2, none⟩ (.int .i64 iA)).setCell ⟨aA, 3, none⟩ (.int .i64 jA)).setCell ⟨aA, 4, none⟩ (.slice pA eA.length qA)).heap[aA]? = some (.cells #[.int .i64 gA, .int .i64 hA, .int .i64 iA, .int .i64 jA, .slice pA eA.length qA] 44 (0, 0))) := ⟨up_ bA⟩
   have n3_ : Aside0 (Below w.heap.size w (((((iC.setCell ⟨aA, 0, none⟩ (.int .i64 gA)).setCell ⟨aA, 1, none⟩ (.int .i64 hA)).setCell ⟨aA, 2, none⟩ (.int .i64 iA)).setCell ⟨aA, 3, none⟩ (.int .i64 jA)).setCell ⟨aA, 4, none⟩ (.slice pA eA.length qA))) := ⟨hs_ mA.out⟩
   (try clear dA)
   (try clear cA)
   (try clear bA)
   (try clear HB)
   generalize (((((iC.setCell ⟨aA, 0, none⟩ (.int .i64 gA)).setCell ⟨aA, 1, none⟩ (.int .i64 hA)).setCell ⟨aA, 2, none⟩ (.int .i64 iA)).setCell ⟨aA, 3, none⟩ (.int .i64 jA)).setCell ⟨aA, 4, none⟩ (.slice pA eA.length qA)) = pF at n0_ n1_ n2_ n3_ ⊢
   have dA := n0_
   have cA := n1_
   have bA := n2_
   have HB := n3_
   clear n0_ n1_ n2_ n3_
   replace dA := Aside0.mk (Kd.S_drew dA.out)
   replace cA := qR_ cA
   replace bA := qK_ bA
   replace HB := qH_ HB
   obtain ⟨qF, tB, jC⟩ := Kd.S_slice dA.out
   (first | subst jC | (injection jC with f1_ f2_ f3_; have f4_ := f1_.symm; have f5_ := f3_.symm; clear f1_ f2_ f3_; subst f4_; subst f5_))
   have hB : 0 ≤ ((ji12) : Int) := oa_
   have iB : (ji12) < (fA.length : Int) := oa_
   obtain ⟨lA, cB, dB, sB, rA, sA, tA, uA, oA, vA, wA⟩ := at_T44 (Kd.S_reads' dA.out).2.2 (ji12) hB iB
   cases sB
   obtain ⟨ce240, hce240, hMe240, eB⟩ := Kd.S_get dA.out z44 (ji12) hB (by first | exact iB | exact oa_ | (have e_ := (Kd.S_reads' dA.out).1; omega))
   obtain ⟨ve240_4, rfl, ge240_4⟩ := k44_openM hMe240
   have hv240_4 := eB 4 _ rfl
   rw [add_field _ _ 4 (by omega)] at hv240_4
   replace hv240_4 := Option.some.inj (hv240_4.symm.trans oA)
   rw [hv240_4] at ge240_4
   have nA := Aside0.mk (show Kd.R Kd.string 9 _ _ _ _ ((rd_T44 fA (ji12)).f4) from ge240_4)
   clear hv240_4 ge240_4
   clear eB hce240
   have kA := Aside0.mk wA
   have jB := Aside0.mk vA
   clear wA vA
   replace hB := eq_true hB
   replace iB := eq_true iB
   refine start_ (n := 18) (S := fun w' => w'.cell? ⟨aA, 0, none⟩ = some (.int .i64 gA) ∧ w'.cell? ⟨aA, 1, none⟩ = some (.int .i64 hA) ∧ w'.cell? ⟨aA, 2, none⟩ = some (.int .i64 iA) ∧ w'.cell? ⟨aA, 3, none⟩ = some (.int .i64 jA) ∧ w'.cell? ⟨aA, 4, none⟩ = some (.slice pA eA.length qA) ∧ w'.cell? (lA.add (((ji12)).toNat * 5)) = some (.int .i64 ((rd_T44 fA (ji12)).f0)) ∧ w'.cell? ⟨(lA.add (((ji12)).toNat * 5)).block, (lA.add (((ji12)).toNat * 5)).off + 1, none⟩ = some (.int .i64 ((rd_T44 fA (ji12)).f1)) ∧ w'.cell? ⟨(lA.add (((ji12)).toNat * 5)).block, (lA.add (((ji12)).toNat * 5)).off + 2, none⟩ = some (.int .i64 ((rd_T44 fA (ji12)).f2)) ∧ w'.cell? ⟨(lA.add (((ji12)).toNat * 5)).block, (lA.add (((ji12)).toNat * 5)).off + 3, none⟩ = some (.int .i64 ((rd_T44 fA (ji12)).f3)) ∧ w'.cell? ⟨(lA.add (((ji12)).toNat * 5)).block, (lA.add (((ji12)).toNat * 5)).off + 4, none⟩ = some (.slice cB ((rd_T44 fA (ji12)).f4).length dB)) (ds := []) (List.replicate 18 false).toArray (by kernel_rfl) rfl rfl ⟨bt_ bA 0, bt_ bA 1, bt_ bA 2, bt_ bA 3, bt_ bA 4, rA, sA, tA, uA, oA⟩ (fun hHeld => ?_); refine with_tabW spec_l1Read.tab5 spec_l1Read.bits5 (fun HT_ HW_ => ?_)
   generalize pF.drew = aG at dA cA bA HB nA kA rA sA tA uA oA hHeld ⊢
   refine pv_ 0 18 ?_
   refine pv_ 1 19 ?_
   refine pv_ 2 20 ?_
   refine pv_ 3 21 ?_
   refine pv_ 4 22 ?_
   refine pv_ 5 23 ?_
   refine pv_ 6 24 ?_
   refine pv_ 7 25 ?_
   refine pv_ 8 26 ?_
   refine pv_ 9 27 ?_
   refine pv_ 10 28 ?_
   refine pv_ 11 29 ?_
   refine tk_ 12 30 ?_
   refine tk_ 13 31 ?_
   refine on_ 14 32 (fun K hK => ?_)
   refine gs_ Try.func60 #[.agg #[.int .i64 ((rd_T44 fA (ji12)).f0), .int .i64 ((rd_T44 fA (ji12)).f1), .int .i64 ((rd_T44 fA (ji12)).f2), .int .i64 ((rd_T44 fA (ji12)).f3), .slice cB ((rd_T44 fA (ji12)).f4).length dB], .agg #[.int .i64 gA, .int .i64 hA, .int .i64 iA, .int .i64 jA, .slice pA eA.length qA]] rfl (mb_ hji12) ?_
   with_reducible refine (spec_l1Next.calls ((rd_T44 fA (ji12)).f0) ((rd_T44 fA (ji12)).f1) ((rd_T44 fA (ji12)).f2) ((rd_T44 fA (ji12)).f3) _ _ ((rd_T44 fA (ji12)).f4) gA hA iA jA _ _ eA true _ ?side1 ?side2 ?side3 ?side4 gF.out).mono ?_
   (case side1 => repeat (first | exact (by repeat (first | (with_reducible exact kA.out) | (with_reducible refine Kd.C_alloc ?_ _) | (with_reducible refine Kd.C_drewN ?_ _) | (with_reducible refine Kd.C_drew ?_) | exact kA.out)) | (with_reducible refine Kd.C_alloc ?_ _) | (with_reducible refine Kd.C_drewN ?_ _) | (with_reducible refine Kd.C_drew ?_)))
   (case side2 => exact jB.out)
   (case side3 => exact cs_ ((Kd.R_reads' cA.out).2.2))
   (case side4 => exact (Kd.R_reads' cA.out).2.1)
   rintro e bG ⟨rfl, hb⟩
   have HS5_ := (hb.cell (World.block_lt_of_cell? _ _ (hHeld.2.2.2.2.2.1))).trans (hHeld.2.2.2.2.2.1)
   have HS6_ := (hb.cell (World.block_lt_of_cell? _ _ (hHeld.2.2.2.2.2.2.1))).trans (hHeld.2.2.2.2.2.2.1)
   have HS7_ := (hb.cell (World.block_lt_of_cell? _ _ (hHeld.2.2.2.2.2.2.2.1))).trans (hHeld.2.2.2.2.2.2.2.1)
   have HS8_ := (hb.cell (World.block_lt_of_cell? _ _ (hHeld.2.2.2.2.2.2.2.2.1))).trans (hHeld.2.2.2.2.2.2.2.2.1)
   have HS9_ := (hb.cell (World.block_lt_of_cell? _ _ (hHeld.2.2.2.2.2.2.2.2.2))).trans (hHeld.2.2.2.2.2.2.2.2.2)
   refine ⟨_, rfl, ?_⟩
   replace dA := sB_ dA hb
   replace cA := rB_ cA hb
   replace nA := rB_ nA hb
   replace bA := bK_ bA hb
   replace kA := Aside0.mk (Kd.C_below (by repeat (first | (with_reducible exact kA.out) | (with_reducible refine Kd.C_alloc ?_ _) | (with_reducible refine Kd.C_drewN ?_ _) | (with_reducible refine Kd.C_drew ?_) | exact kA.out)) hb)
   replace HB := nc_ mA hb
   (try clear hb)
   (try clear hb2)
   (try clear hk)
   (try clear hi)
   refine hK.out _ _ ⟨bt_ bA 0, bt_ bA 1, bt_ bA 2, bt_ bA 3, bt_ bA 4, HS5_, HS6_, HS7_, HS8_, HS9_⟩ (fun hHeld => ?_)
   clear hK K
   refine no_ ?_
   refine pv_ 15 33 ?_
   refine pv_ 16 34 ?_
   refine pv_ 17 35 ?_
   refine done_ (done_of HT_.out (by kernel_rfl)) ?_
   obtain ⟨aE, bE, cE, dE, eE, fE, gE, hE, iE, jE⟩ := cf5_ bA.out
   try go_wp2_with (first | ((with_reducible refine gate_builtin (b := .append) (xs := #[.tmp 36, .tmp 38]) rfl ?_); (try (refine gate_guard (by rfl) ?_; dsimp only)); at_builtin; refine Kd.S_append k44 (w0 := w) w.heap.size rfl (.tmp 36) (.tmp 38) 26 44 (.agg #[(.int .i64 0), (.int .i64 0), (.int .i64 0), (.int .i64 0), (.slice none 0 0)]) 56 rfl Try.underlying26 info44 rfl (by decide) (by omega) (.slice (some lA) fA.length tB) fA (⟨gA, hA, iA, jA, eA⟩ : S44) [.int .i64 gA, .int .i64 hA, .int .i64 iA, .int .i64 jA, .slice pA eA.length qA] (fun k_ => k_ ≠ aA) (fun k_ => some k_ = (.slice pA eA.length qA : Value).ownBlock) rfl rfl ?aP (fun k_ hk_ => ((Kd.R_mono (ok' := fun k_ => ((fun k_ => k_ ≠ aA)) k_ ∧ some k_ ≠ (.slice (some lA) fA.length tB : Value).ownBlock) (Kd.R_types (Kd.R_apart' (cA.out) (Kd.S_typed dA.out) (by decide)) bA.out (by decide)) (fun k_ hk => ⟨hk.2, hk.1.2⟩))).1 k_ hk_.symm) ?aF ?aO ?aB ?aS ?aL ?_; (case aP => exact k44_mkM _ _ _ (⟨gA, hA, iA, jA, eA⟩ : S44) (Kd.R_mono (Kd.R_tight rfl (Kd.R_mono (ok' := fun k_ => ((fun k_ => k_ ≠ aA)) k_ ∧ some k_ ≠ (.slice (some lA) fA.length tB : Value).ownBlock) (Kd.R_types (Kd.R_apart' (cA.out) (Kd.S_typed dA.out) (by decide)) bA.out (by decide)) (fun k_ hk => ⟨hk.2, hk.1.2⟩))) (fun _ h_ => h_))); (case aB => exact (hs_ mA.out)); (case aF => exact (fun k_ hk => Kd.freshB (g := aA) (o := .cells #[.int .i64 gA, .int .i64 hA, .int .i64 iA, .int .i64 jA, .slice pA eA.length qA] 44 (0, 0)) (kb_ bA.out) k_ hk)); (case aO => exact (sF_ (Kd.S_mono dA.out (fun k_ hk => ⟨hk.2, fun e_ => hk.1 e_⟩)))); (case aS => exact (below_size (hs_ mA.out))); (case aL => have := fC.out; omega); intro rF cG ho hb hg hat; rw [← hC.out] at ho; replace bA := Aside0.mk (blk_grown (g := aA) (o := .cells #[.int .i64 gA, .int .i64 hA, .int .i64 iA, .int .i64 jA, .slice pA eA.length qA] 44 (0, 0)) (kb_ bA.out) hg (Kd.S_away dA.out (fun _ hk => hk.2))); replace nA := Aside0.mk (Kd.R_after (ok := (fun k_ => some k_ ≠ (.slice pA eA.length qA : Value).ownBlock ∧ k_ ≠ aA)) (kr_ nA.out) hg hat); replace HB := Aside0.mk (hb); have kC := Aside0.mk (ho); clear dA cA; clear ho hb hg hat))
   go_roundg k1
   case measure => have := lC.out; omega
   case rel => exact ⟨(gC), (xA), sr_, H', ⟨by have := lC.out; omega⟩, ⟨sF_ (Kd.S_mono kC.out (fun _ hk => trivial))⟩, ⟨hs_ mA.out⟩⟩
/-! ### spec_WriteBatch: function 18 -/
mutual
def spec_WriteBatch.j0 : Nat → Int → Bool → List (S56) → Int → Int → Int → Int → List ByteArray → Option ((List (S56)) × Bool)
 | 0, _, _, _, _, _, _, _, _ => none
 | k + 1, x1, x18, x249000, x250000, x250001, x250002, x250003, x250004 => if x18 = true then (some (([] : List (S56)), false)) else (if 0 ≤ x1 then (if x1 < (x249000.length : Int) then ((spec_l1Read.f k ((rd_T56 x249000 x1).f0)).bind fun bt254 => (if bt254.2 = (((rd_T56 x249000 x1).f0).size : Int) then (if (bt254.1.length : Int) > 0 then (if 0 ≤ (wrap64 ((bt254.1.length : Int) - 1)) then (if (wrap64 ((bt254.1.length : Int) - 1)) < (bt254.1.length : Int) then ((spec_l1Next.f ((rd_T44 bt254.1 (wrap64 ((bt254.1.length : Int) - 1))).f0) ((rd_T44 bt254.1 (wrap64 ((bt254.1.length : Int) - 1))).f1) ((rd_T44 bt254.1 (wrap64 ((bt254.1.length : Int) - 1))).f2) ((rd_T44 bt254.1 (wrap64 ((bt254.1.length : Int) - 1))).f3) ((rd_T44 bt254.1 (wrap64 ((bt254.1.length : Int) - 1))).f4) x250000 x250001 x250002 x250003 x250004).bind fun t260 => (spec_WriteBatch.j1 k x1 (!t260) x249000 x250000 x250001 x250002 x250003 x250004)) else (none)) else (none)) else (spec_WriteBatch.j1 k x1 false x249000 x250000 x250001 x250002 x250003 x250004)) else (spec_WriteBatch.j1 k x1 true x249000 x250000 x250001 x250002 x250003 x250004))) else (none)) else (none))
def spec_WriteBatch.j1 : Nat → Int → Bool → List (S56) → Int → Int → Int → Int → List ByteArray → Option ((List (S56)) × Bool)
 | 0, _, _, _, _, _, _, _, _ => none
 | k + 1, x1, x54, x249000, x250000, x250001, x250002, x250003, x250004 => if x54 = true then (some (([] : List (S56)), false)) else ((spec_l1Batch.f k x250000 x250001 x250002 x250003 x250004).bind fun t261 => ((spec_AppendTo.f k x249000 x1 t261).bind fun bt262 => (some (bt262.1, bt262.2))))
end
def spec_WriteBatch.f (k : Nat) (l0_0 : List (S56)) (a1 : Int) (a2_0 : Int) (a2_1 : Int) (a2_2 : Int) (a2_3 : Int) (l2_4 : List ByteArray) : Option ((List (S56)) × Bool) := (spec_l3File.f k l0_0 a1).bind fun t251 => (if t251 = true then ((spec_GoodBatch.f k a2_0 a2_1 a2_2 a2_3 l2_4).bind fun t252 => (spec_WriteBatch.j0 k a1 (!t252) l0_0 a2_0 a2_1 a2_2 a2_3 l2_4)) else (spec_WriteBatch.j0 k a1 true l0_0 a2_0 a2_1 a2_2 a2_3 l2_4))
theorem spec_WriteBatch.mono_l : ∀ k, (∀ y0 y1 y2 y3 y4 y5 y6 y7, LeO (spec_WriteBatch.j0 k y0 y1 y2 y3 y4 y5 y6 y7) (spec_WriteBatch.j0 (k + 1) y0 y1 y2 y3 y4 y5 y6 y7)) ∧ (∀ y0 y1 y2 y3 y4 y5 y6 y7, LeO (spec_WriteBatch.j1 k y0 y1 y2 y3 y4 y5 y6 y7) (spec_WriteBatch.j1 (k + 1) y0 y1 y2 y3 y4 y5 y6 y7))
 | 0 => ⟨fun _ _ _ _ _ _ _ _ r h => by simp [spec_WriteBatch.j0] at h, fun _ _ _ _ _ _ _ _ r h => by simp [spec_WriteBatch.j1] at h⟩
 | k + 1 => by
  obtain ⟨ih0, ih1⟩ := spec_WriteBatch.mono_l k
  refine ⟨?_, ?_⟩
  all_goals intros; first | unfold spec_WriteBatch.j0 | unfold spec_WriteBatch.j1
  all_goals repeat' first | (with_reducible first | apply ih0 | apply ih1 | apply spec_AppendTo.mono | apply spec_GoodBatch.mono | apply spec_l1Batch.mono | apply spec_l1Read.mono | apply spec_l3File.mono | exact LeO.refl _ | exact LeO.none _ | refine LeO.ite ?_ ?_ | refine LeO.bind ?_ (fun _ => ?_))
theorem spec_WriteBatch.mono : ∀ a0 a1 a2 a3 a4 a5 a6 k, LeO (spec_WriteBatch.f k a0 a1 a2 a3 a4 a5 a6) (spec_WriteBatch.f (k + 1) a0 a1 a2 a3 a4 a5 a6) := by
 intro a0 a1 a2 a3 a4 a5 a6 k
 obtain ⟨ih0, ih1⟩ := spec_WriteBatch.mono_l k
 unfold spec_WriteBatch.f
 repeat' first
   | (with_reducible first | apply ih0 | apply ih1 | apply spec_AppendTo.mono | apply spec_GoodBatch.mono | apply spec_l1Batch.mono | apply spec_l1Read.mono | apply spec_l3File.mono | exact LeO.refl _ | exact LeO.none _ | refine LeO.ite ?_ ?_ | refine LeO.bind ?_ (fun _ => ?_))
def spec_WriteBatch.T4 : Bool × List (List Nat × List Nat) := (true, [([], []), ([], []), ([1], [1]), ([], []), ([2, 3], [2, 3]), ([4], [4]), ([5], [5]), ([6], [6]), ([0, 7], [0, 7]), ([8], [8]), ([9], [9]), ([10, 9], [9, 10]), ([11, 9], [9, 11]), ([12, 9, 9], [9, 12]), ([13], [13]), ([13], [13]), ([15, 13], [13, 15]), ([16, 13], [13, 16]), ([14, 17, 13], [13, 14, 17]), ([18, 13], [13, 18]), ([13], [13]), ([19, 20, 13, 13], [13, 19, 20]), ([21, 13], [13, 21]), ([13, 22, 9], [9, 13, 22]), ([9, 23], [9, 23])])
def spec_WriteBatch.B4 : List Nat := [0, 0, 2, 0, 14, 30, 62, 126, 255, 511, 1023, 2047, 4095, 8191, 16383, 16383, 49151, 114687, 262143, 524287, 16383, 2097151, 4194303, 8388607, 16777215]
theorem spec_WriteBatch.tab4 : rtab .any (opsOf Try.f18 4) = spec_WriteBatch.T4 := by kernel_rfl
theorem spec_WriteBatch.bits4 : waitsOk spec_WriteBatch.T4.2 spec_WriteBatch.B4 = true := by kernel_rfl
def spec_WriteBatch.T6 : Bool × List (List Nat × List Nat) := (true, [([], []), ([], []), ([], []), ([2], [2]), ([0, 1, 3, 3], [0, 1, 3]), ([4], [4]), ([4], [4]), ([5, 4, 0, 1, 2, 3, 4, 5, 6], [5]), ([6, 7, 0, 1, 2, 3, 4, 5, 6, 7], [6])])
def spec_WriteBatch.B6 : List Nat := [0, 0, 0, 4, 15, 31, 31, 127, 255]
theorem spec_WriteBatch.tab6 : rtab .any (opsOf Try.f18 6) = spec_WriteBatch.T6 := by kernel_rfl
theorem spec_WriteBatch.bits6 : waitsOk spec_WriteBatch.T6.2 spec_WriteBatch.B6 = true := by kernel_rfl
set_option maxHeartbeats 8000000 in
set_option maxRecDepth 100000 in
theorem spec_WriteBatch.calls (k : Nat) (A0_0 : Option Addr) (c0_0 : Nat) (l0_0 : List (S56)) (a1 : Int) (a2_0 : Int) (a2_1 : Int) (a2_2 : Int) (a2_3 : Int) (A2_4 : Option Addr) (c2_4 : Nat) (l2_4 : List ByteArray) (r1 : List (S56)) (r2 : Bool) (w : World) (hr0_0 : Kd.C k56 w A0_0 l0_0.length l0_0) (hc0_0 : l0_0.length ≤ c0_0) (hr2_4 : Kd.C Kd.string w A2_4 l2_4.length l2_4) (hc2_4 : l2_4.length ≤ c2_4) (h : spec_WriteBatch.f k l0_0 a1 a2_0 a2_1 a2_2 a2_3 l2_4 = some (r1, r2)) :
  Calls Try.prog 18 #[.agg #[.slice A0_0 l0_0.length c0_0], .int .i64 a1, .agg #[.int .i64 a2_0, .int .i64 a2_1, .int .i64 a2_2, .int .i64 a2_3, .slice A2_4 l2_4.length c2_4]] w fun e w' => ∃ v0_ : Value, e = .returned (.tuple #[.agg #[v0_], .bool r2]) ∧ Kd.R k56 56 w' w.heap.size (fun _ => True) v0_ r1 ∧ Below w.heap.size w w' := by
 have hu31 := Try.underlying31
 have hu44 := Try.underlying44
 have vA := Aside0.mk hr0_0
 have mB := Aside0.mk hc0_0
 clear hr0_0 hc0_0
 have nB := Aside0.mk hr2_4
 have oB := Aside0.mk hc2_4
 clear hr2_4 hc2_4
 have HB := Aside0.mk (Below.refl w.heap.size w)
 have H : ((spec_l3File.f k l0_0 a1).bind fun hC => (if hC = true then ((spec_GoodBatch.f k a2_0 a2_1 a2_2 a2_3 l2_4).bind fun wB => (spec_WriteBatch.j0 k a1 (!wB) l0_0 a2_0 a2_1 a2_2 a2_3 l2_4)) else (spec_WriteBatch.j0 k a1 true l0_0 a2_0 a2_1 a2_2 a2_3 l2_4))) = some (r1, r2) := h
 clear h
 have mD := Aside0.mk H
 clear H
 go_enter Try.func18, Try.ntmps18
 go_upto_region 1 with (first | ((with_reducible refine gate_dst (N := 3) rfl ?_); (try (refine gate_guard (by rfl) ?_; dsimp only)); refine bq_ (N := 3) #[.slice A0_0 l0_0.length c0_0] 31 ?_; intro yA hg w5 bA hb; have gA := ge_ hg; replace HB := nb_ hb; clear hb hg) | ((with_reducible refine gate_dst (N := 5) rfl ?_); (try (refine gate_guard (by rfl) ?_; dsimp only)); refine bq_ (N := 5) #[.int .i64 a2_0, .int .i64 a2_1, .int .i64 a2_2, .int .i64 a2_3, .slice A2_4 l2_4.length c2_4] 44 ?_; intro oA hg w6 aA hb; have hA := ge1_ hg gA; replace HB := nc_ gA hb; have tA := nl_ bA hg; have uA := ng_ bA hg; replace bA := bK_ bA hb; clear hb hg) | ((with_reducible refine gate_dst (N := 6) rfl ?_); (try (refine gate_guard (by rfl) ?_; dsimp only)); refine bq_ (N := 6) #[.slice none 0 0] 31 ?_; intro pA hg w7 cA hb; have kA := ge2_ hg gA hA; replace HB := nc2_ gA hA hb; have jA := nl_ bA hg; have mA := ng_ bA hg; replace bA := bK_ bA hb; have fA := nl_ aA hg; have qA := ng_ aA hg; replace aA := bK_ aA hb; clear hb hg))
 (try simp only [Act.put, List.setIfInBounds_toArray, List.set_cons_zero, List.set_cons_succ])
 go_cut [18] (fun wE wc => ∃ (kq : Nat) (pB : Bool), wE = .bool pB ∧ Aside0 (spec_WriteBatch.j0 kq a1 pB l0_0 a2_0 a2_1 a2_2 a2_3 l2_4 = some (r1, r2)) ∧ Aside0 (kq ≤ k) ∧ Aside0 (wc.heap[yA]? = some (.cells #[(.slice A0_0 l0_0.length c0_0)] 31 (0, 0))) ∧ Aside0 (wc.heap[oA]? = some (.cells #[.int .i64 a2_0, .int .i64 a2_1, .int .i64 a2_2, .int .i64 a2_3, (.slice A2_4 l2_4.length c2_4)] 44 (0, 0))) ∧ Aside0 (wc.heap[pA]? = some (.cells #[(.slice none 0 0)] 31 (0, 0))) ∧ Aside0 (Below w.heap.size w wc))
 case first =>
  have H := mD.out
  clear mD
  replace H := bnd_ H
  obtain ⟨hC, A8, H⟩ := H
  replace H := ifb_ H
  obtain ⟨rfl, H⟩ | ⟨rfl, H⟩ := H
  rotate_left
  ·have H' := Aside0.mk H
   clear H
   have sD := tA.out
   have tD := uA.out
   have uD := jA.out
   have vD := mA.out
   obtain ⟨sC, tC⟩ := cf1_ bA.out
   go_wp2_with (first | ((with_reducible refine gate_callee (f := 49) rfl ?_); refine gl_ 12 Try.func49 #[.agg #[.slice A0_0 l0_0.length c0_0], .int .i64 a1] rfl ma_ ?_; (with_reducible refine (spec_l3File.calls k _ _ l0_0 a1 false _ ?side1 ?side2 A8.out).mono ?_); (case side1 => exact cs_ ((Kd.C_below vA.out HB.out))); (case side2 => exact mB.out); rintro e kF ⟨rfl, hb⟩; refine ⟨_, rfl, ?_⟩; replace bA := bK_ bA hb; replace aA := bK_ aA hb; replace cA := bK_ cA hb; replace HB := nc3_ gA hA kA hb; (try clear hb); (try clear hb2); (try clear hk); (try clear hi)))
   go_meet
   case rel => exact ⟨_, (true), sr_, H', ⟨by first | omega | exact Nat.le_refl _⟩, ⟨kb_ bA.out⟩, ⟨kb_ aA.out⟩, ⟨kb_ cA.out⟩, ⟨hs3_ gA.out hA.out kA.out⟩⟩
  replace H := bnd_ H
  obtain ⟨wB, xE, H⟩ := H
  have H' := Aside0.mk H
  clear H
  have wD := tA.out
  have xD := uA.out
  have yD := jA.out
  have zD := mA.out
  obtain ⟨uC, vC⟩ := cf1_ bA.out
  go_wp2_with (first | ((with_reducible refine gate_callee (f := 49) rfl ?_); refine gl_ 12 Try.func49 #[.agg #[.slice A0_0 l0_0.length c0_0], .int .i64 a1] rfl ma_ ?_; (with_reducible refine (spec_l3File.calls k _ _ l0_0 a1 true _ ?side1 ?side2 A8.out).mono ?_); (case side1 => exact cs_ ((Kd.C_below vA.out HB.out))); (case side2 => exact mB.out); rintro e lF ⟨rfl, hb⟩; refine ⟨_, rfl, ?_⟩; replace bA := bK_ bA hb; replace aA := bK_ aA hb; replace cA := bK_ cA hb; replace HB := nc3_ gA hA kA hb; (try clear hb); (try clear hb2); (try clear hk); (try clear hi); have aE := fA.out; have bE := qA.out; obtain ⟨wC, xC, yC, zC, aD, bD, cD, dD, eD, fD⟩ := cf5_ aA.out) | (go_at_call 59; (with_reducible refine (spec_GoodBatch.calls k a2_0 a2_1 a2_2 a2_3 _ _ l2_4 wB _ ?side1 ?side2 xE.out).mono ?_); (case side1 => exact cs_ ((Kd.C_below nB.out HB.out))); (case side2 => exact oB.out); rintro e mF ⟨rfl, hb⟩; replace bA := bK_ bA hb; replace aA := bK_ aA hb; replace cA := bK_ cA hb; replace HB := nc3_ gA hA kA hb; (try clear hb); (try clear hb2); (try clear hk); (try clear hi)))
  go_meet
  case rel => exact ⟨_, (!wB), sr_, H', ⟨by first | omega | exact Nat.le_refl _⟩, ⟨kb_ bA.out⟩, ⟨kb_ aA.out⟩, ⟨kb_ cA.out⟩, ⟨hs3_ gA.out hA.out kA.out⟩⟩
 case rest =>
  clear mD
  obtain ⟨kq, pB, rfl, HA, nD, bA, aA, cA, HB⟩ := hcut
  cases kq with
  | zero => exact absurd HA.out (by simp [spec_WriteBatch.j0])
  | succ kj3 =>
   have H := HA.out
   clear HA
   simp only [spec_WriteBatch.j0] at H
   replace H := ifb_ H
   obtain ⟨rfl, H⟩ | ⟨rfl, H⟩ := H
   ·simp only [Option.some.injEq, Prod.mk.injEq] at H
    obtain ⟨rfl, rfl⟩ := H
    have cE := mA.out
    have dE := jA.out
    have eE := qA.out
    have fE := fA.out
    obtain ⟨gD, hD⟩ := cf1_ cA.out
    go_wp2
    refine bodyPost_ret (results_ct rfl _ _ pA 31 #[.slice none 0 0] (0, 0) _ rfl (up_ cA) Try.underlying31 rfl (by kernel_rfl)) rfl ?_
    exact ⟨_, er_, ni_, hs3_ gA.out hA.out kA.out⟩
   replace H := ifs_ H
   obtain ⟨gE, H⟩ := H
   have hE := decide_eq_true gE
   clear gE
   replace H := ifs_ H
   obtain ⟨iE, H⟩ := H
   have jE := decide_eq_true iE
   clear iE
   replace H := bnd_ H
   obtain ⟨⟨nA, qB⟩, yE, H⟩ := H
   replace H := red_ H
   have bC := Aside0.mk H
   clear H
   have kE := tA.out
   have lE := uA.out
   have mE := jA.out
   have nE := mA.out
   obtain ⟨iD, jD⟩ := cf1_ bA.out
   have cC : 0 ≤ (a1 : Int) := oa_
   have dC : a1 < (l0_0.length : Int) := oa_
   obtain ⟨iA, oD, eB, fB⟩ := at_T56 vA.out a1 cC dC
   cases oD
   replace eB := pc_ HB.out eB
   replace fB := pc_ HB.out fB
   replace cC := eq_true cC
   replace dC := eq_true dC
   go_upto_region 4 with (first | ((with_reducible refine gate_callee (f := 50) rfl ?_); refine gl_ 27 Try.func50 #[.string ((rd_T56 l0_0 a1).f0)] rfl ma_ ?_; (with_reducible refine (spec_l1Read.calls kj3 ((rd_T56 l0_0 a1).f0) nA qB _ yE.out).mono ?_); rintro e pD ⟨zE, rfl, iC, hb⟩; refine ⟨_, rfl, ?_⟩; have lA := Aside0.mk (Kd.S_lower (Kd.S_newB iC (g := oA) (o := .cells #[.int .i64 a2_0, .int .i64 a2_1, .int .i64 a2_2, .int .i64 a2_3, .slice A2_4 l2_4.length c2_4] 44 (0, 0)) (kb_ aA.out)) (below_size (hs3_ gA.out hA.out kA.out))); replace bA := bK_ bA hb; replace aA := bK_ aA hb; replace cA := bK_ cA hb; replace HB := nc3_ gA hA kA hb; (try clear hb); (try clear hb2); (try clear hk); (try clear hi); (try clear iC)))
   (try simp only [Act.put, List.setIfInBounds_toArray, List.set_cons_zero, List.set_cons_succ])
   go_cut [54] (fun aF wc => ∃ (kq : Nat) (dB : Bool), aF = .bool dB ∧ Aside0 (spec_WriteBatch.j1 kq a1 dB l0_0 a2_0 a2_1 a2_2 a2_3 l2_4 = some (r1, r2)) ∧ Aside0 (kq ≤ kj3) ∧ Aside0 (wc.heap[yA]? = some (.cells #[(.slice (some iA) l0_0.length c0_0)] 31 (0, 0))) ∧ Aside0 (wc.heap[oA]? = some (.cells #[.int .i64 a2_0, .int .i64 a2_1, .int .i64 a2_2, .int .i64 a2_3, (.slice A2_4 l2_4.length c2_4)] 44 (0, 0))) ∧ Aside0 (wc.heap[pA]? = some (.cells #[(.slice none 0 0)] 31 (0, 0))) ∧ Aside0 (Below w.heap.size w wc))
   case first =>
    have H := bC.out
    clear bC
    replace H := ite_ H
    obtain ⟨gC, H⟩ | ⟨gC, H⟩ := H
    rotate_left
    ·have bB : (qB == (((rd_T56 l0_0 a1).f0).size : Int)) = false := beq_eq_false_iff_ne.mpr gC
     have rB : (qB != (((rd_T56 l0_0 a1).f0).size : Int)) = true := bne_iff_ne.mpr gC
     (first | rw [bB] | (simp only [i64_w, i32_w]; rw [bB]) | rw [rB] | skip)
     have H' := Aside0.mk H
     clear H
     try go_wp2
     replace lA := Aside0.mk (Kd.S_drew lA.out)
     replace bA := qK_ bA
     replace aA := qK_ aA
     replace cA := qK_ cA
     replace HB := qH_ HB
     have wA : 0 ≤ (a1 : Int) := oa_
     have xA : a1 < (l0_0.length : Int) := oa_
     obtain ⟨cB, sB, dA, eA⟩ := at_T56 vA.out a1 wA xA
     have hw258_1 := eA
     have hw258_0 := dA
     obtain rfl : iA = cB := (by injection sB)
     replace dA := pc_ HB.out dA
     replace eA := pc_ HB.out eA
     replace wA := eq_true wA
     replace xA := eq_true xA
     refine start_ (n := 25) (S := fun w' => w'.cell? ⟨yA, 0, none⟩ = some (.slice (some iA) l0_0.length c0_0) ∧ w'.cell? (iA.add ((a1).toNat * 2)) = some (.string ((rd_T56 l0_0 a1).f0)) ∧ w'.cell? ⟨(iA.add ((a1).toNat * 2)).block, (iA.add ((a1).toNat * 2)).off + 1, none⟩ = some (.int .i64 ((rd_T56 l0_0 a1).f1))) (ds := []) (List.replicate 25 false).toArray (by kernel_rfl) rfl rfl ⟨bt_ bA 0, (pc_ HB.out hw258_0), (pc_ HB.out hw258_1)⟩ (fun hHeld => ?_); refine with_tabW spec_WriteBatch.tab4 spec_WriteBatch.bits4 (fun HT_ HW_ => ?_)
     generalize pD.drew = nF at lA bA aA cA HB dA eA hHeld ⊢
     refine pv_ 0 30 ?_
     refine pv_ 1 31 ?_
     refine pv_ 3 33 ?_
     refine tk_ 2 32 ?_
     refine pv_ 4 34 ?_
     refine pv_ 5 35 ?_
     refine tk_ 6 36 ?_
     refine pv_ 7 37 ?_
     refine pv_ 8 38 ?_
     refine pv_ 9 39 ?_
     refine po_ 10 40 ?_
     refine po_ 11 41 ?_
     refine po_ 12 42 ?_
     refine po_ 13 43 ?_
     refine po_ 14 44 ?_
     refine po_ 15 45 ?_
     refine po_ 16 46 ?_
     refine po_ 17 47 ?_
     refine po_ 18 48 ?_
     refine po_ 19 49 ?_
     refine po_ 20 50 ?_
     refine po_ 21 51 ?_
     refine po_ 22 52 ?_
     refine po_ 23 53 ?_
     refine pv_ 24 54 ?_
     refine done_ (done_of HT_.out (by kernel_rfl)) ?_
     try go_wp2
     go_meet
     case rel => exact ⟨_, (true), sr_, H', ⟨by have := nD.out; first | omega | exact Nat.le_refl _⟩, ⟨kb_ bA.out⟩, ⟨kb_ aA.out⟩, ⟨kb_ cA.out⟩, ⟨hs3_ gA.out hA.out kA.out⟩⟩
    have bB : (qB == (((rd_T56 l0_0 a1).f0).size : Int)) = true := beq_iff_eq.mpr gC
    have rB : (qB != (((rd_T56 l0_0 a1).f0).size : Int)) = false := bne_eq_false_iff_eq.mpr gC
    clear gC
    (first | rw [bB] | (simp only [i64_w, i32_w]; rw [bB]) | rw [rB] | skip)
    replace H := ite_ H
    obtain ⟨jC, H⟩ | ⟨jC, H⟩ := H
    rotate_left
    ·have kC := dgf_ jC
     have lC : decide (0 < nA.length) = false := decide_eq_false (by omega)
     clear jC
     have H' := Aside0.mk H
     clear H
     try go_wp2
     replace lA := Aside0.mk (Kd.S_drew lA.out)
     replace bA := qK_ bA
     replace aA := qK_ aA
     replace cA := qK_ cA
     replace HB := qH_ HB
     have wA : 0 ≤ (a1 : Int) := oa_
     have xA : a1 < (l0_0.length : Int) := oa_
     obtain ⟨cB, sB, dA, eA⟩ := at_T56 vA.out a1 wA xA
     have hw258_1 := eA
     have hw258_0 := dA
     obtain rfl : iA = cB := (by injection sB)
     replace dA := pc_ HB.out dA
     replace eA := pc_ HB.out eA
     replace wA := eq_true wA
     replace xA := eq_true xA
     obtain ⟨bF, cF, mC⟩ := Kd.S_slice lA.out
     (first | subst mC | (injection mC with f1_ f2_ f3_; have f4_ := f1_.symm; have f5_ := f3_.symm; clear f1_ f2_ f3_; subst f4_; subst f5_))
     refine start_ (n := 25) (S := fun w' => w'.cell? ⟨yA, 0, none⟩ = some (.slice (some iA) l0_0.length c0_0) ∧ w'.cell? (iA.add ((a1).toNat * 2)) = some (.string ((rd_T56 l0_0 a1).f0)) ∧ w'.cell? ⟨(iA.add ((a1).toNat * 2)).block, (iA.add ((a1).toNat * 2)).off + 1, none⟩ = some (.int .i64 ((rd_T56 l0_0 a1).f1))) (ds := []) (List.replicate 25 false).toArray (by kernel_rfl) rfl rfl ⟨bt_ bA 0, (pc_ HB.out hw258_0), (pc_ HB.out hw258_1)⟩ (fun hHeld => ?_); refine with_tabW spec_WriteBatch.tab4 spec_WriteBatch.bits4 (fun HT_ HW_ => ?_)
     generalize pD.drew = oF at lA bA aA cA HB dA eA hHeld ⊢
     refine pv_ 0 30 ?_
     refine pv_ 1 31 ?_
     refine pv_ 3 33 ?_
     refine tk_ 2 32 ?_
     refine pv_ 4 34 ?_
     refine pv_ 5 35 ?_
     refine tk_ 6 36 ?_
     refine pv_ 7 37 ?_
     refine pv_ 8 38 ?_
     refine pv_ 9 39 ?_
     refine pv_ 10 40 ?_
     refine pv_ 11 41 ?_
     refine pv_ 12 42 ?_
     refine pv_ 13 43 ?_
     refine po_ 14 44 ?_
     refine po_ 15 45 ?_
     refine po_ 16 46 ?_
     refine po_ 17 47 ?_
     refine po_ 18 48 ?_
     refine po_ 19 49 ?_
     refine po_ 20 50 ?_
     refine po_ 21 51 ?_
     refine po_ 22 52 ?_
     refine pv_ 23 53 ?_
     refine pv_ 24 54 ?_
     refine done_ (done_of HT_.out (by kernel_rfl)) ?_
     try go_wp2
     go_meet
     case rel => exact ⟨_, (false), sr_, H', ⟨by have := nD.out; first | omega | exact Nat.le_refl _⟩, ⟨kb_ bA.out⟩, ⟨kb_ aA.out⟩, ⟨kb_ cA.out⟩, ⟨hs3_ gA.out hA.out kA.out⟩⟩
    have kC := dgt_ jC
    have lC : decide (0 < nA.length) = true := decide_eq_true (by omega)
    clear jC
    obtain ⟨ji36, hji36⟩ : ∃ j_ : Int, (wrap64 ((nA.length : Int) - 1)) = j_ := ⟨_, rfl⟩
    first | rw [hji36] at H | simp only [hji36] at H
    have hji36w : (IntKind.i64.wrap ((nA.length : Int) - 1)) = ji36 := (i64_w _).trans hji36
    replace H := ifs_ H
    obtain ⟨oE, H⟩ := H
    have pE := decide_eq_true oE
    clear oE
    replace H := ifs_ H
    obtain ⟨qE, H⟩ := H
    have rE := decide_eq_true qE
    clear qE
    replace H := bnd_ H
    obtain ⟨nC, dF, H⟩ := H
    have H' := Aside0.mk H
    clear H
    try go_wp2
    replace lA := Aside0.mk (Kd.S_drew lA.out)
    replace bA := qK_ bA
    replace aA := qK_ aA
    replace cA := qK_ cA
    replace HB := qH_ HB
    have wA : 0 ≤ (a1 : Int) := oa_
    have xA : a1 < (l0_0.length : Int) := oa_
    obtain ⟨cB, sB, dA, eA⟩ := at_T56 vA.out a1 wA xA
    have hw258_1 := eA
    have hw258_0 := dA
    obtain rfl : iA = cB := (by injection sB)
    replace dA := pc_ HB.out dA
    replace eA := pc_ HB.out eA
    replace wA := eq_true wA
    replace xA := eq_true xA
    obtain ⟨eF, fF, oC⟩ := Kd.S_slice lA.out
    (first | subst oC | (injection oC with f1_ f2_ f3_; have f4_ := f1_.symm; have f5_ := f3_.symm; clear f1_ f2_ f3_; subst f4_; subst f5_))
    have xB : 0 ≤ ((ji36) : Int) := oa_
    have yB : (ji36) < (nA.length : Int) := oa_
    obtain ⟨sA, tB, uB, qD, gB, hB, iB, jB, zA, kB, lB⟩ := at_T44 (Kd.S_reads' lA.out).2.2 (ji36) xB yB
    cases qD
    obtain ⟨ce259, hce259, hMe259, vB⟩ := Kd.S_get lA.out z44 (ji36) xB (by first | exact yB | exact oa_ | (have e_ := (Kd.S_reads' lA.out).1; omega))
    obtain ⟨ve259_4, rfl, ge259_4⟩ := k44_openM hMe259
    have hv259_4 := vB 4 _ rfl
    rw [add_field _ _ 4 (by omega)] at hv259_4
    replace hv259_4 := Option.some.inj (hv259_4.symm.trans zA)
    rw [hv259_4] at ge259_4
    have aB := Aside0.mk (show Kd.R Kd.string 9 _ _ _ _ ((rd_T44 nA (ji36)).f4) from ge259_4)
    clear hv259_4 ge259_4
    clear vB hce259
    have rA := Aside0.mk lB
    have zB := Aside0.mk kB
    clear lB kB
    replace xB := eq_true xB
    replace yB := eq_true yB
    refine start_ (n := 25) (S := fun w' => w'.cell? ⟨yA, 0, none⟩ = some (.slice (some iA) l0_0.length c0_0) ∧ w'.cell? ⟨oA, 0, none⟩ = some (.int .i64 a2_0) ∧ w'.cell? ⟨oA, 1, none⟩ = some (.int .i64 a2_1) ∧ w'.cell? ⟨oA, 2, none⟩ = some (.int .i64 a2_2) ∧ w'.cell? ⟨oA, 3, none⟩ = some (.int .i64 a2_3) ∧ w'.cell? ⟨oA, 4, none⟩ = some (.slice A2_4 l2_4.length c2_4) ∧ w'.cell? (iA.add ((a1).toNat * 2)) = some (.string ((rd_T56 l0_0 a1).f0)) ∧ w'.cell? ⟨(iA.add ((a1).toNat * 2)).block, (iA.add ((a1).toNat * 2)).off + 1, none⟩ = some (.int .i64 ((rd_T56 l0_0 a1).f1)) ∧ w'.cell? (sA.add (((ji36)).toNat * 5)) = some (.int .i64 ((rd_T44 nA (ji36)).f0)) ∧ w'.cell? ⟨(sA.add (((ji36)).toNat * 5)).block, (sA.add (((ji36)).toNat * 5)).off + 1, none⟩ = some (.int .i64 ((rd_T44 nA (ji36)).f1)) ∧ w'.cell? ⟨(sA.add (((ji36)).toNat * 5)).block, (sA.add (((ji36)).toNat * 5)).off + 2, none⟩ = some (.int .i64 ((rd_T44 nA (ji36)).f2)) ∧ w'.cell? ⟨(sA.add (((ji36)).toNat * 5)).block, (sA.add (((ji36)).toNat * 5)).off + 3, none⟩ = some (.int .i64 ((rd_T44 nA (ji36)).f3)) ∧ w'.cell? ⟨(sA.add (((ji36)).toNat * 5)).block, (sA.add (((ji36)).toNat * 5)).off + 4, none⟩ = some (.slice tB ((rd_T44 nA (ji36)).f4).length uB)) (ds := []) (List.replicate 25 false).toArray (by kernel_rfl) rfl rfl ⟨bt_ bA 0, bt_ aA 0, bt_ aA 1, bt_ aA 2, bt_ aA 3, bt_ aA 4, (pc_ HB.out hw258_0), (pc_ HB.out hw258_1), gB, hB, iB, jB, zA⟩ (fun hHeld => ?_); refine with_tabW spec_WriteBatch.tab4 spec_WriteBatch.bits4 (fun HT_ HW_ => ?_)
    generalize pD.drew = pF at lA bA aA cA HB aB rA dA eA gB hB iB jB zA hHeld ⊢
    refine pv_ 0 30 ?_
    refine pv_ 1 31 ?_
    refine pv_ 3 33 ?_
    refine tk_ 2 32 ?_
    refine pv_ 4 34 ?_
    refine pv_ 5 35 ?_
    refine tk_ 6 36 ?_
    refine pv_ 7 37 ?_
    refine pv_ 8 38 ?_
    refine pv_ 9 39 ?_
    refine pv_ 10 40 ?_
    refine pv_ 11 41 ?_
    refine pv_ 12 42 ?_
    refine pv_ 13 43 ?_
    refine pv_ 14 44 ?_
    refine pv_ 15 45 ?_
    refine pv_ 16 46 ?_
    refine pv_ 17 47 ?_
    refine pv_ 18 48 ?_
    refine tk_ 19 49 ?_
    refine tk_ 20 50 ?_
    refine on_ 21 51 (fun K hK => ?_)
    refine gs_ Try.func60 #[.agg #[.int .i64 ((rd_T44 nA (ji36)).f0), .int .i64 ((rd_T44 nA (ji36)).f1), .int .i64 ((rd_T44 nA (ji36)).f2), .int .i64 ((rd_T44 nA (ji36)).f3), .slice tB ((rd_T44 nA (ji36)).f4).length uB], .agg #[.int .i64 a2_0, .int .i64 a2_1, .int .i64 a2_2, .int .i64 a2_3, .slice A2_4 l2_4.length c2_4]] rfl (mb_ hji36) ?_
    with_reducible refine (spec_l1Next.calls ((rd_T44 nA (ji36)).f0) ((rd_T44 nA (ji36)).f1) ((rd_T44 nA (ji36)).f2) ((rd_T44 nA (ji36)).f3) _ _ ((rd_T44 nA (ji36)).f4) a2_0 a2_1 a2_2 a2_3 _ _ l2_4 nC _ ?side1 ?side2 ?side3 ?side4 dF.out).mono ?_
    (case side1 => repeat (first | exact (by repeat (first | (with_reducible exact rA.out) | (with_reducible refine Kd.C_alloc ?_ _) | (with_reducible refine Kd.C_drewN ?_ _) | (with_reducible refine Kd.C_drew ?_) | exact rA.out)) | (with_reducible refine Kd.C_alloc ?_ _) | (with_reducible refine Kd.C_drewN ?_ _) | (with_reducible refine Kd.C_drew ?_)))
    (case side2 => exact zB.out)
    (case side3 => exact cs_ ((Kd.C_below nB.out HB.out)))
    (case side4 => exact oB.out)
    rintro e qF ⟨rfl, hb⟩
    have HS8_ := (hb.cell (World.block_lt_of_cell? _ _ (hHeld.2.2.2.2.2.2.2.2.1))).trans (hHeld.2.2.2.2.2.2.2.2.1)
    have HS9_ := (hb.cell (World.block_lt_of_cell? _ _ (hHeld.2.2.2.2.2.2.2.2.2.1))).trans (hHeld.2.2.2.2.2.2.2.2.2.1)
    have HS10_ := (hb.cell (World.block_lt_of_cell? _ _ (hHeld.2.2.2.2.2.2.2.2.2.2.1))).trans (hHeld.2.2.2.2.2.2.2.2.2.2.1)
    have HS11_ := (hb.cell (World.block_lt_of_cell? _ _ (hHeld.2.2.2.2.2.2.2.2.2.2.2.1))).trans (hHeld.2.2.2.2.2.2.2.2.2.2.2.1)
    have HS12_ := (hb.cell (World.block_lt_of_cell? _ _ (hHeld.2.2.2.2.2.2.2.2.2.2.2.2))).trans (hHeld.2.2.2.2.2.2.2.2.2.2.2.2)
    refine ⟨_, rfl, ?_⟩
    replace lA := sB_ lA hb
    replace aB := rB_ aB hb
    replace bA := bK_ bA hb
    replace aA := bK_ aA hb
    replace cA := bK_ cA hb
    replace rA := Aside0.mk (Kd.C_below (by repeat (first | (with_reducible exact rA.out) | (with_reducible refine Kd.C_alloc ?_ _) | (with_reducible refine Kd.C_drewN ?_ _) | (with_reducible refine Kd.C_drew ?_) | exact rA.out)) hb)
    replace HB := nc3_ gA hA kA hb
    (try clear hb)
    (try clear hb2)
    (try clear hk)
    (try clear hi)
    refine hK.out _ _ ⟨bt_ bA 0, bt_ aA 0, bt_ aA 1, bt_ aA 2, bt_ aA 3, bt_ aA 4, (pc_ HB.out hw258_0), (pc_ HB.out hw258_1), HS8_, HS9_, HS10_, HS11_, HS12_⟩ (fun hHeld => ?_)
    clear hK K
    refine no_ ?_
    refine pv_ 22 52 ?_
    refine pv_ 23 53 ?_
    refine pv_ 24 54 ?_
    refine done_ (done_of HT_.out (by kernel_rfl)) ?_
    try go_wp2
    go_meet
    case rel => exact ⟨_, (!nC), sr_, H', ⟨by have := nD.out; first | omega | exact Nat.le_refl _⟩, ⟨kb_ bA.out⟩, ⟨kb_ aA.out⟩, ⟨kb_ cA.out⟩, ⟨hs3_ gA.out hA.out kA.out⟩⟩
   case rest =>
    clear bC
    obtain ⟨kq, dB, rfl, HA, gF, bA, aA, cA, HB⟩ := hcut
    cases kq with
    | zero => exact absurd HA.out (by simp [spec_WriteBatch.j1])
    | succ kj28 =>
     have H := HA.out
     clear HA
     simp only [spec_WriteBatch.j1] at H
     replace H := ifb_ H
     obtain ⟨rfl, H⟩ | ⟨rfl, H⟩ := H
     ·simp only [Option.some.injEq, Prod.mk.injEq] at H
      obtain ⟨rfl, rfl⟩ := H
      have sE := mA.out
      have tE := jA.out
      have uE := qA.out
      have vE := fA.out
      obtain ⟨kD, lD⟩ := cf1_ cA.out
      go_wp2
      refine bodyPost_ret (results_ct rfl _ _ pA 31 #[.slice none 0 0] (0, 0) _ rfl (up_ cA) Try.underlying31 rfl (by kernel_rfl)) rfl ?_
      exact ⟨_, er_, ni_, hs3_ gA.out hA.out kA.out⟩
     replace H := bnd_ H
     obtain ⟨eC, hF, H⟩ := H
     replace H := bnd_ H
     obtain ⟨⟨fC, rD⟩, iF, H⟩ := H
     replace H := red_ H
     simp only [Option.some.injEq, Prod.mk.injEq] at H
     obtain ⟨rfl, rfl⟩ := H
     try go_wp2
     replace bA := qK_ bA
     replace aA := qK_ aA
     replace cA := qK_ cA
     replace HB := qH_ HB
     refine start_ (n := 9) (S := fun w' => w'.cell? ⟨yA, 0, none⟩ = some (.slice (some iA) l0_0.length c0_0) ∧ w'.cell? ⟨oA, 0, none⟩ = some (.int .i64 a2_0) ∧ w'.cell? ⟨oA, 1, none⟩ = some (.int .i64 a2_1) ∧ w'.cell? ⟨oA, 2, none⟩ = some (.int .i64 a2_2) ∧ w'.cell? ⟨oA, 3, none⟩ = some (.int .i64 a2_3) ∧ w'.cell? ⟨oA, 4, none⟩ = some (.slice A2_4 l2_4.length c2_4)) (ds := []) #[false, false, false, false, false, false, false, false, false] (by kernel_rfl) rfl rfl ⟨bt_ bA 0, bt_ aA 0, bt_ aA 1, bt_ aA 2, bt_ aA 3, bt_ aA 4⟩ (fun hHeld => ?_); refine with_tabW spec_WriteBatch.tab6 spec_WriteBatch.bits6 (fun HT_ HW_ => ?_)
     generalize wc.drew = rF at bA aA cA HB hHeld ⊢
     refine pv_ 1 57 ?_
     refine tk_ 0 56 ?_
     refine tk_ 2 58 ?_
     refine on_ 3 59 (fun K hK => ?_)
     refine gs_ Try.func61 #[.agg #[.int .i64 a2_0, .int .i64 a2_1, .int .i64 a2_2, .int .i64 a2_3, .slice A2_4 l2_4.length c2_4]] rfl ma_ ?_
     with_reducible refine (spec_l1Batch.calls kj28 a2_0 a2_1 a2_2 a2_3 _ _ l2_4 eC _ ?side1 ?side2 hF.out).mono ?_
     (case side1 => exact cs_ ((Kd.C_below nB.out HB.out)))
     (case side2 => exact oB.out)
     rintro e sF ⟨rfl, hb⟩
     refine ⟨_, rfl, ?_⟩
     replace bA := bK_ bA hb
     replace aA := bK_ aA hb
     replace cA := bK_ cA hb
     replace HB := nc3_ gA hA kA hb
     (try clear hb)
     (try clear hb2)
     (try clear hk)
     (try clear hi)
     refine hK.out _ _ ⟨bt_ bA 0, bt_ aA 0, bt_ aA 1, bt_ aA 2, bt_ aA 3, bt_ aA 4⟩ (fun hHeld => ?_)
     clear hK K
     refine no_ ?_
     refine on_ 4 60 (fun K hK => ?_)
     refine gs_ Try.func32 #[.agg #[.slice (some iA) l0_0.length c0_0], .int .i64 a1, .string eC] rfl ma_ ?_
     with_reducible refine (spec_AppendTo.calls kj28 _ _ l0_0 a1 eC fC rD _ ?side1 ?side2 iF.out).mono ?_
     (case side1 => exact cs_ ((Kd.C_below vA.out HB.out)))
     (case side2 => exact mB.out)
     rintro e tF ⟨jF, rfl, iC, hb⟩
     refine ⟨_, rfl, ?_⟩
     have aC := Aside0.mk (Kd.R_lower iC (below_size (hs3_ gA.out hA.out kA.out)))
     replace bA := bK_ bA hb
     replace aA := bK_ aA hb
     replace cA := bK_ cA hb
     replace HB := nc3_ gA hA kA hb
     (try clear hb)
     (try clear hb2)
     (try clear hk)
     (try clear hi)
     (try clear iC)
     obtain ⟨pC, qC, rC⟩ := Kd.R_slice aC.out
     (first | subst rC | (injection rC with f1_ f2_ f3_; have f4_ := f1_.symm; have f5_ := f3_.symm; clear f1_ f2_ f3_; subst f4_; subst f5_))
     refine hK.out _ _ ⟨bt_ bA 0, bt_ aA 0, bt_ aA 1, bt_ aA 2, bt_ aA 3, bt_ aA 4⟩ (fun hHeld => ?_)
     clear hK K
     refine no_ ?_
     refine pv_ 5 61 ?_
     refine pv_ 6 62 ?_
     refine one_ (i := 7) (N := none) #[true, true, true, true, true, true, true, true, false] rfl rfl (one_of HT_.out (by kernel_rfl)) (by decide) (fun K hK => ?_)
     obtain ⟨hs56, hfs56⟩ := cf1_ cA.out
     have hns56_0 := jA.out
     have hns56_1 := fA.out
     have hms56_0 := mA.out
     have hms56_1 := qA.out
     refine skip_ (w1 := ?_) (by rfl) rfl ?_ ?_
     rotate_left
     ·go_simp
      rfl
     refine hK.out _ _ ⟨((cell_far (p := ⟨pA, _, none⟩) jA.out _).trans (hHeld.1)), ((cell_far (p := ⟨pA, _, none⟩) fA.out _).trans (hHeld.2.1)), ((cell_far (p := ⟨pA, _, none⟩) fA.out _).trans (hHeld.2.2.1)), ((cell_far (p := ⟨pA, _, none⟩) fA.out _).trans (hHeld.2.2.2.1)), ((cell_far (p := ⟨pA, _, none⟩) fA.out _).trans (hHeld.2.2.2.2.1)), ((cell_far (p := ⟨pA, _, none⟩) fA.out _).trans (hHeld.2.2.2.2.2))⟩ (fun hHeld => ?_)
     clear hK K
     refine pv_ 8 7 ?_
     refine done_ (done_of HT_.out (by kernel_rfl)) ?_
     try go_wp2
     refine bodyPost_ret (results_ct rfl _ _ pA 31 #[.slice pC fC.length qC] (0, 0) _ rfl (up_ cA) Try.underlying31 rfl (by kernel_rfl)) rfl ?_
     exact ⟨_, er_, rF_ (Kd.R_mono (Kd.R_far (p := ⟨pA, 0, none⟩) (Kd.R_types aC.out cA.out (by decide)) (fun _ hk => hk.2) (.slice pC fC.length qC)) (fun _ hk => trivial)), hs3_ gA.out hA.out kA.out⟩
end Go.Proofs.Ytpdpipfkllfhmaa.QFnDisks
