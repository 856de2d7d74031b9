/- Functions that one statement reaches: of each a plain function, and the proof that calls come to it. Conditions: those that each contract names. Written by a program of this repository. -/
import Derived.Test.YtffpeklekkpbjaaVFindBatcha
import Derived.Test.YtffpeklekkpbjaaQFnExactFindBatchx0
import Derived.Test.YtffpeklekkpbjaaQFnExactFindBatchx20
namespace Go.Proofs.Ytffpeklekkpbjaa.QFnExactFindBatch
open Go.RowKit Go.Proofs.YtffpeklekkpbjaaW.PrintWords Go.Proofs.YtffpeklekkpbjaaW.PrintLast Go.Proofs.YtffpeklekkpbjaaW.PrintMore
attribute [local go_sem] max2_int min2_int max_two min_two max_three min_three max_four min_four Go.Proofs.YtffpeklekkpbjaaW.PrintMore2.isSome_setCell   -- for this text's walks alone
set_option linter.unusedVariables false
set_option linter.unusedSimpArgs false

/-! ### slices_EqualFunc_Segment: function 101 -/
def slices_EqualFunc_Segment.l0 : Nat → List S65 → List S65 → Nat → Option Bool
 | 0, _, _, _ => none
 | k + 1, x, y, i => if i < x.length then (impl_isStore_1.f k (x.getD i z65).f0 (x.getD i z65).f1 (x.getD i z65).f2 (y.getD i z65).f0 (y.getD i z65).f1 (y.getD i z65).f2).bind fun t => if t = true then slices_EqualFunc_Segment.l0 k x y (i + 1) else some false else some true
def slices_EqualFunc_Segment.f (k : Nat) (l0 : List S65) (l1 : List S65) : Option Bool := if l0.length = l1.length then slices_EqualFunc_Segment.l0 k l0 l1 0 else some false
theorem slices_EqualFunc_Segment.mono_l : ∀ k x y i, LeO (slices_EqualFunc_Segment.l0 k x y i) (slices_EqualFunc_Segment.l0 (k + 1) x y i)
 | 0, _, _, _ => fun r h => by simp [slices_EqualFunc_Segment.l0] at h
 | k + 1, x, y, i => by
  rw [slices_EqualFunc_Segment.l0, slices_EqualFunc_Segment.l0]
  exact LeO.ite (LeO.bind (impl_isStore_1.mono _ _ _ _ _ _ _) (fun _ => LeO.ite (slices_EqualFunc_Segment.mono_l k _ _ _) (LeO.refl _))) (LeO.refl _)
theorem slices_EqualFunc_Segment.mono : ∀ a0 a1 k, LeO (slices_EqualFunc_Segment.f k a0 a1) (slices_EqualFunc_Segment.f (k + 1) a0 a1) := fun a0 a1 k => LeO.ite (slices_EqualFunc_Segment.mono_l k a0 a1 0) (LeO.refl _)
set_option maxHeartbeats 8000000 in
set_option maxRecDepth 100000 in
theorem slices_EqualFunc_Segment.calls (k : Nat) (A0 : Option Addr) (c0 : Nat) (l0 : List S65) (A1 : Option Addr) (c1 : Nat) (l1 : List S65) (r : Bool) (w : World) (hr0 : Kd.C k65 w A0 l0.length l0) (hc0 : l0.length ≤ c0) (hr1 : Kd.C k65 w A1 l1.length l1) (hc1 : l1.length ≤ c1) (h : slices_EqualFunc_Segment.f k l0 l1 = some r) :
  Calls Try.prog 101 #[.slice A0 l0.length c0, .slice A1 l1.length c1, .func (.func 102) #[] #[]] w fun e w' => e = .returned (.bool r) ∧ Below w.heap.size w w' := by
 have hbig0 : l0.length ≤ 9223372036854775807 := hr0.2.1
 have hu_ := Try.underlying65
 have HR0 := Aside0.mk hr0
 have HR1 := Aside0.mk hr1
 clear hr0 hc0 hr1 hc1
 unfold slices_EqualFunc_Segment.f at h
 by_cases hl : l0.length = l1.length
 ·rw [if_pos hl] at h
  have hl1 : (((l0.length : Int) != (l1.length : Int)) = false) := bne_eq_false_iff_eq.mpr (by omega)
  have hl2 : ((l0.length != l1.length) = false) := bne_eq_false_iff_eq.mpr hl
  have H := Aside0.mk h
  have HL := Aside0.mk hl
  obtain ⟨g, hg⟩ : ∃ g : Nat, g = 102 := ⟨_, rfl⟩
  have eg : ∀ args w, (callFunc g args).run Try.prog w = .ok (.enter g args) w := by rw [hg]; exact fun args w => by first | rfl | kernel_rfl
  rw [show (Value.func (.func 102) #[] #[]) = Value.func (.func g) #[] #[] by rw [hg]]
  have HGG := Aside0.mk hg
  clear h hg hl
  go_enter Try.func101, Try.ntmps101
  go_wp2
  go_loopg [7, 8, 9, 17] k (fun kq s7 _ _ s17 wr => ∃ i : Nat, s17 = .int .i64 i ∧ i ≤ l0.length ∧ Aside0 (slices_EqualFunc_Segment.l0 kq l0 l1 i = some r) ∧ Aside0 (kq ≤ k) ∧ Aside0 (Below w.heap.size w wr))
  case atStart => exact ⟨0, rfl, Nat.zero_le _, H, ⟨Nat.le_refl _⟩, ⟨Below.refl _ _⟩⟩
  case round =>
   clear H
   obtain ⟨i, rfl, hi, HA, HK, HB⟩ := hrel
   cases gk with
   | zero => exact absurd HA.out (by simp [slices_EqualFunc_Segment.l0])
   | succ k1 =>
    have hA := HA.out
    clear HA
    rw [slices_EqualFunc_Segment.l0] at hA
    by_cases hlt : i < l0.length
    ·have hltz : (i : Int) < (l0.length : Int) := by omega
     have hltz1 : (i : Int) < (l1.length : Int) := by have := HL.out; omega
     rw [if_pos hlt] at hA
     obtain ⟨t, h1, h2⟩ := Option.bind_eq_some_iff.1 hA
     have H1 := Aside0.mk h1
     clear hA h1
     obtain ⟨ada, Aa2, Aac2, rfl, hca0, hca1, hca2, hla2, hra2⟩ := at_T65 (Kd.C_below HR0.out HB.out) (i : Int) (by omega) hltz
     obtain ⟨adb, Ab2, Abc2, rfl, hcb0, hcb1, hcb2, hlb2, hrb2⟩ := at_T65 (Kd.C_below HR1.out HB.out) (i : Int) (by omega) hltz1
     have e0 : rd_T65 l0 (i : Int) = l0.getD i z65 := rfl
     have e1 : rd_T65 l1 (i : Int) = l1.getD i z65 := rfl
     rw [e0] at hca0 hca1 hca2 hla2 hra2
     rw [e1] at hcb0 hcb1 hcb2 hlb2 hrb2
     generalize l0.getD i z65 = a at hca0 hca1 hca2 hla2 hra2 H1
     generalize l1.getD i z65 = b at hcb0 hcb1 hcb2 hlb2 hrb2 H1
     clear e0 e1
     rw [Int.toNat_natCast] at hca0 hca1 hca2 hcb0 hcb1 hcb2
     have CR0 := Aside0.mk hra2
     have CL0 := Aside0.mk hla2
     clear hra2 hla2
     have CR1 := Aside0.mk hrb2
     have CL1 := Aside0.mk hlb2
     clear hrb2 hlb2
     have HC : ∀ W, Below wr.heap.size wr W → Calls Try.prog g (#[.agg #[.int .i64 a.f0, .string a.f1, .slice Aa2 a.f2.length Aac2], .agg #[.int .i64 b.f0, .string b.f1, .slice Ab2 b.f2.length Abc2]] ++ #[]) W fun e w' => e = .returned (.bool t) ∧ Below W.heap.size W w' := fun W hW => by
      rw [HGG.out]
      exact impl_isStore_1.calls k1 a.f0 a.f1 Aa2 Aac2 a.f2 b.f0 b.f1 Ab2 Abc2 b.f2 t _ (Kd.C_below CR0.out hW) CL0.out (Kd.C_below CR1.out hW) CL1.out H1.out
     have HCC := Aside0.mk HC
     have ha0_ := fun (o_ : Obj) => pw_cell_below (below_alloc (Below.refl wr.heap.size wr) o_) hcb0
     have ha1_ := fun (o_ : Obj) => pw_cell_below (below_alloc (Below.refl wr.heap.size wr) o_) hcb1
     have ha2_ := fun (o_ : Obj) => pw_cell_below (below_alloc (Below.refl wr.heap.size wr) o_) hcb2
     clear HC
     go_wp2_with fail
     refine (HCC.out _ (by repeat (first | exact Below.refl _ _ | apply below_alloc))).mono ?_
     rintro e w2 ⟨rfl, hb2⟩
     have HB2 := Aside0.mk (show Below w.heap.size w w2 from below_step (by repeat (first | exact HB.out | apply below_alloc)) hb2)
     clear hb2
     cases t with
     | true =>
      rw [if_pos rfl] at h2
      have H2 := Aside0.mk h2
      clear h2
      go_wp2_with fail
      go_roundg k1
      case measure => have := HK.out; omega
      case rel => exact ⟨i + 1, by go_num, by omega, H2, ⟨by have := HK.out; omega⟩, HB2⟩
     | false =>
      rw [if_neg (by decide)] at h2
      obtain rfl : false = r := Option.some.inj h2
      clear h2
      go_wp2_with fail
      go_ret
      exact ⟨rfl, HB2.out⟩
    ·have hltz : ¬ (i : Int) < (l0.length : Int) := by omega
     have hil : i = l0.length := by omega
     subst hil
     rw [if_neg (by omega)] at hA
     obtain rfl : true = r := Option.some.inj hA
     clear hA
     go_wp2
     go_ret
     exact ⟨rfl, HB.out⟩
 ·rw [if_neg hl] at h
  obtain rfl : false = r := Option.some.inj h
  have hl1 : (((l0.length : Int) != (l1.length : Int)) = true) := bne_iff_ne.mpr (by omega)
  have hl2 : ((l0.length != l1.length) = true) := bne_iff_ne.mpr hl
  clear h
  go_enter Try.func101, Try.ntmps101
  go_wp2_with fail
  go_ret
  exact ⟨rfl, Below.refl _ _⟩



end Go.Proofs.Ytffpeklekkpbjaa.QFnExactFindBatch
