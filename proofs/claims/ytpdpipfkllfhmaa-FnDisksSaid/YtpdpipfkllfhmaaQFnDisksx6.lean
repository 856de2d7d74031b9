/- Functions that one statement reaches: of each a plain function, and the proof that calls come to it. Conditions: those that each contract names. Written by a program of this repository. -/
import Derived.Test.YtpdpipfkllfhmaaVFnDisksa
import Derived.Test.YtpdpipfkllfhmaaQFnDisksx3
import Derived.Test.YtpdpipfkllfhmaaQFnDisksx5
namespace Go.Proofs.Ytpdpipfkllfhmaa.QFnDisks
open Go.RowKit Go.Proofs.YtpdpipfkllfhmaaW.PrintWords Go.Proofs.YtpdpipfkllfhmaaW.PrintLast Go.Proofs.YtpdpipfkllfhmaaW.PrintMore
attribute [local go_sem] max2_int min2_int max_two min_two max_three min_three max_four min_four Go.Proofs.YtpdpipfkllfhmaaW.PrintMore2.isSome_setCell   -- for this text's walks alone
set_option linter.unusedVariables false
set_option linter.unusedSimpArgs false

/-! ### impl_readLog: function 53 -/
def impl_readLog.l0 : Nat → ByteArray → List (S44) → Int → Option ((List (S44)) × Int)
 | 0, _, _, _ => none
 | k + 1, x0, x4, x5 => (impl_takeBatch.f k x0 x5).bind fun bt149 => (if bt149.2.2.2.2.2.2 = true then ((impl_follows.f x4 bt149.1 bt149.2.1 bt149.2.2.1 bt149.2.2.2.1 bt149.2.2.2.2.1).bind fun t159 => (if t159 = true then (if x4.length < 2513169434916 then (impl_readLog.l0 k x0 (x4 ++ [(⟨bt149.1, bt149.2.1, bt149.2.2.1, bt149.2.2.2.1, bt149.2.2.2.2.1⟩ : S44)]) bt149.2.2.2.2.2.1) else (none)) else (some (x4, x5)))) else (some (x4, x5)))
def impl_readLog.f (k : Nat) (a0 : ByteArray) : Option ((List (S44)) × Int) := impl_readLog.l0 k a0 (([] : List (S44))) 0
theorem impl_readLog.mono_l : ∀ k, (∀ y0 y1 y2, LeO (impl_readLog.l0 k y0 y1 y2) (impl_readLog.l0 (k + 1) y0 y1 y2))
 | 0 => fun _ _ _ r h => by simp [impl_readLog.l0] at h
 | k + 1 => by
  have ih0 := impl_readLog.mono_l k
  ·intro y0 y1 y2
   unfold impl_readLog.l0
   repeat' first
   | (with_reducible first | apply ih0 | apply impl_takeBatch.mono | exact LeO.refl _ | exact LeO.none _ | refine LeO.ite ?_ ?_ | refine LeO.bind ?_ (fun _ => ?_))
theorem impl_readLog.mono : ∀ a0 k, LeO (impl_readLog.f k a0) (impl_readLog.f (k + 1) a0) := by
 intro a0 k
 have ih0 := impl_readLog.mono_l k
 unfold impl_readLog.f
 repeat' first
   | (with_reducible first | apply ih0 | apply impl_takeBatch.mono | exact LeO.refl _ | exact LeO.none _ | refine LeO.ite ?_ ?_ | refine LeO.bind ?_ (fun _ => ?_))
set_option maxHeartbeats 8000000 in
set_option maxRecDepth 100000 in
theorem impl_readLog.calls (k : Nat) (a0 : ByteArray) (r1 : List (S44)) (r2 : Int) (w : World) (h : impl_readLog.f k a0 = some (r1, r2)) :
  Calls Try.prog 53 #[.string a0] w fun e w' => ∃ v0_ : Value, e = .returned (.tuple #[v0_, .int .i64 r2]) ∧ Kd.S k44 44 w' w.heap.size (fun _ => True) v0_ r1 ∧ Below w.heap.size w w' := by
 have hu44 := Try.underlying44
 have HB := Aside0.mk (Below.refl w.heap.size w)
 have H : (impl_readLog.l0 k a0 (([] : List (S44))) 0) = some (r1, r2) := h
 clear h
 obtain ⟨wA, mA⟩ : ∃ y_ : List (S44), y_ = (([] : List (S44))) := ⟨_, rfl⟩
 replace H : (impl_readLog.l0 k a0 wA 0) = some (r1, r2) := by first | (rw [mA]; with_reducible exact H) | (have H2_ := (Option.bind_some _ _).symm.trans H; rw [mA]; with_reducible exact H2_) | (have H2_ := (Option.bind_some _ _).symm.trans H; with_reducible exact H2_) | with_reducible exact H | (rw [mA]; exact H) | exact H
 have tA := Aside0.mk mA
 clear mA
 have H' := Aside0.mk H
 clear H
 go_enter Try.func53, Try.ntmps53
 go_wp2_with (first | ((with_reducible refine gate_dst (N := 9) rfl ?_); refine Kd.S_lit k44 _ 44 ?hg (N := 9) ?hd (xs := ([] : List (S44))) (inner := []) (ok := fun _ => True) (okp := fun _ => True) ?hr ?hp (fun _ hk => hk) trivial (Below.refl _ _) (Nat.le_refl _) (by simp) ?_; (case hd => rfl); (case hg => rfl); (case hr => first | (go_simp; done) | (go_simp; rfl)); (case hp => exact (Reps.none _ _)); intro bD w2 xA hb hg_ hnew_; clear hg_ hnew_; (first | rw [← tA.out] at xA | (simp only [Int.reduceToNat] at xA; rw [← tA.out] at xA)); have yA := Aside0.mk (Kd.S_lower xA (below_size (hb_))); replace HB := nb_ hb; clear hb xA))
 go_loopg [4, 5] k (fun kq v4 v5 w' => ∃ (kA : List (S44)) (lA : Int), v5 = .int .i64 lA ∧ Aside0 (impl_readLog.l0 kq a0 kA lA = some (r1, r2)) ∧ Aside0 (kq ≤ k) ∧ Aside0 (Kd.S k44 44 w' w.heap.size (fun _ => True) v4 kA) ∧ Aside0 (Below w.heap.size w w'))
 case atStart => exact ⟨(wA), (0), sr_, H', ⟨Nat.le_refl _⟩, ⟨ks_ yA.out⟩, ⟨hb_⟩⟩
 case round =>
  clear H'
  obtain ⟨kA, lA, rfl, HA, aD, bA, HB⟩ := hrel
  cases gk with
  | zero => exact absurd HA.out (by simp [impl_readLog.l0])
  | succ k1 =>
   have H := HA.out
   clear HA
   simp only [impl_readLog.l0] at H
   replace H := bnd_ H
   obtain ⟨⟨gA, hA, iA, jA, eA, qA, cD⟩, A4, H⟩ := H
   replace H := red_ H
   replace H := ifb_ H
   obtain ⟨rfl, H⟩ | ⟨rfl, H⟩ := H
   rotate_left
   ·simp only [Option.some.injEq, Prod.mk.injEq] at H
    obtain ⟨rfl, rfl⟩ := H
    go_wp2_with (first | ((with_reducible refine gate_callee (f := 83) rfl ?_); refine gl_ 13 Try.func83 #[.string a0, .int .i64 lA] rfl ma_ ?_; (with_reducible refine (impl_takeBatch.calls k1 a0 lA gA hA iA jA eA qA false _ A4.out).mono ?_); rintro e iD ⟨zA, rfl, rA, hb⟩; refine ⟨_, rfl, ?_⟩; replace bA := Aside0.mk (Kd.S_elder' (ks_ bA.out) (Kd.R_base rA) hb); have aA := Aside0.mk (Kd.R_lower rA (below_size (hb_))); replace HB := nb_ hb; (try clear hb); (try clear hb2); (try clear hk); (try clear hi); (try clear rA)) | ((with_reducible refine gate_dst (N := 6) rfl ?_); refine bq_ (N := 6) #[.int .i64 0, .int .i64 0, .int .i64 0, .int .i64 0, .slice none 0 0] 44 ?_; intro cA hg jD dA hb; replace bA := Aside0.mk (Kd.S_below (Kd.S_elderB (ks_ bA.out) cA (Nat.le_of_eq hg.symm)) hb); replace aA := rB_ aA hb; have fA := ge_ hg; replace HB := nb_ hb; clear hb hg; obtain ⟨fB, gB, hB, iB, jB, kB, lB, mB, nB, oB⟩ := cf5_ dA.out; obtain ⟨dD, eD, tC⟩ := Kd.R_slice aA.out; subst tC))
    go_ret2
    exact ⟨_, er_, Kd.S_mono (sF_ (Kd.S_mono bA.out (fun k_ hk => (⟨hk, hk.2⟩ : _ ∧ k_ ≠ cA)))) (fun _ hk => trivial), hs_ fA.out⟩
   replace H := bnd_ H
   obtain ⟨fD, A6, H⟩ := H
   replace H := ifb_ H
   obtain ⟨rfl, H⟩ | ⟨rfl, H⟩ := H
   rotate_left
   ·simp only [Option.some.injEq, Prod.mk.injEq] at H
    obtain ⟨rfl, rfl⟩ := H
    go_wp2_with (first | ((with_reducible refine gate_callee (f := 83) rfl ?_); refine gl_ 13 Try.func83 #[.string a0, .int .i64 lA] rfl ma_ ?_; (with_reducible refine (impl_takeBatch.calls k1 a0 lA gA hA iA jA eA qA true _ A4.out).mono ?_); rintro e kD ⟨zA, rfl, rA, hb⟩; refine ⟨_, rfl, ?_⟩; replace bA := Aside0.mk (Kd.S_elder' (ks_ bA.out) (Kd.R_base rA) hb); have aA := Aside0.mk (Kd.R_lower rA (below_size (hb_))); replace HB := nb_ hb; (try clear hb); (try clear hb2); (try clear hk); (try clear hi); (try clear rA)) | ((with_reducible refine gate_dst (N := 6) rfl ?_); refine bq_ (N := 6) #[.int .i64 0, .int .i64 0, .int .i64 0, .int .i64 0, .slice none 0 0] 44 ?_; intro cA hg lD dA hb; replace bA := Aside0.mk (Kd.S_below (Kd.S_elderB (ks_ bA.out) cA (Nat.le_of_eq hg.symm)) hb); replace aA := rB_ aA hb; have fA := ge_ hg; replace HB := nb_ hb; clear hb hg; obtain ⟨pB, qB, rB, sB, tB, uB, vB, wB, xB, yB⟩ := cf5_ dA.out; obtain ⟨bB, uA, uC⟩ := Kd.R_slice aA.out; subst uC; obtain ⟨gD, vC, wC⟩ := Kd.S_slice bA.out; subst wC) | (go_at_call 65; (with_reducible refine (impl_follows.calls _ _ kA gA hA iA jA _ _ eA false _ ?side1 ?side2 ?side3 ?side4 A6.out).mono ?_); (case side1 => refine (Kd.S_reads' (e := 44) (base := w.heap.size) (ok := fun k_ => ((True ∧ some k_ ≠ (.slice bB eA.length uA : Value).ownBlock) ∧ k_ ≠ cA)) (n := kA.length) (c := vC) ?_).2.2; exact ((Kd.S_mono (sF_ (Kd.S_mono bA.out (fun k_ hk => (⟨hk, hk.2⟩ : _ ∧ k_ ≠ cA)))) (fun _ h_ => h_.1)))); (case side2 => exact (Kd.S_reads' bA.out).2.1); (case side3 => refine (Kd.R_reads' (e := 9) (base := w.heap.size) (ok := fun k_ => True) (n := eA.length) (c := uA) ?_).2.2; exact ((Kd.R_mono (rF_ (Kd.R_types aA.out dA.out (by decide))) (fun _ h_ => h_.1)))); (case side4 => exact (Kd.R_reads' aA.out).2.1); rintro e mD ⟨rfl, hb⟩; replace bA := Aside0.mk (Kd.S_below ((Kd.S_mono (sF_ (Kd.S_mono bA.out (fun k_ hk => (⟨hk, hk.2⟩ : _ ∧ k_ ≠ cA)))) (fun _ h_ => h_.1))) hb); replace aA := Aside0.mk (Kd.R_below ((Kd.R_mono (rF_ (Kd.R_types aA.out dA.out (by decide))) (fun _ h_ => h_.1))) hb); replace dA := Aside0.mk (blk_below (g := cA) (o := .cells #[.int .i64 gA, .int .i64 hA, .int .i64 iA, .int .i64 jA, .slice bB eA.length uA] 44 (0, 0)) (up_ dA) hb); replace HB := nc_ fA hb; (try clear hb); (try clear hb2); (try clear hk); (try clear hi)))
    go_ret2
    exact ⟨_, er_, sF_ (Kd.S_mono bA.out (fun _ hk => trivial)), hs_ fA.out⟩
   replace H := ifs_ H
   obtain ⟨c8, H⟩ := H
   have xC := Aside0.mk c8
   clear c8
   obtain ⟨cB, nA⟩ : ∃ y_ : List (S44), y_ = (kA ++ [(⟨gA, hA, iA, jA, eA⟩ : S44)]) := ⟨_, rfl⟩
   replace H : (impl_readLog.l0 k1 a0 cB qA) = some (r1, r2) := by first | (rw [nA]; with_reducible exact H) | (have H2_ := (Option.bind_some _ _).symm.trans H; rw [nA]; with_reducible exact H2_) | (have H2_ := (Option.bind_some _ _).symm.trans H; with_reducible exact H2_) | with_reducible exact H | (rw [nA]; exact H) | exact H
   have dB := Aside0.mk nA
   clear nA
   have H' := Aside0.mk H
   clear H
   go_wp2_with (first | ((with_reducible refine gate_callee (f := 83) rfl ?_); refine gl_ 13 Try.func83 #[.string a0, .int .i64 lA] rfl ma_ ?_; (with_reducible refine (impl_takeBatch.calls k1 a0 lA gA hA iA jA eA qA true _ A4.out).mono ?_); rintro e w9 ⟨zA, rfl, rA, hb⟩; refine ⟨_, rfl, ?_⟩; replace bA := Aside0.mk (Kd.S_elder' (ks_ bA.out) (Kd.R_base rA) hb); have aA := Aside0.mk (Kd.R_lower rA (below_size (hb_))); replace HB := nb_ hb; (try clear hb); (try clear hb2); (try clear hk); (try clear hi); (try clear rA)) | ((with_reducible refine gate_dst (N := 6) rfl ?_); refine bq_ (N := 6) #[.int .i64 0, .int .i64 0, .int .i64 0, .int .i64 0, .slice none 0 0] 44 ?_; intro cA hg nD dA hb; replace bA := Aside0.mk (Kd.S_below (Kd.S_elderB (ks_ bA.out) cA (Nat.le_of_eq hg.symm)) hb); replace aA := rB_ aA hb; have fA := ge_ hg; replace HB := nb_ hb; clear hb hg; obtain ⟨zB, aC, bC, cC, dC, eC, fC, gC, hC, iC⟩ := cf5_ dA.out; obtain ⟨pA, oA, yC⟩ := Kd.R_slice aA.out; subst yC; obtain ⟨vA, sA, zC⟩ := Kd.S_slice bA.out; subst zC) | (go_at_call 65; (with_reducible refine (impl_follows.calls _ _ kA gA hA iA jA _ _ eA true _ ?side1 ?side2 ?side3 ?side4 A6.out).mono ?_); (case side1 => refine (Kd.S_reads' (e := 44) (base := w.heap.size) (ok := fun k_ => ((True ∧ some k_ ≠ (.slice pA eA.length oA : Value).ownBlock) ∧ k_ ≠ cA)) (n := kA.length) (c := sA) ?_).2.2; exact ((Kd.S_mono (sF_ (Kd.S_mono bA.out (fun k_ hk => (⟨hk, hk.2⟩ : _ ∧ k_ ≠ cA)))) (fun _ h_ => h_.1)))); (case side2 => exact (Kd.S_reads' bA.out).2.1); (case side3 => refine (Kd.R_reads' (e := 9) (base := w.heap.size) (ok := fun k_ => True) (n := eA.length) (c := oA) ?_).2.2; exact ((Kd.R_mono (rF_ (Kd.R_types aA.out dA.out (by decide))) (fun _ h_ => h_.1)))); (case side4 => exact (Kd.R_reads' aA.out).2.1); rintro e oD ⟨rfl, hb⟩; replace bA := Aside0.mk (Kd.S_below ((Kd.S_mono (sF_ (Kd.S_mono bA.out (fun k_ hk => (⟨hk, hk.2⟩ : _ ∧ k_ ≠ cA)))) (fun _ h_ => h_.1))) hb); replace aA := Aside0.mk (Kd.R_below ((Kd.R_mono (rF_ (Kd.R_types aA.out dA.out (by decide))) (fun _ h_ => h_.1))) hb); replace dA := Aside0.mk (blk_below (g := cA) (o := .cells #[.int .i64 gA, .int .i64 hA, .int .i64 iA, .int .i64 jA, .slice pA eA.length oA] 44 (0, 0)) (up_ dA) hb); replace HB := nc_ fA hb; (try clear hb); (try clear hb2); (try clear hk); (try clear hi); obtain ⟨jC, kC, lC, mC, nC, oC, pC, qC, rC, sC⟩ := cf5_ dA.out) | ((with_reducible refine gate_builtin (b := .append) (xs := #[.tmp 27, .tmp 29]) rfl ?_); at_builtin; refine Kd.S_append k44 (w0 := w) w.heap.size rfl (.tmp 27) (.tmp 29) 26 44 (.agg #[(.int .i64 0), (.int .i64 0), (.int .i64 0), (.int .i64 0), (.slice none 0 0)]) 56 rfl Try.underlying26 info44 rfl (by decide) (by omega) (.slice vA kA.length sA) kA (⟨gA, hA, iA, jA, eA⟩ : S44) [.int .i64 gA, .int .i64 hA, .int .i64 iA, .int .i64 jA, .slice pA eA.length oA] (fun k_ => k_ ≠ cA) (fun k_ => some k_ = (.slice pA eA.length oA : Value).ownBlock) rfl rfl ?aP (fun k_ hk_ => ((Kd.R_mono (ok' := fun k_ => ((fun k_ => k_ ≠ cA)) k_ ∧ some k_ ≠ (.slice vA kA.length sA : Value).ownBlock) (Kd.R_types (Kd.R_apart' (aA.out) (Kd.S_typed bA.out) (by decide)) dA.out (by decide)) (fun k_ hk => ⟨hk.2, hk.1.2⟩))).1 k_ hk_.symm) ?aF ?aO ?aB ?aS ?aL ?_; (case aP => exact k44_mkM _ _ _ (⟨gA, hA, iA, jA, eA⟩ : S44) (Kd.R_mono (Kd.R_tight rfl (Kd.R_mono (ok' := fun k_ => ((fun k_ => k_ ≠ cA)) k_ ∧ some k_ ≠ (.slice vA kA.length sA : Value).ownBlock) (Kd.R_types (Kd.R_apart' (aA.out) (Kd.S_typed bA.out) (by decide)) dA.out (by decide)) (fun k_ hk => ⟨hk.2, hk.1.2⟩))) (fun _ h_ => h_))); (case aB => exact (hs_ fA.out)); (case aF => exact (fun k_ hk => Kd.freshB (g := cA) (o := .cells #[.int .i64 gA, .int .i64 hA, .int .i64 iA, .int .i64 jA, .slice pA eA.length oA] 44 (0, 0)) (kb_ dA.out) k_ hk)); (case aO => exact (sF_ (Kd.S_mono bA.out (fun k_ hk => ⟨hk.2, fun e_ => hk.1.2 e_⟩)))); (case aS => exact (below_size (hs_ fA.out))); (case aL => have := xC.out; omega); intro hD pD ho hb hg hat; rw [← dB.out] at ho; replace dA := Aside0.mk (blk_grown (g := cA) (o := .cells #[.int .i64 gA, .int .i64 hA, .int .i64 iA, .int .i64 jA, .slice pA eA.length oA] 44 (0, 0)) (kb_ dA.out) hg (Kd.S_away bA.out (fun _ hk => hk.2))); replace HB := Aside0.mk (hb); have eB := Aside0.mk (ho); clear bA aA; clear ho hb hg hat))
   go_roundg k1
   case measure => have := aD.out; omega
   case rel => exact ⟨(cB), (qA), sr_, H', ⟨by have := aD.out; omega⟩, ⟨sF_ (Kd.S_mono eB.out (fun _ hk => trivial))⟩, ⟨hs_ fA.out⟩⟩

/-! ### impl_SurvivesIn: function 11 -/
def impl_SurvivesIn.f (k : Nat) (l0_0 : List (S56)) (a1 : Int) : Option ((List (S44)) × Bool) := (impl_Disk_has.f l0_0 a1).bind fun t164 => (if t164 = true then (if 0 ≤ a1 then (if a1 < (l0_0.length : Int) then (if 0 ≤ ((rd_T56 l0_0 a1).f1) then (if ((rd_T56 l0_0 a1).f1) ≤ (((rd_T56 l0_0 a1).f0).size : Int) then ((impl_readLog.f k (((rd_T56 l0_0 a1).f0).extract 0 (((rd_T56 l0_0 a1).f1) : Int).toNat)).bind fun bt167 => (some (bt167.1, true))) else (none)) else (none)) else (none)) else (none)) else (some (([] : List (S44)), false)))
theorem impl_SurvivesIn.mono : ∀ a0 a1 k, LeO (impl_SurvivesIn.f k a0 a1) (impl_SurvivesIn.f (k + 1) a0 a1) := by
 intro a0 a1 k
 unfold impl_SurvivesIn.f
 repeat' first
   | (with_reducible first | apply impl_readLog.mono | exact LeO.refl _ | exact LeO.none _ | refine LeO.ite ?_ ?_ | refine LeO.bind ?_ (fun _ => ?_))
set_option maxHeartbeats 8000000 in
set_option maxRecDepth 100000 in
theorem impl_SurvivesIn.calls (k : Nat) (A0_0 : Option Addr) (c0_0 : Nat) (l0_0 : List (S56)) (a1 : Int) (r1 : List (S44)) (r2 : Bool) (w : World) (hr0_0 : Kd.C k56 w A0_0 l0_0.length l0_0) (hc0_0 : l0_0.length ≤ c0_0) (h : impl_SurvivesIn.f k l0_0 a1 = some (r1, r2)) :
  Calls Try.prog 11 #[.agg #[.slice A0_0 l0_0.length c0_0], .int .i64 a1] w fun e w' => ∃ v0_ : Value, e = .returned (.tuple #[v0_, .bool r2]) ∧ Kd.S k44 44 w' w.heap.size (fun _ => True) v0_ r1 ∧ Below w.heap.size w w' := by
 have hu31 := Try.underlying31
 have hu56 := Try.underlying56
 have gA := Aside0.mk hr0_0
 have jA := Aside0.mk hc0_0
 clear hr0_0 hc0_0
 have HB := Aside0.mk (Below.refl w.heap.size w)
 have H : ((impl_Disk_has.f l0_0 a1).bind fun nA => (if nA = true then (if 0 ≤ a1 then (if a1 < (l0_0.length : Int) then (if 0 ≤ ((rd_T56 l0_0 a1).f1) then (if ((rd_T56 l0_0 a1).f1) ≤ (((rd_T56 l0_0 a1).f0).size : Int) then ((impl_readLog.f k (((rd_T56 l0_0 a1).f0).extract 0 (((rd_T56 l0_0 a1).f1) : Int).toNat)).bind fun oA => (some (oA.1, true))) else (none)) else (none)) else (none)) else (none)) else (some (([] : List (S44)), false)))) = some (r1, r2) := h
 clear h
 replace H := bnd_ H
 obtain ⟨nA, A3, H⟩ := H
 replace H := ifb_ H
 obtain ⟨rfl, H⟩ | ⟨rfl, H⟩ := H
 rotate_left
 ·simp only [Option.some.injEq, Prod.mk.injEq] at H
  obtain ⟨rfl, rfl⟩ := H
  go_enter Try.func11, Try.ntmps11
  go_wp2_with (first | ((with_reducible refine gate_dst (N := 2) rfl ?_); refine bq_ (N := 2) #[.slice A0_0 l0_0.length c0_0] 31 ?_; intro kA hg qB aA hb; have bA := ge_ hg; replace HB := nb_ hb; clear hb hg; obtain ⟨sA, tA⟩ := cf1_ aA.out) | ((with_reducible refine gate_callee (f := 52) rfl ?_); refine gl_ 11 Try.func52 #[.agg #[.slice A0_0 l0_0.length c0_0], .int .i64 a1] rfl ma_ ?_; (with_reducible refine (impl_Disk_has.calls _ _ l0_0 a1 false _ ?side1 ?side2 A3.out).mono ?_); (case side1 => exact cs_ ((Kd.C_below gA.out HB.out))); (case side2 => exact jA.out); rintro e rB ⟨rfl, hb⟩; refine ⟨_, rfl, ?_⟩; replace aA := bK_ aA hb; replace HB := nc_ bA hb; (try clear hb); (try clear hb2); (try clear hk); (try clear hi)))
  go_ret2
  exact ⟨_, er_, by first | exact Kd.S_nil _ _ _ _ _ | exact Kd.N_nil _ _ _ _ _ | exact Kd.V_nil _ _ _ _ _ | exact Kd.Q_nil _ _ _ _ _ | exact Kd.R_nil _ _ _ _ _, hs_ bA.out⟩
 replace H := ifs_ H
 obtain ⟨c5, H⟩ := H
 have jB := decide_eq_true c5
 clear c5
 replace H := ifs_ H
 obtain ⟨c6, H⟩ := H
 have kB := decide_eq_true c6
 clear c6
 replace H := ifs_ H
 obtain ⟨c7, H⟩ := H
 have lB := eq_true c7
 have mB := decide_eq_true c7
 clear c7
 replace H := ifs_ H
 obtain ⟨c8, H⟩ := H
 have nB := eq_true c8
 have oB := decide_eq_true c8
 clear c8
 replace H := bnd_ H
 obtain ⟨⟨dB, eB⟩, A9, H⟩ := H
 replace H := red_ H
 simp only [Option.some.injEq, Prod.mk.injEq] at H
 obtain ⟨rfl, rfl⟩ := H
 go_enter Try.func11, Try.ntmps11
 go_wp2_with (first | ((with_reducible refine gate_dst (N := 2) rfl ?_); refine bq_ (N := 2) #[.slice A0_0 l0_0.length c0_0] 31 ?_; intro kA hg sB aA hb; have bA := ge_ hg; replace HB := nb_ hb; clear hb hg; obtain ⟨uA, vA⟩ := cf1_ aA.out) | ((with_reducible refine gate_callee (f := 52) rfl ?_); refine gl_ 11 Try.func52 #[.agg #[.slice A0_0 l0_0.length c0_0], .int .i64 a1] rfl ma_ ?_; (with_reducible refine (impl_Disk_has.calls _ _ l0_0 a1 true _ ?side1 ?side2 A3.out).mono ?_); (case side1 => exact cs_ ((Kd.C_below gA.out HB.out))); (case side2 => exact jA.out); rintro e tB ⟨rfl, hb⟩; refine ⟨_, rfl, ?_⟩; replace aA := bK_ aA hb; replace HB := nc_ bA hb; (try clear hb); (try clear hb2); (try clear hk); (try clear hi); obtain ⟨wA, xA⟩ := cf1_ aA.out; have lA : 0 ≤ (a1 : Int) := oa_; have mA : a1 < (l0_0.length : Int) := oa_; obtain ⟨pA, fB, dA, eA⟩ := at_T56 gA.out a1 lA mA; cases fB; replace dA := pc_ HB.out dA; replace eA := pc_ HB.out eA; replace lA := eq_true lA; replace mA := eq_true mA) | ((with_reducible refine gate_dst (N := 6) rfl ?_); refine box_event ?hg (N := 6) ?hd (cs := #[.string (⟨#[]⟩ : ByteArray), .int .i64 0]) (t := 56) ?hr ?_; (case hd => rfl); (case hg => rfl); (case hr => first | (go_simp; done) | (go_simp; rfl)); intro qA hg uB hbox hb; have hA := Aside0.mk (hbox); have iA := ge1_ hg bA; replace HB := nc_ bA hb; have cA := nl_ aA hg; have fA := ng_ aA hg; replace aA := bK_ aA hb; clear hb hbox hg; have gB := fA.out; have hB := cA.out; obtain ⟨yA, zA, bB, cB⟩ := cf2_ hA.out) | ((with_reducible refine gate_callee (f := 53) rfl ?_); refine gl_ 24 Try.func53 #[.string (((rd_T56 l0_0 a1).f0).extract 0 (((rd_T56 l0_0 a1).f1) : Int).toNat)] rfl ma_ ?_; (with_reducible refine (impl_readLog.calls k (((rd_T56 l0_0 a1).f0).extract 0 (((rd_T56 l0_0 a1).f1) : Int).toNat) dB eB _ A9.out).mono ?_); rintro e vB ⟨pB, rfl, iB, hb⟩; refine ⟨_, rfl, ?_⟩; have rA := Aside0.mk (Kd.S_lower iB (below_size (hs2_ bA.out iA.out))); replace aA := Aside0.mk (blk_below (g := kA) (o := .cells #[.slice (some pA) l0_0.length c0_0] 31 (0, 0)) (uf_ aA cA.out) hb); replace hA := Aside0.mk (blk_below (g := qA) (o := .cells #[.string ((rd_T56 l0_0 a1).f0), .int .i64 ((rd_T56 l0_0 a1).f1)] 56 (0, 0)) (up_ hA) hb); replace HB := nc2_ bA iA hb; (try clear hb); (try clear hb2); (try clear hk); (try clear hi); (try clear iB)))
 go_ret2
 exact ⟨_, er_, ks_ rA.out, hs2_ bA.out iA.out⟩

/-! ### spec_l1In: function 78 -/
def spec_l1In.f (a0 : Int) (a1 : Int) (a2 : Int) : Option (Bool) := if a0 ≥ a1 then (some (decide (a0 ≤ a2))) else (some false)
set_option maxHeartbeats 8000000 in
set_option maxRecDepth 100000 in
theorem spec_l1In.calls (a0 : Int) (a1 : Int) (a2 : Int) (r : Bool) (w : World) (h : spec_l1In.f a0 a1 a2 = some r) :
  Calls Try.prog 78 #[.int .i64 a0, .int .i64 a1, .int .i64 a2] w fun e w' => e = .returned (.bool r) ∧ Drawn0 w w' := by
 have H : (if a0 ≥ a1 then (some (decide (a0 ≤ a2))) else (some false)) = some r := h
 clear h
 replace H := ite_ H
 obtain ⟨c4, H⟩ | ⟨c4, H⟩ := H
 rotate_left
 ·have aA := dne_ c4
  clear c4
  obtain rfl := Option.some.inj H
  go_enter Try.func78, Try.ntmps78
  go_wp2
  go_ret
  exact ⟨by first | rfl | (simp; done) | (simp [*]; done), dr_⟩
 have aA := dge_ c4
 clear c4
 obtain rfl := Option.some.inj H
 go_enter Try.func78, Try.ntmps78
 go_wp2
 go_ret
 exact ⟨by first | rfl | (simp; done) | (simp [*]; done), dr_⟩

/-! ### spec_GoodDisk: function 45 -/
def spec_GoodDisk.l0 : Nat → List (S56) → Int → Int → List (S56) → Option (Bool)
 | 0, _, _, _, _ => none
 | k + 1, x6, x7, x8, x172000 => if x8 < x7 then (if 0 ≤ x8 then (if x8 < (x6.length : Int) then (if (((rd_T56 x6 x8).f0).size : Int) > 400 then (some false) else (if ((rd_T56 x6 x8).f1) < 0 then (some false) else (if ((rd_T56 x6 x8).f1) > (((rd_T56 x6 x8).f0).size : Int) then (some false) else (spec_GoodDisk.l0 k x6 x7 (wrap64 (x8 + 1)) x172000)))) else (none)) else (none)) else ((spec_l1In.f (x172000.length : Int) 1 4).bind fun t174 => (some t174))
def spec_GoodDisk.f (k : Nat) (l0_0 : List (S56)) : Option (Bool) := spec_GoodDisk.l0 k l0_0 (l0_0.length : Int) 0 l0_0
theorem spec_GoodDisk.mono_l : ∀ k, (∀ y0 y1 y2 y3, LeO (spec_GoodDisk.l0 k y0 y1 y2 y3) (spec_GoodDisk.l0 (k + 1) y0 y1 y2 y3))
 | 0 => fun _ _ _ _ r h => by simp [spec_GoodDisk.l0] at h
 | k + 1 => by
  have ih0 := spec_GoodDisk.mono_l k
  ·intro y0 y1 y2 y3
   unfold spec_GoodDisk.l0
   repeat' first
   | (with_reducible first | apply ih0 | exact LeO.refl _ | exact LeO.none _ | refine LeO.ite ?_ ?_ | refine LeO.bind ?_ (fun _ => ?_))
theorem spec_GoodDisk.mono : ∀ a0 k, LeO (spec_GoodDisk.f k a0) (spec_GoodDisk.f (k + 1) a0) := by
 intro a0 k
 have ih0 := spec_GoodDisk.mono_l k
 unfold spec_GoodDisk.f
 repeat' first
   | (with_reducible first | apply ih0 | exact LeO.refl _ | exact LeO.none _ | refine LeO.ite ?_ ?_ | refine LeO.bind ?_ (fun _ => ?_))
set_option maxHeartbeats 8000000 in
set_option maxRecDepth 100000 in
theorem spec_GoodDisk.calls (k : Nat) (A0_0 : Option Addr) (c0_0 : Nat) (l0_0 : List (S56)) (r : Bool) (w : World) (hr0_0 : Kd.C k56 w A0_0 l0_0.length l0_0) (hc0_0 : l0_0.length ≤ c0_0) (h : spec_GoodDisk.f k l0_0 = some r) :
  Calls Try.prog 45 #[.agg #[.slice A0_0 l0_0.length c0_0]] w fun e w' => e = .returned (.bool r) ∧ Below w.heap.size w w' := by
 have hu31 := Try.underlying31
 have hu56 := Try.underlying56
 have mA := Aside0.mk hr0_0
 have tB := Aside0.mk hc0_0
 clear hr0_0 hc0_0
 have HB := Aside0.mk (Below.refl w.heap.size w)
 have H : (spec_GoodDisk.l0 k l0_0 (l0_0.length : Int) 0 l0_0) = some r := h
 clear h
 have H' := Aside0.mk H
 clear H
 go_enter Try.func45, Try.ntmps45
 go_wp2_with (first | ((with_reducible refine gate_dst (N := 1) rfl ?_); (try (refine gate_guard (by rfl) ?_; dsimp only)); refine bq_ (N := 1) #[.slice A0_0 l0_0.length c0_0] 31 ?_; intro rA hg w2 aA hb; have fA := ge_ hg; replace HB := nb_ hb; clear hb hg; obtain ⟨pA, qA⟩ := cf1_ aA.out))
 go_loopg [8] k (fun kq v8 w' => ∃ (gA : Int), v8 = .int .i64 gA ∧ Aside0 (spec_GoodDisk.l0 kq l0_0 (l0_0.length : Int) gA l0_0 = some r) ∧ Aside0 (kq ≤ k) ∧ Aside0 (w'.heap[rA]? = some (.cells #[(.slice A0_0 l0_0.length c0_0)] 31 (0, 0))) ∧ Aside0 (Below w.heap.size w w'))
 case atStart => exact ⟨(0), sr_, H', ⟨Nat.le_refl _⟩, ⟨kb_ aA.out⟩, ⟨hs_ fA.out⟩⟩
 case round =>
  clear H'
  try clear pA
  try clear qA
  obtain ⟨gA, rfl, HA, uB, aA, HB⟩ := hrel
  cases gk with
  | zero => exact absurd HA.out (by simp [spec_GoodDisk.l0])
  | succ k1 =>
   have H := HA.out
   clear HA
   simp only [spec_GoodDisk.l0] at H
   replace H := ite_ H
   obtain ⟨c4, H⟩ | ⟨c4, H⟩ := H
   rotate_left
   ·have pB := decide_eq_false c4
    clear c4
    replace H := bnd_ H
    obtain ⟨qB, bC, H⟩ := H
    obtain rfl := Option.some.inj H
    obtain ⟨wA, xA⟩ := cf1_ aA.out
    go_wp2_with (first | ((with_reducible refine gate_callee (f := 78) rfl ?_); refine gl_ 33 Try.func78 #[.int .i64 (l0_0.length : Int), .int .i64 1, .int .i64 4] rfl ma_ ?_; (with_reducible refine (spec_l1In.calls (l0_0.length : Int) 1 4 qB _ bC.out).mono ?_); rintro e w' ⟨rfl, ⟨nd, rfl⟩⟩; refine ⟨_, rfl, ?_⟩))
    go_ret
    exact ⟨er_, hs_ fA.out⟩
   have pB := decide_eq_true c4
   clear c4
   replace H := ifs_ H
   obtain ⟨c5, H⟩ := H
   have cC := decide_eq_true c5
   clear c5
   replace H := ifs_ H
   obtain ⟨c6, H⟩ := H
   have dC := decide_eq_true c6
   clear c6
   replace H := ite_ H
   obtain ⟨c7, H⟩ | ⟨c7, H⟩ := H
   ·have rB := dgt_ c7
    have sB : decide (400 < ((rd_T56 l0_0 gA).f0).size) = true := decide_eq_true (by omega)
    clear c7
    obtain rfl := Option.some.inj H
    have hA : 0 ≤ (gA : Int) := oa_
    have iA : gA < (l0_0.length : Int) := oa_
    obtain ⟨nA, lA, cA, dA⟩ := at_T56 mA.out gA hA iA
    cases lA
    replace cA := pc_ HB.out cA
    replace dA := pc_ HB.out dA
    replace hA := eq_true hA
    replace iA := eq_true iA
    go_wp2_with (first | ((with_reducible refine gate_dst (N := 4) rfl ?_); (try (refine gate_guard (by rfl) ?_; dsimp only)); refine box_event ?hg (N := 4) ?hd (cs := #[.string (⟨#[]⟩ : ByteArray), .int .i64 0]) (t := 56) ?hr ?_; (case hd => rfl); (case hg => rfl); (case hr => first | (go_simp; done) | (go_simp; rfl)); intro oA hg w8 hbox hb; have jA := Aside0.mk (hbox); have kA := ge1_ hg fA; replace HB := nc_ fA hb; have bA := nl_ aA hg; have eA := ng_ aA hg; replace aA := bK_ aA hb; clear hb hbox hg; have eC := eA.out; have fC := bA.out; obtain ⟨yA, zA, bB, cB⟩ := cf2_ jA.out))
    go_ret
    exact ⟨er_, hs2_ fA.out kA.out⟩
   have rB := dgf_ c7
   have sB : decide (400 < ((rd_T56 l0_0 gA).f0).size) = false := decide_eq_false (by omega)
   clear c7
   replace H := ite_ H
   obtain ⟨sA, H⟩ | ⟨sA, H⟩ := H
   ·have tA := decide_eq_true sA
    clear sA
    obtain rfl := Option.some.inj H
    have hA : 0 ≤ (gA : Int) := oa_
    have iA : gA < (l0_0.length : Int) := oa_
    obtain ⟨nA, lA, cA, dA⟩ := at_T56 mA.out gA hA iA
    cases lA
    replace cA := pc_ HB.out cA
    replace dA := pc_ HB.out dA
    replace hA := eq_true hA
    replace iA := eq_true iA
    go_wp2_with (first | ((with_reducible refine gate_dst (N := 4) rfl ?_); (try (refine gate_guard (by rfl) ?_; dsimp only)); refine box_event ?hg (N := 4) ?hd (cs := #[.string (⟨#[]⟩ : ByteArray), .int .i64 0]) (t := 56) ?hr ?_; (case hd => rfl); (case hg => rfl); (case hr => first | (go_simp; done) | (go_simp; rfl)); intro oA hg gC hbox hb; have jA := Aside0.mk (hbox); have kA := ge1_ hg fA; replace HB := nc_ fA hb; have bA := nl_ aA hg; have eA := ng_ aA hg; replace aA := bK_ aA hb; clear hb hbox hg; have vB := eA.out; have wB := bA.out; obtain ⟨dB, eB, fB, gB⟩ := cf2_ jA.out))
    go_ret
    exact ⟨er_, hs2_ fA.out kA.out⟩
   have tA := decide_eq_false sA
   clear sA
   replace H := ite_ H
   obtain ⟨uA, H⟩ | ⟨uA, H⟩ := H
   ·have vA := dgt_ uA
    clear uA
    obtain rfl := Option.some.inj H
    have hA : 0 ≤ (gA : Int) := oa_
    have iA : gA < (l0_0.length : Int) := oa_
    obtain ⟨nA, lA, cA, dA⟩ := at_T56 mA.out gA hA iA
    cases lA
    replace cA := pc_ HB.out cA
    replace dA := pc_ HB.out dA
    replace hA := eq_true hA
    replace iA := eq_true iA
    go_wp2_with (first | ((with_reducible refine gate_dst (N := 4) rfl ?_); (try (refine gate_guard (by rfl) ?_; dsimp only)); refine box_event ?hg (N := 4) ?hd (cs := #[.string (⟨#[]⟩ : ByteArray), .int .i64 0]) (t := 56) ?hr ?_; (case hd => rfl); (case hg => rfl); (case hr => first | (go_simp; done) | (go_simp; rfl)); intro oA hg hC hbox hb; have jA := Aside0.mk (hbox); have kA := ge1_ hg fA; replace HB := nc_ fA hb; have bA := nl_ aA hg; have eA := ng_ aA hg; replace aA := bK_ aA hb; clear hb hbox hg; have xB := eA.out; have yB := bA.out; obtain ⟨hB, iB, jB, kB⟩ := cf2_ jA.out))
    go_ret
    exact ⟨er_, hs2_ fA.out kA.out⟩
   have vA := dgf_ uA
   clear uA
   have H' := Aside0.mk H
   clear H
   have hA : 0 ≤ (gA : Int) := oa_
   have iA : gA < (l0_0.length : Int) := oa_
   obtain ⟨nA, lA, cA, dA⟩ := at_T56 mA.out gA hA iA
   cases lA
   replace cA := pc_ HB.out cA
   replace dA := pc_ HB.out dA
   replace hA := eq_true hA
   replace iA := eq_true iA
   go_wp2_with (first | ((with_reducible refine gate_dst (N := 4) rfl ?_); (try (refine gate_guard (by rfl) ?_; dsimp only)); refine box_event ?hg (N := 4) ?hd (cs := #[.string (⟨#[]⟩ : ByteArray), .int .i64 0]) (t := 56) ?hr ?_; (case hd => rfl); (case hg => rfl); (case hr => first | (go_simp; done) | (go_simp; rfl)); intro oA hg iC hbox hb; have jA := Aside0.mk (hbox); have kA := ge1_ hg fA; replace HB := nc_ fA hb; have bA := nl_ aA hg; have eA := ng_ aA hg; replace aA := bK_ aA hb; clear hb hbox hg; have zB := eA.out; have aC := bA.out; obtain ⟨lB, mB, nB, oB⟩ := cf2_ jA.out))
   go_roundg k1
   case measure => have := uB.out; omega
   case rel => exact ⟨(wrap64 (gA + 1)), sr_, H', ⟨by have := uB.out; omega⟩, ⟨uf_ aA bA.out⟩, ⟨hs2_ fA.out kA.out⟩⟩

/-! ### spec_l3File: function 49 -/
def spec_l3File.f (k : Nat) (l0_0 : List (S56)) (a1 : Int) : Option (Bool) := (spec_GoodDisk.f k l0_0).bind fun t176 => (if t176 = true then (if a1 ≥ 0 then (some (decide (a1 < (l0_0.length : Int)))) else (some false)) else (some false))
theorem spec_l3File.mono : ∀ a0 a1 k, LeO (spec_l3File.f k a0 a1) (spec_l3File.f (k + 1) a0 a1) := by
 intro a0 a1 k
 unfold spec_l3File.f
 repeat' first
   | (with_reducible first | apply spec_GoodDisk.mono | exact LeO.refl _ | exact LeO.none _ | refine LeO.ite ?_ ?_ | refine LeO.bind ?_ (fun _ => ?_))
set_option maxHeartbeats 8000000 in
set_option maxRecDepth 100000 in
theorem spec_l3File.calls (k : Nat) (A0_0 : Option Addr) (c0_0 : Nat) (l0_0 : List (S56)) (a1 : Int) (r : Bool) (w : World) (hr0_0 : Kd.C k56 w A0_0 l0_0.length l0_0) (hc0_0 : l0_0.length ≤ c0_0) (h : spec_l3File.f k l0_0 a1 = some r) :
  Calls Try.prog 49 #[.agg #[.slice A0_0 l0_0.length c0_0], .int .i64 a1] w fun e w' => e = .returned (.bool r) ∧ Below w.heap.size w w' := by
 have hu31 := Try.underlying31
 have cA := Aside0.mk hr0_0
 have dA := Aside0.mk hc0_0
 clear hr0_0 hc0_0
 have HB := Aside0.mk (Below.refl w.heap.size w)
 have H : ((spec_GoodDisk.f k l0_0).bind fun fA => (if fA = true then (if a1 ≥ 0 then (some (decide (a1 < (l0_0.length : Int)))) else (some false)) else (some false))) = some r := h
 clear h
 replace H := bnd_ H
 obtain ⟨fA, A3, H⟩ := H
 replace H := ifb_ H
 obtain ⟨rfl, H⟩ | ⟨rfl, H⟩ := H
 rotate_left
 ·obtain rfl := Option.some.inj H
  go_enter Try.func49, Try.ntmps49
  go_wp2_with (first | ((with_reducible refine gate_dst (N := 2) rfl ?_); (try (refine gate_guard (by rfl) ?_; dsimp only)); refine bq_ (N := 2) #[.slice A0_0 l0_0.length c0_0] 31 ?_; intro eA hg pA aA hb; have bA := ge_ hg; replace HB := nb_ hb; clear hb hg; obtain ⟨gA, hA⟩ := cf1_ aA.out) | ((with_reducible refine gate_callee (f := 45) rfl ?_); refine gl_ 6 Try.func45 #[.agg #[.slice A0_0 l0_0.length c0_0]] rfl ma_ ?_; (with_reducible refine (spec_GoodDisk.calls k _ _ l0_0 false _ ?side1 ?side2 A3.out).mono ?_); (case side1 => exact cs_ ((Kd.C_below cA.out HB.out))); (case side2 => exact dA.out); rintro e qA ⟨rfl, hb⟩; refine ⟨_, rfl, ?_⟩; replace aA := bK_ aA hb; replace HB := nc_ bA hb; (try clear hb); (try clear hb2); (try clear hk); (try clear hi)))
  go_ret
  exact ⟨er_, hs_ bA.out⟩
 replace H := ite_ H
 obtain ⟨c5, H⟩ | ⟨c5, H⟩ := H
 rotate_left
 ·have kA := dne_ c5
  clear c5
  obtain rfl := Option.some.inj H
  go_enter Try.func49, Try.ntmps49
  go_wp2_with (first | ((with_reducible refine gate_dst (N := 2) rfl ?_); (try (refine gate_guard (by rfl) ?_; dsimp only)); refine bq_ (N := 2) #[.slice A0_0 l0_0.length c0_0] 31 ?_; intro eA hg rA aA hb; have bA := ge_ hg; replace HB := nb_ hb; clear hb hg; obtain ⟨iA, jA⟩ := cf1_ aA.out) | ((with_reducible refine gate_callee (f := 45) rfl ?_); refine gl_ 6 Try.func45 #[.agg #[.slice A0_0 l0_0.length c0_0]] rfl ma_ ?_; (with_reducible refine (spec_GoodDisk.calls k _ _ l0_0 true _ ?side1 ?side2 A3.out).mono ?_); (case side1 => exact cs_ ((Kd.C_below cA.out HB.out))); (case side2 => exact dA.out); rintro e sA ⟨rfl, hb⟩; refine ⟨_, rfl, ?_⟩; replace aA := bK_ aA hb; replace HB := nc_ bA hb; (try clear hb); (try clear hb2); (try clear hk); (try clear hi)))
  go_ret
  exact ⟨er_, hs_ bA.out⟩
 have kA := dge_ c5
 clear c5
 obtain rfl := Option.some.inj H
 go_enter Try.func49, Try.ntmps49
 go_wp2_with (first | ((with_reducible refine gate_dst (N := 2) rfl ?_); (try (refine gate_guard (by rfl) ?_; dsimp only)); refine bq_ (N := 2) #[.slice A0_0 l0_0.length c0_0] 31 ?_; intro eA hg w6 aA hb; have bA := ge_ hg; replace HB := nb_ hb; clear hb hg; obtain ⟨lA, mA⟩ := cf1_ aA.out) | ((with_reducible refine gate_callee (f := 45) rfl ?_); refine gl_ 6 Try.func45 #[.agg #[.slice A0_0 l0_0.length c0_0]] rfl ma_ ?_; (with_reducible refine (spec_GoodDisk.calls k _ _ l0_0 true _ ?side1 ?side2 A3.out).mono ?_); (case side1 => exact cs_ ((Kd.C_below cA.out HB.out))); (case side2 => exact dA.out); rintro e w8 ⟨rfl, hb⟩; refine ⟨_, rfl, ?_⟩; replace aA := bK_ aA hb; replace HB := nc_ bA hb; (try clear hb); (try clear hb2); (try clear hk); (try clear hi); obtain ⟨nA, oA⟩ := cf1_ aA.out))
 go_ret
 exact ⟨er_, hs_ bA.out⟩

/-! ### spec_l3Own: function 76 -/
def spec_l3Own.f (l0_0 : List (S56)) : Option ((List (S56))) := (some (([] : List (S56)) : List (S56))).bind fun y179 => (if y179.length + l0_0.length < 5864062014805 then (some (y179 ++ l0_0)) else (none))
set_option maxHeartbeats 8000000 in
set_option maxRecDepth 100000 in
theorem spec_l3Own.calls (A0_0 : Option Addr) (c0_0 : Nat) (l0_0 : List (S56)) (r : List (S56)) (w : World) (hr0_0 : Kd.C k56 w A0_0 l0_0.length l0_0) (hc0_0 : l0_0.length ≤ c0_0) (h : spec_l3Own.f l0_0 = some r) :
  Calls Try.prog 76 #[.agg #[.slice A0_0 l0_0.length c0_0]] w fun e w' => ∃ v0_ : Value, e = .returned (.agg #[v0_]) ∧ Kd.R k56 56 w' w.heap.size (fun _ => True) v0_ r ∧ Below w.heap.size w w' := by
 have hu31 := Try.underlying31
 have oA := Aside0.mk hr0_0
 have cB := Aside0.mk hc0_0
 clear hr0_0 hc0_0
 have HB := Aside0.mk (Below.refl w.heap.size w)
 have H : ((some (([] : List (S56)) : List (S56))).bind fun gA => (if gA.length + l0_0.length < 5864062014805 then (some (gA ++ l0_0)) else (none))) = some r := h
 clear h
 obtain ⟨gA, dA⟩ : ∃ y_ : List (S56), y_ = (([] : List (S56))) := ⟨_, rfl⟩
 replace H : (if gA.length + l0_0.length < 5864062014805 then (some (gA ++ l0_0)) else (none)) = some r := by first | (rw [dA]; with_reducible exact H) | (have H2_ := (Option.bind_some _ _).symm.trans H; rw [dA]; with_reducible exact H2_) | (have H2_ := (Option.bind_some _ _).symm.trans H; with_reducible exact H2_) | with_reducible exact H | (rw [dA]; exact H) | exact H
 have lA := Aside0.mk dA
 clear dA
 replace H := ifs_ H
 obtain ⟨c2, H⟩ := H
 have wA := Aside0.mk c2
 clear c2
 obtain ⟨nA, eA⟩ : ∃ y_ : List (S56), y_ = (gA ++ l0_0) := ⟨_, rfl⟩
 replace H : (some nA) = some r := by first | (rw [eA]; with_reducible exact H) | (have H2_ := (Option.bind_some _ _).symm.trans H; rw [eA]; with_reducible exact H2_) | (have H2_ := (Option.bind_some _ _).symm.trans H; with_reducible exact H2_) | with_reducible exact H | (rw [eA]; exact H) | exact H
 have pA := Aside0.mk eA
 clear eA
 obtain rfl := Option.some.inj H
 go_enter Try.func76, Try.ntmps76
 go_wp2_with (first | ((with_reducible refine gate_dst (N := 1) rfl ?_); refine bq_ (N := 1) #[.slice A0_0 l0_0.length c0_0] 31 ?_; intro qA hg w3 aA hb; have cA := ge_ hg; replace HB := nb_ hb; clear hb hg) | ((with_reducible refine gate_dst (N := 2) rfl ?_); refine bq_ (N := 2) #[.slice none 0 0] 31 ?_; intro kA hg w4 bA hb; have fA := ge1_ hg cA; replace HB := nc_ cA hb; have iA := nl_ aA hg; have jA := ng_ aA hg; replace aA := bK_ aA hb; clear hb hg) | ((with_reducible refine gate_dst (N := 3) rfl ?_); refine Kd.R_lit k56 _ 56 ?hg (N := 3) ?hd (xs := ([] : List (S56))) (inner := []) (ok := fun _ => True) (okp := fun _ => True) ?hr ?hp (fun _ hk => hk) trivial (Below.refl _ _) (Nat.le_refl _) (by simp) ?_; (case hd => rfl); (case hg => rfl); (case hr => first | (go_simp; done) | (go_simp; rfl)); (case hp => exact (Reps.none _ _)); intro xA w5 rA hb hg_ hnew_; clear hg_ hnew_; (first | rw [← lA.out] at rA | (simp only [Int.reduceToNat] at rA; rw [← lA.out] at rA)); have hA := Aside0.mk (Kd.R_lower rA (below_size (hs2_ cA.out fA.out))); replace aA := bK_ aA hb; replace bA := bK_ bA hb; replace HB := nc2_ cA fA hb; clear hb rA; have dB := iA.out; have eB := jA.out; obtain ⟨yA, zA⟩ := cf1_ aA.out) | ((with_reducible refine gate_builtin (b := .append) (xs := #[.tmp 3, .tmp 5]) rfl ?_); at_builtin; refine Kd.R_append_rows k56 (w0 := w) w.heap.size rfl (.tmp 3) (.tmp 5) 29 56 (.agg #[(.string ⟨#[]⟩), (.int .i64 0)]) 24 rfl Try.underlying29 info56 rfl (by decide) (by omega) xA gA l0_0 _ _ _ (fun _ => True) (fun _ => False) rfl rfl ?aO ?aR (fun _ _ h => h) (fun _ h => h.elim) ?aF ?aB ?aS ?aL ?_; (case aR => exact cs_ ((Kd.C_below oA.out HB.out))); (case aB => exact (hs2_ cA.out fA.out)); (case aF => exact (fun _ _ => trivial)); (case aO => exact (kr_ hA.out)); (case aS => exact (below_size (hs2_ cA.out fA.out))); (case aL => have := wA.out; omega); intro fB w9 ho hb hg hat; rw [← pA.out] at ho; replace aA := Aside0.mk (blk_grown (g := qA) (o := .cells #[.slice A0_0 l0_0.length c0_0] 31 (0, 0)) (kb_ aA.out) hg (Kd.R_ne hA.out aA.out (by decide))); replace bA := Aside0.mk (blk_grown (g := kA) (o := .cells #[.slice none 0 0] 31 (0, 0)) (kb_ bA.out) hg (Kd.R_ne hA.out bA.out (by decide))); replace HB := Aside0.mk (hb); have mA := Aside0.mk (ho); clear hA; clear ho hb hg hat; obtain ⟨sA, tA, bB⟩ := Kd.R_slice mA.out; subst bB; obtain ⟨uA, vA⟩ := cf1_ bA.out))
 refine bodyPost_ret (results_cell_row rfl _ _ kA 31 #[.slice sA nA.length tA] (0, 0) _ rfl (up_ bA) Try.underlying31 rfl (by kernel_rfl)) rfl ?_
 exact ⟨_, er_, rF_ (Kd.R_mono (Kd.R_far (p := ⟨kA, 0, none⟩) (Kd.R_types mA.out bA.out (by decide)) (fun _ hk => hk.2) (.slice sA nA.length tA)) (fun _ hk => trivial)), hs2_ cA.out fA.out⟩

/-! ### spec_AppendTo: function 32 -/
def spec_AppendTo.f (k : Nat) (l0_0 : List (S56)) (a1 : Int) (a2 : ByteArray) : Option ((List (S56)) × Bool) := (spec_l3File.f k l0_0 a1).bind fun t187 => (if t187 = true then (if 0 ≤ a1 then (if a1 < (l0_0.length : Int) then (if (a2.size : Int) > (wrap64 (400 - (((rd_T56 l0_0 a1).f0).size : Int))) then (some (([] : List (S56)), false)) else ((spec_l3Own.f l0_0).bind fun t189 => (if a1 < (t189.length : Int) then (if ((rd_T56 t189 a1).f0).size + a2.size ≤ 9223372036854775807 then (some ((t189.set (a1 : Int).toNat (⟨((rd_T56 t189 a1).f0) ++ a2, (rd_T56 t189 a1).f1⟩ : S56)), true)) else (none)) else (none)))) else (none)) else (none)) else (some (([] : List (S56)), false)))
theorem spec_AppendTo.mono : ∀ a0 a1 a2 k, LeO (spec_AppendTo.f k a0 a1 a2) (spec_AppendTo.f (k + 1) a0 a1 a2) := by
 intro a0 a1 a2 k
 unfold spec_AppendTo.f
 repeat' first
   | (with_reducible first | apply spec_l3File.mono | exact LeO.refl _ | exact LeO.none _ | refine LeO.ite ?_ ?_ | refine LeO.bind ?_ (fun _ => ?_))
set_option maxHeartbeats 8000000 in
set_option maxRecDepth 100000 in
theorem spec_AppendTo.calls (k : Nat) (A0_0 : Option Addr) (c0_0 : Nat) (l0_0 : List (S56)) (a1 : Int) (a2 : ByteArray) (r1 : List (S56)) (r2 : Bool) (w : World) (hr0_0 : Kd.C k56 w A0_0 l0_0.length l0_0) (hc0_0 : l0_0.length ≤ c0_0) (h : spec_AppendTo.f k l0_0 a1 a2 = some (r1, r2)) :
  Calls Try.prog 32 #[.agg #[.slice A0_0 l0_0.length c0_0], .int .i64 a1, .string a2] w fun e w' => ∃ v0_ : Value, e = .returned (.tuple #[.agg #[v0_], .bool r2]) ∧ Kd.R k56 56 w' w.heap.size (fun _ => True) v0_ r1 ∧ Below w.heap.size w w' := by
 have hu31 := Try.underlying31
 have mA := Aside0.mk hr0_0
 have tA := Aside0.mk hc0_0
 clear hr0_0 hc0_0
 have HB := Aside0.mk (Below.refl w.heap.size w)
 have H : ((spec_l3File.f k l0_0 a1).bind fun pB => (if pB = true then (if 0 ≤ a1 then (if a1 < (l0_0.length : Int) then (if (a2.size : Int) > (wrap64 (400 - (((rd_T56 l0_0 a1).f0).size : Int))) then (some (([] : List (S56)), false)) else ((spec_l3Own.f l0_0).bind fun cA => (if a1 < (cA.length : Int) then (if ((rd_T56 cA a1).f0).size + a2.size ≤ 9223372036854775807 then (some ((cA.set (a1 : Int).toNat (⟨((rd_T56 cA a1).f0) ++ a2, (rd_T56 cA a1).f1⟩ : S56)), true)) else (none)) else (none)))) else (none)) else (none)) else (some (([] : List (S56)), false)))) = some (r1, r2) := h
 clear h
 replace H := bnd_ H
 obtain ⟨pB, A4, H⟩ := H
 replace H := ifb_ H
 obtain ⟨rfl, H⟩ | ⟨rfl, H⟩ := H
 rotate_left
 ·simp only [Option.some.injEq, Prod.mk.injEq] at H
  obtain ⟨rfl, rfl⟩ := H
  go_enter Try.func32, Try.ntmps32
  go_wp2_with (first | ((with_reducible refine gate_dst (N := 3) rfl ?_); (try (refine gate_guard (by rfl) ?_; dsimp only)); refine bq_ (N := 3) #[.slice A0_0 l0_0.length c0_0] 31 ?_; intro uA hg zD aA hb; have dA := ge_ hg; replace HB := nb_ hb; clear hb hg) | ((with_reducible refine gate_dst (N := 6) rfl ?_); (try (refine gate_guard (by rfl) ?_; dsimp only)); refine bq_ (N := 6) #[.slice none 0 0] 31 ?_; intro lA hg aE bA hb; have fA := ge1_ hg dA; replace HB := nc_ dA hb; have gA := nl_ aA hg; have hA := ng_ aA hg; replace aA := bK_ aA hb; clear hb hg; have fD := gA.out; have gD := hA.out; obtain ⟨zB, aC⟩ := cf1_ aA.out) | ((with_reducible refine gate_callee (f := 49) rfl ?_); refine gl_ 11 Try.func49 #[.agg #[.slice A0_0 l0_0.length c0_0], .int .i64 a1] rfl ma_ ?_; (with_reducible refine (spec_l3File.calls k _ _ l0_0 a1 false _ ?side1 ?side2 A4.out).mono ?_); (case side1 => exact cs_ ((Kd.C_below mA.out HB.out))); (case side2 => exact tA.out); rintro e bE ⟨rfl, hb⟩; refine ⟨_, rfl, ?_⟩; replace aA := bK_ aA hb; replace bA := bK_ bA hb; replace HB := nc2_ dA fA hb; (try clear hb); (try clear hb2); (try clear hk); (try clear hi); obtain ⟨bC, cC⟩ := cf1_ bA.out))
  refine bodyPost_ret (results_ct rfl _ _ lA 31 #[.slice none 0 0] (0, 0) _ rfl (up_ bA) Try.underlying31 rfl (by kernel_rfl)) rfl ?_
  exact ⟨_, er_, ni_, hs2_ dA.out fA.out⟩
 replace H := ifs_ H
 obtain ⟨c6, H⟩ := H
 have wC := decide_eq_true c6
 clear c6
 replace H := ifs_ H
 obtain ⟨c7, H⟩ := H
 have xC := decide_eq_true c7
 clear c7
 replace H := ite_ H
 obtain ⟨c8, H⟩ | ⟨c8, H⟩ := H
 ·have qB := dgt_ c8
  clear c8
  simp only [Option.some.injEq, Prod.mk.injEq] at H
  obtain ⟨rfl, rfl⟩ := H
  go_enter Try.func32, Try.ntmps32
  go_wp2_with (first | ((with_reducible refine gate_dst (N := 3) rfl ?_); (try (refine gate_guard (by rfl) ?_; dsimp only)); refine bq_ (N := 3) #[.slice A0_0 l0_0.length c0_0] 31 ?_; intro uA hg w9 aA hb; have dA := ge_ hg; replace HB := nb_ hb; clear hb hg) | ((with_reducible refine gate_dst (N := 6) rfl ?_); (try (refine gate_guard (by rfl) ?_; dsimp only)); refine bq_ (N := 6) #[.slice none 0 0] 31 ?_; intro lA hg cE bA hb; have fA := ge1_ hg dA; replace HB := nc_ dA hb; have gA := nl_ aA hg; have hA := ng_ aA hg; replace aA := bK_ aA hb; clear hb hg; have hD := gA.out; have iD := hA.out; obtain ⟨dC, eC⟩ := cf1_ aA.out) | ((with_reducible refine gate_callee (f := 49) rfl ?_); refine gl_ 11 Try.func49 #[.agg #[.slice A0_0 l0_0.length c0_0], .int .i64 a1] rfl ma_ ?_; (with_reducible refine (spec_l3File.calls k _ _ l0_0 a1 true _ ?side1 ?side2 A4.out).mono ?_); (case side1 => exact cs_ ((Kd.C_below mA.out HB.out))); (case side2 => exact tA.out); rintro e dE ⟨rfl, hb⟩; refine ⟨_, rfl, ?_⟩; replace aA := bK_ aA hb; replace bA := bK_ bA hb; replace HB := nc2_ dA fA hb; (try clear hb); (try clear hb2); (try clear hk); (try clear hi); obtain ⟨fC, gC⟩ := cf1_ aA.out; have rA : 0 ≤ (a1 : Int) := oa_; have sA : a1 < (l0_0.length : Int) := oa_; obtain ⟨vA, kB, jA, kA⟩ := at_T56 mA.out a1 rA sA; cases kB; replace jA := pc_ HB.out jA; replace kA := pc_ HB.out kA; replace rA := eq_true rA; replace sA := eq_true sA; obtain ⟨hC, iC⟩ := cf1_ bA.out))
  refine bodyPost_ret (results_ct rfl _ _ lA 31 #[.slice none 0 0] (0, 0) _ rfl (up_ bA) Try.underlying31 rfl (by kernel_rfl)) rfl ?_
  exact ⟨_, er_, ni_, hs2_ dA.out fA.out⟩
 have qB := dgf_ c8
 clear c8
 replace H := bnd_ H
 obtain ⟨cA, vD, H⟩ := H
 replace H := ifs_ H
 obtain ⟨jD, H⟩ := H
 have rB := decide_eq_true jD
 clear jD
 replace H := ifs_ H
 obtain ⟨jC, H⟩ := H
 have kD := eq_true jC
 have lD := decide_eq_true jC
 try have mD : (9223372036854775807 < ((rd_T56 cA a1).f0).size + a2.size) = False := eq_false (Nat.not_lt.2 jC)
 try have c18w := cw_ jC
 (try rw [c18w] at wC)
 (try rw [c18w] at xC)
 (try rw [c18w] at qB)
 (try rw [c18w] at rB)
 obtain ⟨sB, qA⟩ : ∃ y_ : List (S56), y_ = (cA.set (a1 : Int).toNat (⟨((rd_T56 cA a1).f0) ++ a2, (rd_T56 cA a1).f1⟩ : S56)) := ⟨_, rfl⟩
 replace H : (some (sB, true)) = some (r1, r2) := by first | (rw [qA]; with_reducible exact H) | (have H2_ := (Option.bind_some _ _).symm.trans H; rw [qA]; with_reducible exact H2_) | (have H2_ := (Option.bind_some _ _).symm.trans H; with_reducible exact H2_) | with_reducible exact H | (rw [qA]; exact H) | exact H
 have tB := Aside0.mk qA
 clear qA
 simp only [Option.some.injEq, Prod.mk.injEq] at H
 obtain ⟨rfl, rfl⟩ := H
 go_enter Try.func32, Try.ntmps32
 go_wp2_with (first | ((with_reducible refine gate_dst (N := 3) rfl ?_); (try (refine gate_guard (by rfl) ?_; dsimp only)); refine bq_ (N := 3) #[.slice A0_0 l0_0.length c0_0] 31 ?_; intro uA hg eE aA hb; have dA := ge_ hg; replace HB := nb_ hb; clear hb hg) | ((with_reducible refine gate_dst (N := 6) rfl ?_); (try (refine gate_guard (by rfl) ?_; dsimp only)); refine bq_ (N := 6) #[.slice none 0 0] 31 ?_; intro lA hg fE bA hb; have fA := ge1_ hg dA; replace HB := nc_ dA hb; have gA := nl_ aA hg; have hA := ng_ aA hg; replace aA := bK_ aA hb; clear hb hg; have nD := gA.out; have oD := hA.out; obtain ⟨kC, lC⟩ := cf1_ aA.out) | ((with_reducible refine gate_callee (f := 49) rfl ?_); refine gl_ 11 Try.func49 #[.agg #[.slice A0_0 l0_0.length c0_0], .int .i64 a1] rfl ma_ ?_; (with_reducible refine (spec_l3File.calls k _ _ l0_0 a1 true _ ?side1 ?side2 A4.out).mono ?_); (case side1 => exact cs_ ((Kd.C_below mA.out HB.out))); (case side2 => exact tA.out); rintro e gE ⟨rfl, hb⟩; refine ⟨_, rfl, ?_⟩; replace aA := bK_ aA hb; replace bA := bK_ bA hb; replace HB := nc2_ dA fA hb; (try clear hb); (try clear hb2); (try clear hk); (try clear hi); obtain ⟨mC, nC⟩ := cf1_ aA.out; have rA : 0 ≤ (a1 : Int) := oa_; have sA : a1 < (l0_0.length : Int) := oa_; obtain ⟨vA, kB, jA, kA⟩ := at_T56 mA.out a1 rA sA; cases kB; replace jA := pc_ HB.out jA; replace kA := pc_ HB.out kA; replace rA := eq_true rA; replace sA := eq_true sA) | ((with_reducible refine gate_callee (f := 76) rfl ?_); refine gl_ 28 Try.func76 #[.agg #[.slice (some vA) l0_0.length c0_0]] rfl ma_ ?_; (with_reducible refine (spec_l3Own.calls _ _ l0_0 cA _ ?side1 ?side2 vD.out).mono ?_); (case side1 => exact cs_ ((Kd.C_below mA.out HB.out))); (case side2 => exact tA.out); rintro e hE ⟨wD, rfl, pD, hb⟩; refine ⟨_, rfl, ?_⟩; have eA := Aside0.mk (Kd.R_lower pD (below_size (hs2_ dA.out fA.out))); replace aA := bK_ aA hb; replace bA := bK_ bA hb; replace HB := nc2_ dA fA hb; (try clear hb); (try clear hb2); (try clear hk); (try clear hi); (try clear pD)) | ((with_reducible refine gate_dst (N := 8) rfl ?_); (try (refine gate_guard (by rfl) ?_; dsimp only)); refine bq_ (N := 8) #[.slice none 0 0] 31 ?_; intro wA hg xD iA hb; replace eA := rB_ eA hb; have hB := ge2_ hg dA fA; replace HB := nc2_ dA fA hb; have nA := nl_ aA hg; have xA := ng_ aA hg; replace aA := bK_ aA hb; have oA := nl_ bA hg; have yA := ng_ bA hg; replace bA := bK_ bA hb; clear hb hg; obtain ⟨eB, pA, yC⟩ := Kd.R_slice eA.out; subst yC; have qD := xA.out; have rD := nA.out; have sD := yA.out; have tD := oA.out; obtain ⟨oC, pC⟩ := cf1_ iA.out) | ((with_reducible refine gate_store (t := 31) (p := 8) rfl ?_); refine store_event (t := 31) (p := 8) (v := ?vo_w32) (w1 := (xD.setCell ⟨wA, 0, none⟩ (.slice eB cA.length pA))) ?hg ?ho ?hn ?hr ?_; (case ho => rfl); (case hg => rfl); (case hn => rfl); (case hr => first | (go_simp; done) | (go_simp; rfl)); intro zA hw; have n0_ : Aside0 (Kd.R k56 56 zA w.heap.size (fun _ => True) (.slice eB cA.length pA) cA) := ⟨(by rw [hw]; exact (rF_ (Kd.R_mono (Kd.R_far (p := ⟨wA, 0, none⟩) (Kd.R_types eA.out iA.out (by decide)) (fun _ hk => hk.2) (.slice eB cA.length pA)) (fun _ hk => trivial))))⟩; have n1_ : Aside0 (zA.heap[uA]? = some (.cells #[.slice (some vA) l0_0.length c0_0] 31 (0, 0))) := ⟨(by rw [hw]; exact (uf_ aA nA.out))⟩; have n2_ : Aside0 (zA.heap[lA]? = some (.cells #[.slice none 0 0] 31 (0, 0))) := ⟨(by rw [hw]; exact (uf_ bA oA.out))⟩; have n3_ : Aside0 (zA.heap[wA]? = some (.cells #[.slice eB cA.length pA] 31 (0, 0))) := ⟨(by rw [hw]; exact (up_ iA))⟩; have n4_ : Aside0 (Below w.heap.size w zA) := ⟨(by rw [hw]; exact (hs3_ dA.out fA.out hB.out))⟩; clear hw; clear eA; clear aA; clear bA; clear iA; clear HB; have eA := n0_; have aA := n1_; have bA := n2_; have iA := n3_; have HB := n4_; clear n0_ n1_ n2_ n3_ n4_; obtain ⟨qC, rC⟩ := cf1_ iA.out; have lB : 0 ≤ (a1 : Int) := oa_; have mB : a1 < (cA.length : Int) := oa_; obtain ⟨uD, zC, fB, gB⟩ := at_T56 (Kd.R_reads' eA.out).2.2 a1 lB mB; cases zC; replace lB := eq_true lB; replace mB := eq_true mB; have aD : 0 ≤ (a1 : Int) := oa_; have bD : (a1 : Int) < ((cA.length : Int) : Int) := oa_; obtain ⟨go19, yD, uB, vB, gl19, cl19, wB⟩ := Kd.R_form eA.out (by omega); (first | cases uB | (injection uB with ea_ en_ ec_; (first | subst ea_ | (injection ea_ with ea_; subst ea_)); subst ec_; clear en_)); have GB19 := Aside0.mk vB; have GG19 := Aside0.mk wB; clear vB gl19 wB; (first | simp only [add_plain] at fB | skip); (first | simp only [add_plain] at gB | skip); obtain ⟨ce19, xB, hM19, bB, cB⟩ := Kd.R_elem eA.out z56 (a1 : Int) aD bD; obtain rfl := k56_openM hM19; have cD : zA.cell? ⟨go19, (a1 : Int).toNat * 2, none⟩ = some (.string ((rd_T56 cA a1).f0)) := bB 0 _ rfl; have dD : zA.cell? ⟨go19, (a1 : Int).toNat * 2 + 1, none⟩ = some (.int .i64 ((rd_T56 cA a1).f1)) := bB 1 _ rfl; have hf19_0 : zA.frozen? ⟨go19, (a1 : Int).toNat * 2, none⟩ = false := cB 0; have hf19_1 : zA.frozen? ⟨go19, (a1 : Int).toNat * 2 + 1, none⟩ = false := cB 1; clear xB bB cB; (try clear hM19); replace aD := eq_true aD; replace bD := eq_true bD; have yB := Aside0.mk (show Kd.R k56 56 zA w.heap.size (fun _ => True) (.slice (some ⟨go19, 0, none⟩) cA.length pA) cA from (kr_ eA.out)); obtain ⟨ce34, iB, hM34, dB, jB⟩ := Kd.R_elem yB.out z56 (a1 : Int) (oa_) (by have h_ : (a1 : Int) < ((cA.length : Int) : Int) := oa_; first | exact h_ | (have e_ := (Kd.R_reads' eA.out).1; omega) | simpa using h_); obtain rfl := k56_openM hM34; have nB := Kd.R_seg yB.out (a1 : Int) (oa_) (by have h_ : (a1 : Int) < ((cA.length : Int) : Int) := oa_; first | exact h_ | (have e_ := (Kd.R_reads' eA.out).1; omega) | simpa using h_) (seg := [.string (((rd_T56 cA a1).f0) ++ a2)]) (j := 0) iB dB (show 1 ≤ 2 from by decide) (x' := (⟨((rd_T56 cA a1).f0) ++ a2, (rd_T56 cA a1).f1⟩ : S56)) (k56_mkM _ _ _ (⟨((rd_T56 cA a1).f0) ++ a2, (rd_T56 cA a1).f1⟩ : S56) ) (fun _ hk => hk); have oB := dB 0 _ rfl; (try simp only [show (k56).sz = 2 from rfl, Nat.mul_one, Nat.add_zero] at oB); have hf34_0 := jB 0; (try simp only [show (k56).sz = 2 from rfl, Nat.mul_one, Nat.add_zero] at hf34_0); clear iB dB jB; (try clear hM34)) | ((with_reducible refine gate_store (t := 9) (p := 38) rfl ?_); refine store_event (t := 9) (p := 38) (v := ?vo_w35) (w1 := (zA.setCell ⟨go19, (a1 : Int).toNat * 2, none⟩ (.string (((rd_T56 cA a1).f0) ++ a2)))) ?hg ?ho ?hn ?hr ?_; (case ho => rfl); (case hg => rfl); (case hn => rfl); (case hr => first | (go_simp; done) | (go_simp; rfl)); intro eD hw; have hg : zA.grownBy eD (some go19) := (by rw [hw]; exact nB.2); have hp_ : Kd.R k56 56 eD w.heap.size (fun _ => True) (.slice (some ⟨go19, 0, none⟩) cA.length pA) sB := (by rw [hw, tB.out]; exact nB.1); clear nB; replace aA := Aside0.mk (blk_grown (g := uA) (o := .cells #[.slice (some vA) l0_0.length c0_0] 31 (0, 0)) (kb_ aA.out) hg (Kd.R_ne eA.out aA.out (by decide))); replace bA := Aside0.mk (blk_grown (g := lA) (o := .cells #[.slice none 0 0] 31 (0, 0)) (kb_ bA.out) hg (Kd.R_ne eA.out bA.out (by decide))); replace iA := Aside0.mk (blk_grown (g := wA) (o := .cells #[.slice (some ⟨go19, 0, none⟩) cA.length pA] 31 (0, 0)) (kb_ iA.out) hg (Kd.R_ne eA.out iA.out (by decide))); replace eA := Aside0.mk (hp_); replace HB := Aside0.mk ((by rw [hw]; exact below_set (HB.out) GB19.out : Below w.heap.size w eD)); clear hg hw hp_; obtain ⟨sC, tC⟩ := cf1_ iA.out; obtain ⟨uC, vC⟩ := cf1_ bA.out))
 refine bodyPost_ret (results_ct rfl _ _ lA 31 #[.slice (some ⟨go19, 0, none⟩) cA.length pA] (0, 0) _ rfl (up_ bA) Try.underlying31 rfl (by kernel_rfl)) rfl ?_
 exact ⟨_, er_, rF_ (Kd.R_mono (Kd.R_far (p := ⟨lA, 0, none⟩) (Kd.R_types eA.out bA.out (by decide)) (fun _ hk => hk.2) (.slice (some ⟨go19, 0, none⟩) cA.length pA)) (fun _ hk => trivial)), hs3_ dA.out fA.out hB.out⟩

/-! ### spec_l1Next: function 60 -/
def spec_l1Next.f (a0_0 : Int) (a0_1 : Int) (a0_2 : Int) (a0_3 : Int) (l0_4 : List ByteArray) (a1_0 : Int) (a1_1 : Int) (a1_2 : Int) (a1_3 : Int) (l1_4 : List ByteArray) : Option (Bool) := if a1_0 = (wrap64 (a0_0 + (l0_4.length : Int))) then (some (decide (a1_1 ≥ a0_1))) else (some false)
set_option maxHeartbeats 8000000 in
set_option maxRecDepth 100000 in
theorem spec_l1Next.calls (a0_0 : Int) (a0_1 : Int) (a0_2 : Int) (a0_3 : Int) (A0_4 : Option Addr) (c0_4 : Nat) (l0_4 : List ByteArray) (a1_0 : Int) (a1_1 : Int) (a1_2 : Int) (a1_3 : Int) (A1_4 : Option Addr) (c1_4 : Nat) (l1_4 : List ByteArray) (r : Bool) (w : World) (hr0_4 : Kd.C Kd.string w A0_4 l0_4.length l0_4) (hc0_4 : l0_4.length ≤ c0_4) (hr1_4 : Kd.C Kd.string w A1_4 l1_4.length l1_4) (hc1_4 : l1_4.length ≤ c1_4) (h : spec_l1Next.f a0_0 a0_1 a0_2 a0_3 l0_4 a1_0 a1_1 a1_2 a1_3 l1_4 = some r) :
  Calls Try.prog 60 #[.agg #[.int .i64 a0_0, .int .i64 a0_1, .int .i64 a0_2, .int .i64 a0_3, .slice A0_4 l0_4.length c0_4], .agg #[.int .i64 a1_0, .int .i64 a1_1, .int .i64 a1_2, .int .i64 a1_3, .slice A1_4 l1_4.length c1_4]] w fun e w' => e = .returned (.bool r) ∧ Below w.heap.size w w' := by
 have hu44 := Try.underlying44
 have zB := Aside0.mk hr0_4
 have aC := Aside0.mk hc0_4
 clear hr0_4 hc0_4
 have bC := Aside0.mk hr1_4
 have cC := Aside0.mk hc1_4
 clear hr1_4 hc1_4
 have HB := Aside0.mk (Below.refl w.heap.size w)
 have H : (if a1_0 = (wrap64 (a0_0 + (l0_4.length : Int))) then (some (decide (a1_1 ≥ a0_1))) else (some false)) = some r := h
 clear h
 replace H := ite_ H
 obtain ⟨c3, H⟩ | ⟨c3, H⟩ := H
 ·have dB : (a1_0 == (wrap64 (a0_0 + (l0_4.length : Int)))) = true := beq_iff_eq.mpr c3
  have eB : (a1_0 != (wrap64 (a0_0 + (l0_4.length : Int)))) = false := bne_eq_false_iff_eq.mpr c3
  clear c3
  obtain rfl := Option.some.inj H
  go_enter Try.func60, Try.ntmps60
  go_wp2_with (first | ((with_reducible refine gate_dst (N := 2) rfl ?_); refine bq_ (N := 2) #[.int .i64 a0_0, .int .i64 a0_1, .int .i64 a0_2, .int .i64 a0_3, .slice A0_4 l0_4.length c0_4] 44 ?_; intro gA hg w4 aA hb; have dA := ge_ hg; replace HB := nb_ hb; clear hb hg) | ((with_reducible refine gate_dst (N := 3) rfl ?_); refine bq_ (N := 3) #[.int .i64 a1_0, .int .i64 a1_1, .int .i64 a1_2, .int .i64 a1_3, .slice A1_4 l1_4.length c1_4] 44 ?_; intro hA hg w5 eA hb; have fA := ge1_ hg dA; replace HB := nc_ dA hb; have bA := nl_ aA hg; have cA := ng_ aA hg; replace aA := bK_ aA hb; clear hb hg; have fC := cA.out; have gC := bA.out; obtain ⟨fB, gB, hB, iB, jB, kB, lB, mB, nB, oB⟩ := cf5_ eA.out; obtain ⟨pB, qB, rB, sB, tB, uB, vB, wB, xB, yB⟩ := cf5_ aA.out))
  go_ret
  exact ⟨er_, hs2_ dA.out fA.out⟩
 have dB : (a1_0 == (wrap64 (a0_0 + (l0_4.length : Int)))) = false := beq_eq_false_iff_ne.mpr c3
 have eB : (a1_0 != (wrap64 (a0_0 + (l0_4.length : Int)))) = true := bne_iff_ne.mpr c3
 obtain rfl := Option.some.inj H
 go_enter Try.func60, Try.ntmps60
 go_wp2_with (first | ((with_reducible refine gate_dst (N := 2) rfl ?_); refine bq_ (N := 2) #[.int .i64 a0_0, .int .i64 a0_1, .int .i64 a0_2, .int .i64 a0_3, .slice A0_4 l0_4.length c0_4] 44 ?_; intro gA hg w9 aA hb; have dA := ge_ hg; replace HB := nb_ hb; clear hb hg) | ((with_reducible refine gate_dst (N := 3) rfl ?_); refine bq_ (N := 3) #[.int .i64 a1_0, .int .i64 a1_1, .int .i64 a1_2, .int .i64 a1_3, .slice A1_4 l1_4.length c1_4] 44 ?_; intro hA hg hC eA hb; have fA := ge1_ hg dA; replace HB := nc_ dA hb; have bA := nl_ aA hg; have cA := ng_ aA hg; replace aA := bK_ aA hb; clear hb hg; have dC := cA.out; have eC := bA.out; obtain ⟨iA, jA, kA, lA, mA, nA, oA, pA, qA, rA⟩ := cf5_ eA.out; obtain ⟨sA, tA, uA, vA, wA, xA, yA, zA, bB, cB⟩ := cf5_ aA.out))
 go_ret
 exact ⟨er_, hs2_ dA.out fA.out⟩
end Go.Proofs.Ytpdpipfkllfhmaa.QFnDisks
