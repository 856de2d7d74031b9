/- Functions that one statement reaches: of each a plain function, and the proof that calls come to it. Conditions: those that each contract names. Written by a program of this repository. -/
import Derived.Test.YtpdpipfkllfhmaaVFnDisksa
import Derived.Test.YtpdpipfkllfhmaaQFnDisksx3
import Derived.Test.YtpdpipfkllfhmaaQFnDisksx12
import Derived.Test.YtpdpipfkllfhmaaQFnDisksx13
import Derived.Test.YtpdpipfkllfhmaaQFnDisksx14
namespace Go.Proofs.Ytpdpipfkllfhmaa.QFnDisks
open Go.RowKit Go.Proofs.YtpdpipfkllfhmaaW.PrintWords Go.Proofs.YtpdpipfkllfhmaaW.PrintLast Go.Proofs.YtpdpipfkllfhmaaW.PrintMore
attribute [local go_sem] max2_int min2_int max_two min_two max_three min_three max_four min_four Go.Proofs.YtpdpipfkllfhmaaW.PrintMore2.isSome_setCell   -- for this text's walks alone
set_option linter.unusedVariables false
set_option linter.unusedSimpArgs false

/-! ### spec_DrawAppendTo: function 30 -/
def spec_DrawAppendTo.m (k : Nat) (s0_0 : List Int) (s0_1 : Int) (s0_2 : Int) : Option ((List (S56)) × Int × ByteArray × Int × Int) := (spec_l1Cur_disk.f k s0_0 s0_1 s0_2).bind fun bt478 => ((spec_l1Cur_pick.f s0_0 bt478.2.1 bt478.2.2 (wrap64 ((bt478.1.length : Int) + 2))).bind fun bt484 => (if 400 ≤ 281474976710656 then ((spec_l1Cur_of.f s0_0 bt484.2.1 bt484.2.2 (([(⟨#[]⟩ : ByteArray), (⟨#[97, 98, 99]⟩ : ByteArray), strOfNums (List.replicate 400 0)] : List ByteArray))).bind fun bt493 => (some (bt478.1, wrap64 (bt484.1 - 1), bt493.1, bt493.2.1, bt493.2.2))) else (none)))
theorem spec_DrawAppendTo.mono_m : ∀ a0 a1 a2 k, LeO (spec_DrawAppendTo.m k a0 a1 a2) (spec_DrawAppendTo.m (k + 1) a0 a1 a2) := by
 intro a0 a1 a2 k
 unfold spec_DrawAppendTo.m
 repeat' first
   | (with_reducible first | apply spec_l1Cur_disk.mono | exact LeO.refl _ | exact LeO.none _ | refine LeO.ite ?_ ?_ | refine LeO.bind ?_ (fun _ => ?_))
def spec_DrawAppendTo.T3 : Bool × List (List Nat × List Nat) := (true, [([], []), ([], []), ([], []), ([2], [2]), ([3], [3]), ([4], [4]), ([1, 5], [1, 5]), ([6], [6]), ([], []), ([], []), ([9], [9]), ([10], [10]), ([8, 11, 6], [8, 11]), ([0, 12, 0], [0]), ([7, 13, 0, 1, 2, 3, 4, 5, 6, 7, 13], [7]), ([12, 14, 0, 1, 2, 3, 4, 5, 6, 7, 8, 9, 10, 11, 12, 13, 14], [12])])
def spec_DrawAppendTo.B3 : List Nat := [0, 0, 0, 4, 12, 28, 62, 126, 0, 0, 512, 1536, 3966, 8063, 16383, 32767]
theorem spec_DrawAppendTo.tab3 : rtab .any (opsOf Try.f30 3) = spec_DrawAppendTo.T3 := by kernel_rfl
theorem spec_DrawAppendTo.bits3 : waitsOk spec_DrawAppendTo.T3.2 spec_DrawAppendTo.B3 = true := by kernel_rfl
def spec_DrawAppendTo.f (k : Nat) (l0 : List Int) : Option ((List (S56)) × Int × ByteArray) := (spec_DrawAppendTo.m k l0 0 0).bind fun b => some (b.1, b.2.1, b.2.2.1)
theorem spec_DrawAppendTo.mono : ∀ a0 k, LeO (spec_DrawAppendTo.f k a0) (spec_DrawAppendTo.f (k + 1) a0) := fun a0 k => LeO.bind (spec_DrawAppendTo.mono_m _ _ _ _) (fun _ => LeO.refl _)
set_option maxHeartbeats 8000000 in
set_option maxRecDepth 100000 in
theorem spec_DrawAppendTo.calls (k : Nat) (A0 : Option Addr) (c0 : Nat) (l0 : List Int) (r1 : List (S56)) (r2 : Int) (r3 : ByteArray) (w : World) (hr0 : Kd.C (Kd.int .u8) w A0 l0.length l0) (_hc0 : l0.length ≤ c0) (h : spec_DrawAppendTo.f k l0 = some (r1, r2, r3)) :
  Calls Try.prog 30 #[.slice A0 l0.length c0] w fun e w' => ∃ v0_ : Value, e = .returned (.tuple #[.agg #[v0_], .int .i64 r2, .string r3]) ∧ Kd.R k56 56 w' w.heap.size (fun _ => True) v0_ r1 ∧ Below w.heap.size w w' := by
 have hu_92 := Try.underlying92
 have HR0_ := Aside0.mk hr0
 clear hr0
 obtain ⟨⟨q0_, q1_, q2_, q3_, q4_⟩, h_, e_⟩ := Option.bind_eq_some_iff.1 h
 clear h
 have e_ := Option.some.inj e_
 simp only [Prod.mk.injEq] at e_
 obtain ⟨e0_, e1_, e2_⟩ := e_
 obtain rfl := e0_.symm
 obtain rfl := e1_.symm
 obtain rfl := e2_.symm
 have h := h_
 clear h_
 have hu31 := Try.underlying31
 have H : ((spec_l1Cur_disk.f k l0 0 0).bind fun hB => ((spec_l1Cur_pick.f l0 hB.2.1 hB.2.2 (wrap64 ((hB.1.length : Int) + 2))).bind fun jB => (if 400 ≤ 281474976710656 then ((spec_l1Cur_of.f l0 jB.2.1 jB.2.2 (([(⟨#[]⟩ : ByteArray), (⟨#[97, 98, 99]⟩ : ByteArray), strOfNums (List.replicate 400 0)] : List ByteArray))).bind fun qA => (some (hB.1, wrap64 (jB.1 - 1), qA.1, qA.2.1, qA.2.2))) else (none)))) = some (r1, r2, r3, q3_, q4_) := h
 clear h
 replace H := bnd_ H
 obtain ⟨⟨gA, tA, uA⟩, A2, H⟩ := H
 replace H := red_ H
 replace H := bnd_ H
 obtain ⟨⟨dB, yA, zA⟩, A3, H⟩ := H
 replace H := red_ H
 replace H := ifs_ H
 obtain ⟨c4, H⟩ := H
 have eC := eq_true c4
 have fC := decide_eq_true c4
 clear c4
 obtain ⟨oA, eB⟩ : ∃ y_ : List Int, y_ = (List.replicate 400 0) := ⟨_, rfl⟩
 replace H : ((spec_l1Cur_of.f l0 yA zA (([(⟨#[]⟩ : ByteArray), (⟨#[97, 98, 99]⟩ : ByteArray), strOfNums oA] : List ByteArray))).bind fun qA => (some (gA, wrap64 (dB - 1), qA.1, qA.2.1, qA.2.2))) = some (r1, r2, r3, q3_, q4_) := by first | (rw [eB]; with_reducible exact H) | (have H2_ := (Option.bind_some _ _).symm.trans H; rw [eB]; with_reducible exact H2_) | (have H2_ := (Option.bind_some _ _).symm.trans H; with_reducible exact H2_) | with_reducible exact H | (rw [eB]; exact H) | exact H
 have iB := Aside0.mk eB
 clear eB
 obtain ⟨kB, fB⟩ : ∃ y_ : List ByteArray, y_ = (([(⟨#[]⟩ : ByteArray), (⟨#[97, 98, 99]⟩ : ByteArray), strOfNums oA] : List ByteArray)) := ⟨_, rfl⟩
 replace H : ((spec_l1Cur_of.f l0 yA zA kB).bind fun qA => (some (gA, wrap64 (dB - 1), qA.1, qA.2.1, qA.2.2))) = some (r1, r2, r3, q3_, q4_) := by first | (rw [fB]; with_reducible exact H) | (have H2_ := (Option.bind_some _ _).symm.trans H; rw [fB]; with_reducible exact H2_) | (have H2_ := (Option.bind_some _ _).symm.trans H; with_reducible exact H2_) | with_reducible exact H | (rw [fB]; exact H) | exact H
 have xA := Aside0.mk fB
 clear fB
 replace H := bnd_ H
 obtain ⟨⟨sB, tB, uB⟩, A5, H⟩ := H
 replace H := red_ H
 simp only [Option.some.injEq, Prod.mk.injEq] at H
 obtain ⟨rfl, rfl, rfl, rfl, rfl⟩ := H
 go_enter Try.func30, Try.ntmps30
 have xB := Aside0.mk (Nat.le_refl w.heap.size)
 have HB := Aside0.mk (Below.refl w.heap.size w)
 go_upto_region 2 with (first | ((with_reducible refine gate_dst (N := 2) rfl ?_); (try (refine gate_guard (by rfl) ?_; dsimp only)); refine be_ (N := 2) #[.slice none 0 0] 31 ?_; intro kA hg w477_ hbox hb; have dA := Aside0.mk hbox; have fA := Aside0.mk (show w.heap.size ≤ kA from by rw [hg]; exact HB.out.size); have lA := fA; replace HB := Aside0.mk (below_step HB.out hb); clear hbox hb hg) | ((with_reducible refine gate_dst (N := 9) rfl ?_); (try (refine gate_guard (by rfl) ?_; dsimp only)); refine be_ (N := 9) #[.slice A0 l0.length c0, .int .i64 0, .int .u64 0] 92 ?_; intro g hg wg_ hbox hb; have HI0 : Aside0 (IsS92 w wg_ g l0 0 0) := ⟨⟨A0, c0, hbox, by rw [hg]; exact HB.out.size, HR0_.out⟩⟩; have aA := Aside0.mk (show g ≠ kA from by rw [hg]; exact Nat.ne_of_gt (blk_lt dA.out)); have pA := Aside0.mk (Ne.symm aA.out); replace dA := Aside0.mk (blk_below dA.out hb); replace HB := Aside0.mk (below_step HB.out hb); have HK := Aside0.mk (KeepBut.of_below HB.out g none); have HL := Aside0.mk HB.out.size; clear hbox hb hg))
 try go_wp2_with (first | ((with_reducible refine gate_dst (N := 2) rfl ?_); refine bq_ (N := 2) #[.slice none 0 0] 31 ?_; intro kA hg w6 dA hb; replace HB := Aside0.mk (below_step (hs_ (IsS92.ge HI0.out)) hb); have fA := Aside0.mk ((by rw [hg]; exact (keep_size (w := w) (g := g) (row := none) (kp0_)) : w.heap.size ≤ kA)); have lA := Aside0.mk ((Nat.le_trans xB.out (by rw [hg]; exact (keep_size (w := w) (g := g) (row := none) (kp0_)) : w.heap.size ≤ kA) : w.heap.size ≤ kA)); replace HK := Aside0.mk (KeepBut.trans (kp0_) (KeepBut.of_below hb g none) (.inl rfl)); have aA := Aside0.mk ((by rw [hg]; exact Nat.ne_of_lt (IsS92.lt (show IsS92 w _ g l0 0 0 from iS92_0_)) : g ≠ kA)); have pA := Aside0.mk ((by rw [hg]; exact Nat.ne_of_gt (IsS92.lt (show IsS92 w _ g l0 0 0 from iS92_0_)) : kA ≠ g)); replace HI0 := Aside0.mk (IsS92.below (iS92_0_) hb); clear hb hg) | ((with_reducible refine gate_callee (f := 70) rfl ?_); refine gl_ 11 Try.func70 #[.pointer (some ⟨g, 0, none⟩)] rfl ma_ ?_; (with_reducible refine (spec_l1Cur_disk.calls k g l0 0 0 gA tA uA w _ ?side1 ?side2 A2.out).mono ?_); (case side1 => exact iS92_1_ aA.out); (case side2 => exact hs2_ (IsS92.ge HI0.out) lA.out); rintro e w7 ⟨gC, rfl, yB, hi, hb, hk⟩; refine ⟨_, rfl, ?_⟩; replace dA := Aside0.mk (KeepBut.blk hk (g' := kA) (o := .cells #[.slice none 0 0] 31 (0, 0)) (kb_ dA.out) pA.out (by simp)); have eA := Aside0.mk (Kd.R_lower yB (keep_size (w := w) (g := g) (row := none) (kp1_ fA.out))); replace HK := Aside0.mk (KeepBut.trans (kp1_ fA.out) hk (.inl rfl)); replace HB := Aside0.mk (hb); replace HI0 := Aside0.mk (hi); (try clear hb); (try clear hb2); (try clear hk); (try clear hi); (try clear yB)) | ((with_reducible refine gate_dst (N := 6) rfl ?_); refine bq_ (N := 6) #[.slice none 0 0] 31 ?_; intro iA hg w8 bA hb; replace eA := rB_ eA hb; replace HB := Aside0.mk (below_step (hs2_ (IsS92.ge HI0.out) lA.out) hb); have jA := Aside0.mk ((by rw [hg]; exact (keep_size (w := w) (g := g) (row := none) (kp1_ fA.out)) : w.heap.size ≤ iA)); have mA := Aside0.mk ((Nat.le_trans xB.out (by rw [hg]; exact (keep_size (w := w) (g := g) (row := none) (kp1_ fA.out)) : w.heap.size ≤ iA) : w.heap.size ≤ iA)); replace HK := Aside0.mk (KeepBut.trans (kp1_ fA.out) (KeepBut.of_below hb g none) (.inl rfl)); have vA := nl_ dA hg; have wA := ng_ dA hg; replace dA := bK_ dA hb; have cA := Aside0.mk ((by rw [hg]; exact Nat.ne_of_lt (IsS92.lt (show IsS92 w _ g l0 tA uA from iS92_1_ aA.out)) : g ≠ iA)); have sA := Aside0.mk ((by rw [hg]; exact Nat.ne_of_gt (IsS92.lt (show IsS92 w _ g l0 tA uA from iS92_1_ aA.out)) : iA ≠ g)); replace HI0 := Aside0.mk (IsS92.below (iS92_1_ aA.out) hb); clear hb hg; obtain ⟨aB, bB, hC⟩ := Kd.R_slice eA.out; subst hC; have zB := wA.out; have aC := vA.out; have bC := sA.out; have cC := cA.out; obtain ⟨qB, rB⟩ := cf1_ bA.out))
 have n0_ : Aside0 (Kd.R k56 56 (w8.setCell ⟨iA, 0, none⟩ (.slice aB gA.length bB)) w.heap.size (fun _ => True) (.slice aB gA.length bB) gA) := ⟨rF_ (Kd.R_mono (Kd.R_far (p := ⟨iA, 0, none⟩) (Kd.R_types eA.out bA.out (by decide)) (fun _ hk => hk.2) (.slice aB gA.length bB)) (fun _ hk => trivial))⟩
 have n1_ : Aside0 ((w8.setCell ⟨iA, 0, none⟩ (.slice aB gA.length bB)).heap[kA]? = some (.cells #[.slice none 0 0] 31 (0, 0))) := ⟨uf_ dA vA.out⟩
 have n2_ : Aside0 ((w8.setCell ⟨iA, 0, none⟩ (.slice aB gA.length bB)).heap[iA]? = some (.cells #[.slice aB gA.length bB] 31 (0, 0))) := ⟨up_ bA⟩
 have n3_ : Aside0 (IsS92 w (w8.setCell ⟨iA, 0, none⟩ (.slice aB gA.length bB)) g l0 tA uA) := ⟨iS92_2_ aA.out cA.out⟩
 have n4_ : Aside0 (KeepBut w (w8.setCell ⟨iA, 0, none⟩ (.slice aB gA.length bB)) g none) := ⟨kp2_ fA.out jA.out⟩
 have n5_ : Aside0 (Below w.heap.size w (w8.setCell ⟨iA, 0, none⟩ (.slice aB gA.length bB))) := ⟨hs3_ (IsS92.ge HI0.out) lA.out mA.out⟩
 (try clear eA)
 (try clear dA)
 (try clear bA)
 (try clear HI0)
 (try clear HK)
 (try clear HB)
 generalize (w8.setCell ⟨iA, 0, none⟩ (.slice aB gA.length bB)) = iC at n0_ n1_ n2_ n3_ n4_ n5_ ⊢
 have eA := n0_
 have dA := n1_
 have bA := n2_
 have HI0 := n3_
 have HK := n4_
 have HB := n5_
 clear n0_ n1_ n2_ n3_ n4_ n5_
 replace eA := qR_ eA
 replace dA := qK_ dA
 replace bA := qK_ bA
 replace HI0 := Aside0.mk (IsS92.drew HI0.out)
 replace HK := Aside0.mk (keep_drew HK.out)
 replace HB := qH_ HB
 refine start_ (n := 16) (S := fun w' => w'.cell? ⟨iA, 0, none⟩ = some (.slice aB gA.length bB)) (ds := []) (List.replicate 16 false).toArray (by kernel_rfl) rfl rfl (bt_ bA 0) (fun hHeld => ?_); refine with_tabW spec_DrawAppendTo.tab3 spec_DrawAppendTo.bits3 (fun HT_ HW_ => ?_)
 generalize iC.drew = lC at eA dA bA HI0 HK HB hHeld ⊢
 refine pv_ 1 13 ?_
 refine pv_ 2 14 ?_
 refine pv_ 8 20 ?_
 refine take_ (i := 0) (N := some 12) (v := ?_) (a' := ?_) #[true, true, true, false, false, false, false, false, true, false, false, false, false, false, false, false] rfl rfl (take_ofW HT_.out HW_.out (by kernel_rfl)) (fun _ _ _ h => h) (Or.inl ⟨by rfl, ?_⟩) hHeld ?_ ?_
 rotate_left
 ·intro w' s0
  go_simp
  with_reducible rfl
 rotate_left
 ·simp only [Act.put, List.setIfInBounds_toArray, List.set_cons_zero, List.set_cons_succ, i64_w, i32_w]
  rfl
 refine take_ (i := 3) (N := some 15) (v := ?_) (a' := ?_) #[true, true, true, true, false, false, false, false, true, false, false, false, false, false, false, false] rfl rfl (take_ofW HT_.out HW_.out (by kernel_rfl)) (fun _ _ _ h => h) (Or.inl ⟨by rfl, ?_⟩) hHeld ?_ ?_
 rotate_left
 ·intro w' s0
  go_simp
  with_reducible rfl
 rotate_left
 ·simp only [Act.put, List.setIfInBounds_toArray, List.set_cons_zero, List.set_cons_succ, i64_w, i32_w]
  rfl
 refine pv_ 4 16 ?_
 refine pv_ 5 17 ?_
 refine join_ (σ := Value × Value) 4 #[true, true, true, true, true, true, true, true, true, true, true, true, false, false, false, false] (fun s_ => [(18, .int .i64 dB), (21, s_.1), (22, .string (strOfNums oA)), (23, s_.2), (19, .int .i64 (wrap64 (dB - 1)))]) (fun s_ w' => (w'.cell? ⟨iA, 0, none⟩ = some (.slice aB gA.length bB)) ∧ (Kd.R k56 56 w' w.heap.size (fun _ => True) (.slice aB gA.length bB) gA) ∧ (Kd.R (Kd.int .u8) 5 w' w.heap.size (fun _ => True) s_.1 oA) ∧ (Kd.R Kd.string 9 w' w.heap.size (fun _ => True) s_.2 kB) ∧ (w'.heap[kA]? = some (.cells #[.slice none 0 0] 31 (0, 0))) ∧ (w'.heap[iA]? = some (.cells #[.slice aB gA.length bB] 31 (0, 0))) ∧ (IsS92 w w' g l0 yA zA) ∧ (KeepBut w w' g none) ∧ (Below w.heap.size w w')) ?_ ?_
 rotate_left
 ·intro hCont
  refine two_ (i := 6) (j := 9) (Ni := some 18) (Nj := some 21) #[true, true, true, true, true, true, true, false, true, false, false, false, false, false, false, false] #[true, true, true, true, true, true, false, false, true, true, false, false, false, false, false, false] rfl rfl rfl rfl (two_of HT_.out (by kernel_rfl)) (by decide) (by decide) (fun K hK => ?_) (fun K hK => ?_)
  ·skip
   refine gs_ Try.func74 #[.pointer (some ⟨g, 0, none⟩), .int .i64 (wrap64 ((gA.length : Int) + 2))] rfl ma_ ?_
   with_reducible refine (spec_l1Cur_pick.calls g l0 tA uA (wrap64 ((gA.length : Int) + 2)) dB yA zA w _ ?side1 ?side2 A3.out).mono ?_
   (case side1 => exact iS92_2_ aA.out cA.out)
   (case side2 => exact hs3_ (IsS92.ge HI0.out) lA.out mA.out)
   rintro e jC ⟨rfl, hi, hb, hk⟩
   refine ⟨_, rfl, ?_⟩
   replace dA := Aside0.mk (KeepBut.blk hk (g' := kA) (o := .cells #[.slice none 0 0] 31 (0, 0)) (kb_ dA.out) pA.out (by simp))
   replace eA := Aside0.mk (Kd.R_mono (Kd.R_keep (IsS92.apart (show IsS92 w _ g l0 tA uA from iS92_2_ aA.out cA.out) (kr_ eA.out) (by decide)) hk (fun _ h => h.2)) (fun _ h => h.1))
   replace bA := Aside0.mk (KeepBut.blk hk (g' := iA) (o := .cells #[.slice aB gA.length bB] 31 (0, 0)) (kb_ bA.out) sA.out (by simp))
   replace HK := Aside0.mk (KeepBut.trans (kp2_ fA.out jA.out) hk (.inl rfl))
   replace HB := Aside0.mk (hb)
   replace HI0 := Aside0.mk (hi)
   (try clear hb)
   (try clear hb2)
   (try clear hk)
   (try clear hi)
   refine hK.out _ _ (bt_ bA 0) (fun hHeld => ?_)
   clear hK K
   refine no_ ?_
   refine pv_ 7 19 ?_
   refine on_ 9 21 (fun K hK => ?_)
   refine Kd.R_make_step (Kd.int .u8) _ 5 (by rfl) (N := 21) rfl 51 _ _ rfl 400 rfl rfl Try.underlying51 (.int .u8 0) 1 info5 rfl (by decide) (by omega) 0 (ok := fun _ => True) (okp := fun _ => True) rfl (fun _ hk => hk) trivial (by omega) (by omega) (Below.refl _ _) (Nat.le_refl _) ?_
   intro gB mC lB hb hg_ hnew_
   clear hg_ hnew_
   (first | rw [← iB.out] at lB | (simp only [Int.reduceToNat] at lB; rw [← iB.out] at lB))
   replace eA := rB_ eA hb
   have hA := Aside0.mk (Kd.R_lower lB (keep_size (w := w) (g := g) (row := none) (kp2_ fA.out jA.out)))
   replace dA := bK_ dA hb
   replace bA := bK_ bA hb
   replace HK := Aside0.mk (KeepBut.trans (kp2_ fA.out jA.out) (KeepBut.of_below hb g none) (.inl rfl))
   replace HB := Aside0.mk (below_step (hs3_ (IsS92.ge HI0.out) lA.out mA.out) hb)
   replace HI0 := Aside0.mk (IsS92.below (iS92_2_ aA.out cA.out) hb)
   clear hb lB
   refine hK.out _ _ (bt_ bA 0) (fun hHeld => ?_)
   clear hK K
   refine norm_ (a' := ?_) ?_ ?_
   rotate_left
   ·show Act.put _ (some 21) _ = _
    simp only [Act.put, List.setIfInBounds_toArray, List.set_cons_zero, List.set_cons_succ, i64_w, i32_w]
    rfl
   refine on_ 10 22 (fun K hK => ?_)
   have hcv18 := own_string (P := Try.prog) Try.underlying51 Try.underlying5 Try.underlying9 (Kd.own_of_R hA.out)
   refine value_ (w1 := ?_) (v := ?_) (by rfl) rfl ?_ ?_
   rotate_left 2
   ·go_simp
    constructor
    ·rfl
    ·rfl
   clear hcv18
   refine hK.out _ _ (bt_ bA 0) (fun hHeld => ?_)
   clear hK K
   refine no_ ?_
   refine on_ 11 23 (fun K hK => ?_)
   refine Kd.R_lit_step Kd.string _ 9 ?hg (N := 23) ?hd (xs := ([(⟨#[]⟩ : ByteArray), (⟨#[97, 98, 99]⟩ : ByteArray), strOfNums oA] : List ByteArray)) (inner := [.string (⟨#[]⟩ : ByteArray), .string (⟨#[97, 98, 99]⟩ : ByteArray), .string (strOfNums oA)]) (ok := fun _ => True) (okp := fun _ => True) ?hr ?hp (fun _ hk => hk) trivial (Below.refl _ _) (Nat.le_refl _) (by simp) ?_; (case hd => rfl); (case hg => rfl); (case hr => first | (go_simp; done) | (go_simp; rfl)); (case hp => exact (Reps.one (show Kd.M Kd.string _ _ _ (⟨#[]⟩ : ByteArray) [.string (⟨#[]⟩ : ByteArray)] from rfl) (Reps.one (show Kd.M Kd.string _ _ _ (⟨#[97, 98, 99]⟩ : ByteArray) [.string (⟨#[97, 98, 99]⟩ : ByteArray)] from rfl) (Reps.one (show Kd.M Kd.string _ _ _ (strOfNums oA) [.string (strOfNums oA)] from rfl) (Reps.none _ _)))))
   intro cB dC rA hb hg_ hnew_
   clear hg_ hnew_
   (first | rw [← xA.out] at rA | (simp only [Int.reduceToNat] at rA; rw [← xA.out] at rA))
   replace eA := rB_ eA hb
   replace hA := rB_ hA hb
   have nA := Aside0.mk (Kd.R_lower rA (keep_size (w := w) (g := g) (row := none) (kp2_ fA.out jA.out)))
   replace dA := bK_ dA hb
   replace bA := bK_ bA hb
   replace HK := Aside0.mk (KeepBut.trans (kp2_ fA.out jA.out) (KeepBut.of_below hb g none) (.inl rfl))
   replace HB := Aside0.mk (below_step (hs3_ (IsS92.ge HI0.out) lA.out mA.out) hb)
   replace HI0 := Aside0.mk (IsS92.below (iS92_2_ aA.out cA.out) hb)
   clear hb rA
   refine hK.out _ _ (bt_ bA 0) (fun hHeld => ?_)
   clear hK K
   refine norm_ (a' := ?_) ?_ ?_
   rotate_left
   ·show Act.put _ (some 23) _ = _
    simp only [Act.put, List.setIfInBounds_toArray, List.set_cons_zero, List.set_cons_succ, i64_w, i32_w]
    rfl
   exact norm_ (by simp only [putAll, Act.put, List.setIfInBounds_toArray, List.set_cons_zero, List.set_cons_succ]) (hCont (gB, cB) _ ⟨hHeld, (kr_ eA.out), (kr_ hA.out), (kr_ nA.out), (kb_ dA.out), (kb_ bA.out), (iS92_2_ aA.out cA.out), (kp2_ fA.out jA.out), (hs3_ (IsS92.ge HI0.out) lA.out mA.out)⟩)
  ·skip
   refine Kd.R_make_step (Kd.int .u8) _ 5 (by rfl) (N := 21) rfl 51 _ _ rfl 400 rfl rfl Try.underlying51 (.int .u8 0) 1 info5 rfl (by decide) (by omega) 0 (ok := fun _ => True) (okp := fun _ => True) rfl (fun _ hk => hk) trivial (by omega) (by omega) (Below.refl _ _) (Nat.le_refl _) ?_
   intro gB jC mB hb hg_ hnew_
   clear hg_ hnew_
   (first | rw [← iB.out] at mB | (simp only [Int.reduceToNat] at mB; rw [← iB.out] at mB))
   replace eA := rB_ eA hb
   have hA := Aside0.mk (Kd.R_lower mB (keep_size (w := w) (g := g) (row := none) (kp2_ fA.out jA.out)))
   replace dA := bK_ dA hb
   replace bA := bK_ bA hb
   replace HK := Aside0.mk (KeepBut.trans (kp2_ fA.out jA.out) (KeepBut.of_below hb g none) (.inl rfl))
   replace HB := Aside0.mk (below_step (hs3_ (IsS92.ge HI0.out) lA.out mA.out) hb)
   replace HI0 := Aside0.mk (IsS92.below (iS92_2_ aA.out cA.out) hb)
   clear hb mB
   refine hK.out _ _ (bt_ bA 0) (fun hHeld => ?_)
   clear hK K
   refine norm_ (a' := ?_) ?_ ?_
   rotate_left
   ·show Act.put _ (some 21) _ = _
    simp only [Act.put, List.setIfInBounds_toArray, List.set_cons_zero, List.set_cons_succ, i64_w, i32_w]
    rfl
   refine two_ (i := 6) (j := 10) (Ni := some 18) (Nj := some 22) #[true, true, true, true, true, true, true, false, true, true, false, false, false, false, false, false] #[true, true, true, true, true, true, false, false, true, true, true, false, false, false, false, false] rfl rfl rfl rfl (two_of HT_.out (by kernel_rfl)) (by decide) (by decide) (fun K hK => ?_) (fun K hK => ?_)
   ·skip
    refine gs_ Try.func74 #[.pointer (some ⟨g, 0, none⟩), .int .i64 (wrap64 ((gA.length : Int) + 2))] rfl ma_ ?_
    with_reducible refine (spec_l1Cur_pick.calls g l0 tA uA (wrap64 ((gA.length : Int) + 2)) dB yA zA w _ ?side1 ?side2 A3.out).mono ?_
    (case side1 => exact iS92_2_ aA.out cA.out)
    (case side2 => exact hs3_ (IsS92.ge HI0.out) lA.out mA.out)
    rintro e nC ⟨rfl, hi, hb, hk⟩
    refine ⟨_, rfl, ?_⟩
    replace dA := Aside0.mk (KeepBut.blk hk (g' := kA) (o := .cells #[.slice none 0 0] 31 (0, 0)) (kb_ dA.out) pA.out (by simp))
    replace eA := Aside0.mk (Kd.R_mono (Kd.R_keep (IsS92.apart (show IsS92 w _ g l0 tA uA from iS92_2_ aA.out cA.out) (kr_ eA.out) (by decide)) hk (fun _ h => h.2)) (fun _ h => h.1))
    replace bA := Aside0.mk (KeepBut.blk hk (g' := iA) (o := .cells #[.slice aB gA.length bB] 31 (0, 0)) (kb_ bA.out) sA.out (by simp))
    replace hA := Aside0.mk (Kd.R_mono (Kd.R_keep (IsS92.apart (show IsS92 w _ g l0 tA uA from iS92_2_ aA.out cA.out) (kr_ hA.out) (by decide)) hk (fun _ h => h.2)) (fun _ h => h.1))
    replace HK := Aside0.mk (KeepBut.trans (kp2_ fA.out jA.out) hk (.inl rfl))
    replace HB := Aside0.mk (hb)
    replace HI0 := Aside0.mk (hi)
    (try clear hb)
    (try clear hb2)
    (try clear hk)
    (try clear hi)
    refine hK.out _ _ (bt_ bA 0) (fun hHeld => ?_)
    clear hK K
    refine no_ ?_
    refine pv_ 7 19 ?_
    refine on_ 10 22 (fun K hK => ?_)
    have hcv18 := own_string (P := Try.prog) Try.underlying51 Try.underlying5 Try.underlying9 (Kd.own_of_R hA.out)
    refine value_ (w1 := ?_) (v := ?_) (by rfl) rfl ?_ ?_
    rotate_left 2
    ·go_simp
     constructor
     ·rfl
     ·rfl
    clear hcv18
    refine hK.out _ _ (bt_ bA 0) (fun hHeld => ?_)
    clear hK K
    refine no_ ?_
    refine on_ 11 23 (fun K hK => ?_)
    refine Kd.R_lit_step Kd.string _ 9 ?hg (N := 23) ?hd (xs := ([(⟨#[]⟩ : ByteArray), (⟨#[97, 98, 99]⟩ : ByteArray), strOfNums oA] : List ByteArray)) (inner := [.string (⟨#[]⟩ : ByteArray), .string (⟨#[97, 98, 99]⟩ : ByteArray), .string (strOfNums oA)]) (ok := fun _ => True) (okp := fun _ => True) ?hr ?hp (fun _ hk => hk) trivial (Below.refl _ _) (Nat.le_refl _) (by simp) ?_; (case hd => rfl); (case hg => rfl); (case hr => first | (go_simp; done) | (go_simp; rfl)); (case hp => exact (Reps.one (show Kd.M Kd.string _ _ _ (⟨#[]⟩ : ByteArray) [.string (⟨#[]⟩ : ByteArray)] from rfl) (Reps.one (show Kd.M Kd.string _ _ _ (⟨#[97, 98, 99]⟩ : ByteArray) [.string (⟨#[97, 98, 99]⟩ : ByteArray)] from rfl) (Reps.one (show Kd.M Kd.string _ _ _ (strOfNums oA) [.string (strOfNums oA)] from rfl) (Reps.none _ _)))))
    intro cB dC rA hb hg_ hnew_
    clear hg_ hnew_
    (first | rw [← xA.out] at rA | (simp only [Int.reduceToNat] at rA; rw [← xA.out] at rA))
    replace eA := rB_ eA hb
    replace hA := rB_ hA hb
    have nA := Aside0.mk (Kd.R_lower rA (keep_size (w := w) (g := g) (row := none) (kp2_ fA.out jA.out)))
    replace dA := bK_ dA hb
    replace bA := bK_ bA hb
    replace HK := Aside0.mk (KeepBut.trans (kp2_ fA.out jA.out) (KeepBut.of_below hb g none) (.inl rfl))
    replace HB := Aside0.mk (below_step (hs3_ (IsS92.ge HI0.out) lA.out mA.out) hb)
    replace HI0 := Aside0.mk (IsS92.below (iS92_2_ aA.out cA.out) hb)
    clear hb rA
    refine hK.out _ _ (bt_ bA 0) (fun hHeld => ?_)
    clear hK K
    refine norm_ (a' := ?_) ?_ ?_
    rotate_left
    ·show Act.put _ (some 23) _ = _
     simp only [Act.put, List.setIfInBounds_toArray, List.set_cons_zero, List.set_cons_succ, i64_w, i32_w]
     rfl
    exact norm_ (by simp only [putAll, Act.put, List.setIfInBounds_toArray, List.set_cons_zero, List.set_cons_succ]) (hCont (gB, cB) _ ⟨hHeld, (kr_ eA.out), (kr_ hA.out), (kr_ nA.out), (kb_ dA.out), (kb_ bA.out), (iS92_2_ aA.out cA.out), (kp2_ fA.out jA.out), (hs3_ (IsS92.ge HI0.out) lA.out mA.out)⟩)
   ·skip
    have hcv17 := own_string (P := Try.prog) Try.underlying51 Try.underlying5 Try.underlying9 (Kd.own_of_R hA.out)
    refine value_ (w1 := ?_) (v := ?_) (by rfl) rfl ?_ ?_
    rotate_left 2
    ·go_simp
     constructor
     ·rfl
     ·rfl
    clear hcv17
    refine hK.out _ _ (bt_ bA 0) (fun hHeld => ?_)
    clear hK K
    refine no_ ?_
    refine two_ (i := 6) (j := 11) (Ni := some 18) (Nj := some 23) #[true, true, true, true, true, true, true, false, true, true, true, false, false, false, false, false] #[true, true, true, true, true, true, false, false, true, true, true, true, false, false, false, false] rfl rfl rfl rfl (two_of HT_.out (by kernel_rfl)) (by decide) (by decide) (fun K hK => ?_) (fun K hK => ?_)
    ·skip
     refine gs_ Try.func74 #[.pointer (some ⟨g, 0, none⟩), .int .i64 (wrap64 ((gA.length : Int) + 2))] rfl ma_ ?_
     with_reducible refine (spec_l1Cur_pick.calls g l0 tA uA (wrap64 ((gA.length : Int) + 2)) dB yA zA w _ ?side1 ?side2 A3.out).mono ?_
     (case side1 => exact iS92_2_ aA.out cA.out)
     (case side2 => exact hs3_ (IsS92.ge HI0.out) lA.out mA.out)
     rintro e kC ⟨rfl, hi, hb, hk⟩
     refine ⟨_, rfl, ?_⟩
     replace dA := Aside0.mk (KeepBut.blk hk (g' := kA) (o := .cells #[.slice none 0 0] 31 (0, 0)) (kb_ dA.out) pA.out (by simp))
     replace eA := Aside0.mk (Kd.R_mono (Kd.R_keep (IsS92.apart (show IsS92 w _ g l0 tA uA from iS92_2_ aA.out cA.out) (kr_ eA.out) (by decide)) hk (fun _ h => h.2)) (fun _ h => h.1))
     replace bA := Aside0.mk (KeepBut.blk hk (g' := iA) (o := .cells #[.slice aB gA.length bB] 31 (0, 0)) (kb_ bA.out) sA.out (by simp))
     replace hA := Aside0.mk (Kd.R_mono (Kd.R_keep (IsS92.apart (show IsS92 w _ g l0 tA uA from iS92_2_ aA.out cA.out) (kr_ hA.out) (by decide)) hk (fun _ h => h.2)) (fun _ h => h.1))
     replace HK := Aside0.mk (KeepBut.trans (kp2_ fA.out jA.out) hk (.inl rfl))
     replace HB := Aside0.mk (hb)
     replace HI0 := Aside0.mk (hi)
     (try clear hb)
     (try clear hb2)
     (try clear hk)
     (try clear hi)
     refine hK.out _ _ (bt_ bA 0) (fun hHeld => ?_)
     clear hK K
     refine no_ ?_
     refine pv_ 7 19 ?_
     refine on_ 11 23 (fun K hK => ?_)
     refine Kd.R_lit_step Kd.string _ 9 ?hg (N := 23) ?hd (xs := ([(⟨#[]⟩ : ByteArray), (⟨#[97, 98, 99]⟩ : ByteArray), strOfNums oA] : List ByteArray)) (inner := [.string (⟨#[]⟩ : ByteArray), .string (⟨#[97, 98, 99]⟩ : ByteArray), .string (strOfNums oA)]) (ok := fun _ => True) (okp := fun _ => True) ?hr ?hp (fun _ hk => hk) trivial (Below.refl _ _) (Nat.le_refl _) (by simp) ?_; (case hd => rfl); (case hg => rfl); (case hr => first | (go_simp; done) | (go_simp; rfl)); (case hp => exact (Reps.one (show Kd.M Kd.string _ _ _ (⟨#[]⟩ : ByteArray) [.string (⟨#[]⟩ : ByteArray)] from rfl) (Reps.one (show Kd.M Kd.string _ _ _ (⟨#[97, 98, 99]⟩ : ByteArray) [.string (⟨#[97, 98, 99]⟩ : ByteArray)] from rfl) (Reps.one (show Kd.M Kd.string _ _ _ (strOfNums oA) [.string (strOfNums oA)] from rfl) (Reps.none _ _)))))
     intro cB dC rA hb hg_ hnew_
     clear hg_ hnew_
     (first | rw [← xA.out] at rA | (simp only [Int.reduceToNat] at rA; rw [← xA.out] at rA))
     replace eA := rB_ eA hb
     replace hA := rB_ hA hb
     have nA := Aside0.mk (Kd.R_lower rA (keep_size (w := w) (g := g) (row := none) (kp2_ fA.out jA.out)))
     replace dA := bK_ dA hb
     replace bA := bK_ bA hb
     replace HK := Aside0.mk (KeepBut.trans (kp2_ fA.out jA.out) (KeepBut.of_below hb g none) (.inl rfl))
     replace HB := Aside0.mk (below_step (hs3_ (IsS92.ge HI0.out) lA.out mA.out) hb)
     replace HI0 := Aside0.mk (IsS92.below (iS92_2_ aA.out cA.out) hb)
     clear hb rA
     refine hK.out _ _ (bt_ bA 0) (fun hHeld => ?_)
     clear hK K
     refine norm_ (a' := ?_) ?_ ?_
     rotate_left
     ·show Act.put _ (some 23) _ = _
      simp only [Act.put, List.setIfInBounds_toArray, List.set_cons_zero, List.set_cons_succ, i64_w, i32_w]
      rfl
     exact norm_ (by simp only [putAll, Act.put, List.setIfInBounds_toArray, List.set_cons_zero, List.set_cons_succ]) (hCont (gB, cB) _ ⟨hHeld, (kr_ eA.out), (kr_ hA.out), (kr_ nA.out), (kb_ dA.out), (kb_ bA.out), (iS92_2_ aA.out cA.out), (kp2_ fA.out jA.out), (hs3_ (IsS92.ge HI0.out) lA.out mA.out)⟩)
    ·skip
     refine Kd.R_lit_step Kd.string _ 9 ?hg (N := 23) ?hd (xs := ([(⟨#[]⟩ : ByteArray), (⟨#[97, 98, 99]⟩ : ByteArray), strOfNums oA] : List ByteArray)) (inner := [.string (⟨#[]⟩ : ByteArray), .string (⟨#[97, 98, 99]⟩ : ByteArray), .string (strOfNums oA)]) (ok := fun _ => True) (okp := fun _ => True) ?hr ?hp (fun _ hk => hk) trivial (Below.refl _ _) (Nat.le_refl _) (by simp) ?_; (case hd => rfl); (case hg => rfl); (case hr => first | (go_simp; done) | (go_simp; rfl)); (case hp => exact (Reps.one (show Kd.M Kd.string _ _ _ (⟨#[]⟩ : ByteArray) [.string (⟨#[]⟩ : ByteArray)] from rfl) (Reps.one (show Kd.M Kd.string _ _ _ (⟨#[97, 98, 99]⟩ : ByteArray) [.string (⟨#[97, 98, 99]⟩ : ByteArray)] from rfl) (Reps.one (show Kd.M Kd.string _ _ _ (strOfNums oA) [.string (strOfNums oA)] from rfl) (Reps.none _ _)))))
     intro cB kC nB hb hg_ hnew_
     clear hg_ hnew_
     (first | rw [← xA.out] at nB | (simp only [Int.reduceToNat] at nB; rw [← xA.out] at nB))
     replace eA := rB_ eA hb
     replace hA := rB_ hA hb
     have nA := Aside0.mk (Kd.R_lower nB (keep_size (w := w) (g := g) (row := none) (kp2_ fA.out jA.out)))
     replace dA := bK_ dA hb
     replace bA := bK_ bA hb
     replace HK := Aside0.mk (KeepBut.trans (kp2_ fA.out jA.out) (KeepBut.of_below hb g none) (.inl rfl))
     replace HB := Aside0.mk (below_step (hs3_ (IsS92.ge HI0.out) lA.out mA.out) hb)
     replace HI0 := Aside0.mk (IsS92.below (iS92_2_ aA.out cA.out) hb)
     clear hb nB
     refine hK.out _ _ (bt_ bA 0) (fun hHeld => ?_)
     clear hK K
     refine norm_ (a' := ?_) ?_ ?_
     rotate_left
     ·show Act.put _ (some 23) _ = _
      simp only [Act.put, List.setIfInBounds_toArray, List.set_cons_zero, List.set_cons_succ, i64_w, i32_w]
      rfl
     refine on_ 6 18 (fun K hK => ?_)
     refine gs_ Try.func74 #[.pointer (some ⟨g, 0, none⟩), .int .i64 (wrap64 ((gA.length : Int) + 2))] rfl ma_ ?_
     with_reducible refine (spec_l1Cur_pick.calls g l0 tA uA (wrap64 ((gA.length : Int) + 2)) dB yA zA w _ ?side1 ?side2 A3.out).mono ?_
     (case side1 => exact iS92_2_ aA.out cA.out)
     (case side2 => exact hs3_ (IsS92.ge HI0.out) lA.out mA.out)
     rintro e oC ⟨rfl, hi, hb, hk⟩
     refine ⟨_, rfl, ?_⟩
     replace dA := Aside0.mk (KeepBut.blk hk (g' := kA) (o := .cells #[.slice none 0 0] 31 (0, 0)) (kb_ dA.out) pA.out (by simp))
     replace eA := Aside0.mk (Kd.R_mono (Kd.R_keep (IsS92.apart (show IsS92 w _ g l0 tA uA from iS92_2_ aA.out cA.out) (kr_ eA.out) (by decide)) hk (fun _ h => h.2)) (fun _ h => h.1))
     replace bA := Aside0.mk (KeepBut.blk hk (g' := iA) (o := .cells #[.slice aB gA.length bB] 31 (0, 0)) (kb_ bA.out) sA.out (by simp))
     replace hA := Aside0.mk (Kd.R_mono (Kd.R_keep (IsS92.apart (show IsS92 w _ g l0 tA uA from iS92_2_ aA.out cA.out) (kr_ hA.out) (by decide)) hk (fun _ h => h.2)) (fun _ h => h.1))
     replace nA := Aside0.mk (Kd.R_mono (Kd.R_keep (IsS92.apart (show IsS92 w _ g l0 tA uA from iS92_2_ aA.out cA.out) (kr_ nA.out) (by decide)) hk (fun _ h => h.2)) (fun _ h => h.1))
     replace HK := Aside0.mk (KeepBut.trans (kp2_ fA.out jA.out) hk (.inl rfl))
     replace HB := Aside0.mk (hb)
     replace HI0 := Aside0.mk (hi)
     (try clear hb)
     (try clear hb2)
     (try clear hk)
     (try clear hi)
     refine hK.out _ _ (bt_ bA 0) (fun hHeld => ?_)
     clear hK K
     refine no_ ?_
     refine pv_ 7 19 ?_
     exact norm_ (by simp only [putAll, Act.put, List.setIfInBounds_toArray, List.set_cons_zero, List.set_cons_succ]) (hCont (gB, cB) _ ⟨hHeld, (kr_ eA.out), (kr_ hA.out), (kr_ nA.out), (kb_ dA.out), (kb_ bA.out), (iS92_2_ aA.out cA.out), (kp2_ fA.out jA.out), (hs3_ (IsS92.ge HI0.out) lA.out mA.out)⟩)
 rintro ⟨gB, cB⟩ oB ⟨hS_, h0_, h1_, h2_, h3_, h4_, h5_, h6_, h7_⟩
 have n0_ : Aside0 (Kd.R k56 56 oB w.heap.size (fun _ => True) (.slice aB gA.length bB) gA) := ⟨h0_⟩
 have n1_ : Aside0 (Kd.R (Kd.int .u8) 5 oB w.heap.size (fun _ => True) gB oA) := ⟨h1_⟩
 have n2_ : Aside0 (Kd.R Kd.string 9 oB w.heap.size (fun _ => True) cB kB) := ⟨h2_⟩
 have n3_ : Aside0 (oB.heap[kA]? = some (.cells #[.slice none 0 0] 31 (0, 0))) := ⟨h3_⟩
 have n4_ : Aside0 (oB.heap[iA]? = some (.cells #[.slice aB gA.length bB] 31 (0, 0))) := ⟨h4_⟩
 have n5_ : Aside0 (IsS92 w oB g l0 yA zA) := ⟨h5_⟩
 have n6_ : Aside0 (KeepBut w oB g none) := ⟨h6_⟩
 have n7_ : Aside0 (Below w.heap.size w oB) := ⟨h7_⟩
 clear eA
 clear dA
 clear bA
 clear HI0
 clear HK
 clear HB
 clear h0_ h1_ h2_ h3_ h4_ h5_ h6_ h7_
 have eA := n0_
 have hA := n1_
 have nA := n2_
 have dA := n3_
 have bA := n4_
 have HI0 := n5_
 have HK := n6_
 have HB := n7_
 clear n0_ n1_ n2_ n3_ n4_ n5_ n6_ n7_
 have hHeld : oB.cell? ⟨iA, 0, none⟩ = some (.slice aB gA.length bB) := hS_
 obtain ⟨vB, wB, pB⟩ := Kd.R_slice nA.out
 (first | subst pB | (injection pB with f1_ f2_ f3_; have f4_ := f1_.symm; have f5_ := f3_.symm; clear f1_ f2_ f3_; subst f4_; subst f5_))
 refine np_ ?_
 refine on_ 12 24 (fun K hK => ?_)
 refine gs_ Try.func75 #[.pointer (some ⟨g, 0, none⟩), .slice vB kB.length wB] rfl ma_ ?_
 with_reducible refine (spec_l1Cur_of.calls g l0 yA zA _ _ kB sB tB uB w _ ?side1 ?side2 ?side3 ?side4 ?side5 A5.out).mono ?_
 (case side1 => exact iS92_2_ aA.out cA.out)
 (case side2 => exact hs3_ (IsS92.ge HI0.out) lA.out mA.out)
 (case side3 => exact cs_ ((Kd.R_reads' nA.out).2.2))
 (case side4 => exact (Kd.R_reads' nA.out).2.1)
 (case side5 => exact far_slice (IsS92.own_ne HI0.out nA.out (by decide)))
 rintro e pC ⟨rfl, hi, hb, hk⟩
 refine ⟨_, rfl, ?_⟩
 replace dA := Aside0.mk (KeepBut.blk hk (g' := kA) (o := .cells #[.slice none 0 0] 31 (0, 0)) (kb_ dA.out) pA.out (by simp))
 replace eA := Aside0.mk (Kd.R_mono (Kd.R_keep (IsS92.apart (show IsS92 w _ g l0 yA zA from iS92_2_ aA.out cA.out) (kr_ eA.out) (by decide)) hk (fun _ h => h.2)) (fun _ h => h.1))
 replace bA := Aside0.mk (KeepBut.blk hk (g' := iA) (o := .cells #[.slice aB gA.length bB] 31 (0, 0)) (kb_ bA.out) sA.out (by simp))
 replace hA := Aside0.mk (Kd.R_mono (Kd.R_keep (IsS92.apart (show IsS92 w _ g l0 yA zA from iS92_2_ aA.out cA.out) (kr_ hA.out) (by decide)) hk (fun _ h => h.2)) (fun _ h => h.1))
 replace nA := Aside0.mk (Kd.R_mono (Kd.R_keep (IsS92.apart (show IsS92 w _ g l0 yA zA from iS92_2_ aA.out cA.out) (kr_ nA.out) (by decide)) hk (fun _ h => h.2)) (fun _ h => h.1))
 replace HK := Aside0.mk (KeepBut.trans (kp2_ fA.out jA.out) hk (.inl rfl))
 replace HB := Aside0.mk (hb)
 replace HI0 := Aside0.mk (hi)
 (try clear hb)
 (try clear hb2)
 (try clear hk)
 (try clear hi)
 refine hK.out _ _ (bt_ bA 0) (fun hHeld => ?_)
 clear hK K
 refine no_ ?_
 refine one_ (i := 13) (N := none) #[true, true, true, true, true, true, true, true, true, true, true, true, true, true, false, false] rfl rfl (one_of HT_.out (by kernel_rfl)) (by decide) (fun K hK => ?_)
 obtain ⟨hs24, hfs24⟩ := cf1_ dA.out
 have hns24_1 := wA.out
 have hms24_1 := vA.out
 refine skip_ (w1 := ?_) (by rfl) rfl ?_ ?_
 rotate_left
 ·go_simp
  rfl
 refine hK.out _ _ (((cell_far (p := ⟨kA, _, none⟩) wA.out _).trans (hHeld))) (fun hHeld => ?_)
 clear hK K
 refine pv_ 14 3 ?_
 refine pv_ 15 4 ?_
 refine done_ (done_of HT_.out (by kernel_rfl)) ?_
 try go_wp2
 refine bodyPost_ret (results_ctt rfl _ _ kA 31 #[.slice aB gA.length bB] (0, 0) _ rfl (up_ dA) Try.underlying31 rfl (by kernel_rfl)) rfl ?_
 exact ⟨_, er_, rF_ (Kd.R_mono (Kd.R_far (p := ⟨kA, 0, none⟩) (Kd.R_types eA.out dA.out (by decide)) (fun _ hk => hk.2) (.slice aB gA.length bB)) (fun _ hk => trivial)), hs3_ (IsS92.ge HI0.out) lA.out mA.out⟩



/-! ### impl_AppendTo: function 31 -/
def impl_AppendTo.f (l0_0 : List (S56)) (a1 : Int) (a2 : ByteArray) : Option ((List (S56)) × Bool) := (impl_Disk_has.f l0_0 a1).bind fun t451 => (if t451 = true then (if 0 ≤ a1 then (if a1 < (l0_0.length : Int) then (if (wrap64 ((((rd_T56 l0_0 a1).f0).size : Int) + (a2.size : Int))) > 400 then (some (([] : List (S56)), false)) else (if ((rd_T56 l0_0 a1).f0).size + a2.size ≤ 9223372036854775807 then ((impl_Disk_with.f l0_0 a1 (((rd_T56 l0_0 a1).f0) ++ a2) ((rd_T56 l0_0 a1).f1)).bind fun t455 => (some (t455, true))) else (none))) else (none)) else (none)) else (some (([] : List (S56)), false)))
set_option maxHeartbeats 8000000 in
set_option maxRecDepth 100000 in
theorem impl_AppendTo.calls (A0_0 : Option Addr) (c0_0 : Nat) (l0_0 : List (S56)) (a1 : Int) (a2 : ByteArray) (r1 : List (S56)) (r2 : Bool) (w : World) (hr0_0 : Kd.C k56 w A0_0 l0_0.length l0_0) (hc0_0 : l0_0.length ≤ c0_0) (h : impl_AppendTo.f l0_0 a1 a2 = some (r1, r2)) :
  Calls Try.prog 31 #[.agg #[.slice A0_0 l0_0.length c0_0], .int .i64 a1, .string a2] w fun e w' => ∃ v0_ : Value, e = .returned (.tuple #[.agg #[v0_], .bool r2]) ∧ Kd.R k56 56 w' w.heap.size (fun _ => True) v0_ r1 ∧ Below w.heap.size w w' := by
 have hu31 := Try.underlying31
 have hu56 := Try.underlying56
 have iA := Aside0.mk hr0_0
 have oA := Aside0.mk hc0_0
 clear hr0_0 hc0_0
 have HB := Aside0.mk (Below.refl w.heap.size w)
 have H : ((impl_Disk_has.f l0_0 a1).bind fun dB => (if dB = true then (if 0 ≤ a1 then (if a1 < (l0_0.length : Int) then (if (wrap64 ((((rd_T56 l0_0 a1).f0).size : Int) + (a2.size : Int))) > 400 then (some (([] : List (S56)), false)) else (if ((rd_T56 l0_0 a1).f0).size + a2.size ≤ 9223372036854775807 then ((impl_Disk_with.f l0_0 a1 (((rd_T56 l0_0 a1).f0) ++ a2) ((rd_T56 l0_0 a1).f1)).bind fun wA => (some (wA, true))) else (none))) else (none)) else (none)) else (some (([] : List (S56)), false)))) = some (r1, r2) := h
 clear h
 replace H := bnd_ H
 obtain ⟨dB, A4, H⟩ := H
 replace H := ifb_ H
 obtain ⟨rfl, H⟩ | ⟨rfl, H⟩ := H
 rotate_left
 ·simp only [Option.some.injEq, Prod.mk.injEq] at H
  obtain ⟨rfl, rfl⟩ := H
  go_enter Try.func31, Try.ntmps31
  go_wp2_with (first | ((with_reducible refine gate_dst (N := 3) rfl ?_); (try (refine gate_guard (by rfl) ?_; dsimp only)); refine bq_ (N := 3) #[.slice A0_0 l0_0.length c0_0] 31 ?_; intro xA hg zC aA hb; have cA := ge_ hg; replace HB := nb_ hb; clear hb hg) | ((with_reducible refine gate_dst (N := 6) rfl ?_); (try (refine gate_guard (by rfl) ?_; dsimp only)); refine bq_ (N := 6) #[.slice none 0 0] 31 ?_; intro jA hg aD bA hb; have dA := ge1_ hg cA; replace HB := nc_ cA hb; have eA := nl_ aA hg; have fA := ng_ aA hg; replace aA := bK_ aA hb; clear hb hg; have jC := eA.out; have kC := fA.out; obtain ⟨iB, jB⟩ := cf1_ aA.out) | ((with_reducible refine gate_callee (f := 52) rfl ?_); refine gl_ 11 Try.func52 #[.agg #[.slice A0_0 l0_0.length c0_0], .int .i64 a1] rfl ma_ ?_; (with_reducible refine (impl_Disk_has.calls _ _ l0_0 a1 false _ ?side1 ?side2 A4.out).mono ?_); (case side1 => exact cs_ ((Kd.C_below iA.out HB.out))); (case side2 => exact oA.out); rintro e bD ⟨rfl, hb⟩; refine ⟨_, rfl, ?_⟩; replace aA := bK_ aA hb; replace bA := bK_ bA hb; replace HB := nc2_ cA dA hb; (try clear hb); (try clear hb2); (try clear hk); (try clear hi); obtain ⟨kB, lB⟩ := cf1_ bA.out))
  refine bodyPost_ret (results_ct rfl _ _ jA 31 #[.slice none 0 0] (0, 0) _ rfl (up_ bA) Try.underlying31 rfl (by kernel_rfl)) rfl ?_
  exact ⟨_, er_, ni_, hs2_ cA.out dA.out⟩
 replace H := ifs_ H
 obtain ⟨c6, H⟩ := H
 have fC := decide_eq_true c6
 clear c6
 replace H := ifs_ H
 obtain ⟨c7, H⟩ := H
 have gC := decide_eq_true c7
 clear c7
 replace H := ite_ H
 obtain ⟨c8, H⟩ | ⟨c8, H⟩ := H
 ·have eB := dgt_ c8
  clear c8
  simp only [Option.some.injEq, Prod.mk.injEq] at H
  obtain ⟨rfl, rfl⟩ := H
  go_enter Try.func31, Try.ntmps31
  go_wp2_with (first | ((with_reducible refine gate_dst (N := 3) rfl ?_); (try (refine gate_guard (by rfl) ?_; dsimp only)); refine bq_ (N := 3) #[.slice A0_0 l0_0.length c0_0] 31 ?_; intro xA hg w9 aA hb; have cA := ge_ hg; replace HB := nb_ hb; clear hb hg) | ((with_reducible refine gate_dst (N := 6) rfl ?_); (try (refine gate_guard (by rfl) ?_; dsimp only)); refine bq_ (N := 6) #[.slice none 0 0] 31 ?_; intro jA hg cD bA hb; have dA := ge1_ hg cA; replace HB := nc_ cA hb; have eA := nl_ aA hg; have fA := ng_ aA hg; replace aA := bK_ aA hb; clear hb hg; have lC := eA.out; have mC := fA.out; obtain ⟨mB, nB⟩ := cf1_ aA.out) | ((with_reducible refine gate_callee (f := 52) rfl ?_); refine gl_ 11 Try.func52 #[.agg #[.slice A0_0 l0_0.length c0_0], .int .i64 a1] rfl ma_ ?_; (with_reducible refine (impl_Disk_has.calls _ _ l0_0 a1 true _ ?side1 ?side2 A4.out).mono ?_); (case side1 => exact cs_ ((Kd.C_below iA.out HB.out))); (case side2 => exact oA.out); rintro e dD ⟨rfl, hb⟩; refine ⟨_, rfl, ?_⟩; replace aA := bK_ aA hb; replace bA := bK_ bA hb; replace HB := nc2_ cA dA hb; (try clear hb); (try clear hb2); (try clear hk); (try clear hi); obtain ⟨oB, pB⟩ := cf1_ aA.out; have mA : 0 ≤ (a1 : Int) := oa_; have nA : a1 < (l0_0.length : Int) := oa_; obtain ⟨pA, aB, gA, hA⟩ := at_T56 iA.out a1 mA nA; cases aB; replace gA := pc_ HB.out gA; replace hA := pc_ HB.out hA; replace mA := eq_true mA; replace nA := eq_true nA; obtain ⟨qB, rB⟩ := cf1_ bA.out))
  refine bodyPost_ret (results_ct rfl _ _ jA 31 #[.slice none 0 0] (0, 0) _ rfl (up_ bA) Try.underlying31 rfl (by kernel_rfl)) rfl ?_
  exact ⟨_, er_, ni_, hs2_ cA.out dA.out⟩
 have eB := dgf_ c8
 clear c8
 replace H := ifs_ H
 obtain ⟨sB, H⟩ := H
 have nC := eq_true sB
 have oC := decide_eq_true sB
 try have pC : (9223372036854775807 < ((rd_T56 l0_0 a1).f0).size + a2.size) = False := eq_false (Nat.not_lt.2 sB)
 try have c16w := cw_ sB
 (try rw [c16w] at fC)
 (try rw [c16w] at gC)
 (try rw [c16w] at eB)
 replace H := bnd_ H
 obtain ⟨wA, xC, H⟩ := H
 simp only [Option.some.injEq, Prod.mk.injEq] at H
 obtain ⟨rfl, rfl⟩ := H
 go_enter Try.func31, Try.ntmps31
 go_wp2_with (first | ((with_reducible refine gate_dst (N := 3) rfl ?_); (try (refine gate_guard (by rfl) ?_; dsimp only)); refine bq_ (N := 3) #[.slice A0_0 l0_0.length c0_0] 31 ?_; intro xA hg eD aA hb; have cA := ge_ hg; replace HB := nb_ hb; clear hb hg) | ((with_reducible refine gate_dst (N := 6) rfl ?_); (try (refine gate_guard (by rfl) ?_; dsimp only)); refine bq_ (N := 6) #[.slice none 0 0] 31 ?_; intro jA hg fD bA hb; have dA := ge1_ hg cA; replace HB := nc_ cA hb; have eA := nl_ aA hg; have fA := ng_ aA hg; replace aA := bK_ aA hb; clear hb hg; have qC := eA.out; have rC := fA.out; obtain ⟨tB, uB⟩ := cf1_ aA.out) | ((with_reducible refine gate_callee (f := 52) rfl ?_); refine gl_ 11 Try.func52 #[.agg #[.slice A0_0 l0_0.length c0_0], .int .i64 a1] rfl ma_ ?_; (with_reducible refine (impl_Disk_has.calls _ _ l0_0 a1 true _ ?side1 ?side2 A4.out).mono ?_); (case side1 => exact cs_ ((Kd.C_below iA.out HB.out))); (case side2 => exact oA.out); rintro e gD ⟨rfl, hb⟩; refine ⟨_, rfl, ?_⟩; replace aA := bK_ aA hb; replace bA := bK_ bA hb; replace HB := nc2_ cA dA hb; (try clear hb); (try clear hb2); (try clear hk); (try clear hi); obtain ⟨vB, wB⟩ := cf1_ aA.out; have mA : 0 ≤ (a1 : Int) := oa_; have nA : a1 < (l0_0.length : Int) := oa_; obtain ⟨pA, aB, gA, hA⟩ := at_T56 iA.out a1 mA nA; cases aB; replace gA := pc_ HB.out gA; replace hA := pc_ HB.out hA; replace mA := eq_true mA; replace nA := eq_true nA; have bB : 0 ≤ (a1 : Int) := oa_; have cB : a1 < (l0_0.length : Int) := oa_; obtain ⟨fB, hC, qA, rA⟩ := at_T56 iA.out a1 bB cB; obtain rfl : pA = fB := (by injection hC); replace qA := pc_ HB.out qA; replace rA := pc_ HB.out rA; replace bB := eq_true bB; replace cB := eq_true cB) | ((with_reducible refine gate_dst (N := 8) rfl ?_); (try (refine gate_guard (by rfl) ?_; dsimp only)); refine box_event ?hg (N := 8) ?hd (cs := #[.string (⟨#[]⟩ : ByteArray), .int .i64 0]) (t := 56) ?hr ?_; (case hd => rfl); (case hg => rfl); (case hr => first | (go_simp; done) | (go_simp; rfl)); intro yA hg hD hbox hb; have sA := Aside0.mk (hbox); have tA := ge2_ hg cA dA; replace HB := nc2_ cA dA hb; have kA := nl_ aA hg; have uA := ng_ aA hg; replace aA := bK_ aA hb; have lA := nl_ bA hg; have vA := ng_ bA hg; replace bA := bK_ bA hb; clear hb hbox hg; have sC := uA.out; have tC := kA.out; have uC := vA.out; have vC := lA.out; obtain ⟨xB, yB, zB, aC⟩ := cf2_ sA.out; obtain ⟨bC, cC⟩ := cf1_ aA.out) | ((with_reducible refine gate_callee (f := 66) rfl ?_); refine gl_ 40 Try.func66 #[.agg #[.slice (some pA) l0_0.length c0_0], .int .i64 a1, .agg #[.string (((rd_T56 l0_0 a1).f0) ++ a2), .int .i64 ((rd_T56 l0_0 a1).f1)]] rfl ma_ ?_; (with_reducible refine (impl_Disk_with.calls _ _ l0_0 a1 (((rd_T56 l0_0 a1).f0) ++ a2) ((rd_T56 l0_0 a1).f1) wA _ ?side1 ?side2 xC.out).mono ?_); (case side1 => exact Kd.C_below iA.out (hs3_ cA.out dA.out tA.out)); (case side2 => exact oA.out); rintro e iD ⟨yC, rfl, wC, hb⟩; refine ⟨_, rfl, ?_⟩; have zA := Aside0.mk (Kd.R_lower (Kd.R_newB wC (g := yA) (o := .cells #[.string (((rd_T56 l0_0 a1).f0) ++ a2), .int .i64 ((rd_T56 l0_0 a1).f1)] 56 (0, 0)) (up_ sA)) (below_size (hs3_ cA.out dA.out tA.out))); replace aA := Aside0.mk (blk_below (g := xA) (o := .cells #[.slice (some pA) l0_0.length c0_0] 31 (0, 0)) (uf_ aA kA.out) hb); replace bA := Aside0.mk (blk_below (g := jA) (o := .cells #[.slice none 0 0] 31 (0, 0)) (uf_ bA lA.out) hb); replace sA := Aside0.mk (blk_below (g := yA) (o := .cells #[.string (((rd_T56 l0_0 a1).f0) ++ a2), .int .i64 ((rd_T56 l0_0 a1).f1)] 56 (0, 0)) (up_ sA) hb); replace HB := nc3_ cA dA tA hb; (try clear hb); (try clear hb2); (try clear hk); (try clear hi); (try clear wC); obtain ⟨gB, hB, iC⟩ := Kd.R_slice zA.out; subst iC; obtain ⟨dC, eC⟩ := cf1_ bA.out))
 refine bodyPost_ret (results_ct rfl _ _ jA 31 #[.slice gB wA.length hB] (0, 0) _ rfl (up_ bA) Try.underlying31 rfl (by kernel_rfl)) rfl ?_
 exact ⟨_, er_, rF_ (Kd.R_mono (Kd.R_far (p := ⟨jA, 0, none⟩) (Kd.R_types zA.out bA.out (by decide)) (fun _ hk => hk.2) (.slice gB wA.length hB)) (fun _ hk => trivial)), hs3_ cA.out dA.out tA.out⟩
end Go.Proofs.Ytpdpipfkllfhmaa.QFnDisks
