/- Functions that one statement reaches: of each a plain function, and the proof that calls come to it. Conditions: those that each contract names. Written by a program of this repository. -/
import Derived.Test.YtpdpipfkllfhmaaVFnDisksa
import Derived.Test.YtpdpipfkllfhmaaQFnDisksx3
import Derived.Test.YtpdpipfkllfhmaaQFnDisksx6
import Derived.Test.YtpdpipfkllfhmaaQFnDisksx12
import Derived.Test.YtpdpipfkllfhmaaQFnDisksx13
import Derived.Test.YtpdpipfkllfhmaaQFnDisksx14
namespace Go.Proofs.Ytpdpipfkllfhmaa.QFnDisks
open Go.RowKit Go.Proofs.YtpdpipfkllfhmaaW.PrintWords Go.Proofs.YtpdpipfkllfhmaaW.PrintLast Go.Proofs.YtpdpipfkllfhmaaW.PrintMore
attribute [local go_sem] max2_int min2_int max_two min_two max_three min_three max_four min_four Go.Proofs.YtpdpipfkllfhmaaW.PrintMore2.isSome_setCell   -- for this text's walks alone
set_option linter.unusedVariables false
set_option linter.unusedSimpArgs false

/-! ### spec_DrawCutFile: function 33 -/
def spec_DrawCutFile.m (k : Nat) (s0_0 : List Int) (s0_1 : Int) (s0_2 : Int) : Option ((List (S56)) × Int × Int × Int × Int) := (spec_l1Cur_disk.f k s0_0 s0_1 s0_2).bind fun bt506 => ((spec_l1Cur_pick.f s0_0 bt506.2.1 bt506.2.2 (bt506.1.length : Int)).bind fun bt512 => ((spec_l1Cur_pick.f s0_0 bt512.2.1 bt512.2.2 60).bind fun bt515 => (some (bt506.1, bt512.1, wrap64 (bt515.1 - 1), bt515.2.1, bt515.2.2))))
theorem spec_DrawCutFile.mono_m : ∀ a0 a1 a2 k, LeO (spec_DrawCutFile.m k a0 a1 a2) (spec_DrawCutFile.m (k + 1) a0 a1 a2) := by
 intro a0 a1 a2 k
 unfold spec_DrawCutFile.m
 repeat' first
   | (with_reducible first | apply spec_l1Cur_disk.mono | exact LeO.refl _ | exact LeO.none _ | refine LeO.ite ?_ ?_ | refine LeO.bind ?_ (fun _ => ?_))
def spec_DrawCutFile.T3 : Bool × List (List Nat × List Nat) := (true, [([], []), ([], []), ([], []), ([2], [2]), ([3], [3]), ([1, 4], [1, 4]), ([], []), ([6, 5], [6]), ([7], [7]), ([0, 7, 0], [0]), ([5, 9, 0, 1, 2, 3, 4, 5, 9], [5]), ([8, 10, 0, 1, 2, 3, 4, 5, 6, 7, 8, 9, 10], [8])])
def spec_DrawCutFile.B3 : List Nat := [0, 0, 0, 4, 12, 30, 0, 126, 254, 255, 767, 2047]
theorem spec_DrawCutFile.tab3 : rtab .any (opsOf Try.f33 3) = spec_DrawCutFile.T3 := by kernel_rfl
theorem spec_DrawCutFile.bits3 : waitsOk spec_DrawCutFile.T3.2 spec_DrawCutFile.B3 = true := by kernel_rfl
def spec_DrawCutFile.f (k : Nat) (l0 : List Int) : Option ((List (S56)) × Int × Int) := (spec_DrawCutFile.m k l0 0 0).bind fun b => some (b.1, b.2.1, b.2.2.1)
theorem spec_DrawCutFile.mono : ∀ a0 k, LeO (spec_DrawCutFile.f k a0) (spec_DrawCutFile.f (k + 1) a0) := fun a0 k => LeO.bind (spec_DrawCutFile.mono_m _ _ _ _) (fun _ => LeO.refl _)
set_option maxHeartbeats 8000000 in
set_option maxRecDepth 100000 in
theorem spec_DrawCutFile.calls (k : Nat) (A0 : Option Addr) (c0 : Nat) (l0 : List Int) (r1 : List (S56)) (r2 : Int) (r3 : Int) (w : World) (hr0 : Kd.C (Kd.int .u8) w A0 l0.length l0) (_hc0 : l0.length ≤ c0) (h : spec_DrawCutFile.f k l0 = some (r1, r2, r3)) :
  Calls Try.prog 33 #[.slice A0 l0.length c0] w fun e w' => ∃ v0_ : Value, e = .returned (.tuple #[.agg #[v0_], .int .i64 r2, .int .i64 r3]) ∧ Kd.R k56 56 w' w.heap.size (fun _ => True) v0_ r1 ∧ Below w.heap.size w w' := by
 have hu_92 := Try.underlying92
 have HR0_ := Aside0.mk hr0
 clear hr0
 obtain ⟨⟨q0_, q1_, q2_, q3_, q4_⟩, h_, e_⟩ := Option.bind_eq_some_iff.1 h
 clear h
 have e_ := Option.some.inj e_
 simp only [Prod.mk.injEq] at e_
 obtain ⟨e0_, e1_, e2_⟩ := e_
 obtain rfl := e0_.symm
 obtain rfl := e1_.symm
 obtain rfl := e2_.symm
 have h := h_
 clear h_
 have hu31 := Try.underlying31
 have H : ((spec_l1Cur_disk.f k l0 0 0).bind fun qA => ((spec_l1Cur_pick.f l0 qA.2.1 qA.2.2 (qA.1.length : Int)).bind fun uA => ((spec_l1Cur_pick.f l0 uA.2.1 uA.2.2 60).bind fun vA => (some (qA.1, uA.1, wrap64 (vA.1 - 1), vA.2.1, vA.2.2))))) = some (r1, r2, r3, q3_, q4_) := h
 clear h
 replace H := bnd_ H
 obtain ⟨⟨gA, sA, tA⟩, A2, H⟩ := H
 replace H := red_ H
 replace H := bnd_ H
 obtain ⟨⟨bB, xA, yA⟩, A3, H⟩ := H
 replace H := red_ H
 replace H := bnd_ H
 obtain ⟨⟨cB, dB, eB⟩, A4, H⟩ := H
 replace H := red_ H
 simp only [Option.some.injEq, Prod.mk.injEq] at H
 obtain ⟨rfl, rfl, rfl, rfl, rfl⟩ := H
 go_enter Try.func33, Try.ntmps33
 have fB := Aside0.mk (Nat.le_refl w.heap.size)
 have HB := Aside0.mk (Below.refl w.heap.size w)
 go_upto_region 2 with (first | ((with_reducible refine gate_dst (N := 2) rfl ?_); (try (refine gate_guard (by rfl) ?_; dsimp only)); refine be_ (N := 2) #[.slice none 0 0] 31 ?_; intro dA hg w505_ hbox hb; have aA := Aside0.mk hbox; have iA := Aside0.mk (show w.heap.size ≤ dA from by rw [hg]; exact HB.out.size); have mA := iA; replace HB := Aside0.mk (below_step HB.out hb); clear hbox hb hg) | ((with_reducible refine gate_dst (N := 9) rfl ?_); (try (refine gate_guard (by rfl) ?_; dsimp only)); refine be_ (N := 9) #[.slice A0 l0.length c0, .int .i64 0, .int .u64 0] 92 ?_; intro g hg wg_ hbox hb; have HI0 : Aside0 (IsS92 w wg_ g l0 0 0) := ⟨⟨A0, c0, hbox, by rw [hg]; exact HB.out.size, HR0_.out⟩⟩; have bA := Aside0.mk (show g ≠ dA from by rw [hg]; exact Nat.ne_of_gt (blk_lt aA.out)); have lA := Aside0.mk (Ne.symm bA.out); replace aA := Aside0.mk (blk_below aA.out hb); replace HB := Aside0.mk (below_step HB.out hb); have HK := Aside0.mk (KeepBut.of_below HB.out g none); have HL := Aside0.mk HB.out.size; clear hbox hb hg))
 try go_wp2_with (first | ((with_reducible refine gate_dst (N := 2) rfl ?_); refine bq_ (N := 2) #[.slice none 0 0] 31 ?_; intro dA hg w5 aA hb; replace HB := Aside0.mk (below_step (hs_ (IsS92.ge HI0.out)) hb); have iA := Aside0.mk ((by rw [hg]; exact (keep_size (w := w) (g := g) (row := none) (kp0_)) : w.heap.size ≤ dA)); have mA := Aside0.mk ((Nat.le_trans fB.out (by rw [hg]; exact (keep_size (w := w) (g := g) (row := none) (kp0_)) : w.heap.size ≤ dA) : w.heap.size ≤ dA)); replace HK := Aside0.mk (KeepBut.trans (kp0_) (KeepBut.of_below hb g none) (.inl rfl)); have bA := Aside0.mk ((by rw [hg]; exact Nat.ne_of_lt (IsS92.lt (show IsS92 w _ g l0 0 0 from iS92_0_)) : g ≠ dA)); have lA := Aside0.mk ((by rw [hg]; exact Nat.ne_of_gt (IsS92.lt (show IsS92 w _ g l0 0 0 from iS92_0_)) : dA ≠ g)); replace HI0 := Aside0.mk (IsS92.below (iS92_0_) hb); clear hb hg) | ((with_reducible refine gate_callee (f := 70) rfl ?_); refine gl_ 11 Try.func70 #[.pointer (some ⟨g, 0, none⟩)] rfl ma_ ?_; (with_reducible refine (spec_l1Cur_disk.calls k g l0 0 0 gA sA tA w _ ?side1 ?side2 A2.out).mono ?_); (case side1 => exact iS92_1_ bA.out); (case side2 => exact hs2_ (IsS92.ge HI0.out) mA.out); rintro e w6 ⟨kB, rfl, gB, hi, hb, hk⟩; refine ⟨_, rfl, ?_⟩; replace aA := Aside0.mk (KeepBut.blk hk (g' := dA) (o := .cells #[.slice none 0 0] 31 (0, 0)) (kb_ aA.out) lA.out (by simp)); have fA := Aside0.mk (Kd.R_lower gB (keep_size (w := w) (g := g) (row := none) (kp1_ iA.out))); replace HK := Aside0.mk (KeepBut.trans (kp1_ iA.out) hk (.inl rfl)); replace HB := Aside0.mk (hb); replace HI0 := Aside0.mk (hi); (try clear hb); (try clear hb2); (try clear hk); (try clear hi); (try clear gB)) | ((with_reducible refine gate_dst (N := 6) rfl ?_); refine bq_ (N := 6) #[.slice none 0 0] 31 ?_; intro cA hg w7 eA hb; replace fA := rB_ fA hb; replace HB := Aside0.mk (below_step (hs2_ (IsS92.ge HI0.out) mA.out) hb); have wA := Aside0.mk ((by rw [hg]; exact (keep_size (w := w) (g := g) (row := none) (kp1_ iA.out)) : w.heap.size ≤ cA)); have rA := Aside0.mk ((Nat.le_trans fB.out (by rw [hg]; exact (keep_size (w := w) (g := g) (row := none) (kp1_ iA.out)) : w.heap.size ≤ cA) : w.heap.size ≤ cA)); replace HK := Aside0.mk (KeepBut.trans (kp1_ iA.out) (KeepBut.of_below hb g none) (.inl rfl)); have jA := nl_ aA hg; have kA := ng_ aA hg; replace aA := bK_ aA hb; have hA := Aside0.mk ((by rw [hg]; exact Nat.ne_of_lt (IsS92.lt (show IsS92 w _ g l0 sA tA from iS92_1_ bA.out)) : g ≠ cA)); have nA := Aside0.mk ((by rw [hg]; exact Nat.ne_of_gt (IsS92.lt (show IsS92 w _ g l0 sA tA from iS92_1_ bA.out)) : cA ≠ g)); replace HI0 := Aside0.mk (IsS92.below (iS92_1_ bA.out) hb); clear hb hg; obtain ⟨oA, pA, lB⟩ := Kd.R_slice fA.out; subst lB; have mB := kA.out; have nB := jA.out; have iB := nA.out; have jB := hA.out; obtain ⟨zA, aB⟩ := cf1_ eA.out))
 have n0_ : Aside0 (Kd.R k56 56 (w7.setCell ⟨cA, 0, none⟩ (.slice oA gA.length pA)) w.heap.size (fun _ => True) (.slice oA gA.length pA) gA) := ⟨rF_ (Kd.R_mono (Kd.R_far (p := ⟨cA, 0, none⟩) (Kd.R_types fA.out eA.out (by decide)) (fun _ hk => hk.2) (.slice oA gA.length pA)) (fun _ hk => trivial))⟩
 have n1_ : Aside0 ((w7.setCell ⟨cA, 0, none⟩ (.slice oA gA.length pA)).heap[dA]? = some (.cells #[.slice none 0 0] 31 (0, 0))) := ⟨uf_ aA jA.out⟩
 have n2_ : Aside0 ((w7.setCell ⟨cA, 0, none⟩ (.slice oA gA.length pA)).heap[cA]? = some (.cells #[.slice oA gA.length pA] 31 (0, 0))) := ⟨up_ eA⟩
 have n3_ : Aside0 (IsS92 w (w7.setCell ⟨cA, 0, none⟩ (.slice oA gA.length pA)) g l0 sA tA) := ⟨iS92_2_ bA.out hA.out⟩
 have n4_ : Aside0 (KeepBut w (w7.setCell ⟨cA, 0, none⟩ (.slice oA gA.length pA)) g none) := ⟨kp2_ iA.out wA.out⟩
 have n5_ : Aside0 (Below w.heap.size w (w7.setCell ⟨cA, 0, none⟩ (.slice oA gA.length pA))) := ⟨hs3_ (IsS92.ge HI0.out) mA.out rA.out⟩
 (try clear fA)
 (try clear aA)
 (try clear eA)
 (try clear HI0)
 (try clear HK)
 (try clear HB)
 generalize (w7.setCell ⟨cA, 0, none⟩ (.slice oA gA.length pA)) = oB at n0_ n1_ n2_ n3_ n4_ n5_ ⊢
 have fA := n0_
 have aA := n1_
 have eA := n2_
 have HI0 := n3_
 have HK := n4_
 have HB := n5_
 clear n0_ n1_ n2_ n3_ n4_ n5_
 replace fA := qR_ fA
 replace aA := qK_ aA
 replace eA := qK_ eA
 replace HI0 := Aside0.mk (IsS92.drew HI0.out)
 replace HK := Aside0.mk (keep_drew HK.out)
 replace HB := qH_ HB
 refine start_ (n := 12) (S := fun w' => w'.cell? ⟨cA, 0, none⟩ = some (.slice oA gA.length pA)) (ds := []) (List.replicate 12 false).toArray (by kernel_rfl) rfl rfl (bt_ eA 0) (fun hHeld => ?_); refine with_tabW spec_DrawCutFile.tab3 spec_DrawCutFile.bits3 (fun HT_ HW_ => ?_)
 generalize oB.drew = pB at fA aA eA HI0 HK HB hHeld ⊢
 refine pv_ 1 13 ?_
 refine pv_ 2 14 ?_
 refine pv_ 6 18 ?_
 refine take_ (i := 0) (N := some 12) (v := ?_) (a' := ?_) #[true, true, true, false, false, false, true, false, false, false, false, false] rfl rfl (take_ofW HT_.out HW_.out (by kernel_rfl)) (fun _ _ _ h => h) (Or.inl ⟨by rfl, ?_⟩) hHeld ?_ ?_
 rotate_left
 ·intro w' s0
  go_simp
  with_reducible rfl
 rotate_left
 ·simp only [Act.put, List.setIfInBounds_toArray, List.set_cons_zero, List.set_cons_succ, i64_w, i32_w]
  rfl
 refine take_ (i := 3) (N := some 15) (v := ?_) (a' := ?_) #[true, true, true, true, false, false, true, false, false, false, false, false] rfl rfl (take_ofW HT_.out HW_.out (by kernel_rfl)) (fun _ _ _ h => h) (Or.inl ⟨by rfl, ?_⟩) hHeld ?_ ?_
 rotate_left
 ·intro w' s0
  go_simp
  with_reducible rfl
 rotate_left
 ·simp only [Act.put, List.setIfInBounds_toArray, List.set_cons_zero, List.set_cons_succ, i64_w, i32_w]
  rfl
 refine pv_ 4 16 ?_
 refine on_ 5 17 (fun K hK => ?_)
 refine gs_ Try.func74 #[.pointer (some ⟨g, 0, none⟩), .int .i64 (gA.length : Int)] rfl ma_ ?_
 with_reducible refine (spec_l1Cur_pick.calls g l0 sA tA (gA.length : Int) bB xA yA w _ ?side1 ?side2 A3.out).mono ?_
 (case side1 => exact iS92_2_ bA.out hA.out)
 (case side2 => exact hs3_ (IsS92.ge HI0.out) mA.out rA.out)
 rintro e qB ⟨rfl, hi, hb, hk⟩
 refine ⟨_, rfl, ?_⟩
 replace aA := Aside0.mk (KeepBut.blk hk (g' := dA) (o := .cells #[.slice none 0 0] 31 (0, 0)) (kb_ aA.out) lA.out (by simp))
 replace fA := Aside0.mk (Kd.R_mono (Kd.R_keep (IsS92.apart (show IsS92 w _ g l0 sA tA from iS92_2_ bA.out hA.out) (kr_ fA.out) (by decide)) hk (fun _ h => h.2)) (fun _ h => h.1))
 replace eA := Aside0.mk (KeepBut.blk hk (g' := cA) (o := .cells #[.slice oA gA.length pA] 31 (0, 0)) (kb_ eA.out) nA.out (by simp))
 replace HK := Aside0.mk (KeepBut.trans (kp2_ iA.out wA.out) hk (.inl rfl))
 replace HB := Aside0.mk (hb)
 replace HI0 := Aside0.mk (hi)
 (try clear hb)
 (try clear hb2)
 (try clear hk)
 (try clear hi)
 refine hK.out _ _ (bt_ eA 0) (fun hHeld => ?_)
 clear hK K
 refine no_ ?_
 refine on_ 7 19 (fun K hK => ?_)
 refine gs_ Try.func74 #[.pointer (some ⟨g, 0, none⟩), .int .i64 60] rfl ma_ ?_
 with_reducible refine (spec_l1Cur_pick.calls g l0 xA yA 60 cB dB eB w _ ?side1 ?side2 A4.out).mono ?_
 (case side1 => exact iS92_2_ bA.out hA.out)
 (case side2 => exact hs3_ (IsS92.ge HI0.out) mA.out rA.out)
 rintro e rB ⟨rfl, hi, hb, hk⟩
 refine ⟨_, rfl, ?_⟩
 replace aA := Aside0.mk (KeepBut.blk hk (g' := dA) (o := .cells #[.slice none 0 0] 31 (0, 0)) (kb_ aA.out) lA.out (by simp))
 replace fA := Aside0.mk (Kd.R_mono (Kd.R_keep (IsS92.apart (show IsS92 w _ g l0 xA yA from iS92_2_ bA.out hA.out) (kr_ fA.out) (by decide)) hk (fun _ h => h.2)) (fun _ h => h.1))
 replace eA := Aside0.mk (KeepBut.blk hk (g' := cA) (o := .cells #[.slice oA gA.length pA] 31 (0, 0)) (kb_ eA.out) nA.out (by simp))
 replace HK := Aside0.mk (KeepBut.trans (kp2_ iA.out wA.out) hk (.inl rfl))
 replace HB := Aside0.mk (hb)
 replace HI0 := Aside0.mk (hi)
 (try clear hb)
 (try clear hb2)
 (try clear hk)
 (try clear hi)
 refine hK.out _ _ (bt_ eA 0) (fun hHeld => ?_)
 clear hK K
 refine no_ ?_
 refine pv_ 8 20 ?_
 refine one_ (i := 9) (N := none) #[true, true, true, true, true, true, true, true, true, true, false, false] rfl rfl (one_of HT_.out (by kernel_rfl)) (by decide) (fun K hK => ?_)
 obtain ⟨hs16, hfs16⟩ := cf1_ aA.out
 have hns16_1 := kA.out
 have hms16_1 := jA.out
 refine skip_ (w1 := ?_) (by rfl) rfl ?_ ?_
 rotate_left
 ·go_simp
  rfl
 refine hK.out _ _ (((cell_far (p := ⟨dA, _, none⟩) kA.out _).trans (hHeld))) (fun hHeld => ?_)
 clear hK K
 refine pv_ 10 3 ?_
 refine pv_ 11 4 ?_
 refine done_ (done_of HT_.out (by kernel_rfl)) ?_
 try go_wp2
 refine bodyPost_ret (results_ctt rfl _ _ dA 31 #[.slice oA gA.length pA] (0, 0) _ rfl (up_ aA) Try.underlying31 rfl (by kernel_rfl)) rfl ?_
 exact ⟨_, er_, rF_ (Kd.R_mono (Kd.R_far (p := ⟨dA, 0, none⟩) (Kd.R_types fA.out aA.out (by decide)) (fun _ hk => hk.2) (.slice oA gA.length pA)) (fun _ hk => trivial)), hs3_ (IsS92.ge HI0.out) mA.out rA.out⟩



/-! ### impl_CutFile: function 34 -/
def impl_CutFile.f (l0_0 : List (S56)) (a1 : Int) (a2 : Int) : Option ((List (S56)) × Bool) := (impl_Disk_has.f l0_0 a1).bind fun t460 => (if t460 = true then (if 0 ≤ a1 then (if a1 < (l0_0.length : Int) then ((impl_in.f a2 0 (((rd_T56 l0_0 a1).f0).size : Int)).bind fun t462 => (if t462 = true then (if 0 ≤ a2 then (if a2 ≤ (((rd_T56 l0_0 a1).f0).size : Int) then ((impl_Disk_with.f l0_0 a1 (((rd_T56 l0_0 a1).f0).extract 0 (a2 : Int).toNat) (mn ((rd_T56 l0_0 a1).f1) a2)).bind fun t465 => (some (t465, true))) else (none)) else (none)) else (some (([] : List (S56)), false)))) else (none)) else (none)) else (some (([] : List (S56)), false)))
set_option maxHeartbeats 8000000 in
set_option maxRecDepth 100000 in
theorem impl_CutFile.calls (A0_0 : Option Addr) (c0_0 : Nat) (l0_0 : List (S56)) (a1 : Int) (a2 : Int) (r1 : List (S56)) (r2 : Bool) (w : World) (hr0_0 : Kd.C k56 w A0_0 l0_0.length l0_0) (hc0_0 : l0_0.length ≤ c0_0) (h : impl_CutFile.f l0_0 a1 a2 = some (r1, r2)) :
  Calls Try.prog 34 #[.agg #[.slice A0_0 l0_0.length c0_0], .int .i64 a1, .int .i64 a2] w fun e w' => ∃ v0_ : Value, e = .returned (.tuple #[.agg #[v0_], .bool r2]) ∧ Kd.R k56 56 w' w.heap.size (fun _ => True) v0_ r1 ∧ Below w.heap.size w w' := by
 have hu31 := Try.underlying31
 have hu56 := Try.underlying56
 have kA := Aside0.mk hr0_0
 have qA := Aside0.mk hc0_0
 clear hr0_0 hc0_0
 have HB := Aside0.mk (Below.refl w.heap.size w)
 have H : ((impl_Disk_has.f l0_0 a1).bind fun fB => (if fB = true then (if 0 ≤ a1 then (if a1 < (l0_0.length : Int) then ((impl_in.f a2 0 (((rd_T56 l0_0 a1).f0).size : Int)).bind fun gB => (if gB = true then (if 0 ≤ a2 then (if a2 ≤ (((rd_T56 l0_0 a1).f0).size : Int) then ((impl_Disk_with.f l0_0 a1 (((rd_T56 l0_0 a1).f0).extract 0 (a2 : Int).toNat) (mn ((rd_T56 l0_0 a1).f1) a2)).bind fun xA => (some (xA, true))) else (none)) else (none)) else (some (([] : List (S56)), false)))) else (none)) else (none)) else (some (([] : List (S56)), false)))) = some (r1, r2) := h
 clear h
 replace H := bnd_ H
 obtain ⟨fB, A4, H⟩ := H
 replace H := ifb_ H
 obtain ⟨rfl, H⟩ | ⟨rfl, H⟩ := H
 rotate_left
 ·simp only [Option.some.injEq, Prod.mk.injEq] at H
  obtain ⟨rfl, rfl⟩ := H
  go_enter Try.func34, Try.ntmps34
  go_wp2_with (first | ((with_reducible refine gate_dst (N := 3) rfl ?_); (try (refine gate_guard (by rfl) ?_; dsimp only)); refine bq_ (N := 3) #[.slice A0_0 l0_0.length c0_0] 31 ?_; intro lA hg eD aA hb; have cA := ge_ hg; replace HB := nb_ hb; clear hb hg) | ((with_reducible refine gate_dst (N := 6) rfl ?_); (try (refine gate_guard (by rfl) ?_; dsimp only)); refine bq_ (N := 6) #[.slice none 0 0] 31 ?_; intro gA hg fD bA hb; have dA := ge1_ hg cA; replace HB := nc_ cA hb; have eA := nl_ aA hg; have fA := ng_ aA hg; replace aA := bK_ aA hb; clear hb hg; have lC := eA.out; have mC := fA.out; obtain ⟨lB, mB⟩ := cf1_ aA.out) | ((with_reducible refine gate_callee (f := 52) rfl ?_); refine gl_ 11 Try.func52 #[.agg #[.slice A0_0 l0_0.length c0_0], .int .i64 a1] rfl ma_ ?_; (with_reducible refine (impl_Disk_has.calls _ _ l0_0 a1 false _ ?side1 ?side2 A4.out).mono ?_); (case side1 => exact cs_ ((Kd.C_below kA.out HB.out))); (case side2 => exact qA.out); rintro e gD ⟨rfl, hb⟩; refine ⟨_, rfl, ?_⟩; replace aA := bK_ aA hb; replace bA := bK_ bA hb; replace HB := nc2_ cA dA hb; (try clear hb); (try clear hb2); (try clear hk); (try clear hi); obtain ⟨nB, oB⟩ := cf1_ bA.out))
  refine bodyPost_ret (results_ct rfl _ _ gA 31 #[.slice none 0 0] (0, 0) _ rfl (up_ bA) Try.underlying31 rfl (by kernel_rfl)) rfl ?_
  exact ⟨_, er_, ni_, hs2_ cA.out dA.out⟩
 replace H := ifs_ H
 obtain ⟨c6, H⟩ := H
 have aD := decide_eq_true c6
 clear c6
 replace H := ifs_ H
 obtain ⟨c7, H⟩ := H
 have bD := decide_eq_true c7
 clear c7
 replace H := bnd_ H
 obtain ⟨gB, A8, H⟩ := H
 replace H := ifb_ H
 obtain ⟨rfl, H⟩ | ⟨rfl, H⟩ := H
 rotate_left
 ·simp only [Option.some.injEq, Prod.mk.injEq] at H
  obtain ⟨rfl, rfl⟩ := H
  go_enter Try.func34, Try.ntmps34
  go_wp2_with (first | ((with_reducible refine gate_dst (N := 3) rfl ?_); (try (refine gate_guard (by rfl) ?_; dsimp only)); refine bq_ (N := 3) #[.slice A0_0 l0_0.length c0_0] 31 ?_; intro lA hg hD aA hb; have cA := ge_ hg; replace HB := nb_ hb; clear hb hg) | ((with_reducible refine gate_dst (N := 6) rfl ?_); (try (refine gate_guard (by rfl) ?_; dsimp only)); refine bq_ (N := 6) #[.slice none 0 0] 31 ?_; intro gA hg iD bA hb; have dA := ge1_ hg cA; replace HB := nc_ cA hb; have eA := nl_ aA hg; have fA := ng_ aA hg; replace aA := bK_ aA hb; clear hb hg; have nC := eA.out; have oC := fA.out; obtain ⟨pB, qB⟩ := cf1_ aA.out) | ((with_reducible refine gate_callee (f := 52) rfl ?_); refine gl_ 11 Try.func52 #[.agg #[.slice A0_0 l0_0.length c0_0], .int .i64 a1] rfl ma_ ?_; (with_reducible refine (impl_Disk_has.calls _ _ l0_0 a1 true _ ?side1 ?side2 A4.out).mono ?_); (case side1 => exact cs_ ((Kd.C_below kA.out HB.out))); (case side2 => exact qA.out); rintro e aB ⟨rfl, hb⟩; refine ⟨_, rfl, ?_⟩; replace aA := bK_ aA hb; replace bA := bK_ bA hb; replace HB := nc2_ cA dA hb; (try clear hb); (try clear hb2); (try clear hk); (try clear hi); obtain ⟨rB, sB⟩ := cf1_ aA.out; have oA : 0 ≤ (a1 : Int) := oa_; have pA : a1 < (l0_0.length : Int) := oa_; obtain ⟨jA, bB, hA, iA⟩ := at_T56 kA.out a1 oA pA; cases bB; replace hA := pc_ HB.out hA; replace iA := pc_ HB.out iA; replace oA := eq_true oA; replace pA := eq_true pA) | (go_at_call 77; (with_reducible refine (impl_in.calls a2 0 (((rd_T56 l0_0 a1).f0).size : Int) false _ A8.out).mono ?_); rintro e w' ⟨rfl, ⟨nd, rfl⟩⟩; (try (rw [drewN_self aB]; generalize hq_ : World.drewN aB _ = aB; have n0_ : Aside0 (aB.heap[lA]? = some (.cells #[.slice (some jA) l0_0.length c0_0] 31 (0, 0))) := ⟨by rw [← hq_]; exact (kb_ aA.out)⟩; have n1_ : Aside0 (aB.heap[gA]? = some (.cells #[.slice none 0 0] 31 (0, 0))) := ⟨by rw [← hq_]; exact (kb_ bA.out)⟩; have n2_ : Aside0 (Below w.heap.size w aB) := ⟨by rw [← hq_]; exact (hs2_ cA.out dA.out)⟩; clear aA bA HB hq_; have aA := n0_; have bA := n1_; have HB := n2_; clear n0_ n1_ n2_; (try (have hcu458_0 : aB.cell? ⟨lA, 0, none⟩ = some (.slice (some jA) l0_0.length c0_0) := bt_ aA 0)); (try (have hfu458_0 := blk_frozen aA.out 0)))); obtain ⟨tB, uB⟩ := cf1_ bA.out))
  refine bodyPost_ret (results_ct rfl _ _ gA 31 #[.slice none 0 0] (0, 0) _ rfl (up_ bA) Try.underlying31 rfl (by kernel_rfl)) rfl ?_
  exact ⟨_, er_, ni_, hs2_ cA.out dA.out⟩
 replace H := ifs_ H
 obtain ⟨hC, H⟩ := H
 have pC := eq_true hC
 have qC := decide_eq_true hC
 clear hC
 replace H := ifs_ H
 obtain ⟨iC, H⟩ := H
 have rC := eq_true iC
 have sC := decide_eq_true iC
 clear iC
 obtain ⟨ji12, hji12⟩ : ∃ j_ : Int, (mn ((rd_T56 l0_0 a1).f1) a2) = j_ := ⟨_, rfl⟩
 first | rw [hji12] at H | simp only [hji12] at H
 (try rw [hji12] at A4)
 (try rw [hji12] at A8)
 have hji12_ : (if a2 < ((rd_T56 l0_0 a1).f1) then a2 else ((rd_T56 l0_0 a1).f1)) = ji12 := hji12
 replace H := bnd_ H
 obtain ⟨xA, cD, H⟩ := H
 simp only [Option.some.injEq, Prod.mk.injEq] at H
 obtain ⟨rfl, rfl⟩ := H
 go_enter Try.func34, Try.ntmps34
 go_wp2_with (first | ((with_reducible refine gate_dst (N := 3) rfl ?_); (try (refine gate_guard (by rfl) ?_; dsimp only)); refine bq_ (N := 3) #[.slice A0_0 l0_0.length c0_0] 31 ?_; intro lA hg jD aA hb; have cA := ge_ hg; replace HB := nb_ hb; clear hb hg) | ((with_reducible refine gate_dst (N := 6) rfl ?_); (try (refine gate_guard (by rfl) ?_; dsimp only)); refine bq_ (N := 6) #[.slice none 0 0] 31 ?_; intro gA hg kD bA hb; have dA := ge1_ hg cA; replace HB := nc_ cA hb; have eA := nl_ aA hg; have fA := ng_ aA hg; replace aA := bK_ aA hb; clear hb hg; have tC := eA.out; have uC := fA.out; obtain ⟨vB, wB⟩ := cf1_ aA.out) | ((with_reducible refine gate_callee (f := 52) rfl ?_); refine gl_ 11 Try.func52 #[.agg #[.slice A0_0 l0_0.length c0_0], .int .i64 a1] rfl ma_ ?_; (with_reducible refine (impl_Disk_has.calls _ _ l0_0 a1 true _ ?side1 ?side2 A4.out).mono ?_); (case side1 => exact cs_ ((Kd.C_below kA.out HB.out))); (case side2 => exact qA.out); rintro e cB ⟨rfl, hb⟩; refine ⟨_, rfl, ?_⟩; replace aA := bK_ aA hb; replace bA := bK_ bA hb; replace HB := nc2_ cA dA hb; (try clear hb); (try clear hb2); (try clear hk); (try clear hi); obtain ⟨xB, yB⟩ := cf1_ aA.out; have oA : 0 ≤ (a1 : Int) := oa_; have pA : a1 < (l0_0.length : Int) := oa_; obtain ⟨jA, bB, hA, iA⟩ := at_T56 kA.out a1 oA pA; cases bB; replace hA := pc_ HB.out hA; replace iA := pc_ HB.out iA; replace oA := eq_true oA; replace pA := eq_true pA) | (go_at_call 77; (with_reducible refine (impl_in.calls a2 0 (((rd_T56 l0_0 a1).f0).size : Int) true _ A8.out).mono ?_); rintro e w' ⟨rfl, ⟨nd, rfl⟩⟩; (try (rw [drewN_self cB]; generalize hq_ : World.drewN cB _ = cB; have n0_ : Aside0 (cB.heap[lA]? = some (.cells #[.slice (some jA) l0_0.length c0_0] 31 (0, 0))) := ⟨by rw [← hq_]; exact (kb_ aA.out)⟩; have n1_ : Aside0 (cB.heap[gA]? = some (.cells #[.slice none 0 0] 31 (0, 0))) := ⟨by rw [← hq_]; exact (kb_ bA.out)⟩; have n2_ : Aside0 (Below w.heap.size w cB) := ⟨by rw [← hq_]; exact (hs2_ cA.out dA.out)⟩; clear aA bA HB hq_; have aA := n0_; have bA := n1_; have HB := n2_; clear n0_ n1_ n2_; (try (have hcu458_0 : cB.cell? ⟨lA, 0, none⟩ = some (.slice (some jA) l0_0.length c0_0) := bt_ aA 0)); (try (have hfu458_0 := blk_frozen aA.out 0)))); have dB : 0 ≤ (a1 : Int) := oa_; have eB : a1 < (l0_0.length : Int) := oa_; obtain ⟨iB, jC, rA, sA⟩ := at_T56 kA.out a1 dB eB; obtain rfl : jA = iB := (by injection jC); replace rA := pc_ HB.out rA; replace sA := pc_ HB.out sA; replace dB := eq_true dB; replace eB := eq_true eB) | ((with_reducible refine gate_dst (N := 8) rfl ?_); (try (refine gate_guard (by rfl) ?_; dsimp only)); refine box_event ?hg (N := 8) ?hd (cs := #[.string (⟨#[]⟩ : ByteArray), .int .i64 0]) (t := 56) ?hr ?_; (case hd => rfl); (case hg => rfl); (case hr => first | (go_simp; done) | (go_simp; rfl)); intro yA hg lD hbox hb; have tA := Aside0.mk (hbox); have uA := ge2_ hg cA dA; replace HB := nc2_ cA dA hb; have mA := nl_ aA hg; have vA := ng_ aA hg; replace aA := bK_ aA hb; have nA := nl_ bA hg; have wA := ng_ bA hg; replace bA := bK_ bA hb; clear hb hbox hg; have vC := vA.out; have wC := mA.out; have xC := wA.out; have yC := nA.out; obtain ⟨zB, aC, bC, cC⟩ := cf2_ tA.out; obtain ⟨dC, eC⟩ := cf1_ aA.out) | ((with_reducible refine gate_callee (f := 66) rfl ?_); refine gl_ 44 Try.func66 #[.agg #[.slice (some jA) l0_0.length c0_0], .int .i64 a1, .agg #[.string (((rd_T56 l0_0 a1).f0).extract 0 (a2 : Int).toNat), .int .i64 ji12]] rfl (mb_ hji12) ?_; (with_reducible refine (impl_Disk_with.calls _ _ l0_0 a1 (((rd_T56 l0_0 a1).f0).extract 0 (a2 : Int).toNat) ji12 xA _ ?side1 ?side2 cD.out).mono ?_); (case side1 => exact Kd.C_below kA.out (hs3_ cA.out dA.out uA.out)); (case side2 => exact qA.out); rintro e mD ⟨dD, rfl, zC, hb⟩; refine ⟨_, rfl, ?_⟩; have zA := Aside0.mk (Kd.R_lower (Kd.R_newB zC (g := yA) (o := .cells #[.string (((rd_T56 l0_0 a1).f0).extract 0 (a2 : Int).toNat), .int .i64 ji12] 56 (0, 0)) (up_ tA)) (below_size (hs3_ cA.out dA.out uA.out))); replace aA := Aside0.mk (blk_below (g := lA) (o := .cells #[.slice (some jA) l0_0.length c0_0] 31 (0, 0)) (uf_ aA mA.out) hb); replace bA := Aside0.mk (blk_below (g := gA) (o := .cells #[.slice none 0 0] 31 (0, 0)) (uf_ bA nA.out) hb); replace tA := Aside0.mk (blk_below (g := yA) (o := .cells #[.string (((rd_T56 l0_0 a1).f0).extract 0 (a2 : Int).toNat), .int .i64 ji12] 56 (0, 0)) (up_ tA) hb); replace HB := nc3_ cA dA uA hb; (try clear hb); (try clear hb2); (try clear hk); (try clear hi); (try clear zC); obtain ⟨jB, kB, kC⟩ := Kd.R_slice zA.out; subst kC; obtain ⟨fC, gC⟩ := cf1_ bA.out))
 refine bodyPost_ret (results_ct rfl _ _ gA 31 #[.slice jB xA.length kB] (0, 0) _ rfl (up_ bA) Try.underlying31 rfl (by kernel_rfl)) rfl ?_
 exact ⟨_, by first | rfl | (simp [errW_none, errW_some] <;> rfl) | (simp only [← hji12]; first | rfl | (simp [errW_none, errW_some] <;> rfl)) | (simp [*, errW_none, errW_some] <;> rfl), rF_ (Kd.R_mono (Kd.R_far (p := ⟨gA, 0, none⟩) (Kd.R_types zA.out bA.out (by decide)) (fun _ hk => hk.2) (.slice jB xA.length kB)) (fun _ hk => trivial)), hs3_ cA.out dA.out uA.out⟩

/-! ### spec_l3Cut: function 69 -/
def spec_l3Cut.f (l0_0 : List (S56)) (a1 : Int) (a2 : Int) : Option ((List (S56))) := (spec_l3Own.f l0_0).bind fun t470 => (if 0 ≤ a1 then (if a1 < (t470.length : Int) then (if 0 ≤ a2 then (if a2 ≤ (((rd_T56 t470 a1).f0).size : Int) then (if ((rd_T56 t470 a1).f1) > a2 then (some (t470.set (a1 : Int).toNat (⟨((rd_T56 t470 a1).f0).extract 0 (a2 : Int).toNat, a2⟩ : S56))) else (some (t470.set (a1 : Int).toNat (⟨((rd_T56 t470 a1).f0).extract 0 (a2 : Int).toNat, (rd_T56 t470 a1).f1⟩ : S56)))) else (none)) else (none)) else (none)) else (none))
set_option maxHeartbeats 8000000 in
set_option maxRecDepth 100000 in
theorem spec_l3Cut.calls (A0_0 : Option Addr) (c0_0 : Nat) (l0_0 : List (S56)) (a1 : Int) (a2 : Int) (r : List (S56)) (w : World) (hr0_0 : Kd.C k56 w A0_0 l0_0.length l0_0) (hc0_0 : l0_0.length ≤ c0_0) (h : spec_l3Cut.f l0_0 a1 a2 = some r) :
  Calls Try.prog 69 #[.agg #[.slice A0_0 l0_0.length c0_0], .int .i64 a1, .int .i64 a2] w fun e w' => ∃ v0_ : Value, e = .returned (.agg #[v0_]) ∧ Kd.R k56 56 w' w.heap.size (fun _ => True) v0_ r ∧ Below w.heap.size w w' := by
 have hu31 := Try.underlying31
 have hu56 := Try.underlying56
 have vB := Aside0.mk hr0_0
 have wB := Aside0.mk hc0_0
 clear hr0_0 hc0_0
 have HB := Aside0.mk (Below.refl w.heap.size w)
 have H : ((spec_l3Own.f l0_0).bind fun aA => (if 0 ≤ a1 then (if a1 < (aA.length : Int) then (if 0 ≤ a2 then (if a2 ≤ (((rd_T56 aA a1).f0).size : Int) then (if ((rd_T56 aA a1).f1) > a2 then (some (aA.set (a1 : Int).toNat (⟨((rd_T56 aA a1).f0).extract 0 (a2 : Int).toNat, a2⟩ : S56))) else (some (aA.set (a1 : Int).toNat (⟨((rd_T56 aA a1).f0).extract 0 (a2 : Int).toNat, (rd_T56 aA a1).f1⟩ : S56)))) else (none)) else (none)) else (none)) else (none))) = some r := h
 clear h
 replace H := bnd_ H
 obtain ⟨aA, A4, H⟩ := H
 replace H := ifs_ H
 obtain ⟨c5, H⟩ := H
 have gG := decide_eq_true c5
 clear c5
 replace H := ifs_ H
 obtain ⟨c6, H⟩ := H
 have hG := decide_eq_true c6
 clear c6
 replace H := ifs_ H
 obtain ⟨c7, H⟩ := H
 have iG := eq_true c7
 have jG := decide_eq_true c7
 clear c7
 replace H := ifs_ H
 obtain ⟨c8, H⟩ := H
 have kG := eq_true c8
 have lG := decide_eq_true c8
 clear c8
 replace H := ite_ H
 obtain ⟨c9, H⟩ | ⟨c9, H⟩ := H
 rotate_left
 ·have uE := dgf_ c9
  clear c9
  obtain ⟨jC, gB⟩ : ∃ y_ : List (S56), y_ = (aA.set (a1 : Int).toNat (⟨((rd_T56 aA a1).f0).extract 0 (a2 : Int).toNat, (rd_T56 aA a1).f1⟩ : S56)) := ⟨_, rfl⟩
  replace H : (some jC) = some r := by first | (rw [gB]; with_reducible exact H) | (have H2_ := (Option.bind_some _ _).symm.trans H; rw [gB]; with_reducible exact H2_) | (have H2_ := (Option.bind_some _ _).symm.trans H; with_reducible exact H2_) | with_reducible exact H | (rw [gB]; exact H) | exact H
  have kC := Aside0.mk gB
  clear gB
  obtain rfl := Option.some.inj H
  go_enter Try.func69, Try.ntmps69
  go_wp2_with (first | ((with_reducible refine gate_dst (N := 3) rfl ?_); refine bq_ (N := 3) #[.slice A0_0 l0_0.length c0_0] 31 ?_; intro sA hg sG bA hb; have kA := ge_ hg; replace HB := nb_ hb; clear hb hg) | ((with_reducible refine gate_dst (N := 6) rfl ?_); refine bq_ (N := 6) #[.slice none 0 0] 31 ?_; intro nA hg tG dA hb; have oA := ge1_ hg kA; replace HB := nc_ kA hb; have yA := nl_ bA hg; have zA := ng_ bA hg; replace bA := bK_ bA hb; clear hb hg; have iF := yA.out; have jF := zA.out; obtain ⟨yC, zC⟩ := cf1_ bA.out) | ((with_reducible refine gate_callee (f := 76) rfl ?_); refine gl_ 10 Try.func76 #[.agg #[.slice A0_0 l0_0.length c0_0]] rfl ma_ ?_; (with_reducible refine (spec_l3Own.calls _ _ l0_0 aA _ ?side1 ?side2 A4.out).mono ?_); (case side1 => exact cs_ ((Kd.C_below vB.out HB.out))); (case side2 => exact wB.out); rintro e uG ⟨vE, rfl, lC, hb⟩; refine ⟨_, rfl, ?_⟩; have cA := Aside0.mk (Kd.R_lower lC (below_size (hs2_ kA.out oA.out))); replace bA := bK_ bA hb; replace dA := bK_ dA hb; replace HB := nc2_ kA oA hb; (try clear hb); (try clear hb2); (try clear hk); (try clear hi); (try clear lC)) | ((with_reducible refine gate_dst (N := 7) rfl ?_); refine bq_ (N := 7) #[.slice none 0 0] 31 ?_; intro hA hg vG fA hb; replace cA := rB_ cA hb; have vA := ge2_ hg kA oA; replace HB := nc2_ kA oA hb; have lA := nl_ bA hg; have aB := ng_ bA hg; replace bA := bK_ bA hb; have mA := nl_ dA hg; have bB := ng_ dA hg; replace dA := bK_ dA hb; clear hb hg; obtain ⟨mG, xA, wE⟩ := Kd.R_slice cA.out; subst wE; have kF := aB.out; have lF := lA.out; have mF := bB.out; have nF := mA.out; obtain ⟨aD, bD⟩ := cf1_ fA.out; have jB : 0 ≤ (a1 : Int) := oa_; have kB : a1 < (aA.length : Int) := oa_; obtain ⟨jA, zB, tA, uA⟩ := at_T56 (Kd.R_reads' cA.out).2.2 a1 jB kB; cases zB; have iA : jA.block ≠ hA := Kd.own_blk (Kd.R_ne cA.out fA.out (by decide)); replace tA := (cell_far (p := ⟨hA, 0, none⟩) (by first | (rw [add_block]; exact iA) | (show (Addr.add _ _).block ≠ _; rw [add_block]; exact iA) | exact iA) (.slice (some jA) aA.length xA)).trans tA; replace uA := (cell_far (p := ⟨hA, 0, none⟩) (by first | (rw [add_block]; exact iA) | (show (Addr.add _ _).block ≠ _; rw [add_block]; exact iA) | exact iA) (.slice (some jA) aA.length xA)).trans uA; clear iA; replace jB := eq_true jB; replace kB := eq_true kB) | ((with_reducible refine gate_dst (N := 8) rfl ?_); refine box_event ?hg (N := 8) ?hd (cs := #[.string (⟨#[]⟩ : ByteArray), .int .i64 0]) (t := 56) ?hr ?_; (case hd => rfl); (case hg => rfl); (case hr => first | (go_simp; done) | (go_simp; rfl)); intro eA hg nG hbox hb; replace cA := Aside0.mk (Kd.R_below (Kd.R_elderB (rF_ (Kd.R_mono (Kd.R_far (p := ⟨hA, 0, none⟩) (Kd.R_types cA.out fA.out (by decide)) (fun _ hk => hk.2) (.slice (some jA) aA.length xA)) (fun _ h_ => h_.1))) eA (Nat.le_of_eq hg.symm)) hb); have gA := Aside0.mk (hbox); have fB := ge3_ hg kA oA vA; replace HB := nc3_ kA oA vA hb; have pA := Aside0.mk ((by rw [hg]; exact Nat.ne_of_lt (blk_lt (g := sA) (o := .cells #[.slice A0_0 l0_0.length c0_0] 31 (0, 0)) (uf_ bA lA.out)) : sA ≠ eA)); have cB := Aside0.mk ((by rw [hg]; exact Nat.ne_of_gt (blk_lt (g := sA) (o := .cells #[.slice A0_0 l0_0.length c0_0] 31 (0, 0)) (uf_ bA lA.out)) : eA ≠ sA)); replace bA := Aside0.mk (blk_below (g := sA) (o := .cells #[.slice A0_0 l0_0.length c0_0] 31 (0, 0)) (uf_ bA lA.out) hb); have qA := Aside0.mk ((by rw [hg]; exact Nat.ne_of_lt (blk_lt (g := nA) (o := .cells #[.slice none 0 0] 31 (0, 0)) (uf_ dA mA.out)) : nA ≠ eA)); have dB := Aside0.mk ((by rw [hg]; exact Nat.ne_of_gt (blk_lt (g := nA) (o := .cells #[.slice none 0 0] 31 (0, 0)) (uf_ dA mA.out)) : eA ≠ nA)); replace dA := Aside0.mk (blk_below (g := nA) (o := .cells #[.slice none 0 0] 31 (0, 0)) (uf_ dA mA.out) hb); have rA := Aside0.mk ((by rw [hg]; exact Nat.ne_of_lt (blk_lt (g := hA) (o := .cells #[.slice (some jA) aA.length xA] 31 (0, 0)) (up_ fA)) : hA ≠ eA)); have eB := Aside0.mk ((by rw [hg]; exact Nat.ne_of_gt (blk_lt (g := hA) (o := .cells #[.slice (some jA) aA.length xA] 31 (0, 0)) (up_ fA)) : eA ≠ hA)); replace fA := Aside0.mk (blk_below (g := hA) (o := .cells #[.slice (some jA) aA.length xA] 31 (0, 0)) (up_ fA) hb); clear hb hbox hg; have oF := cB.out; have pF := pA.out; have qF := dB.out; have rF := qA.out; have sF := eB.out; have tF := rA.out; obtain ⟨cD, dD, eD, fD⟩ := cf2_ gA.out) | ((with_reducible refine gate_store (t := 56) (p := 8) rfl ?_); refine store_event (t := 56) (p := 8) (v := ?vo_w53) (w1 := ((nG.setCell ⟨eA, 0, none⟩ (.string ((rd_T56 aA a1).f0))).setCell ⟨eA, 1, none⟩ (.int .i64 ((rd_T56 aA a1).f1)))) ?hg ?ho ?hn ?hr ?_; (case ho => rfl); (case hg => rfl); (case hn => rfl); (case hr => first | (go_simp; done) | (go_simp; rfl)); intro aC hw; have n0_ : Aside0 (Kd.R k56 56 aC w.heap.size (fun k_ => k_ ≠ eA) (.slice (some jA) aA.length xA) aA) := ⟨(by rw [hw]; exact (Kd.R_mono (rF_ (Kd.R_mono cA.out (fun k_ hk => (⟨hk, hk.2⟩ : _ ∧ k_ ≠ eA)))) (fun _ hk => hk.1.2)))⟩; have n1_ : Aside0 (aC.heap[sA]? = some (.cells #[.slice A0_0 l0_0.length c0_0] 31 (0, 0))) := ⟨(by rw [hw]; exact (uf_ bA pA.out))⟩; have n2_ : Aside0 (aC.heap[nA]? = some (.cells #[.slice none 0 0] 31 (0, 0))) := ⟨(by rw [hw]; exact (uf_ dA qA.out))⟩; have n3_ : Aside0 (aC.heap[hA]? = some (.cells #[.slice (some jA) aA.length xA] 31 (0, 0))) := ⟨(by rw [hw]; exact (uf_ fA rA.out))⟩; have n4_ : Aside0 (aC.heap[eA]? = some (.cells #[.string ((rd_T56 aA a1).f0), .int .i64 ((rd_T56 aA a1).f1)] 56 (0, 0))) := ⟨(by rw [hw]; exact (up_ gA))⟩; have n5_ : Aside0 (Below w.heap.size w aC) := ⟨(by rw [hw]; exact (hs4_ kA.out oA.out vA.out fB.out))⟩; clear hw; clear cA; clear bA; clear dA; clear fA; clear gA; clear HB; have cA := n0_; have bA := n1_; have dA := n2_; have fA := n3_; have gA := n4_; have HB := n5_; clear n0_ n1_ n2_ n3_ n4_ n5_; obtain ⟨gD, hD, iD, jD⟩ := cf2_ gA.out) | ((with_reducible refine gate_store (t := 9) (p := 20) rfl ?_); refine store_event (t := 9) (p := 20) (v := ?vo_w55) (w1 := (aC.setCell ⟨eA, 0, none⟩ (.string (((rd_T56 aA a1).f0).extract 0 (a2 : Int).toNat)))) ?hg ?ho ?hn ?hr ?_; (case ho => rfl); (case hg => rfl); (case hn => rfl); (case hr => first | (go_simp; done) | (go_simp; rfl)); intro nB hw; have n0_ : Aside0 (Kd.R k56 56 nB w.heap.size (fun k_ => k_ ≠ eA) (.slice (some jA) aA.length xA) aA) := ⟨(by rw [hw]; exact (rF_ (Kd.R_mono (Kd.R_far (p := ⟨eA, 0, none⟩) (Kd.R_mono cA.out (fun k_ hk => (⟨hk, hk⟩ : _ ∧ k_ ≠ eA))) (fun _ hk => hk.2) (.string (((rd_T56 aA a1).f0).extract 0 (a2 : Int).toNat))) (fun _ hk => hk.1))))⟩; have n1_ : Aside0 (nB.heap[sA]? = some (.cells #[.slice A0_0 l0_0.length c0_0] 31 (0, 0))) := ⟨(by rw [hw]; exact (uf_ bA pA.out))⟩; have n2_ : Aside0 (nB.heap[nA]? = some (.cells #[.slice none 0 0] 31 (0, 0))) := ⟨(by rw [hw]; exact (uf_ dA qA.out))⟩; have n3_ : Aside0 (nB.heap[hA]? = some (.cells #[.slice (some jA) aA.length xA] 31 (0, 0))) := ⟨(by rw [hw]; exact (uf_ fA rA.out))⟩; have n4_ : Aside0 (nB.heap[eA]? = some (.cells #[.string (((rd_T56 aA a1).f0).extract 0 (a2 : Int).toNat), .int .i64 ((rd_T56 aA a1).f1)] 56 (0, 0))) := ⟨(by rw [hw]; exact (up_ gA))⟩; have n5_ : Aside0 (Below w.heap.size w nB) := ⟨(by rw [hw]; exact (hs4_ kA.out oA.out vA.out fB.out))⟩; clear hw; clear cA; clear bA; clear dA; clear fA; clear gA; clear HB; have cA := n0_; have bA := n1_; have dA := n2_; have fA := n3_; have gA := n4_; have HB := n5_; clear n0_ n1_ n2_ n3_ n4_ n5_; obtain ⟨kD, lD, mD, nD⟩ := cf2_ gA.out; obtain ⟨oD, pD⟩ := cf1_ fA.out; have xE : 0 ≤ (a1 : Int) := oa_; have yE : (a1 : Int) < ((aA.length : Int) : Int) := oa_; obtain ⟨go37, oG, mC, nC, gl37, cl37, oC⟩ := Kd.R_form cA.out (by omega); (first | cases mC | (injection mC with ea_ en_ ec_; (first | subst ea_ | (injection ea_ with ea_; subst ea_)); subst ec_; clear en_)); have GB37 := Aside0.mk nC; have GG37 := Aside0.mk oC; clear nC gl37 oC; (first | simp only [add_plain] at tA | skip); (first | simp only [add_plain] at uA | skip); obtain ⟨ce37, pC, hM37, pB, qB⟩ := Kd.R_elem cA.out z56 (a1 : Int) xE yE; obtain rfl := k56_openM hM37; have zE : nB.cell? ⟨go37, (a1 : Int).toNat * 2, none⟩ = some (.string ((rd_T56 aA a1).f0)) := pB 0 _ rfl; have aF : nB.cell? ⟨go37, (a1 : Int).toNat * 2 + 1, none⟩ = some (.int .i64 ((rd_T56 aA a1).f1)) := pB 1 _ rfl; have hf37_0 : nB.frozen? ⟨go37, (a1 : Int).toNat * 2, none⟩ = false := qB 0; have hf37_1 : nB.frozen? ⟨go37, (a1 : Int).toNat * 2 + 1, none⟩ = false := qB 1; clear pC pB qB; (try clear hM37); replace xE := eq_true xE; replace yE := eq_true yE; have qC := Aside0.mk (show Kd.R k56 56 nB w.heap.size (fun k_ => k_ ≠ eA) (.slice (some ⟨go37, 0, none⟩) aA.length xA) aA from (kr_ cA.out)); obtain ⟨ce58, xB, hM58, lB, rB⟩ := Kd.R_elem qC.out z56 (a1 : Int) (oa_) (by have h_ : (a1 : Int) < ((aA.length : Int) : Int) := oa_; first | exact h_ | (have e_ := (Kd.R_reads' cA.out).1; omega) | simpa using h_); obtain rfl := k56_openM hM58; have bC := Kd.R_seg qC.out (a1 : Int) (oa_) (by have h_ : (a1 : Int) < ((aA.length : Int) : Int) := oa_; first | exact h_ | (have e_ := (Kd.R_reads' cA.out).1; omega) | simpa using h_) (seg := [.string (((rd_T56 aA a1).f0).extract 0 (a2 : Int).toNat), .int .i64 ((rd_T56 aA a1).f1)]) (j := 0) xB lB (show 2 ≤ 2 from by decide) (x' := (⟨((rd_T56 aA a1).f0).extract 0 (a2 : Int).toNat, (rd_T56 aA a1).f1⟩ : S56)) (k56_mkM _ _ _ (⟨((rd_T56 aA a1).f0).extract 0 (a2 : Int).toNat, (rd_T56 aA a1).f1⟩ : S56) ) (fun _ hk => hk); have cC := lB 0 _ rfl; (try simp only [show (k56).sz = 2 from rfl, Nat.mul_one, Nat.add_zero] at cC); have hf58_0 := rB 0; (try simp only [show (k56).sz = 2 from rfl, Nat.mul_one, Nat.add_zero] at hf58_0); have dC := lB 1 _ rfl; (try simp only [show (k56).sz = 2 from rfl, Nat.mul_one, Nat.add_zero] at dC); have hf58_1 := rB 1; (try simp only [show (k56).sz = 2 from rfl, Nat.mul_one, Nat.add_zero] at hf58_1); clear xB lB rB; (try clear hM58)) | ((with_reducible refine gate_store (t := 56) (p := 31) rfl ?_); refine store_event (t := 56) (p := 31) (v := ?vo_w59) (w1 := ((nB.setCell ⟨go37, (a1 : Int).toNat * 2, none⟩ (.string (((rd_T56 aA a1).f0).extract 0 (a2 : Int).toNat))).setCell ⟨go37, (a1 : Int).toNat * 2 + 1, none⟩ (.int .i64 ((rd_T56 aA a1).f1)))) ?hg ?ho ?hn ?hr ?_; (case ho => rfl); (case hg => rfl); (case hn => rfl); (case hr => first | (go_simp; done) | (go_simp; rfl)); intro bF hw; have hg : nB.grownBy bF (some go37) := (by rw [hw]; exact bC.2); have hp_ : Kd.R k56 56 bF w.heap.size (fun k_ => k_ ≠ eA) (.slice (some ⟨go37, 0, none⟩) aA.length xA) jC := (by rw [hw, kC.out]; exact bC.1); clear bC; replace bA := Aside0.mk (blk_grown (g := sA) (o := .cells #[.slice A0_0 l0_0.length c0_0] 31 (0, 0)) (kb_ bA.out) hg (Kd.R_ne cA.out bA.out (by decide))); replace dA := Aside0.mk (blk_grown (g := nA) (o := .cells #[.slice none 0 0] 31 (0, 0)) (kb_ dA.out) hg (Kd.R_ne cA.out dA.out (by decide))); replace fA := Aside0.mk (blk_grown (g := hA) (o := .cells #[.slice (some ⟨go37, 0, none⟩) aA.length xA] 31 (0, 0)) (kb_ fA.out) hg (Kd.R_ne cA.out fA.out (by decide))); replace gA := Aside0.mk (blk_grown (g := eA) (o := .cells #[.string (((rd_T56 aA a1).f0).extract 0 (a2 : Int).toNat), .int .i64 ((rd_T56 aA a1).f1)] 56 (0, 0)) (kb_ gA.out) hg (Kd.R_away cA.out (fun _ hk => hk))); replace cA := Aside0.mk (hp_); replace HB := Aside0.mk ((by rw [hw]; exact below_set (below_set (HB.out) GB37.out) GB37.out : Below w.heap.size w bF)); clear hg hw hp_; obtain ⟨qD, rD⟩ := cf1_ fA.out; obtain ⟨sD, tD⟩ := cf1_ dA.out))
  refine bodyPost_ret (results_cell_row rfl _ _ nA 31 #[.slice (some ⟨go37, 0, none⟩) aA.length xA] (0, 0) _ rfl (up_ dA) Try.underlying31 rfl (by kernel_rfl)) rfl ?_
  exact ⟨_, er_, rF_ (Kd.R_mono (Kd.R_far (p := ⟨nA, 0, none⟩) (Kd.R_types cA.out dA.out (by decide)) (fun _ hk => hk.2) (.slice (some ⟨go37, 0, none⟩) aA.length xA)) (fun _ hk => trivial)), hs4_ kA.out oA.out vA.out fB.out⟩
 have uE := dgt_ c9
 clear c9
 obtain ⟨rC, iB⟩ : ∃ y_ : List (S56), y_ = (aA.set (a1 : Int).toNat (⟨((rd_T56 aA a1).f0).extract 0 (a2 : Int).toNat, a2⟩ : S56)) := ⟨_, rfl⟩
 replace H : (some rC) = some r := by first | (rw [iB]; with_reducible exact H) | (have H2_ := (Option.bind_some _ _).symm.trans H; rw [iB]; with_reducible exact H2_) | (have H2_ := (Option.bind_some _ _).symm.trans H; with_reducible exact H2_) | with_reducible exact H | (rw [iB]; exact H) | exact H
 have sC := Aside0.mk iB
 clear iB
 obtain rfl := Option.some.inj H
 go_enter Try.func69, Try.ntmps69
 go_wp2_with (first | ((with_reducible refine gate_dst (N := 3) rfl ?_); refine bq_ (N := 3) #[.slice A0_0 l0_0.length c0_0] 31 ?_; intro sA hg wG bA hb; have kA := ge_ hg; replace HB := nb_ hb; clear hb hg) | ((with_reducible refine gate_dst (N := 6) rfl ?_); refine bq_ (N := 6) #[.slice none 0 0] 31 ?_; intro nA hg xG dA hb; have oA := ge1_ hg kA; replace HB := nc_ kA hb; have yA := nl_ bA hg; have zA := ng_ bA hg; replace bA := bK_ bA hb; clear hb hg; have uF := yA.out; have vF := zA.out; obtain ⟨uD, vD⟩ := cf1_ bA.out) | ((with_reducible refine gate_callee (f := 76) rfl ?_); refine gl_ 10 Try.func76 #[.agg #[.slice A0_0 l0_0.length c0_0]] rfl ma_ ?_; (with_reducible refine (spec_l3Own.calls _ _ l0_0 aA _ ?side1 ?side2 A4.out).mono ?_); (case side1 => exact cs_ ((Kd.C_below vB.out HB.out))); (case side2 => exact wB.out); rintro e yG ⟨vE, rfl, lC, hb⟩; refine ⟨_, rfl, ?_⟩; have cA := Aside0.mk (Kd.R_lower lC (below_size (hs2_ kA.out oA.out))); replace bA := bK_ bA hb; replace dA := bK_ dA hb; replace HB := nc2_ kA oA hb; (try clear hb); (try clear hb2); (try clear hk); (try clear hi); (try clear lC)) | ((with_reducible refine gate_dst (N := 7) rfl ?_); refine bq_ (N := 7) #[.slice none 0 0] 31 ?_; intro hA hg zG fA hb; replace cA := rB_ cA hb; have vA := ge2_ hg kA oA; replace HB := nc2_ kA oA hb; have lA := nl_ bA hg; have aB := ng_ bA hg; replace bA := bK_ bA hb; have mA := nl_ dA hg; have bB := ng_ dA hg; replace dA := bK_ dA hb; clear hb hg; obtain ⟨pG, wA, cF⟩ := Kd.R_slice cA.out; subst cF; have wF := aB.out; have xF := lA.out; have yF := bB.out; have zF := mA.out; obtain ⟨wD, xD⟩ := cf1_ fA.out; have jB : 0 ≤ (a1 : Int) := oa_; have kB : a1 < (aA.length : Int) := oa_; obtain ⟨jA, zB, tA, uA⟩ := at_T56 (Kd.R_reads' cA.out).2.2 a1 jB kB; cases zB; have iA : jA.block ≠ hA := Kd.own_blk (Kd.R_ne cA.out fA.out (by decide)); replace tA := (cell_far (p := ⟨hA, 0, none⟩) (by first | (rw [add_block]; exact iA) | (show (Addr.add _ _).block ≠ _; rw [add_block]; exact iA) | exact iA) (.slice (some jA) aA.length wA)).trans tA; replace uA := (cell_far (p := ⟨hA, 0, none⟩) (by first | (rw [add_block]; exact iA) | (show (Addr.add _ _).block ≠ _; rw [add_block]; exact iA) | exact iA) (.slice (some jA) aA.length wA)).trans uA; clear iA; replace jB := eq_true jB; replace kB := eq_true kB) | ((with_reducible refine gate_dst (N := 8) rfl ?_); refine box_event ?hg (N := 8) ?hd (cs := #[.string (⟨#[]⟩ : ByteArray), .int .i64 0]) (t := 56) ?hr ?_; (case hd => rfl); (case hg => rfl); (case hr => first | (go_simp; done) | (go_simp; rfl)); intro eA hg qG hbox hb; replace cA := Aside0.mk (Kd.R_below (Kd.R_elderB (rF_ (Kd.R_mono (Kd.R_far (p := ⟨hA, 0, none⟩) (Kd.R_types cA.out fA.out (by decide)) (fun _ hk => hk.2) (.slice (some jA) aA.length wA)) (fun _ h_ => h_.1))) eA (Nat.le_of_eq hg.symm)) hb); have gA := Aside0.mk (hbox); have fB := ge3_ hg kA oA vA; replace HB := nc3_ kA oA vA hb; have pA := Aside0.mk ((by rw [hg]; exact Nat.ne_of_lt (blk_lt (g := sA) (o := .cells #[.slice A0_0 l0_0.length c0_0] 31 (0, 0)) (uf_ bA lA.out)) : sA ≠ eA)); have cB := Aside0.mk ((by rw [hg]; exact Nat.ne_of_gt (blk_lt (g := sA) (o := .cells #[.slice A0_0 l0_0.length c0_0] 31 (0, 0)) (uf_ bA lA.out)) : eA ≠ sA)); replace bA := Aside0.mk (blk_below (g := sA) (o := .cells #[.slice A0_0 l0_0.length c0_0] 31 (0, 0)) (uf_ bA lA.out) hb); have qA := Aside0.mk ((by rw [hg]; exact Nat.ne_of_lt (blk_lt (g := nA) (o := .cells #[.slice none 0 0] 31 (0, 0)) (uf_ dA mA.out)) : nA ≠ eA)); have dB := Aside0.mk ((by rw [hg]; exact Nat.ne_of_gt (blk_lt (g := nA) (o := .cells #[.slice none 0 0] 31 (0, 0)) (uf_ dA mA.out)) : eA ≠ nA)); replace dA := Aside0.mk (blk_below (g := nA) (o := .cells #[.slice none 0 0] 31 (0, 0)) (uf_ dA mA.out) hb); have rA := Aside0.mk ((by rw [hg]; exact Nat.ne_of_lt (blk_lt (g := hA) (o := .cells #[.slice (some jA) aA.length wA] 31 (0, 0)) (up_ fA)) : hA ≠ eA)); have eB := Aside0.mk ((by rw [hg]; exact Nat.ne_of_gt (blk_lt (g := hA) (o := .cells #[.slice (some jA) aA.length wA] 31 (0, 0)) (up_ fA)) : eA ≠ hA)); replace fA := Aside0.mk (blk_below (g := hA) (o := .cells #[.slice (some jA) aA.length wA] 31 (0, 0)) (up_ fA) hb); clear hb hbox hg; have aG := cB.out; have bG := pA.out; have cG := dB.out; have dG := qA.out; have eG := eB.out; have fG := rA.out; obtain ⟨yD, zD, aE, bE⟩ := cf2_ gA.out) | ((with_reducible refine gate_store (t := 56) (p := 8) rfl ?_); refine store_event (t := 56) (p := 8) (v := ?vo_w26) (w1 := ((qG.setCell ⟨eA, 0, none⟩ (.string ((rd_T56 aA a1).f0))).setCell ⟨eA, 1, none⟩ (.int .i64 ((rd_T56 aA a1).f1)))) ?hg ?ho ?hn ?hr ?_; (case ho => rfl); (case hg => rfl); (case hn => rfl); (case hr => first | (go_simp; done) | (go_simp; rfl)); intro eC hw; have n0_ : Aside0 (Kd.R k56 56 eC w.heap.size (fun k_ => k_ ≠ eA) (.slice (some jA) aA.length wA) aA) := ⟨(by rw [hw]; exact (Kd.R_mono (rF_ (Kd.R_mono cA.out (fun k_ hk => (⟨hk, hk.2⟩ : _ ∧ k_ ≠ eA)))) (fun _ hk => hk.1.2)))⟩; have n1_ : Aside0 (eC.heap[sA]? = some (.cells #[.slice A0_0 l0_0.length c0_0] 31 (0, 0))) := ⟨(by rw [hw]; exact (uf_ bA pA.out))⟩; have n2_ : Aside0 (eC.heap[nA]? = some (.cells #[.slice none 0 0] 31 (0, 0))) := ⟨(by rw [hw]; exact (uf_ dA qA.out))⟩; have n3_ : Aside0 (eC.heap[hA]? = some (.cells #[.slice (some jA) aA.length wA] 31 (0, 0))) := ⟨(by rw [hw]; exact (uf_ fA rA.out))⟩; have n4_ : Aside0 (eC.heap[eA]? = some (.cells #[.string ((rd_T56 aA a1).f0), .int .i64 ((rd_T56 aA a1).f1)] 56 (0, 0))) := ⟨(by rw [hw]; exact (up_ gA))⟩; have n5_ : Aside0 (Below w.heap.size w eC) := ⟨(by rw [hw]; exact (hs4_ kA.out oA.out vA.out fB.out))⟩; clear hw; clear cA; clear bA; clear dA; clear fA; clear gA; clear HB; have cA := n0_; have bA := n1_; have dA := n2_; have fA := n3_; have gA := n4_; have HB := n5_; clear n0_ n1_ n2_ n3_ n4_ n5_; obtain ⟨cE, dE, eE, fE⟩ := cf2_ gA.out) | ((with_reducible refine gate_store (t := 9) (p := 20) rfl ?_); refine store_event (t := 9) (p := 20) (v := ?vo_w28) (w1 := (eC.setCell ⟨eA, 0, none⟩ (.string (((rd_T56 aA a1).f0).extract 0 (a2 : Int).toNat)))) ?hg ?ho ?hn ?hr ?_; (case ho => rfl); (case hg => rfl); (case hn => rfl); (case hr => first | (go_simp; done) | (go_simp; rfl)); intro fC hw; have n0_ : Aside0 (Kd.R k56 56 fC w.heap.size (fun k_ => k_ ≠ eA) (.slice (some jA) aA.length wA) aA) := ⟨(by rw [hw]; exact (rF_ (Kd.R_mono (Kd.R_far (p := ⟨eA, 0, none⟩) (Kd.R_mono cA.out (fun k_ hk => (⟨hk, hk⟩ : _ ∧ k_ ≠ eA))) (fun _ hk => hk.2) (.string (((rd_T56 aA a1).f0).extract 0 (a2 : Int).toNat))) (fun _ hk => hk.1))))⟩; have n1_ : Aside0 (fC.heap[sA]? = some (.cells #[.slice A0_0 l0_0.length c0_0] 31 (0, 0))) := ⟨(by rw [hw]; exact (uf_ bA pA.out))⟩; have n2_ : Aside0 (fC.heap[nA]? = some (.cells #[.slice none 0 0] 31 (0, 0))) := ⟨(by rw [hw]; exact (uf_ dA qA.out))⟩; have n3_ : Aside0 (fC.heap[hA]? = some (.cells #[.slice (some jA) aA.length wA] 31 (0, 0))) := ⟨(by rw [hw]; exact (uf_ fA rA.out))⟩; have n4_ : Aside0 (fC.heap[eA]? = some (.cells #[.string (((rd_T56 aA a1).f0).extract 0 (a2 : Int).toNat), .int .i64 ((rd_T56 aA a1).f1)] 56 (0, 0))) := ⟨(by rw [hw]; exact (up_ gA))⟩; have n5_ : Aside0 (Below w.heap.size w fC) := ⟨(by rw [hw]; exact (hs4_ kA.out oA.out vA.out fB.out))⟩; clear hw; clear cA; clear bA; clear dA; clear fA; clear gA; clear HB; have cA := n0_; have bA := n1_; have dA := n2_; have fA := n3_; have gA := n4_; have HB := n5_; clear n0_ n1_ n2_ n3_ n4_ n5_; obtain ⟨gE, hE, iE, jE⟩ := cf2_ gA.out) | ((with_reducible refine gate_store (t := 3) (p := 26) rfl ?_); refine store_event (t := 3) (p := 26) (v := ?vo_w30) (w1 := (fC.setCell ⟨eA, 1, none⟩ (.int .i64 a2))) ?hg ?ho ?hn ?hr ?_; (case ho => rfl); (case hg => rfl); (case hn => rfl); (case hr => first | (go_simp; done) | (go_simp; rfl)); intro oB hw; have n0_ : Aside0 (Kd.R k56 56 oB w.heap.size (fun k_ => k_ ≠ eA) (.slice (some jA) aA.length wA) aA) := ⟨(by rw [hw]; exact (rF_ (Kd.R_mono (Kd.R_far (p := ⟨eA, 1, none⟩) (Kd.R_mono cA.out (fun k_ hk => (⟨hk, hk⟩ : _ ∧ k_ ≠ eA))) (fun _ hk => hk.2) (.int .i64 a2)) (fun _ hk => hk.1))))⟩; have n1_ : Aside0 (oB.heap[sA]? = some (.cells #[.slice A0_0 l0_0.length c0_0] 31 (0, 0))) := ⟨(by rw [hw]; exact (uf_ bA pA.out))⟩; have n2_ : Aside0 (oB.heap[nA]? = some (.cells #[.slice none 0 0] 31 (0, 0))) := ⟨(by rw [hw]; exact (uf_ dA qA.out))⟩; have n3_ : Aside0 (oB.heap[hA]? = some (.cells #[.slice (some jA) aA.length wA] 31 (0, 0))) := ⟨(by rw [hw]; exact (uf_ fA rA.out))⟩; have n4_ : Aside0 (oB.heap[eA]? = some (.cells #[.string (((rd_T56 aA a1).f0).extract 0 (a2 : Int).toNat), .int .i64 a2] 56 (0, 0))) := ⟨(by rw [hw]; exact (up_ gA))⟩; have n5_ : Aside0 (Below w.heap.size w oB) := ⟨(by rw [hw]; exact (hs4_ kA.out oA.out vA.out fB.out))⟩; clear hw; clear cA; clear bA; clear dA; clear fA; clear gA; clear HB; have cA := n0_; have bA := n1_; have dA := n2_; have fA := n3_; have gA := n4_; have HB := n5_; clear n0_ n1_ n2_ n3_ n4_ n5_; obtain ⟨kE, lE⟩ := cf1_ fA.out; obtain ⟨mE, nE, oE, pE⟩ := cf2_ gA.out; have dF : 0 ≤ (a1 : Int) := oa_; have eF : (a1 : Int) < ((aA.length : Int) : Int) := oa_; obtain ⟨go10, rG, tC, uC, gl10, cl10, vC⟩ := Kd.R_form cA.out (by omega); (first | cases tC | (injection tC with ea_ en_ ec_; (first | subst ea_ | (injection ea_ with ea_; subst ea_)); subst ec_; clear en_)); have GB10 := Aside0.mk uC; have GG10 := Aside0.mk vC; clear uC gl10 vC; (first | simp only [add_plain] at tA | skip); (first | simp only [add_plain] at uA | skip); obtain ⟨ce10, wC, hM10, sB, tB⟩ := Kd.R_elem cA.out z56 (a1 : Int) dF eF; obtain rfl := k56_openM hM10; have fF : oB.cell? ⟨go10, (a1 : Int).toNat * 2, none⟩ = some (.string ((rd_T56 aA a1).f0)) := sB 0 _ rfl; have gF : oB.cell? ⟨go10, (a1 : Int).toNat * 2 + 1, none⟩ = some (.int .i64 ((rd_T56 aA a1).f1)) := sB 1 _ rfl; have hf10_0 : oB.frozen? ⟨go10, (a1 : Int).toNat * 2, none⟩ = false := tB 0; have hf10_1 : oB.frozen? ⟨go10, (a1 : Int).toNat * 2 + 1, none⟩ = false := tB 1; clear wC sB tB; (try clear hM10); replace dF := eq_true dF; replace eF := eq_true eF; have xC := Aside0.mk (show Kd.R k56 56 oB w.heap.size (fun k_ => k_ ≠ eA) (.slice (some ⟨go10, 0, none⟩) aA.length wA) aA from (kr_ cA.out)); obtain ⟨ce33, yB, hM33, mB, uB⟩ := Kd.R_elem xC.out z56 (a1 : Int) (oa_) (by have h_ : (a1 : Int) < ((aA.length : Int) : Int) := oa_; first | exact h_ | (have e_ := (Kd.R_reads' cA.out).1; omega) | simpa using h_); obtain rfl := k56_openM hM33; have gC := Kd.R_seg xC.out (a1 : Int) (oa_) (by have h_ : (a1 : Int) < ((aA.length : Int) : Int) := oa_; first | exact h_ | (have e_ := (Kd.R_reads' cA.out).1; omega) | simpa using h_) (seg := [.string (((rd_T56 aA a1).f0).extract 0 (a2 : Int).toNat), .int .i64 a2]) (j := 0) yB mB (show 2 ≤ 2 from by decide) (x' := (⟨((rd_T56 aA a1).f0).extract 0 (a2 : Int).toNat, a2⟩ : S56)) (k56_mkM _ _ _ (⟨((rd_T56 aA a1).f0).extract 0 (a2 : Int).toNat, a2⟩ : S56) ) (fun _ hk => hk); have hC := mB 0 _ rfl; (try simp only [show (k56).sz = 2 from rfl, Nat.mul_one, Nat.add_zero] at hC); have hf33_0 := uB 0; (try simp only [show (k56).sz = 2 from rfl, Nat.mul_one, Nat.add_zero] at hf33_0); have iC := mB 1 _ rfl; (try simp only [show (k56).sz = 2 from rfl, Nat.mul_one, Nat.add_zero] at iC); have hf33_1 := uB 1; (try simp only [show (k56).sz = 2 from rfl, Nat.mul_one, Nat.add_zero] at hf33_1); clear yB mB uB; (try clear hM33)) | ((with_reducible refine gate_store (t := 56) (p := 31) rfl ?_); refine store_event (t := 56) (p := 31) (v := ?vo_w34) (w1 := ((oB.setCell ⟨go10, (a1 : Int).toNat * 2, none⟩ (.string (((rd_T56 aA a1).f0).extract 0 (a2 : Int).toNat))).setCell ⟨go10, (a1 : Int).toNat * 2 + 1, none⟩ (.int .i64 a2))) ?hg ?ho ?hn ?hr ?_; (case ho => rfl); (case hg => rfl); (case hn => rfl); (case hr => first | (go_simp; done) | (go_simp; rfl)); intro hF hw; have hg : oB.grownBy hF (some go10) := (by rw [hw]; exact gC.2); have hp_ : Kd.R k56 56 hF w.heap.size (fun k_ => k_ ≠ eA) (.slice (some ⟨go10, 0, none⟩) aA.length wA) rC := (by rw [hw, sC.out]; exact gC.1); clear gC; replace bA := Aside0.mk (blk_grown (g := sA) (o := .cells #[.slice A0_0 l0_0.length c0_0] 31 (0, 0)) (kb_ bA.out) hg (Kd.R_ne cA.out bA.out (by decide))); replace dA := Aside0.mk (blk_grown (g := nA) (o := .cells #[.slice none 0 0] 31 (0, 0)) (kb_ dA.out) hg (Kd.R_ne cA.out dA.out (by decide))); replace fA := Aside0.mk (blk_grown (g := hA) (o := .cells #[.slice (some ⟨go10, 0, none⟩) aA.length wA] 31 (0, 0)) (kb_ fA.out) hg (Kd.R_ne cA.out fA.out (by decide))); replace gA := Aside0.mk (blk_grown (g := eA) (o := .cells #[.string (((rd_T56 aA a1).f0).extract 0 (a2 : Int).toNat), .int .i64 a2] 56 (0, 0)) (kb_ gA.out) hg (Kd.R_away cA.out (fun _ hk => hk))); replace cA := Aside0.mk (hp_); replace HB := Aside0.mk ((by rw [hw]; exact below_set (below_set (HB.out) GB10.out) GB10.out : Below w.heap.size w hF)); clear hg hw hp_; obtain ⟨qE, rE⟩ := cf1_ fA.out; obtain ⟨sE, tE⟩ := cf1_ dA.out))
 refine bodyPost_ret (results_cell_row rfl _ _ nA 31 #[.slice (some ⟨go10, 0, none⟩) aA.length wA] (0, 0) _ rfl (up_ dA) Try.underlying31 rfl (by kernel_rfl)) rfl ?_
 exact ⟨_, er_, rF_ (Kd.R_mono (Kd.R_far (p := ⟨nA, 0, none⟩) (Kd.R_types cA.out dA.out (by decide)) (fun _ hk => hk.2) (.slice (some ⟨go10, 0, none⟩) aA.length wA)) (fun _ hk => trivial)), hs4_ kA.out oA.out vA.out fB.out⟩

/-! ### spec_CutFile: function 35 -/
def spec_CutFile.f (k : Nat) (l0_0 : List (S56)) (a1 : Int) (a2 : Int) : Option ((List (S56)) × Bool) := (spec_l3File.f k l0_0 a1).bind fun t480 => (if t480 = true then (if a2 < 0 then (some (([] : List (S56)), false)) else (if 0 ≤ a1 then (if a1 < (l0_0.length : Int) then (if a2 > (((rd_T56 l0_0 a1).f0).size : Int) then (some (([] : List (S56)), false)) else ((spec_l3Cut.f l0_0 a1 a2).bind fun t482 => (some (t482, true)))) else (none)) else (none))) else (some (([] : List (S56)), false)))
theorem spec_CutFile.mono : ∀ a0 a1 a2 k, LeO (spec_CutFile.f k a0 a1 a2) (spec_CutFile.f (k + 1) a0 a1 a2) := by
 intro a0 a1 a2 k
 unfold spec_CutFile.f
 repeat' first
   | (with_reducible first | apply spec_l3File.mono | exact LeO.refl _ | exact LeO.none _ | refine LeO.ite ?_ ?_ | refine LeO.bind ?_ (fun _ => ?_))
set_option maxHeartbeats 8000000 in
set_option maxRecDepth 100000 in
theorem spec_CutFile.calls (k : Nat) (A0_0 : Option Addr) (c0_0 : Nat) (l0_0 : List (S56)) (a1 : Int) (a2 : Int) (r1 : List (S56)) (r2 : Bool) (w : World) (hr0_0 : Kd.C k56 w A0_0 l0_0.length l0_0) (hc0_0 : l0_0.length ≤ c0_0) (h : spec_CutFile.f k l0_0 a1 a2 = some (r1, r2)) :
  Calls Try.prog 35 #[.agg #[.slice A0_0 l0_0.length c0_0], .int .i64 a1, .int .i64 a2] w fun e w' => ∃ v0_ : Value, e = .returned (.tuple #[.agg #[v0_], .bool r2]) ∧ Kd.R k56 56 w' w.heap.size (fun _ => True) v0_ r1 ∧ Below w.heap.size w w' := by
 have hu31 := Try.underlying31
 have jA := Aside0.mk hr0_0
 have kA := Aside0.mk hc0_0
 clear hr0_0 hc0_0
 have HB := Aside0.mk (Below.refl w.heap.size w)
 have H : ((spec_l3File.f k l0_0 a1).bind fun sA => (if sA = true then (if a2 < 0 then (some (([] : List (S56)), false)) else (if 0 ≤ a1 then (if a1 < (l0_0.length : Int) then (if a2 > (((rd_T56 l0_0 a1).f0).size : Int) then (some (([] : List (S56)), false)) else ((spec_l3Cut.f l0_0 a1 a2).bind fun nA => (some (nA, true)))) else (none)) else (none))) else (some (([] : List (S56)), false)))) = some (r1, r2) := h
 clear h
 replace H := bnd_ H
 obtain ⟨sA, A4, H⟩ := H
 replace H := ifb_ H
 obtain ⟨rfl, H⟩ | ⟨rfl, H⟩ := H
 rotate_left
 ·simp only [Option.some.injEq, Prod.mk.injEq] at H
  obtain ⟨rfl, rfl⟩ := H
  go_enter Try.func35, Try.ntmps35
  go_wp2_with (first | ((with_reducible refine gate_dst (N := 3) rfl ?_); (try (refine gate_guard (by rfl) ?_; dsimp only)); refine bq_ (N := 3) #[.slice A0_0 l0_0.length c0_0] 31 ?_; intro oA hg jC aA hb; have cA := ge_ hg; replace HB := nb_ hb; clear hb hg) | ((with_reducible refine gate_dst (N := 6) rfl ?_); (try (refine gate_guard (by rfl) ?_; dsimp only)); refine bq_ (N := 6) #[.slice none 0 0] 31 ?_; intro iA hg kC bA hb; have fA := ge1_ hg cA; replace HB := nc_ cA hb; have dA := nl_ aA hg; have eA := ng_ aA hg; replace aA := bK_ aA hb; clear hb hg; have uB := dA.out; have vB := eA.out; obtain ⟨xA, yA⟩ := cf1_ aA.out) | ((with_reducible refine gate_callee (f := 49) rfl ?_); refine gl_ 10 Try.func49 #[.agg #[.slice A0_0 l0_0.length c0_0], .int .i64 a1] rfl ma_ ?_; (with_reducible refine (spec_l3File.calls k _ _ l0_0 a1 false _ ?side1 ?side2 A4.out).mono ?_); (case side1 => exact cs_ ((Kd.C_below jA.out HB.out))); (case side2 => exact kA.out); rintro e lC ⟨rfl, hb⟩; refine ⟨_, rfl, ?_⟩; replace aA := bK_ aA hb; replace bA := bK_ bA hb; replace HB := nc2_ cA fA hb; (try clear hb); (try clear hb2); (try clear hk); (try clear hi); obtain ⟨zA, aB⟩ := cf1_ bA.out))
  refine bodyPost_ret (results_ct rfl _ _ iA 31 #[.slice none 0 0] (0, 0) _ rfl (up_ bA) Try.underlying31 rfl (by kernel_rfl)) rfl ?_
  exact ⟨_, er_, ni_, hs2_ cA.out fA.out⟩
 replace H := ite_ H
 obtain ⟨c6, H⟩ | ⟨c6, H⟩ := H
 ·have sB := decide_eq_true c6
  clear c6
  simp only [Option.some.injEq, Prod.mk.injEq] at H
  obtain ⟨rfl, rfl⟩ := H
  go_enter Try.func35, Try.ntmps35
  go_wp2_with (first | ((with_reducible refine gate_dst (N := 3) rfl ?_); (try (refine gate_guard (by rfl) ?_; dsimp only)); refine bq_ (N := 3) #[.slice A0_0 l0_0.length c0_0] 31 ?_; intro oA hg w7 aA hb; have cA := ge_ hg; replace HB := nb_ hb; clear hb hg) | ((with_reducible refine gate_dst (N := 6) rfl ?_); (try (refine gate_guard (by rfl) ?_; dsimp only)); refine bq_ (N := 6) #[.slice none 0 0] 31 ?_; intro iA hg w8 bA hb; have fA := ge1_ hg cA; replace HB := nc_ cA hb; have dA := nl_ aA hg; have eA := ng_ aA hg; replace aA := bK_ aA hb; clear hb hg; have fC := dA.out; have gC := eA.out; obtain ⟨bB, cB⟩ := cf1_ aA.out) | ((with_reducible refine gate_callee (f := 49) rfl ?_); refine gl_ 10 Try.func49 #[.agg #[.slice A0_0 l0_0.length c0_0], .int .i64 a1] rfl ma_ ?_; (with_reducible refine (spec_l3File.calls k _ _ l0_0 a1 true _ ?side1 ?side2 A4.out).mono ?_); (case side1 => exact cs_ ((Kd.C_below jA.out HB.out))); (case side2 => exact kA.out); rintro e mC ⟨rfl, hb⟩; refine ⟨_, rfl, ?_⟩; replace aA := bK_ aA hb; replace bA := bK_ bA hb; replace HB := nc2_ cA fA hb; (try clear hb); (try clear hb2); (try clear hk); (try clear hi); obtain ⟨dB, eB⟩ := cf1_ bA.out))
  refine bodyPost_ret (results_ct rfl _ _ iA 31 #[.slice none 0 0] (0, 0) _ rfl (up_ bA) Try.underlying31 rfl (by kernel_rfl)) rfl ?_
  exact ⟨_, er_, ni_, hs2_ cA.out fA.out⟩
 have sB := decide_eq_false c6
 clear c6
 replace H := ifs_ H
 obtain ⟨wB, H⟩ := H
 have xB := decide_eq_true wB
 clear wB
 replace H := ifs_ H
 obtain ⟨yB, H⟩ := H
 have zB := decide_eq_true yB
 clear yB
 replace H := ite_ H
 obtain ⟨tA, H⟩ | ⟨tA, H⟩ := H
 ·have uA := dgt_ tA
  clear tA
  simp only [Option.some.injEq, Prod.mk.injEq] at H
  obtain ⟨rfl, rfl⟩ := H
  go_enter Try.func35, Try.ntmps35
  go_wp2_with (first | ((with_reducible refine gate_dst (N := 3) rfl ?_); (try (refine gate_guard (by rfl) ?_; dsimp only)); refine bq_ (N := 3) #[.slice A0_0 l0_0.length c0_0] 31 ?_; intro oA hg nC aA hb; have cA := ge_ hg; replace HB := nb_ hb; clear hb hg) | ((with_reducible refine gate_dst (N := 6) rfl ?_); (try (refine gate_guard (by rfl) ?_; dsimp only)); refine bq_ (N := 6) #[.slice none 0 0] 31 ?_; intro iA hg oC bA hb; have fA := ge1_ hg cA; replace HB := nc_ cA hb; have dA := nl_ aA hg; have eA := ng_ aA hg; replace aA := bK_ aA hb; clear hb hg; have aC := dA.out; have bC := eA.out; obtain ⟨fB, gB⟩ := cf1_ aA.out) | ((with_reducible refine gate_callee (f := 49) rfl ?_); refine gl_ 10 Try.func49 #[.agg #[.slice A0_0 l0_0.length c0_0], .int .i64 a1] rfl ma_ ?_; (with_reducible refine (spec_l3File.calls k _ _ l0_0 a1 true _ ?side1 ?side2 A4.out).mono ?_); (case side1 => exact cs_ ((Kd.C_below jA.out HB.out))); (case side2 => exact kA.out); rintro e pC ⟨rfl, hb⟩; refine ⟨_, rfl, ?_⟩; replace aA := bK_ aA hb; replace bA := bK_ bA hb; replace HB := nc2_ cA fA hb; (try clear hb); (try clear hb2); (try clear hk); (try clear hi); obtain ⟨iB, jB⟩ := cf1_ aA.out; have lA : 0 ≤ (a1 : Int) := oa_; have mA : a1 < (l0_0.length : Int) := oa_; obtain ⟨pA, rA, gA, hA⟩ := at_T56 jA.out a1 lA mA; cases rA; replace gA := pc_ HB.out gA; replace hA := pc_ HB.out hA; replace lA := eq_true lA; replace mA := eq_true mA; obtain ⟨kB, lB⟩ := cf1_ bA.out))
  refine bodyPost_ret (results_ct rfl _ _ iA 31 #[.slice none 0 0] (0, 0) _ rfl (up_ bA) Try.underlying31 rfl (by kernel_rfl)) rfl ?_
  exact ⟨_, er_, ni_, hs2_ cA.out fA.out⟩
 have uA := dgf_ tA
 clear tA
 replace H := bnd_ H
 obtain ⟨nA, hC, H⟩ := H
 simp only [Option.some.injEq, Prod.mk.injEq] at H
 obtain ⟨rfl, rfl⟩ := H
 go_enter Try.func35, Try.ntmps35
 go_wp2_with (first | ((with_reducible refine gate_dst (N := 3) rfl ?_); (try (refine gate_guard (by rfl) ?_; dsimp only)); refine bq_ (N := 3) #[.slice A0_0 l0_0.length c0_0] 31 ?_; intro oA hg qC aA hb; have cA := ge_ hg; replace HB := nb_ hb; clear hb hg) | ((with_reducible refine gate_dst (N := 6) rfl ?_); (try (refine gate_guard (by rfl) ?_; dsimp only)); refine bq_ (N := 6) #[.slice none 0 0] 31 ?_; intro iA hg rC bA hb; have fA := ge1_ hg cA; replace HB := nc_ cA hb; have dA := nl_ aA hg; have eA := ng_ aA hg; replace aA := bK_ aA hb; clear hb hg; have cC := dA.out; have dC := eA.out; obtain ⟨mB, nB⟩ := cf1_ aA.out) | ((with_reducible refine gate_callee (f := 49) rfl ?_); refine gl_ 10 Try.func49 #[.agg #[.slice A0_0 l0_0.length c0_0], .int .i64 a1] rfl ma_ ?_; (with_reducible refine (spec_l3File.calls k _ _ l0_0 a1 true _ ?side1 ?side2 A4.out).mono ?_); (case side1 => exact cs_ ((Kd.C_below jA.out HB.out))); (case side2 => exact kA.out); rintro e sC ⟨rfl, hb⟩; refine ⟨_, rfl, ?_⟩; replace aA := bK_ aA hb; replace bA := bK_ bA hb; replace HB := nc2_ cA fA hb; (try clear hb); (try clear hb2); (try clear hk); (try clear hi); obtain ⟨oB, pB⟩ := cf1_ aA.out; have lA : 0 ≤ (a1 : Int) := oa_; have mA : a1 < (l0_0.length : Int) := oa_; obtain ⟨pA, rA, gA, hA⟩ := at_T56 jA.out a1 lA mA; cases rA; replace gA := pc_ HB.out gA; replace hA := pc_ HB.out hA; replace lA := eq_true lA; replace mA := eq_true mA) | ((with_reducible refine gate_callee (f := 69) rfl ?_); refine gl_ 31 Try.func69 #[.agg #[.slice (some pA) l0_0.length c0_0], .int .i64 a1, .int .i64 a2] rfl ma_ ?_; (with_reducible refine (spec_l3Cut.calls _ _ l0_0 a1 a2 nA _ ?side1 ?side2 hC.out).mono ?_); (case side1 => exact cs_ ((Kd.C_below jA.out HB.out))); (case side2 => exact kA.out); rintro e tC ⟨iC, rfl, eC, hb⟩; refine ⟨_, rfl, ?_⟩; have qA := Aside0.mk (Kd.R_lower eC (below_size (hs2_ cA.out fA.out))); replace aA := bK_ aA hb; replace bA := bK_ bA hb; replace HB := nc2_ cA fA hb; (try clear hb); (try clear hb2); (try clear hk); (try clear hi); (try clear eC); obtain ⟨vA, wA, tB⟩ := Kd.R_slice qA.out; subst tB; obtain ⟨qB, rB⟩ := cf1_ bA.out))
 refine bodyPost_ret (results_ct rfl _ _ iA 31 #[.slice vA nA.length wA] (0, 0) _ rfl (up_ bA) Try.underlying31 rfl (by kernel_rfl)) rfl ?_
 exact ⟨_, er_, rF_ (Kd.R_mono (Kd.R_far (p := ⟨iA, 0, none⟩) (Kd.R_types qA.out bA.out (by decide)) (fun _ hk => hk.2) (.slice vA nA.length wA)) (fun _ hk => trivial)), hs2_ cA.out fA.out⟩

/-! ### spec_DrawSyncFile: function 36 -/
def spec_DrawSyncFile.m (k : Nat) (s0_0 : List Int) (s0_1 : Int) (s0_2 : Int) : Option ((List (S56)) × Int × Int × Int) := (spec_l1Cur_disk.f k s0_0 s0_1 s0_2).bind fun bt546 => ((spec_l1Cur_pick.f s0_0 bt546.2.1 bt546.2.2 (wrap64 ((bt546.1.length : Int) + 2))).bind fun bt552 => (some (bt546.1, wrap64 (bt552.1 - 1), bt552.2.1, bt552.2.2)))
theorem spec_DrawSyncFile.mono_m : ∀ a0 a1 a2 k, LeO (spec_DrawSyncFile.m k a0 a1 a2) (spec_DrawSyncFile.m (k + 1) a0 a1 a2) := by
 intro a0 a1 a2 k
 unfold spec_DrawSyncFile.m
 repeat' first
   | (with_reducible first | apply spec_l1Cur_disk.mono | exact LeO.refl _ | exact LeO.none _ | refine LeO.ite ?_ ?_ | refine LeO.bind ?_ (fun _ => ?_))
def spec_DrawSyncFile.T3 : Bool × List (List Nat × List Nat) := (true, [([], []), ([], []), ([], []), ([2], [2]), ([3], [3]), ([4], [4]), ([1, 5], [1, 5]), ([6], [6]), ([0, 6, 0], [0]), ([7, 8, 0, 1, 2, 3, 4, 5, 6, 7, 8], [7])])
def spec_DrawSyncFile.B3 : List Nat := [0, 0, 0, 4, 12, 28, 62, 126, 127, 511]
theorem spec_DrawSyncFile.tab3 : rtab .any (opsOf Try.f36 3) = spec_DrawSyncFile.T3 := by kernel_rfl
theorem spec_DrawSyncFile.bits3 : waitsOk spec_DrawSyncFile.T3.2 spec_DrawSyncFile.B3 = true := by kernel_rfl
def spec_DrawSyncFile.f (k : Nat) (l0 : List Int) : Option ((List (S56)) × Int) := (spec_DrawSyncFile.m k l0 0 0).bind fun b => some (b.1, b.2.1)
theorem spec_DrawSyncFile.mono : ∀ a0 k, LeO (spec_DrawSyncFile.f k a0) (spec_DrawSyncFile.f (k + 1) a0) := fun a0 k => LeO.bind (spec_DrawSyncFile.mono_m _ _ _ _) (fun _ => LeO.refl _)
set_option maxHeartbeats 8000000 in
set_option maxRecDepth 100000 in
theorem spec_DrawSyncFile.calls (k : Nat) (A0 : Option Addr) (c0 : Nat) (l0 : List Int) (r1 : List (S56)) (r2 : Int) (w : World) (hr0 : Kd.C (Kd.int .u8) w A0 l0.length l0) (_hc0 : l0.length ≤ c0) (h : spec_DrawSyncFile.f k l0 = some (r1, r2)) :
  Calls Try.prog 36 #[.slice A0 l0.length c0] w fun e w' => ∃ v0_ : Value, e = .returned (.tuple #[.agg #[v0_], .int .i64 r2]) ∧ Kd.R k56 56 w' w.heap.size (fun _ => True) v0_ r1 ∧ Below w.heap.size w w' := by
 have hu_92 := Try.underlying92
 have HR0_ := Aside0.mk hr0
 clear hr0
 obtain ⟨⟨q0_, q1_, q2_, q3_⟩, h_, e_⟩ := Option.bind_eq_some_iff.1 h
 clear h
 have e_ := Option.some.inj e_
 simp only [Prod.mk.injEq] at e_
 obtain ⟨e0_, e1_⟩ := e_
 obtain rfl := e0_.symm
 obtain rfl := e1_.symm
 have h := h_
 clear h_
 have hu31 := Try.underlying31
 have H : ((spec_l1Cur_disk.f k l0 0 0).bind fun nA => ((spec_l1Cur_pick.f l0 nA.2.1 nA.2.2 (wrap64 ((nA.1.length : Int) + 2))).bind fun tA => (some (nA.1, wrap64 (tA.1 - 1), tA.2.1, tA.2.2)))) = some (r1, r2, q2_, q3_) := h
 clear h
 replace H := bnd_ H
 obtain ⟨⟨gA, rA, sA⟩, A2, H⟩ := H
 replace H := red_ H
 replace H := bnd_ H
 obtain ⟨⟨yA, zA, aB⟩, A3, H⟩ := H
 replace H := red_ H
 simp only [Option.some.injEq, Prod.mk.injEq] at H
 obtain ⟨rfl, rfl, rfl, rfl⟩ := H
 go_enter Try.func36, Try.ntmps36
 have bB := Aside0.mk (Nat.le_refl w.heap.size)
 have HB := Aside0.mk (Below.refl w.heap.size w)
 go_upto_region 2 with (first | ((with_reducible refine gate_dst (N := 2) rfl ?_); (try (refine gate_guard (by rfl) ?_; dsimp only)); refine be_ (N := 2) #[.slice none 0 0] 31 ?_; intro dA hg w545_ hbox hb; have aA := Aside0.mk hbox; have hA := Aside0.mk (show w.heap.size ≤ dA from by rw [hg]; exact HB.out.size); have lA := hA; replace HB := Aside0.mk (below_step HB.out hb); clear hbox hb hg) | ((with_reducible refine gate_dst (N := 8) rfl ?_); (try (refine gate_guard (by rfl) ?_; dsimp only)); refine be_ (N := 8) #[.slice A0 l0.length c0, .int .i64 0, .int .u64 0] 92 ?_; intro g hg wg_ hbox hb; have HI0 : Aside0 (IsS92 w wg_ g l0 0 0) := ⟨⟨A0, c0, hbox, by rw [hg]; exact HB.out.size, HR0_.out⟩⟩; have cA := Aside0.mk (show g ≠ dA from by rw [hg]; exact Nat.ne_of_gt (blk_lt aA.out)); have mA := Aside0.mk (Ne.symm cA.out); replace aA := Aside0.mk (blk_below aA.out hb); replace HB := Aside0.mk (below_step HB.out hb); have HK := Aside0.mk (KeepBut.of_below HB.out g none); have HL := Aside0.mk HB.out.size; clear hbox hb hg))
 try go_wp2_with (first | ((with_reducible refine gate_dst (N := 2) rfl ?_); refine bq_ (N := 2) #[.slice none 0 0] 31 ?_; intro dA hg w4 aA hb; replace HB := Aside0.mk (below_step (hs_ (IsS92.ge HI0.out)) hb); have hA := Aside0.mk ((by rw [hg]; exact (keep_size (w := w) (g := g) (row := none) (kp0_)) : w.heap.size ≤ dA)); have lA := Aside0.mk ((Nat.le_trans bB.out (by rw [hg]; exact (keep_size (w := w) (g := g) (row := none) (kp0_)) : w.heap.size ≤ dA) : w.heap.size ≤ dA)); replace HK := Aside0.mk (KeepBut.trans (kp0_) (KeepBut.of_below hb g none) (.inl rfl)); have cA := Aside0.mk ((by rw [hg]; exact Nat.ne_of_lt (IsS92.lt (show IsS92 w _ g l0 0 0 from iS92_0_)) : g ≠ dA)); have mA := Aside0.mk ((by rw [hg]; exact Nat.ne_of_gt (IsS92.lt (show IsS92 w _ g l0 0 0 from iS92_0_)) : dA ≠ g)); replace HI0 := Aside0.mk (IsS92.below (iS92_0_) hb); clear hb hg) | ((with_reducible refine gate_callee (f := 70) rfl ?_); refine gl_ 10 Try.func70 #[.pointer (some ⟨g, 0, none⟩)] rfl ma_ ?_; (with_reducible refine (spec_l1Cur_disk.calls k g l0 0 0 gA rA sA w _ ?side1 ?side2 A2.out).mono ?_); (case side1 => exact iS92_1_ cA.out); (case side2 => exact hs2_ (IsS92.ge HI0.out) lA.out); rintro e w5 ⟨dB, rfl, cB, hi, hb, hk⟩; refine ⟨_, rfl, ?_⟩; replace aA := Aside0.mk (KeepBut.blk hk (g' := dA) (o := .cells #[.slice none 0 0] 31 (0, 0)) (kb_ aA.out) mA.out (by simp)); have eA := Aside0.mk (Kd.R_lower cB (keep_size (w := w) (g := g) (row := none) (kp1_ hA.out))); replace HK := Aside0.mk (KeepBut.trans (kp1_ hA.out) hk (.inl rfl)); replace HB := Aside0.mk (hb); replace HI0 := Aside0.mk (hi); (try clear hb); (try clear hb2); (try clear hk); (try clear hi); (try clear cB)) | ((with_reducible refine gate_dst (N := 5) rfl ?_); refine bq_ (N := 5) #[.slice none 0 0] 31 ?_; intro bA hg w6 fA hb; replace eA := rB_ eA hb; replace HB := Aside0.mk (below_step (hs2_ (IsS92.ge HI0.out) lA.out) hb); have vA := Aside0.mk ((by rw [hg]; exact (keep_size (w := w) (g := g) (row := none) (kp1_ hA.out)) : w.heap.size ≤ bA)); have uA := Aside0.mk ((Nat.le_trans bB.out (by rw [hg]; exact (keep_size (w := w) (g := g) (row := none) (kp1_ hA.out)) : w.heap.size ≤ bA) : w.heap.size ≤ bA)); replace HK := Aside0.mk (KeepBut.trans (kp1_ hA.out) (KeepBut.of_below hb g none) (.inl rfl)); have iA := nl_ aA hg; have jA := ng_ aA hg; replace aA := bK_ aA hb; have kA := Aside0.mk ((by rw [hg]; exact Nat.ne_of_lt (IsS92.lt (show IsS92 w _ g l0 rA sA from iS92_1_ cA.out)) : g ≠ bA)); have oA := Aside0.mk ((by rw [hg]; exact Nat.ne_of_gt (IsS92.lt (show IsS92 w _ g l0 rA sA from iS92_1_ cA.out)) : bA ≠ g)); replace HI0 := Aside0.mk (IsS92.below (iS92_1_ cA.out) hb); clear hb hg; obtain ⟨pA, qA, eB⟩ := Kd.R_slice eA.out; subst eB; have fB := jA.out; have gB := iA.out; have iB := oA.out; have jB := kA.out; obtain ⟨wA, xA⟩ := cf1_ fA.out))
 have n0_ : Aside0 (Kd.R k56 56 (w6.setCell ⟨bA, 0, none⟩ (.slice pA gA.length qA)) w.heap.size (fun _ => True) (.slice pA gA.length qA) gA) := ⟨rF_ (Kd.R_mono (Kd.R_far (p := ⟨bA, 0, none⟩) (Kd.R_types eA.out fA.out (by decide)) (fun _ hk => hk.2) (.slice pA gA.length qA)) (fun _ hk => trivial))⟩
 have n1_ : Aside0 ((w6.setCell ⟨bA, 0, none⟩ (.slice pA gA.length qA)).heap[dA]? = some (.cells #[.slice none 0 0] 31 (0, 0))) := ⟨uf_ aA iA.out⟩
 have n2_ : Aside0 ((w6.setCell ⟨bA, 0, none⟩ (.slice pA gA.length qA)).heap[bA]? = some (.cells #[.slice pA gA.length qA] 31 (0, 0))) := ⟨up_ fA⟩
 have n3_ : Aside0 (IsS92 w (w6.setCell ⟨bA, 0, none⟩ (.slice pA gA.length qA)) g l0 rA sA) := ⟨iS92_2_ cA.out kA.out⟩
 have n4_ : Aside0 (KeepBut w (w6.setCell ⟨bA, 0, none⟩ (.slice pA gA.length qA)) g none) := ⟨kp2_ hA.out vA.out⟩
 have n5_ : Aside0 (Below w.heap.size w (w6.setCell ⟨bA, 0, none⟩ (.slice pA gA.length qA))) := ⟨hs3_ (IsS92.ge HI0.out) lA.out uA.out⟩
 (try clear eA)
 (try clear aA)
 (try clear fA)
 (try clear HI0)
 (try clear HK)
 (try clear HB)
 generalize (w6.setCell ⟨bA, 0, none⟩ (.slice pA gA.length qA)) = kB at n0_ n1_ n2_ n3_ n4_ n5_ ⊢
 have eA := n0_
 have aA := n1_
 have fA := n2_
 have HI0 := n3_
 have HK := n4_
 have HB := n5_
 clear n0_ n1_ n2_ n3_ n4_ n5_
 replace eA := qR_ eA
 replace aA := qK_ aA
 replace fA := qK_ fA
 replace HI0 := Aside0.mk (IsS92.drew HI0.out)
 replace HK := Aside0.mk (keep_drew HK.out)
 replace HB := qH_ HB
 refine start_ (n := 10) (S := fun w' => w'.cell? ⟨bA, 0, none⟩ = some (.slice pA gA.length qA)) (ds := []) (List.replicate 10 false).toArray (by kernel_rfl) rfl rfl (bt_ fA 0) (fun hHeld => ?_); refine with_tabW spec_DrawSyncFile.tab3 spec_DrawSyncFile.bits3 (fun HT_ HW_ => ?_)
 generalize kB.drew = lB at eA aA fA HI0 HK HB hHeld ⊢
 refine pv_ 1 12 ?_
 refine pv_ 2 13 ?_
 refine take_ (i := 0) (N := some 11) (v := ?_) (a' := ?_) #[true, true, true, false, false, false, false, false, false, false] rfl rfl (take_ofW HT_.out HW_.out (by kernel_rfl)) (fun _ _ _ h => h) (Or.inl ⟨by rfl, ?_⟩) hHeld ?_ ?_
 rotate_left
 ·intro w' s0
  go_simp
  with_reducible rfl
 rotate_left
 ·simp only [Act.put, List.setIfInBounds_toArray, List.set_cons_zero, List.set_cons_succ, i64_w, i32_w]
  rfl
 refine take_ (i := 3) (N := some 14) (v := ?_) (a' := ?_) #[true, true, true, true, false, false, false, false, false, false] rfl rfl (take_ofW HT_.out HW_.out (by kernel_rfl)) (fun _ _ _ h => h) (Or.inl ⟨by rfl, ?_⟩) hHeld ?_ ?_
 rotate_left
 ·intro w' s0
  go_simp
  with_reducible rfl
 rotate_left
 ·simp only [Act.put, List.setIfInBounds_toArray, List.set_cons_zero, List.set_cons_succ, i64_w, i32_w]
  rfl
 refine pv_ 4 15 ?_
 refine pv_ 5 16 ?_
 refine on_ 6 17 (fun K hK => ?_)
 refine gs_ Try.func74 #[.pointer (some ⟨g, 0, none⟩), .int .i64 (wrap64 ((gA.length : Int) + 2))] rfl ma_ ?_
 with_reducible refine (spec_l1Cur_pick.calls g l0 rA sA (wrap64 ((gA.length : Int) + 2)) yA zA aB w _ ?side1 ?side2 A3.out).mono ?_
 (case side1 => exact iS92_2_ cA.out kA.out)
 (case side2 => exact hs3_ (IsS92.ge HI0.out) lA.out uA.out)
 rintro e mB ⟨rfl, hi, hb, hk⟩
 refine ⟨_, rfl, ?_⟩
 replace aA := Aside0.mk (KeepBut.blk hk (g' := dA) (o := .cells #[.slice none 0 0] 31 (0, 0)) (kb_ aA.out) mA.out (by simp))
 replace eA := Aside0.mk (Kd.R_mono (Kd.R_keep (IsS92.apart (show IsS92 w _ g l0 rA sA from iS92_2_ cA.out kA.out) (kr_ eA.out) (by decide)) hk (fun _ h => h.2)) (fun _ h => h.1))
 replace fA := Aside0.mk (KeepBut.blk hk (g' := bA) (o := .cells #[.slice pA gA.length qA] 31 (0, 0)) (kb_ fA.out) oA.out (by simp))
 replace HK := Aside0.mk (KeepBut.trans (kp2_ hA.out vA.out) hk (.inl rfl))
 replace HB := Aside0.mk (hb)
 replace HI0 := Aside0.mk (hi)
 (try clear hb)
 (try clear hb2)
 (try clear hk)
 (try clear hi)
 refine hK.out _ _ (bt_ fA 0) (fun hHeld => ?_)
 clear hK K
 refine no_ ?_
 refine pv_ 7 18 ?_
 refine one_ (i := 8) (N := none) #[true, true, true, true, true, true, true, true, true, false] rfl rfl (one_of HT_.out (by kernel_rfl)) (by decide) (fun K hK => ?_)
 obtain ⟨hs14, hfs14⟩ := cf1_ aA.out
 have hns14_1 := jA.out
 have hms14_1 := iA.out
 refine skip_ (w1 := ?_) (by rfl) rfl ?_ ?_
 rotate_left
 ·go_simp
  rfl
 refine hK.out _ _ (((cell_far (p := ⟨dA, _, none⟩) jA.out _).trans (hHeld))) (fun hHeld => ?_)
 clear hK K
 refine pv_ 9 3 ?_
 refine done_ (done_of HT_.out (by kernel_rfl)) ?_
 try go_wp2
 refine bodyPost_ret (results_ct rfl _ _ dA 31 #[.slice pA gA.length qA] (0, 0) _ rfl (up_ aA) Try.underlying31 rfl (by kernel_rfl)) rfl ?_
 exact ⟨_, er_, rF_ (Kd.R_mono (Kd.R_far (p := ⟨dA, 0, none⟩) (Kd.R_types eA.out aA.out (by decide)) (fun _ hk => hk.2) (.slice pA gA.length qA)) (fun _ hk => trivial)), hs3_ (IsS92.ge HI0.out) lA.out uA.out⟩



/-! ### spec_DrawNewDisk: function 38 -/
def spec_DrawNewDisk.f (l0 : List Int) : Option (Int) := (spec_l1Cur_pick.f l0 0 0 7).bind fun b => some (wrap64 (b.1 - 1))
set_option maxHeartbeats 8000000 in
set_option maxRecDepth 100000 in
theorem spec_DrawNewDisk.calls (A0 : Option Addr) (c0 : Nat) (l0 : List Int) (r : Int) (w : World) (hr0 : Kd.C (Kd.int .u8) w A0 l0.length l0) (_hc0 : l0.length ≤ c0) (h : spec_DrawNewDisk.f l0 = some r) :
  Calls Try.prog 38 #[.slice A0 l0.length c0] w fun e w' => e = .returned (.int .i64 r) ∧ Below w.heap.size w w' := by
 have hu_ := Try.underlying92
 have HR := Aside0.mk hr0
 clear hr0
 unfold spec_DrawNewDisk.f at h
 obtain ⟨⟨b0, t1, t2⟩, h0, g0⟩ := Option.bind_eq_some_iff.1 h
 clear h
 have H0 := Aside0.mk h0
 have E0 := Aside0.mk (show wrap64 (b0 - 1) = r from Option.some.inj g0)
 clear h0 g0
 go_enter Try.func38, Try.ntmps38
 go_wp2_with (first | ((with_reducible refine gate_dst (N := 6) rfl ?_); (try (refine gate_guard (by rfl) ?_; dsimp only)); refine be_ (N := 6) #[.slice A0 l0.length c0, .int .i64 0, .int .u64 0] 92 ?_; intro gb hg w1 hbox hb; have HBX := Aside0.mk hbox; have HBB := Aside0.mk hb; have HG := Aside0.mk hg; clear hbox hb hg) | fail)
 refine (spec_l1Cur_pick.calls gb l0 0 0 7 b0 t1 t2 w w1 ⟨A0, c0, HBX.out, by rw [HG.out]; exact Nat.le_refl _, HR.out⟩ HBB.out H0.out).mono ?_
 rintro e w2 ⟨rfl, hI, hB, hK⟩
 have HB := Aside0.mk hB
 clear hI hB hK
 go_wp2_with fail
 go_ret
 obtain rfl := E0.out
 exact ⟨rfl, HB.out⟩



/-! ### impl_NewDisk: function 39 -/
def impl_NewDisk.f (a0 : Int) : Option ((List (S56)) × Bool) := (impl_in.f a0 1 4).bind fun t486 => (if t486 = true then (if 0 ≤ a0 then (if (a0 : Int).toNat ≤ 11728124029610 then (some ((List.replicate (a0 : Int).toNat z56), true)) else (none)) else (none)) else (some (([] : List (S56)), false)))
set_option maxHeartbeats 8000000 in
set_option maxRecDepth 100000 in
theorem impl_NewDisk.calls (a0 : Int) (r1 : List (S56)) (r2 : Bool) (w : World) (h : impl_NewDisk.f a0 = some (r1, r2)) :
  Calls Try.prog 39 #[.int .i64 a0] w fun e w' => ∃ v0_ : Value, e = .returned (.tuple #[.agg #[v0_], .bool r2]) ∧ Kd.R k56 56 w' w.heap.size (fun _ => True) v0_ r1 ∧ Below w.heap.size w w' := by
 have hu31 := Try.underlying31
 have HB := Aside0.mk (Below.refl w.heap.size w)
 have H : ((impl_in.f a0 1 4).bind fun hA => (if hA = true then (if 0 ≤ a0 then (if (a0 : Int).toNat ≤ 11728124029610 then (some ((List.replicate (a0 : Int).toNat z56), true)) else (none)) else (none)) else (some (([] : List (S56)), false)))) = some (r1, r2) := h
 clear h
 replace H := bnd_ H
 obtain ⟨hA, A2, H⟩ := H
 replace H := ifb_ H
 obtain ⟨rfl, H⟩ | ⟨rfl, H⟩ := H
 rotate_left
 ·simp only [Option.some.injEq, Prod.mk.injEq] at H
  obtain ⟨rfl, rfl⟩ := H
  go_enter Try.func39, Try.ntmps39
  go_wp2_with (first | ((with_reducible refine gate_dst (N := 2) rfl ?_); refine bq_ (N := 2) #[.slice none 0 0] 31 ?_; intro dA hg nA aA hb; have bA := ge_ hg; replace HB := nb_ hb; clear hb hg) | ((with_reducible refine gate_callee (f := 77) rfl ?_); refine gl_ 5 Try.func77 #[.int .i64 a0, .int .i64 1, .int .i64 4] rfl ma_ ?_; (with_reducible refine (impl_in.calls a0 1 4 false _ A2.out).mono ?_); rintro e w' ⟨rfl, ⟨nd, rfl⟩⟩; refine ⟨_, rfl, ?_⟩; (try (rw [drewN_self nA]; replace aA := dK_ nd aA; replace HB := dH_ nd HB; generalize World.drewN nA nd = nA at aA HB ⊢)); obtain ⟨jA, kA⟩ := cf1_ aA.out))
  refine bodyPost_ret (results_ct rfl _ _ dA 31 #[.slice none 0 0] (0, 0) _ rfl (up_ aA) Try.underlying31 rfl (by kernel_rfl)) rfl ?_
  exact ⟨_, er_, ni_, hs_ bA.out⟩
 replace H := ifs_ H
 obtain ⟨c4, H⟩ := H
 have qA := eq_true c4
 have rA := decide_eq_true c4
 clear c4
 replace H := ifs_ H
 obtain ⟨c5, H⟩ := H
 have sA := eq_true c5
 have tA := decide_eq_true c5
 clear c5
 obtain ⟨gA, cA⟩ : ∃ y_ : List (S56), y_ = (List.replicate (a0 : Int).toNat z56) := ⟨_, rfl⟩
 replace H : (some (gA, true)) = some (r1, r2) := by first | (rw [cA]; with_reducible exact H) | (have H2_ := (Option.bind_some _ _).symm.trans H; rw [cA]; with_reducible exact H2_) | (have H2_ := (Option.bind_some _ _).symm.trans H; with_reducible exact H2_) | with_reducible exact H | (rw [cA]; exact H) | exact H
 have eA := Aside0.mk cA
 clear cA
 simp only [Option.some.injEq, Prod.mk.injEq] at H
 obtain ⟨rfl, rfl⟩ := H
 go_enter Try.func39, Try.ntmps39
 go_wp2_with (first | ((with_reducible refine gate_dst (N := 2) rfl ?_); refine bq_ (N := 2) #[.slice none 0 0] 31 ?_; intro dA hg w6 aA hb; have bA := ge_ hg; replace HB := nb_ hb; clear hb hg) | ((with_reducible refine gate_callee (f := 77) rfl ?_); refine gl_ 5 Try.func77 #[.int .i64 a0, .int .i64 1, .int .i64 4] rfl ma_ ?_; (with_reducible refine (impl_in.calls a0 1 4 true _ A2.out).mono ?_); rintro e w' ⟨rfl, ⟨nd, rfl⟩⟩; refine ⟨_, rfl, ?_⟩; (try (rw [drewN_self w6]; replace aA := dK_ nd aA; replace HB := dH_ nd HB; generalize World.drewN w6 nd = w6 at aA HB ⊢))) | ((with_reducible refine gate_dst (N := 9) rfl ?_); refine Kd.R_make k56 _ 56 rfl (N := 9) rfl 29 _ _ rfl a0 rfl rfl Try.underlying29 (.agg #[(.string ⟨#[]⟩), (.int .i64 0)]) 24 info56 rfl (by decide) (by omega) z56 (ok := fun _ => True) (okp := fun _ => True) (k56_mkM _ _ _ z56 ) (fun _ hk => hk) trivial (oa_) (Nat.le_trans (Nat.mul_le_mul_right _ (oa_ : a0.toNat ≤ 11728124029610)) (by omega)) (Below.refl _ _) (Nat.le_refl _) ?_; intro uA w7 iA hb hg_ hnew_; clear hg_ hnew_; (first | rw [← eA.out] at iA | (simp only [Int.reduceToNat] at iA; rw [← eA.out] at iA)); have fA := Aside0.mk (Kd.R_lower iA (below_size (hs_ bA.out))); replace aA := bK_ aA hb; replace HB := nc_ bA hb; clear hb iA; obtain ⟨oA, pA, vA⟩ := Kd.R_slice fA.out; subst vA; obtain ⟨lA, mA⟩ := cf1_ aA.out))
 refine bodyPost_ret (results_ct rfl _ _ dA 31 #[.slice oA gA.length pA] (0, 0) _ rfl (up_ aA) Try.underlying31 rfl (by kernel_rfl)) rfl ?_
 exact ⟨_, er_, rF_ (Kd.R_mono (Kd.R_far (p := ⟨dA, 0, none⟩) (Kd.R_types fA.out aA.out (by decide)) (fun _ hk => hk.2) (.slice oA gA.length pA)) (fun _ hk => trivial)), hs_ bA.out⟩

/-! ### impl_GoodDisk: function 41 -/
def impl_GoodDisk.f (l0_0 : List (S56)) : Option (Bool) := (impl_isDisk.f l0_0).bind fun t491 => (some t491)
set_option maxHeartbeats 8000000 in
set_option maxRecDepth 100000 in
theorem impl_GoodDisk.calls (A0_0 : Option Addr) (c0_0 : Nat) (l0_0 : List (S56)) (r : Bool) (w : World) (hr0_0 : Kd.C k56 w A0_0 l0_0.length l0_0) (hc0_0 : l0_0.length ≤ c0_0) (h : impl_GoodDisk.f l0_0 = some r) :
  Calls Try.prog 41 #[.agg #[.slice A0_0 l0_0.length c0_0]] w fun e w' => e = .returned (.bool r) ∧ Below w.heap.size w w' := by
 have hu31 := Try.underlying31
 have dA := Aside0.mk hr0_0
 have eA := Aside0.mk hc0_0
 clear hr0_0 hc0_0
 have HB := Aside0.mk (Below.refl w.heap.size w)
 have H : ((impl_isDisk.f l0_0).bind fun cA => (some cA)) = some r := h
 clear h
 replace H := bnd_ H
 obtain ⟨cA, A2, H⟩ := H
 obtain rfl := Option.some.inj H
 go_enter Try.func41, Try.ntmps41
 go_wp2_with (first | ((with_reducible refine gate_dst (N := 1) rfl ?_); refine bq_ (N := 1) #[.slice A0_0 l0_0.length c0_0] 31 ?_; intro hA hg w3 aA hb; have bA := ge_ hg; replace HB := nb_ hb; clear hb hg; obtain ⟨fA, gA⟩ := cf1_ aA.out) | ((with_reducible refine gate_callee (f := 79) rfl ?_); refine gl_ 4 Try.func79 #[.agg #[.slice A0_0 l0_0.length c0_0]] rfl ma_ ?_; (with_reducible refine (impl_isDisk.calls _ _ l0_0 cA _ ?side1 ?side2 A2.out).mono ?_); (case side1 => exact cs_ ((Kd.C_below dA.out HB.out))); (case side2 => exact eA.out); rintro e w5 ⟨rfl, hb⟩; refine ⟨_, rfl, ?_⟩; replace aA := bK_ aA hb; replace HB := nc_ bA hb; (try clear hb); (try clear hb2); (try clear hk); (try clear hi)))
 go_ret
 exact ⟨er_, hs_ bA.out⟩
end Go.Proofs.Ytpdpipfkllfhmaa.QFnDisks
