/- Functions that one statement reaches: of each a plain function, and the proof that calls come to it. Conditions: those that each contract names. Written by a program of this repository. -/
import Derived.Test.YtpdpipfkllfhmaaVFnDisksa
import Derived.Test.YtpdpipfkllfhmaaQFnDisksx3
import Derived.Test.YtpdpipfkllfhmaaQFnDisksx4
import Derived.Test.YtpdpipfkllfhmaaQFnDisksx6
namespace Go.Proofs.Ytpdpipfkllfhmaa.QFnDisks
open Go.RowKit Go.Proofs.YtpdpipfkllfhmaaW.PrintWords Go.Proofs.YtpdpipfkllfhmaaW.PrintLast Go.Proofs.YtpdpipfkllfhmaaW.PrintMore
attribute [local go_sem] max2_int min2_int max_two min_two max_three min_three max_four min_four Go.Proofs.YtpdpipfkllfhmaaW.PrintMore2.isSome_setCell   -- for this text's walks alone
set_option linter.unusedVariables false
set_option linter.unusedSimpArgs false

/-! ### impl_Disk_with: function 66 -/
def impl_Disk_with.f (l0_0 : List (S56)) (a1 : Int) (a2_0 : ByteArray) (a2_1 : Int) : Option ((List (S56))) := (some (([] : List (S56)) : List (S56))).bind fun y269 => (if y269.length + l0_0.length < 5864062014805 then ((some (y269 ++ l0_0 : List (S56))).bind fun y272 => (if 0 ≤ a1 then (if a1 < (y272.length : Int) then (some (y272.set (a1 : Int).toNat (⟨a2_0, a2_1⟩ : S56))) else (none)) else (none))) else (none))
set_option maxHeartbeats 8000000 in
set_option maxRecDepth 100000 in
theorem impl_Disk_with.calls (A0_0 : Option Addr) (c0_0 : Nat) (l0_0 : List (S56)) (a1 : Int) (a2_0 : ByteArray) (a2_1 : Int) (r : List (S56)) (w : World) (hr0_0 : Kd.C k56 w A0_0 l0_0.length l0_0) (hc0_0 : l0_0.length ≤ c0_0) (h : impl_Disk_with.f l0_0 a1 a2_0 a2_1 = some r) :
  Calls Try.prog 66 #[.agg #[.slice A0_0 l0_0.length c0_0], .int .i64 a1, .agg #[.string a2_0, .int .i64 a2_1]] w fun e w' => ∃ v0_ : Value, e = .returned (.agg #[v0_]) ∧ Kd.R k56 56 w' w.heap.size (fun _ => True) v0_ r ∧ Below w.heap.size w w' := by
 have hu31 := Try.underlying31
 have hu56 := Try.underlying56
 have tB := Aside0.mk hr0_0
 have rC := Aside0.mk hc0_0
 clear hr0_0 hc0_0
 have HB := Aside0.mk (Below.refl w.heap.size w)
 have H : ((some (([] : List (S56)) : List (S56))).bind fun tA => (if tA.length + l0_0.length < 5864062014805 then ((some (tA ++ l0_0 : List (S56))).bind fun eA => (if 0 ≤ a1 then (if a1 < (eA.length : Int) then (some (eA.set (a1 : Int).toNat (⟨a2_0, a2_1⟩ : S56))) else (none)) else (none))) else (none))) = some r := h
 clear h
 obtain ⟨tA, oA⟩ : ∃ y_ : List (S56), y_ = (([] : List (S56))) := ⟨_, rfl⟩
 replace H : (if tA.length + l0_0.length < 5864062014805 then ((some (tA ++ l0_0 : List (S56))).bind fun eA => (if 0 ≤ a1 then (if a1 < (eA.length : Int) then (some (eA.set (a1 : Int).toNat (⟨a2_0, a2_1⟩ : S56))) else (none)) else (none))) else (none)) = some r := by first | (rw [oA]; with_reducible exact H) | (have H2_ := (Option.bind_some _ _).symm.trans H; rw [oA]; with_reducible exact H2_) | (have H2_ := (Option.bind_some _ _).symm.trans H; with_reducible exact H2_) | with_reducible exact H | (rw [oA]; exact H) | exact H
 have lB := Aside0.mk oA
 clear oA
 replace H := ifs_ H
 obtain ⟨c4, H⟩ := H
 have mC := Aside0.mk c4
 clear c4
 obtain ⟨eA, pA⟩ : ∃ y_ : List (S56), y_ = (tA ++ l0_0) := ⟨_, rfl⟩
 replace H : (if 0 ≤ a1 then (if a1 < (eA.length : Int) then (some (eA.set (a1 : Int).toNat (⟨a2_0, a2_1⟩ : S56))) else (none)) else (none)) = some r := by first | (rw [pA]; with_reducible exact H) | (have H2_ := (Option.bind_some _ _).symm.trans H; rw [pA]; with_reducible exact H2_) | (have H2_ := (Option.bind_some _ _).symm.trans H; with_reducible exact H2_) | with_reducible exact H | (rw [pA]; exact H) | exact H
 have uB := Aside0.mk pA
 clear pA
 replace H := ifs_ H
 obtain ⟨c5, H⟩ := H
 have jD := decide_eq_true c5
 clear c5
 replace H := ifs_ H
 obtain ⟨c6, H⟩ := H
 have kD := decide_eq_true c6
 clear c6
 obtain ⟨vB, qA⟩ : ∃ y_ : List (S56), y_ = (eA.set (a1 : Int).toNat (⟨a2_0, a2_1⟩ : S56)) := ⟨_, rfl⟩
 replace H : (some vB) = some r := by first | (rw [qA]; with_reducible exact H) | (have H2_ := (Option.bind_some _ _).symm.trans H; rw [qA]; with_reducible exact H2_) | (have H2_ := (Option.bind_some _ _).symm.trans H; with_reducible exact H2_) | with_reducible exact H | (rw [qA]; exact H) | exact H
 have wB := Aside0.mk qA
 clear qA
 obtain rfl := Option.some.inj H
 go_enter Try.func66, Try.ntmps66
 go_wp2_with (first | ((with_reducible refine gate_dst (N := 3) rfl ?_); refine bq_ (N := 3) #[.slice A0_0 l0_0.length c0_0] 31 ?_; intro hB hg w8 aA hb; have fA := ge_ hg; replace HB := nb_ hb; clear hb hg) | ((with_reducible refine gate_dst (N := 5) rfl ?_); refine bq_ (N := 5) #[.string a2_0, .int .i64 a2_1] 56 ?_; intro iA hg w9 bA hb; have gA := ge1_ hg fA; replace HB := nc_ fA hb; have wA := nl_ aA hg; have xA := ng_ aA hg; replace aA := bK_ aA hb; clear hb hg) | ((with_reducible refine gate_dst (N := 6) rfl ?_); refine bq_ (N := 6) #[.slice none 0 0] 31 ?_; intro rA hg nD cA hb; have jA := ge2_ hg fA gA; replace HB := nc2_ fA gA hb; have yA := nl_ aA hg; have zA := ng_ aA hg; replace aA := bK_ aA hb; have bB := nl_ bA hg; have cB := ng_ bA hg; replace bA := bK_ bA hb; clear hb hg) | ((with_reducible refine gate_dst (N := 8) rfl ?_); refine Kd.R_lit k56 _ 56 ?hg (N := 8) ?hd (xs := ([] : List (S56))) (inner := []) (ok := fun _ => True) (okp := fun _ => True) ?hr ?hp (fun _ hk => hk) trivial (Below.refl _ _) (Nat.le_refl _) (by simp) ?_; (case hd => rfl); (case hg => rfl); (case hr => first | (go_simp; done) | (go_simp; rfl)); (case hp => exact (Reps.none _ _)); intro nC oD iB hb hg_ hnew_; clear hg_ hnew_; (first | rw [← lB.out] at iB | (simp only [Int.reduceToNat] at iB; rw [← lB.out] at iB)); have sA := Aside0.mk (Kd.R_lower (Kd.R_newB iB (g := iA) (o := .cells #[.string a2_0, .int .i64 a2_1] 56 (0, 0)) (kb_ bA.out)) (below_size (hs3_ fA.out gA.out jA.out))); replace aA := bK_ aA hb; replace bA := bK_ bA hb; replace cA := bK_ cA hb; replace HB := nc3_ fA gA jA hb; clear hb iB; have sC := wA.out; have tC := xA.out; have uC := yA.out; have vC := zA.out; obtain ⟨yB, zB⟩ := cf1_ aA.out) | ((with_reducible refine gate_builtin (b := .append) (xs := #[.tmp 8, .tmp 10]) rfl ?_); at_builtin; refine Kd.R_append_rows k56 (w0 := w) w.heap.size rfl (.tmp 8) (.tmp 10) 29 56 (.agg #[(.string ⟨#[]⟩), (.int .i64 0)]) 24 rfl Try.underlying29 info56 rfl (by decide) (by omega) nC tA l0_0 _ _ _ (fun k_ => k_ ≠ iA) (fun _ => False) rfl rfl ?aO ?aR (fun _ _ h => h) (fun _ h => h.elim) ?aF ?aB ?aS ?aL ?_; (case aR => exact cs_ ((Kd.C_below tB.out HB.out))); (case aB => exact (hs3_ fA.out gA.out jA.out)); (case aF => exact (fun k_ hk => Kd.freshB (g := iA) (o := .cells #[.string a2_0, .int .i64 a2_1] 56 (0, 0)) (kb_ bA.out) k_ hk)); (case aO => exact (rF_ (Kd.R_mono sA.out (fun _ hk => hk.2)))); (case aS => exact (below_size (hs3_ fA.out gA.out jA.out))); (case aL => have := mC.out; omega); intro lD pD ho hb hg hat; rw [← uB.out] at ho; replace aA := Aside0.mk (blk_grown (g := hB) (o := .cells #[.slice A0_0 l0_0.length c0_0] 31 (0, 0)) (kb_ aA.out) hg (Kd.R_ne sA.out aA.out (by decide))); replace bA := Aside0.mk (blk_grown (g := iA) (o := .cells #[.string a2_0, .int .i64 a2_1] 56 (0, 0)) (kb_ bA.out) hg (Kd.R_away sA.out (fun _ hk => hk.2))); replace cA := Aside0.mk (blk_grown (g := rA) (o := .cells #[.slice none 0 0] 31 (0, 0)) (kb_ cA.out) hg (Kd.R_ne sA.out cA.out (by decide))); replace HB := Aside0.mk (hb); have dA := Aside0.mk (ho); clear sA; clear ho hb hg hat; obtain ⟨kB, nA, oC⟩ := Kd.R_slice dA.out; subst oC) | ((with_reducible refine gate_dst (N := 7) rfl ?_); refine bq_ (N := 7) #[.slice none 0 0] 31 ?_; intro uA hg mD hA hb; replace dA := rB_ dA hb; have mB := ge3_ hg fA gA jA; replace HB := nc3_ fA gA jA hb; have kA := nl_ aA hg; have dB := ng_ aA hg; replace aA := bK_ aA hb; have lA := nl_ bA hg; have eB := ng_ bA hg; replace bA := bK_ bA hb; have mA := nl_ cA hg; have fB := ng_ cA hg; replace cA := bK_ cA hb; clear hb hg; have wC := dB.out; have xC := kA.out; have yC := eB.out; have zC := lA.out; have aD := fB.out; have bD := mA.out; obtain ⟨aC, bC⟩ := cf1_ hA.out) | ((with_reducible refine gate_store (t := 31) (p := 7) rfl ?_); refine store_event (t := 31) (p := 7) (v := ?vo_w23) (w1 := (mD.setCell ⟨uA, 0, none⟩ (.slice kB eA.length nA))) ?hg ?ho ?hn ?hr ?_; (case ho => rfl); (case hg => rfl); (case hn => rfl); (case hr => first | (go_simp; done) | (go_simp; rfl)); intro gB hw; have n0_ : Aside0 (Kd.R k56 56 gB w.heap.size (fun k_ => k_ ≠ iA) (.slice kB eA.length nA) eA) := ⟨(by rw [hw]; exact (rF_ (Kd.R_mono (Kd.R_far (p := ⟨uA, 0, none⟩) (Kd.R_types dA.out hA.out (by decide)) (fun _ hk => hk.2) (.slice kB eA.length nA)) (fun _ hk => hk.1))))⟩; have n1_ : Aside0 (gB.heap[hB]? = some (.cells #[.slice A0_0 l0_0.length c0_0] 31 (0, 0))) := ⟨(by rw [hw]; exact (uf_ aA kA.out))⟩; have n2_ : Aside0 (gB.heap[iA]? = some (.cells #[.string a2_0, .int .i64 a2_1] 56 (0, 0))) := ⟨(by rw [hw]; exact (uf_ bA lA.out))⟩; have n3_ : Aside0 (gB.heap[rA]? = some (.cells #[.slice none 0 0] 31 (0, 0))) := ⟨(by rw [hw]; exact (uf_ cA mA.out))⟩; have n4_ : Aside0 (gB.heap[uA]? = some (.cells #[.slice kB eA.length nA] 31 (0, 0))) := ⟨(by rw [hw]; exact (up_ hA))⟩; have n5_ : Aside0 (Below w.heap.size w gB) := ⟨(by rw [hw]; exact (hs4_ fA.out gA.out jA.out mB.out))⟩; clear hw; clear dA; clear aA; clear bA; clear cA; clear hA; clear HB; have dA := n0_; have aA := n1_; have bA := n2_; have cA := n3_; have hA := n4_; have HB := n5_; clear n0_ n1_ n2_ n3_ n4_ n5_; obtain ⟨cC, dC⟩ := cf1_ hA.out; have cD := bB.out; have dD := cB.out; obtain ⟨eC, fC, gC, hC⟩ := cf2_ bA.out; have p7 : 0 ≤ (a1 : Int) := oa_; have q7 : (a1 : Int) < ((eA.length : Int) : Int) := oa_; obtain ⟨go7, qD, eD, fD, gl7, cl7, gD⟩ := Kd.R_form dA.out (by omega); (first | cases eD | (injection eD with ea_ en_ ec_; (first | subst ea_ | (injection ea_ with ea_; subst ea_)); subst ec_; clear en_)); have GB7 := Aside0.mk fD; have GG7 := Aside0.mk gD; clear fD gl7 gD; obtain ⟨ce7, pC, hM7, oB, pB⟩ := Kd.R_elem dA.out z56 (a1 : Int) p7 q7; obtain rfl := k56_openM hM7; have hD : gB.cell? ⟨go7, (a1 : Int).toNat * 2, none⟩ = some (.string ((rd_T56 eA a1).f0)) := oB 0 _ rfl; have iD : gB.cell? ⟨go7, (a1 : Int).toNat * 2 + 1, none⟩ = some (.int .i64 ((rd_T56 eA a1).f1)) := oB 1 _ rfl; have hf7_0 : gB.frozen? ⟨go7, (a1 : Int).toNat * 2, none⟩ = false := pB 0; have hf7_1 : gB.frozen? ⟨go7, (a1 : Int).toNat * 2 + 1, none⟩ = false := pB 1; clear pC oB pB; (try clear hM7); replace p7 := eq_true p7; replace q7 := eq_true q7; have xB := Aside0.mk (show Kd.R k56 56 gB w.heap.size (fun k_ => k_ ≠ iA) (.slice (some ⟨go7, 0, none⟩) eA.length nA) eA from (kr_ dA.out)); obtain ⟨ce27, nB, hM27, vA, jB⟩ := Kd.R_elem xB.out z56 (a1 : Int) (oa_) (by have h_ : (a1 : Int) < ((eA.length : Int) : Int) := oa_; first | exact h_ | (have e_ := (Kd.R_reads' dA.out).1; omega) | simpa using h_); obtain rfl := k56_openM hM27; have qB := Kd.R_seg xB.out (a1 : Int) (oa_) (by have h_ : (a1 : Int) < ((eA.length : Int) : Int) := oa_; first | exact h_ | (have e_ := (Kd.R_reads' dA.out).1; omega) | simpa using h_) (seg := [.string a2_0, .int .i64 a2_1]) (j := 0) nB vA (show 2 ≤ 2 from by decide) (x' := (⟨a2_0, a2_1⟩ : S56)) (k56_mkM _ _ _ (⟨a2_0, a2_1⟩ : S56) ) (fun _ hk => hk); have rB := vA 0 _ rfl; (try simp only [show (k56).sz = 2 from rfl, Nat.mul_one, Nat.add_zero] at rB); have hf27_0 := jB 0; (try simp only [show (k56).sz = 2 from rfl, Nat.mul_one, Nat.add_zero] at hf27_0); have sB := vA 1 _ rfl; (try simp only [show (k56).sz = 2 from rfl, Nat.mul_one, Nat.add_zero] at sB); have hf27_1 := jB 1; (try simp only [show (k56).sz = 2 from rfl, Nat.mul_one, Nat.add_zero] at hf27_1); clear nB vA jB; (try clear hM27)) | ((with_reducible refine gate_store (t := 56) (p := 17) rfl ?_); refine store_event (t := 56) (p := 17) (v := ?vo_w28) (w1 := ((gB.setCell ⟨go7, (a1 : Int).toNat * 2, none⟩ (.string a2_0)).setCell ⟨go7, (a1 : Int).toNat * 2 + 1, none⟩ (.int .i64 a2_1))) ?hg ?ho ?hn ?hr ?_; (case ho => rfl); (case hg => rfl); (case hn => rfl); (case hr => first | (go_simp; done) | (go_simp; rfl)); intro qC hw; have hg : gB.grownBy qC (some go7) := (by rw [hw]; exact qB.2); have hp_ : Kd.R k56 56 qC w.heap.size (fun k_ => k_ ≠ iA) (.slice (some ⟨go7, 0, none⟩) eA.length nA) vB := (by rw [hw, wB.out]; exact qB.1); clear qB; replace aA := Aside0.mk (blk_grown (g := hB) (o := .cells #[.slice A0_0 l0_0.length c0_0] 31 (0, 0)) (kb_ aA.out) hg (Kd.R_ne dA.out aA.out (by decide))); replace bA := Aside0.mk (blk_grown (g := iA) (o := .cells #[.string a2_0, .int .i64 a2_1] 56 (0, 0)) (kb_ bA.out) hg (Kd.R_away dA.out (fun _ hk => hk))); replace cA := Aside0.mk (blk_grown (g := rA) (o := .cells #[.slice none 0 0] 31 (0, 0)) (kb_ cA.out) hg (Kd.R_ne dA.out cA.out (by decide))); replace hA := Aside0.mk (blk_grown (g := uA) (o := .cells #[.slice (some ⟨go7, 0, none⟩) eA.length nA] 31 (0, 0)) (kb_ hA.out) hg (Kd.R_ne dA.out hA.out (by decide))); replace dA := Aside0.mk (hp_); replace HB := Aside0.mk ((by rw [hw]; exact below_set (below_set (HB.out) GB7.out) GB7.out : Below w.heap.size w qC)); clear hg hw hp_; obtain ⟨iC, jC⟩ := cf1_ hA.out; obtain ⟨kC, lC⟩ := cf1_ cA.out))
 refine bodyPost_ret (results_cell_row rfl _ _ rA 31 #[.slice (some ⟨go7, 0, none⟩) eA.length nA] (0, 0) _ rfl (up_ cA) Try.underlying31 rfl (by kernel_rfl)) rfl ?_
 exact ⟨_, er_, rF_ (Kd.R_mono (Kd.R_far (p := ⟨rA, 0, none⟩) (Kd.R_types dA.out cA.out (by decide)) (fun _ hk => hk.2) (.slice (some ⟨go7, 0, none⟩) eA.length nA)) (fun _ hk => trivial)), hs4_ fA.out gA.out jA.out mB.out⟩

/-! ### impl_WriteBatch: function 20 -/
def impl_WriteBatch.j0 : Nat → Int → Bool → List (S56) → Int → Int → Int → Int → List ByteArray → Option ((List (S56)) × Bool)
 | 0, _, _, _, _, _, _, _, _ => none
 | k + 1, x1, x20, x278000, x279000, x279001, x279002, x279003, x279004 => if x20 = true then (some (([] : List (S56)), false)) else (if 0 ≤ x1 then (if x1 < (x278000.length : Int) then ((impl_readLog.f k ((rd_T56 x278000 x1).f0)).bind fun bt284 => ((impl_batchBytes.f k x279000 x279001 x279002 x279003 x279004).bind fun t288 => (if bt284.2 = (((rd_T56 x278000 x1).f0).size : Int) then ((impl_follows.f bt284.1 x279000 x279001 x279002 x279003 x279004).bind fun t289 => (if t289 = true then (if (wrap64 (bt284.2 + (t288.size : Int))) > 400 then (some (([] : List (S56)), false)) else (if ((rd_T56 x278000 x1).f0).size + t288.size ≤ 9223372036854775807 then ((impl_Disk_with.f x278000 x1 (((rd_T56 x278000 x1).f0) ++ t288) ((rd_T56 x278000 x1).f1)).bind fun t290 => (some (t290, true))) else (none))) else (some (([] : List (S56)), false)))) else (some (([] : List (S56)), false))))) else (none)) else (none))
def impl_WriteBatch.f (k : Nat) (l0_0 : List (S56)) (a1 : Int) (a2_0 : Int) (a2_1 : Int) (a2_2 : Int) (a2_3 : Int) (l2_4 : List ByteArray) : Option ((List (S56)) × Bool) := (impl_Disk_has.f l0_0 a1).bind fun t280 => (if t280 = true then ((impl_isBatch.f a2_0 a2_1 a2_2 a2_3 l2_4).bind fun t281 => (impl_WriteBatch.j0 k a1 (!t281) l0_0 a2_0 a2_1 a2_2 a2_3 l2_4)) else (impl_WriteBatch.j0 k a1 true l0_0 a2_0 a2_1 a2_2 a2_3 l2_4))
theorem impl_WriteBatch.mono_l : ∀ k, (∀ y0 y1 y2 y3 y4 y5 y6 y7, LeO (impl_WriteBatch.j0 k y0 y1 y2 y3 y4 y5 y6 y7) (impl_WriteBatch.j0 (k + 1) y0 y1 y2 y3 y4 y5 y6 y7))
 | 0 => fun _ _ _ _ _ _ _ _ r h => by simp [impl_WriteBatch.j0] at h
 | k + 1 => by
  have ih0 := impl_WriteBatch.mono_l k
  ·intro y0 y1 y2 y3 y4 y5 y6 y7
   unfold impl_WriteBatch.j0
   repeat' first
   | (with_reducible first | apply ih0 | apply impl_batchBytes.mono | apply impl_readLog.mono | exact LeO.refl _ | exact LeO.none _ | refine LeO.ite ?_ ?_ | refine LeO.bind ?_ (fun _ => ?_))
theorem impl_WriteBatch.mono : ∀ a0 a1 a2 a3 a4 a5 a6 k, LeO (impl_WriteBatch.f k a0 a1 a2 a3 a4 a5 a6) (impl_WriteBatch.f (k + 1) a0 a1 a2 a3 a4 a5 a6) := by
 intro a0 a1 a2 a3 a4 a5 a6 k
 have ih0 := impl_WriteBatch.mono_l k
 unfold impl_WriteBatch.f
 repeat' first
   | (with_reducible first | apply ih0 | apply impl_batchBytes.mono | apply impl_readLog.mono | exact LeO.refl _ | exact LeO.none _ | refine LeO.ite ?_ ?_ | refine LeO.bind ?_ (fun _ => ?_))
set_option maxHeartbeats 8000000 in
set_option maxRecDepth 100000 in
theorem impl_WriteBatch.calls (k : Nat) (A0_0 : Option Addr) (c0_0 : Nat) (l0_0 : List (S56)) (a1 : Int) (a2_0 : Int) (a2_1 : Int) (a2_2 : Int) (a2_3 : Int) (A2_4 : Option Addr) (c2_4 : Nat) (l2_4 : List ByteArray) (r1 : List (S56)) (r2 : Bool) (w : World) (hr0_0 : Kd.C k56 w A0_0 l0_0.length l0_0) (hc0_0 : l0_0.length ≤ c0_0) (hr2_4 : Kd.C Kd.string w A2_4 l2_4.length l2_4) (hc2_4 : l2_4.length ≤ c2_4) (h : impl_WriteBatch.f k l0_0 a1 a2_0 a2_1 a2_2 a2_3 l2_4 = some (r1, r2)) :
  Calls Try.prog 20 #[.agg #[.slice A0_0 l0_0.length c0_0], .int .i64 a1, .agg #[.int .i64 a2_0, .int .i64 a2_1, .int .i64 a2_2, .int .i64 a2_3, .slice A2_4 l2_4.length c2_4]] w fun e w' => ∃ v0_ : Value, e = .returned (.tuple #[.agg #[v0_], .bool r2]) ∧ Kd.R k56 56 w' w.heap.size (fun _ => True) v0_ r1 ∧ Below w.heap.size w w' := by
 have hu31 := Try.underlying31
 have hu44 := Try.underlying44
 have hu56 := Try.underlying56
 have gB := Aside0.mk hr0_0
 have nB := Aside0.mk hc0_0
 clear hr0_0 hc0_0
 have eB := Aside0.mk hr2_4
 have fB := Aside0.mk hc2_4
 clear hr2_4 hc2_4
 have HB := Aside0.mk (Below.refl w.heap.size w)
 have H : ((impl_Disk_has.f l0_0 a1).bind fun wB => (if wB = true then ((impl_isBatch.f a2_0 a2_1 a2_2 a2_3 l2_4).bind fun pB => (impl_WriteBatch.j0 k a1 (!pB) l0_0 a2_0 a2_1 a2_2 a2_3 l2_4)) else (impl_WriteBatch.j0 k a1 true l0_0 a2_0 a2_1 a2_2 a2_3 l2_4))) = some (r1, r2) := h
 clear h
 have rH := Aside0.mk H
 clear H
 go_enter Try.func20, Try.ntmps20
 go_upto_region 1 with (first | ((with_reducible refine gate_dst (N := 3) rfl ?_); (try (refine gate_guard (by rfl) ?_; dsimp only)); refine bq_ (N := 3) #[.slice A0_0 l0_0.length c0_0] 31 ?_; intro iB hg w5 bA hb; have dA := ge_ hg; replace HB := nb_ hb; clear hb hg) | ((with_reducible refine gate_dst (N := 5) rfl ?_); (try (refine gate_guard (by rfl) ?_; dsimp only)); refine bq_ (N := 5) #[.int .i64 a2_0, .int .i64 a2_1, .int .i64 a2_2, .int .i64 a2_3, .slice A2_4 l2_4.length c2_4] 44 ?_; intro yA hg w6 aA hb; have fA := ge1_ hg dA; replace HB := nc_ dA hb; have tA := nl_ bA hg; have uA := ng_ bA hg; replace bA := bK_ bA hb; clear hb hg) | ((with_reducible refine gate_dst (N := 6) rfl ?_); (try (refine gate_guard (by rfl) ?_; dsimp only)); refine bq_ (N := 6) #[.slice none 0 0] 31 ?_; intro xA hg w7 cA hb; have hA := ge2_ hg dA fA; replace HB := nc2_ dA fA hb; have oA := nl_ bA hg; have pA := ng_ bA hg; replace bA := bK_ bA hb; have vA := nl_ aA hg; have wA := ng_ aA hg; replace aA := bK_ aA hb; clear hb hg))
 (try simp only [Act.put, List.setIfInBounds_toArray, List.set_cons_zero, List.set_cons_succ])
 go_cut [20] (fun nK wc => ∃ (kq : Nat) (oB : Bool), nK = .bool oB ∧ Aside0 (impl_WriteBatch.j0 kq a1 oB l0_0 a2_0 a2_1 a2_2 a2_3 l2_4 = some (r1, r2)) ∧ Aside0 (kq ≤ k) ∧ Aside0 (wc.heap[iB]? = some (.cells #[(.slice A0_0 l0_0.length c0_0)] 31 (0, 0))) ∧ Aside0 (wc.heap[yA]? = some (.cells #[.int .i64 a2_0, .int .i64 a2_1, .int .i64 a2_2, .int .i64 a2_3, (.slice A2_4 l2_4.length c2_4)] 44 (0, 0))) ∧ Aside0 (wc.heap[xA]? = some (.cells #[(.slice none 0 0)] 31 (0, 0))) ∧ Aside0 (Below w.heap.size w wc))
 case first =>
  have H := rH.out
  clear rH
  replace H := bnd_ H
  obtain ⟨wB, A8, H⟩ := H
  replace H := ifb_ H
  obtain ⟨rfl, H⟩ | ⟨rfl, H⟩ := H
  rotate_left
  ·have H' := Aside0.mk H
   clear H
   have zH := tA.out
   have aI := uA.out
   have bI := oA.out
   have cI := pA.out
   obtain ⟨tC, uC⟩ := cf1_ bA.out
   go_wp2_with (first | ((with_reducible refine gate_callee (f := 52) rfl ?_); refine gl_ 14 Try.func52 #[.agg #[.slice A0_0 l0_0.length c0_0], .int .i64 a1] rfl ma_ ?_; (with_reducible refine (impl_Disk_has.calls _ _ l0_0 a1 false _ ?side1 ?side2 A8.out).mono ?_); (case side1 => exact cs_ ((Kd.C_below gB.out HB.out))); (case side2 => exact nB.out); rintro e zK ⟨rfl, hb⟩; refine ⟨_, rfl, ?_⟩; replace bA := bK_ bA hb; replace aA := bK_ aA hb; replace cA := bK_ cA hb; replace HB := nc3_ dA fA hA hb; (try clear hb); (try clear hb2); (try clear hk); (try clear hi)))
   go_meet
   case rel => exact ⟨_, (true), sr_, H', ⟨by first | omega | exact Nat.le_refl _⟩, ⟨kb_ bA.out⟩, ⟨kb_ aA.out⟩, ⟨kb_ cA.out⟩, ⟨hs3_ dA.out fA.out hA.out⟩⟩
  replace H := bnd_ H
  obtain ⟨pB, oK, H⟩ := H
  have H' := Aside0.mk H
  clear H
  have dI := tA.out
  have eI := uA.out
  have fI := oA.out
  have gI := pA.out
  obtain ⟨vC, wC⟩ := cf1_ bA.out
  go_wp2_with (first | ((with_reducible refine gate_callee (f := 52) rfl ?_); refine gl_ 14 Try.func52 #[.agg #[.slice A0_0 l0_0.length c0_0], .int .i64 a1] rfl ma_ ?_; (with_reducible refine (impl_Disk_has.calls _ _ l0_0 a1 true _ ?side1 ?side2 A8.out).mono ?_); (case side1 => exact cs_ ((Kd.C_below gB.out HB.out))); (case side2 => exact nB.out); rintro e bL ⟨rfl, hb⟩; refine ⟨_, rfl, ?_⟩; replace bA := bK_ bA hb; replace aA := bK_ aA hb; replace cA := bK_ cA hb; replace HB := nc3_ dA fA hA hb; (try clear hb); (try clear hb2); (try clear hk); (try clear hi); have hI := vA.out; have iI := wA.out; obtain ⟨xC, yC, zC, aD, bD, cD, dD, eD, fD, gD⟩ := cf5_ aA.out) | (go_at_call 63; (with_reducible refine (impl_isBatch.calls a2_0 a2_1 a2_2 a2_3 _ _ l2_4 pB _ ?side1 ?side2 oK.out).mono ?_); (case side1 => exact cs_ ((Kd.C_below eB.out HB.out))); (case side2 => exact fB.out); rintro e cL ⟨rfl, hb⟩; replace bA := bK_ bA hb; replace aA := bK_ aA hb; replace cA := bK_ cA hb; replace HB := nc3_ dA fA hA hb; (try clear hb); (try clear hb2); (try clear hk); (try clear hi)))
  go_meet
  case rel => exact ⟨_, (!pB), sr_, H', ⟨by first | omega | exact Nat.le_refl _⟩, ⟨kb_ bA.out⟩, ⟨kb_ aA.out⟩, ⟨kb_ cA.out⟩, ⟨hs3_ dA.out fA.out hA.out⟩⟩
 case rest =>
  clear rH
  obtain ⟨kq, oB, rfl, HA, dL, bA, aA, cA, HB⟩ := hcut
  cases kq with
  | zero => exact absurd HA.out (by simp [impl_WriteBatch.j0])
  | succ kj3 =>
   have H := HA.out
   clear HA
   simp only [impl_WriteBatch.j0] at H
   replace H := ifb_ H
   obtain ⟨rfl, H⟩ | ⟨rfl, H⟩ := H
   ·simp only [Option.some.injEq, Prod.mk.injEq] at H
    obtain ⟨rfl, rfl⟩ := H
    have jI := pA.out
    have kI := oA.out
    have lI := wA.out
    have mI := vA.out
    obtain ⟨hD, iD⟩ := cf1_ cA.out
    go_wp2
    refine bodyPost_ret (results_ct rfl _ _ xA 31 #[.slice none 0 0] (0, 0) _ rfl (up_ cA) Try.underlying31 rfl (by kernel_rfl)) rfl ?_
    exact ⟨_, er_, ni_, hs3_ dA.out fA.out hA.out⟩
   replace H := ifs_ H
   obtain ⟨nI, H⟩ := H
   have xB := decide_eq_true nI
   clear nI
   replace H := ifs_ H
   obtain ⟨oI, H⟩ := H
   have yB := decide_eq_true oI
   clear oI
   replace H := bnd_ H
   obtain ⟨⟨kB, jB⟩, jD, H⟩ := H
   replace H := red_ H
   replace H := bnd_ H
   obtain ⟨hB, kD, H⟩ := H
   replace H := ite_ H
   obtain ⟨vB, H⟩ | ⟨vB, H⟩ := H
   rotate_left
   ·have qB : (jB == (((rd_T56 l0_0 a1).f0).size : Int)) = false := beq_eq_false_iff_ne.mpr vB
    have zB : (jB != (((rd_T56 l0_0 a1).f0).size : Int)) = true := bne_iff_ne.mpr vB
    simp only [Option.some.injEq, Prod.mk.injEq] at H
    obtain ⟨rfl, rfl⟩ := H
    have pI := tA.out
    have qI := uA.out
    have rI := oA.out
    have sI := pA.out
    obtain ⟨lD, mD⟩ := cf1_ bA.out
    have bB : 0 ≤ (a1 : Int) := oa_
    have cB : a1 < (l0_0.length : Int) := oa_
    obtain ⟨dB, lB, mA, nA⟩ := at_T56 gB.out a1 bB cB
    cases lB
    replace mA := pc_ HB.out mA
    replace nA := pc_ HB.out nA
    replace bB := eq_true bB
    replace cB := eq_true cB
    go_wp2_with (first | ((with_reducible refine gate_dst (N := 8) rfl ?_); (try (refine gate_guard (by rfl) ?_; dsimp only)); refine box_event ?hg (N := 8) ?hd (cs := #[.string (⟨#[]⟩ : ByteArray), .int .i64 0]) (t := 56) ?hr ?_; (case hd => rfl); (case hg => rfl); (case hr => first | (go_simp; done) | (go_simp; rfl)); intro zA hg eL hbox hb; have gA := Aside0.mk (hbox); have lA := ge3_ hg dA fA hA; replace HB := nc3_ dA fA hA hb; have iA := nl_ bA hg; have qA := ng_ bA hg; replace bA := bK_ bA hb; have eA := nl_ aA hg; have rA := ng_ aA hg; replace aA := bK_ aA hb; have jA := nl_ cA hg; have sA := ng_ cA hg; replace cA := bK_ cA hb; clear hb hbox hg; have tI := qA.out; have uI := iA.out; have vI := rA.out; have wI := eA.out; have xI := sA.out; have yI := jA.out; obtain ⟨nD, oD, pD, qD⟩ := cf2_ gA.out) | ((with_reducible refine gate_callee (f := 53) rfl ?_); refine gl_ 30 Try.func53 #[.string ((rd_T56 l0_0 a1).f0)] rfl ma_ ?_; (with_reducible refine (impl_readLog.calls kj3 ((rd_T56 l0_0 a1).f0) kB jB _ jD.out).mono ?_); rintro e fL ⟨tB, rfl, mB, hb⟩; refine ⟨_, rfl, ?_⟩; have kA := Aside0.mk (Kd.S_lower (Kd.S_newB mB (g := yA) (o := .cells #[.int .i64 a2_0, .int .i64 a2_1, .int .i64 a2_2, .int .i64 a2_3, .slice A2_4 l2_4.length c2_4] 44 (0, 0)) (uf_ aA eA.out)) (below_size (hs4_ dA.out fA.out hA.out lA.out))); replace bA := Aside0.mk (blk_below (g := iB) (o := .cells #[.slice (some dB) l0_0.length c0_0] 31 (0, 0)) (uf_ bA iA.out) hb); replace aA := Aside0.mk (blk_below (g := yA) (o := .cells #[.int .i64 a2_0, .int .i64 a2_1, .int .i64 a2_2, .int .i64 a2_3, .slice A2_4 l2_4.length c2_4] 44 (0, 0)) (uf_ aA eA.out) hb); replace cA := Aside0.mk (blk_below (g := xA) (o := .cells #[.slice none 0 0] 31 (0, 0)) (uf_ cA jA.out) hb); replace gA := Aside0.mk (blk_below (g := zA) (o := .cells #[.string ((rd_T56 l0_0 a1).f0), .int .i64 ((rd_T56 l0_0 a1).f1)] 56 (0, 0)) (up_ gA) hb); replace HB := nc4_ dA fA hA lA hb; (try clear hb); (try clear hb2); (try clear hk); (try clear hi); (try clear mB); have sH := vA.out; have tH := wA.out; obtain ⟨aC, bC, cC, dC, eC, fC, gC, hC, iC, jC⟩ := cf5_ aA.out) | ((with_reducible refine gate_callee (f := 64) rfl ?_); refine gl_ 34 Try.func64 #[.agg #[.int .i64 a2_0, .int .i64 a2_1, .int .i64 a2_2, .int .i64 a2_3, .slice A2_4 l2_4.length c2_4]] rfl ma_ ?_; (with_reducible refine (impl_batchBytes.calls kj3 a2_0 a2_1 a2_2 a2_3 _ _ l2_4 hB _ ?side1 ?side2 kD.out).mono ?_); (case side1 => exact cs_ ((Kd.C_below eB.out HB.out))); (case side2 => exact fB.out); rintro e pK ⟨rfl, hb⟩; refine ⟨_, rfl, ?_⟩; replace kA := sB_ kA hb; replace bA := bK_ bA hb; replace aA := bK_ aA hb; replace cA := bK_ cA hb; replace gA := bK_ gA hb; replace HB := nc4_ dA fA hA lA hb; (try clear hb); (try clear hb2); (try clear hk); (try clear hi); obtain ⟨kC, lC, mC, nC⟩ := cf2_ gA.out; obtain ⟨oC, pC⟩ := cf1_ cA.out))
    refine bodyPost_ret (results_ct rfl _ _ xA 31 #[.slice none 0 0] (0, 0) _ rfl (up_ cA) Try.underlying31 rfl (by kernel_rfl)) rfl ?_
    exact ⟨_, er_, ni_, hs4_ dA.out fA.out hA.out lA.out⟩
   have qB : (jB == (((rd_T56 l0_0 a1).f0).size : Int)) = true := beq_iff_eq.mpr vB
   have zB : (jB != (((rd_T56 l0_0 a1).f0).size : Int)) = false := bne_eq_false_iff_eq.mpr vB
   clear vB
   replace H := bnd_ H
   obtain ⟨qK, uH, H⟩ := H
   replace H := ifb_ H
   obtain ⟨rfl, H⟩ | ⟨rfl, H⟩ := H
   rotate_left
   ·simp only [Option.some.injEq, Prod.mk.injEq] at H
    obtain ⟨rfl, rfl⟩ := H
    have zI := tA.out
    have aJ := uA.out
    have bJ := oA.out
    have cJ := pA.out
    obtain ⟨rD, sD⟩ := cf1_ bA.out
    have bB : 0 ≤ (a1 : Int) := oa_
    have cB : a1 < (l0_0.length : Int) := oa_
    obtain ⟨dB, lB, mA, nA⟩ := at_T56 gB.out a1 bB cB
    cases lB
    replace mA := pc_ HB.out mA
    replace nA := pc_ HB.out nA
    replace bB := eq_true bB
    replace cB := eq_true cB
    go_wp2_with (first | ((with_reducible refine gate_dst (N := 8) rfl ?_); (try (refine gate_guard (by rfl) ?_; dsimp only)); refine box_event ?hg (N := 8) ?hd (cs := #[.string (⟨#[]⟩ : ByteArray), .int .i64 0]) (t := 56) ?hr ?_; (case hd => rfl); (case hg => rfl); (case hr => first | (go_simp; done) | (go_simp; rfl)); intro zA hg gL hbox hb; have gA := Aside0.mk (hbox); have lA := ge3_ hg dA fA hA; replace HB := nc3_ dA fA hA hb; have iA := nl_ bA hg; have qA := ng_ bA hg; replace bA := bK_ bA hb; have eA := nl_ aA hg; have rA := ng_ aA hg; replace aA := bK_ aA hb; have jA := nl_ cA hg; have sA := ng_ cA hg; replace cA := bK_ cA hb; clear hb hbox hg; have dJ := qA.out; have eJ := iA.out; have fJ := rA.out; have gJ := eA.out; have hJ := sA.out; have iJ := jA.out; obtain ⟨tD, uD, vD, wD⟩ := cf2_ gA.out) | ((with_reducible refine gate_callee (f := 53) rfl ?_); refine gl_ 30 Try.func53 #[.string ((rd_T56 l0_0 a1).f0)] rfl ma_ ?_; (with_reducible refine (impl_readLog.calls kj3 ((rd_T56 l0_0 a1).f0) kB jB _ jD.out).mono ?_); rintro e hL ⟨tB, rfl, mB, hb⟩; refine ⟨_, rfl, ?_⟩; have kA := Aside0.mk (Kd.S_lower (Kd.S_newB mB (g := yA) (o := .cells #[.int .i64 a2_0, .int .i64 a2_1, .int .i64 a2_2, .int .i64 a2_3, .slice A2_4 l2_4.length c2_4] 44 (0, 0)) (uf_ aA eA.out)) (below_size (hs4_ dA.out fA.out hA.out lA.out))); replace bA := Aside0.mk (blk_below (g := iB) (o := .cells #[.slice (some dB) l0_0.length c0_0] 31 (0, 0)) (uf_ bA iA.out) hb); replace aA := Aside0.mk (blk_below (g := yA) (o := .cells #[.int .i64 a2_0, .int .i64 a2_1, .int .i64 a2_2, .int .i64 a2_3, .slice A2_4 l2_4.length c2_4] 44 (0, 0)) (uf_ aA eA.out) hb); replace cA := Aside0.mk (blk_below (g := xA) (o := .cells #[.slice none 0 0] 31 (0, 0)) (uf_ cA jA.out) hb); replace gA := Aside0.mk (blk_below (g := zA) (o := .cells #[.string ((rd_T56 l0_0 a1).f0), .int .i64 ((rd_T56 l0_0 a1).f1)] 56 (0, 0)) (up_ gA) hb); replace HB := nc4_ dA fA hA lA hb; (try clear hb); (try clear hb2); (try clear hk); (try clear hi); (try clear mB); have jJ := vA.out; have kJ := wA.out; obtain ⟨xD, yD, zD, aE, bE, cE, dE, eE, fE, gE⟩ := cf5_ aA.out) | ((with_reducible refine gate_callee (f := 64) rfl ?_); refine gl_ 34 Try.func64 #[.agg #[.int .i64 a2_0, .int .i64 a2_1, .int .i64 a2_2, .int .i64 a2_3, .slice A2_4 l2_4.length c2_4]] rfl ma_ ?_; (with_reducible refine (impl_batchBytes.calls kj3 a2_0 a2_1 a2_2 a2_3 _ _ l2_4 hB _ ?side1 ?side2 kD.out).mono ?_); (case side1 => exact cs_ ((Kd.C_below eB.out HB.out))); (case side2 => exact fB.out); rintro e iL ⟨rfl, hb⟩; refine ⟨_, rfl, ?_⟩; replace kA := sB_ kA hb; replace bA := bK_ bA hb; replace aA := bK_ aA hb; replace cA := bK_ cA hb; replace gA := bK_ gA hb; replace HB := nc4_ dA fA hA lA hb; (try clear hb); (try clear hb2); (try clear hk); (try clear hi); obtain ⟨hE, iE, jE, kE⟩ := cf2_ gA.out; obtain ⟨lE, mE, nE, oE, pE, qE, rE, sE, tE, uE⟩ := cf5_ aA.out; obtain ⟨rK, sK, vH⟩ := Kd.S_slice kA.out; subst vH) | (go_at_call 65; (with_reducible refine (impl_follows.calls _ _ kB a2_0 a2_1 a2_2 a2_3 _ _ l2_4 false _ ?side1 ?side2 ?side3 ?side4 uH.out).mono ?_); (case side1 => exact cs_ ((Kd.S_reads' kA.out).2.2)); (case side2 => exact (Kd.S_reads' kA.out).2.1); (case side3 => exact cs_ ((Kd.C_below eB.out HB.out))); (case side4 => exact fB.out); rintro e jL ⟨rfl, hb⟩; replace kA := sB_ kA hb; replace bA := bK_ bA hb; replace aA := bK_ aA hb; replace cA := bK_ cA hb; replace gA := bK_ gA hb; replace HB := nc4_ dA fA hA lA hb; (try clear hb); (try clear hb2); (try clear hk); (try clear hi); obtain ⟨vE, wE⟩ := cf1_ cA.out))
    refine bodyPost_ret (results_ct rfl _ _ xA 31 #[.slice none 0 0] (0, 0) _ rfl (up_ cA) Try.underlying31 rfl (by kernel_rfl)) rfl ?_
    exact ⟨_, er_, ni_, hs4_ dA.out fA.out hA.out lA.out⟩
   replace H := ite_ H
   obtain ⟨qC, H⟩ | ⟨qC, H⟩ := H
   ·have rB := dgt_ qC
    clear qC
    simp only [Option.some.injEq, Prod.mk.injEq] at H
    obtain ⟨rfl, rfl⟩ := H
    have lJ := tA.out
    have mJ := uA.out
    have nJ := oA.out
    have oJ := pA.out
    obtain ⟨xE, yE⟩ := cf1_ bA.out
    have bB : 0 ≤ (a1 : Int) := oa_
    have cB : a1 < (l0_0.length : Int) := oa_
    obtain ⟨dB, lB, mA, nA⟩ := at_T56 gB.out a1 bB cB
    cases lB
    replace mA := pc_ HB.out mA
    replace nA := pc_ HB.out nA
    replace bB := eq_true bB
    replace cB := eq_true cB
    go_wp2_with (first | ((with_reducible refine gate_dst (N := 8) rfl ?_); (try (refine gate_guard (by rfl) ?_; dsimp only)); refine box_event ?hg (N := 8) ?hd (cs := #[.string (⟨#[]⟩ : ByteArray), .int .i64 0]) (t := 56) ?hr ?_; (case hd => rfl); (case hg => rfl); (case hr => first | (go_simp; done) | (go_simp; rfl)); intro zA hg kL hbox hb; have gA := Aside0.mk (hbox); have lA := ge3_ hg dA fA hA; replace HB := nc3_ dA fA hA hb; have iA := nl_ bA hg; have qA := ng_ bA hg; replace bA := bK_ bA hb; have eA := nl_ aA hg; have rA := ng_ aA hg; replace aA := bK_ aA hb; have jA := nl_ cA hg; have sA := ng_ cA hg; replace cA := bK_ cA hb; clear hb hbox hg; have pJ := qA.out; have qJ := iA.out; have rJ := rA.out; have sJ := eA.out; have tJ := sA.out; have uJ := jA.out; obtain ⟨zE, bF, cF, dF⟩ := cf2_ gA.out) | ((with_reducible refine gate_callee (f := 53) rfl ?_); refine gl_ 30 Try.func53 #[.string ((rd_T56 l0_0 a1).f0)] rfl ma_ ?_; (with_reducible refine (impl_readLog.calls kj3 ((rd_T56 l0_0 a1).f0) kB jB _ jD.out).mono ?_); rintro e lL ⟨tB, rfl, mB, hb⟩; refine ⟨_, rfl, ?_⟩; have kA := Aside0.mk (Kd.S_lower (Kd.S_newB mB (g := yA) (o := .cells #[.int .i64 a2_0, .int .i64 a2_1, .int .i64 a2_2, .int .i64 a2_3, .slice A2_4 l2_4.length c2_4] 44 (0, 0)) (uf_ aA eA.out)) (below_size (hs4_ dA.out fA.out hA.out lA.out))); replace bA := Aside0.mk (blk_below (g := iB) (o := .cells #[.slice (some dB) l0_0.length c0_0] 31 (0, 0)) (uf_ bA iA.out) hb); replace aA := Aside0.mk (blk_below (g := yA) (o := .cells #[.int .i64 a2_0, .int .i64 a2_1, .int .i64 a2_2, .int .i64 a2_3, .slice A2_4 l2_4.length c2_4] 44 (0, 0)) (uf_ aA eA.out) hb); replace cA := Aside0.mk (blk_below (g := xA) (o := .cells #[.slice none 0 0] 31 (0, 0)) (uf_ cA jA.out) hb); replace gA := Aside0.mk (blk_below (g := zA) (o := .cells #[.string ((rd_T56 l0_0 a1).f0), .int .i64 ((rd_T56 l0_0 a1).f1)] 56 (0, 0)) (up_ gA) hb); replace HB := nc4_ dA fA hA lA hb; (try clear hb); (try clear hb2); (try clear hk); (try clear hi); (try clear mB); have vJ := vA.out; have wJ := wA.out; obtain ⟨eF, fF, gF, hF, iF, jF, kF, lF, mF, nF⟩ := cf5_ aA.out) | ((with_reducible refine gate_callee (f := 64) rfl ?_); refine gl_ 34 Try.func64 #[.agg #[.int .i64 a2_0, .int .i64 a2_1, .int .i64 a2_2, .int .i64 a2_3, .slice A2_4 l2_4.length c2_4]] rfl ma_ ?_; (with_reducible refine (impl_batchBytes.calls kj3 a2_0 a2_1 a2_2 a2_3 _ _ l2_4 hB _ ?side1 ?side2 kD.out).mono ?_); (case side1 => exact cs_ ((Kd.C_below eB.out HB.out))); (case side2 => exact fB.out); rintro e mL ⟨rfl, hb⟩; refine ⟨_, rfl, ?_⟩; replace kA := sB_ kA hb; replace bA := bK_ bA hb; replace aA := bK_ aA hb; replace cA := bK_ cA hb; replace gA := bK_ gA hb; replace HB := nc4_ dA fA hA lA hb; (try clear hb); (try clear hb2); (try clear hk); (try clear hi); obtain ⟨oF, pF, qF, rF⟩ := cf2_ gA.out; obtain ⟨sF, tF, uF, vF, wF, xF, yF, zF, aG, bG⟩ := cf5_ aA.out; obtain ⟨tK, uK, wH⟩ := Kd.S_slice kA.out; subst wH) | (go_at_call 65; (with_reducible refine (impl_follows.calls _ _ kB a2_0 a2_1 a2_2 a2_3 _ _ l2_4 true _ ?side1 ?side2 ?side3 ?side4 uH.out).mono ?_); (case side1 => exact cs_ ((Kd.S_reads' kA.out).2.2)); (case side2 => exact (Kd.S_reads' kA.out).2.1); (case side3 => exact cs_ ((Kd.C_below eB.out HB.out))); (case side4 => exact fB.out); rintro e nL ⟨rfl, hb⟩; replace kA := sB_ kA hb; replace bA := bK_ bA hb; replace aA := bK_ aA hb; replace cA := bK_ cA hb; replace gA := bK_ gA hb; replace HB := nc4_ dA fA hA lA hb; (try clear hb); (try clear hb2); (try clear hk); (try clear hi); obtain ⟨cG, dG⟩ := cf1_ cA.out))
    refine bodyPost_ret (results_ct rfl _ _ xA 31 #[.slice none 0 0] (0, 0) _ rfl (up_ cA) Try.underlying31 rfl (by kernel_rfl)) rfl ?_
    exact ⟨_, er_, ni_, hs4_ dA.out fA.out hA.out lA.out⟩
   have rB := dgf_ qC
   clear qC
   replace H := ifs_ H
   obtain ⟨eG, H⟩ := H
   have xJ := eq_true eG
   have yJ := decide_eq_true eG
   try have zJ : (9223372036854775807 < ((rd_T56 l0_0 a1).f0).size + hB.size) = False := eq_false (Nat.not_lt.2 eG)
   try have c51w := cw_ eG
   (try rw [c51w] at xB)
   (try rw [c51w] at yB)
   (try rw [c51w] at qB)
   (try rw [c51w] at rB)
   replace H := bnd_ H
   obtain ⟨uB, vK, H⟩ := H
   simp only [Option.some.injEq, Prod.mk.injEq] at H
   obtain ⟨rfl, rfl⟩ := H
   have aK := tA.out
   have bK := uA.out
   have cK := oA.out
   have dK := pA.out
   obtain ⟨fG, gG⟩ := cf1_ bA.out
   have bB : 0 ≤ (a1 : Int) := oa_
   have cB : a1 < (l0_0.length : Int) := oa_
   obtain ⟨dB, lB, mA, nA⟩ := at_T56 gB.out a1 bB cB
   cases lB
   replace mA := pc_ HB.out mA
   replace nA := pc_ HB.out nA
   replace bB := eq_true bB
   replace cB := eq_true cB
   go_wp2_with (first | ((with_reducible refine gate_dst (N := 8) rfl ?_); (try (refine gate_guard (by rfl) ?_; dsimp only)); refine box_event ?hg (N := 8) ?hd (cs := #[.string (⟨#[]⟩ : ByteArray), .int .i64 0]) (t := 56) ?hr ?_; (case hd => rfl); (case hg => rfl); (case hr => first | (go_simp; done) | (go_simp; rfl)); intro zA hg oL hbox hb; have gA := Aside0.mk (hbox); have lA := ge3_ hg dA fA hA; replace HB := nc3_ dA fA hA hb; have iA := nl_ bA hg; have qA := ng_ bA hg; replace bA := bK_ bA hb; have eA := nl_ aA hg; have rA := ng_ aA hg; replace aA := bK_ aA hb; have jA := nl_ cA hg; have sA := ng_ cA hg; replace cA := bK_ cA hb; clear hb hbox hg; have eK := qA.out; have fK := iA.out; have gK := rA.out; have iK := eA.out; have jK := sA.out; have kK := jA.out; obtain ⟨hG, iG, jG, kG⟩ := cf2_ gA.out) | ((with_reducible refine gate_callee (f := 53) rfl ?_); refine gl_ 30 Try.func53 #[.string ((rd_T56 l0_0 a1).f0)] rfl ma_ ?_; (with_reducible refine (impl_readLog.calls kj3 ((rd_T56 l0_0 a1).f0) kB jB _ jD.out).mono ?_); rintro e pL ⟨tB, rfl, mB, hb⟩; refine ⟨_, rfl, ?_⟩; have kA := Aside0.mk (Kd.S_lower (Kd.S_newB mB (g := yA) (o := .cells #[.int .i64 a2_0, .int .i64 a2_1, .int .i64 a2_2, .int .i64 a2_3, .slice A2_4 l2_4.length c2_4] 44 (0, 0)) (uf_ aA eA.out)) (below_size (hs4_ dA.out fA.out hA.out lA.out))); replace bA := Aside0.mk (blk_below (g := iB) (o := .cells #[.slice (some dB) l0_0.length c0_0] 31 (0, 0)) (uf_ bA iA.out) hb); replace aA := Aside0.mk (blk_below (g := yA) (o := .cells #[.int .i64 a2_0, .int .i64 a2_1, .int .i64 a2_2, .int .i64 a2_3, .slice A2_4 l2_4.length c2_4] 44 (0, 0)) (uf_ aA eA.out) hb); replace cA := Aside0.mk (blk_below (g := xA) (o := .cells #[.slice none 0 0] 31 (0, 0)) (uf_ cA jA.out) hb); replace gA := Aside0.mk (blk_below (g := zA) (o := .cells #[.string ((rd_T56 l0_0 a1).f0), .int .i64 ((rd_T56 l0_0 a1).f1)] 56 (0, 0)) (up_ gA) hb); replace HB := nc4_ dA fA hA lA hb; (try clear hb); (try clear hb2); (try clear hk); (try clear hi); (try clear mB); have lK := vA.out; have mK := wA.out; obtain ⟨lG, mG, nG, oG, pG, qG, rG, sG, tG, uG⟩ := cf5_ aA.out) | ((with_reducible refine gate_callee (f := 64) rfl ?_); refine gl_ 34 Try.func64 #[.agg #[.int .i64 a2_0, .int .i64 a2_1, .int .i64 a2_2, .int .i64 a2_3, .slice A2_4 l2_4.length c2_4]] rfl ma_ ?_; (with_reducible refine (impl_batchBytes.calls kj3 a2_0 a2_1 a2_2 a2_3 _ _ l2_4 hB _ ?side1 ?side2 kD.out).mono ?_); (case side1 => exact cs_ ((Kd.C_below eB.out HB.out))); (case side2 => exact fB.out); rintro e qL ⟨rfl, hb⟩; refine ⟨_, rfl, ?_⟩; replace kA := sB_ kA hb; replace bA := bK_ bA hb; replace aA := bK_ aA hb; replace cA := bK_ cA hb; replace gA := bK_ gA hb; replace HB := nc4_ dA fA hA lA hb; (try clear hb); (try clear hb2); (try clear hk); (try clear hi); obtain ⟨vG, wG, xG, yG⟩ := cf2_ gA.out; obtain ⟨zG, aH, bH, cH, dH, eH, fH, gH, hH, iH⟩ := cf5_ aA.out; obtain ⟨wK, xK, xH⟩ := Kd.S_slice kA.out; subst xH) | (go_at_call 65; (with_reducible refine (impl_follows.calls _ _ kB a2_0 a2_1 a2_2 a2_3 _ _ l2_4 true _ ?side1 ?side2 ?side3 ?side4 uH.out).mono ?_); (case side1 => exact cs_ ((Kd.S_reads' kA.out).2.2)); (case side2 => exact (Kd.S_reads' kA.out).2.1); (case side3 => exact cs_ ((Kd.C_below eB.out HB.out))); (case side4 => exact fB.out); rintro e rL ⟨rfl, hb⟩; replace kA := sB_ kA hb; replace bA := bK_ bA hb; replace aA := bK_ aA hb; replace cA := bK_ cA hb; replace gA := bK_ gA hb; replace HB := nc4_ dA fA hA lA hb; (try clear hb); (try clear hb2); (try clear hk); (try clear hi); obtain ⟨jH, kH, lH, mH⟩ := cf2_ gA.out; obtain ⟨nH, oH⟩ := cf1_ bA.out) | ((with_reducible refine gate_callee (f := 66) rfl ?_); refine gl_ 62 Try.func66 #[.agg #[.slice (some dB) l0_0.length c0_0], .int .i64 a1, .agg #[.string (((rd_T56 l0_0 a1).f0) ++ hB), .int .i64 ((rd_T56 l0_0 a1).f1)]] rfl ma_ ?_; (with_reducible refine (impl_Disk_with.calls _ _ l0_0 a1 (((rd_T56 l0_0 a1).f0) ++ hB) ((rd_T56 l0_0 a1).f1) uB _ ?side1 ?side2 vK.out).mono ?_); (case side1 => exact Kd.C_below gB.out (hs4_ dA.out fA.out hA.out lA.out)); (case side2 => exact nB.out); rintro e sL ⟨yK, rfl, mB, hb⟩; refine ⟨_, rfl, ?_⟩; replace kA := Aside0.mk (Kd.S_below (sF_ (Kd.S_mono (Kd.S_far (p := ⟨zA, 0, none⟩) (Kd.S_types kA.out gA.out (by decide)) (fun _ hk => hk.2) (.string (((rd_T56 l0_0 a1).f0) ++ hB))) (fun _ h_ => h_.1))) hb); have sB := Aside0.mk (Kd.R_lower (Kd.R_newB mB (g := zA) (o := .cells #[.string (((rd_T56 l0_0 a1).f0) ++ hB), .int .i64 ((rd_T56 l0_0 a1).f1)] 56 (0, 0)) (up_ gA)) (below_size (hs4_ dA.out fA.out hA.out lA.out))); replace bA := Aside0.mk (blk_below (g := iB) (o := .cells #[.slice (some dB) l0_0.length c0_0] 31 (0, 0)) (uf_ bA iA.out) hb); replace aA := Aside0.mk (blk_below (g := yA) (o := .cells #[.int .i64 a2_0, .int .i64 a2_1, .int .i64 a2_2, .int .i64 a2_3, .slice A2_4 l2_4.length c2_4] 44 (0, 0)) (uf_ aA eA.out) hb); replace cA := Aside0.mk (blk_below (g := xA) (o := .cells #[.slice none 0 0] 31 (0, 0)) (uf_ cA jA.out) hb); replace gA := Aside0.mk (blk_below (g := zA) (o := .cells #[.string (((rd_T56 l0_0 a1).f0) ++ hB), .int .i64 ((rd_T56 l0_0 a1).f1)] 56 (0, 0)) (up_ gA) hb); replace HB := nc4_ dA fA hA lA hb; (try clear hb); (try clear hb2); (try clear hk); (try clear hi); (try clear mB); obtain ⟨rC, sC, yH⟩ := Kd.R_slice sB.out; subst yH; obtain ⟨pH, qH⟩ := cf1_ cA.out))
   refine bodyPost_ret (results_ct rfl _ _ xA 31 #[.slice rC uB.length sC] (0, 0) _ rfl (up_ cA) Try.underlying31 rfl (by kernel_rfl)) rfl ?_
   exact ⟨_, er_, rF_ (Kd.R_mono (Kd.R_far (p := ⟨xA, 0, none⟩) (Kd.R_types sB.out cA.out (by decide)) (fun _ hk => hk.2) (.slice rC uB.length sC)) (fun _ hk => trivial)), hs4_ dA.out fA.out hA.out lA.out⟩

/-! ### spec_SyncFile: function 37 -/
def spec_SyncFile.f (k : Nat) (l0_0 : List (S56)) (a1 : Int) : Option ((List (S56)) × Bool) := (spec_l3File.f k l0_0 a1).bind fun t295 => (if t295 = true then ((spec_l3Own.f l0_0).bind fun t296 => (if 0 ≤ a1 then (if a1 < (t296.length : Int) then (some ((t296.set (a1 : Int).toNat (⟨(rd_T56 t296 a1).f0, (((rd_T56 t296 a1).f0).size : Int)⟩ : S56)), true)) else (none)) else (none))) else (some (([] : List (S56)), false)))
theorem spec_SyncFile.mono : ∀ a0 a1 k, LeO (spec_SyncFile.f k a0 a1) (spec_SyncFile.f (k + 1) a0 a1) := by
 intro a0 a1 k
 unfold spec_SyncFile.f
 repeat' first
   | (with_reducible first | apply spec_l3File.mono | exact LeO.refl _ | exact LeO.none _ | refine LeO.ite ?_ ?_ | refine LeO.bind ?_ (fun _ => ?_))
def spec_SyncFile.T4 : Bool × List (List Nat × List Nat) := (true, [([], []), ([0], [0]), ([], []), ([], []), ([3], [3]), ([], []), ([4, 5], [4, 5]), ([6], [6]), ([7], [7]), ([8], [8]), ([1, 2, 0, 1, 2, 3, 4, 5, 6, 7, 8, 9], [1, 2]), ([10, 0, 1, 2, 3, 4, 5, 6, 7, 8, 9], [10]), ([11, 9, 0, 1, 2, 3, 4, 5, 6, 7, 8, 9], [9, 11])])
def spec_SyncFile.B4 : List Nat := [0, 1, 0, 0, 8, 0, 56, 120, 248, 504, 1023, 2047, 4095]
theorem spec_SyncFile.tab4 : rtab .any (opsOf Try.f37 4) = spec_SyncFile.T4 := by kernel_rfl
theorem spec_SyncFile.bits4 : waitsOk spec_SyncFile.T4.2 spec_SyncFile.B4 = true := by kernel_rfl
set_option maxHeartbeats 8000000 in
set_option maxRecDepth 100000 in
theorem spec_SyncFile.calls (k : Nat) (A0_0 : Option Addr) (c0_0 : Nat) (l0_0 : List (S56)) (a1 : Int) (r1 : List (S56)) (r2 : Bool) (w : World) (hr0_0 : Kd.C k56 w A0_0 l0_0.length l0_0) (hc0_0 : l0_0.length ≤ c0_0) (h : spec_SyncFile.f k l0_0 a1 = some (r1, r2)) :
  Calls Try.prog 37 #[.agg #[.slice A0_0 l0_0.length c0_0], .int .i64 a1] w fun e w' => ∃ v0_ : Value, e = .returned (.tuple #[.agg #[v0_], .bool r2]) ∧ Kd.R k56 56 w' w.heap.size (fun _ => True) v0_ r1 ∧ Below w.heap.size w w' := by
 have hu31 := Try.underlying31
 have uA := Aside0.mk hr0_0
 have vA := Aside0.mk hc0_0
 clear hr0_0 hc0_0
 have HB := Aside0.mk (Below.refl w.heap.size w)
 have H : ((spec_l3File.f k l0_0 a1).bind fun iB => (if iB = true then ((spec_l3Own.f l0_0).bind fun bA => (if 0 ≤ a1 then (if a1 < (bA.length : Int) then (some ((bA.set (a1 : Int).toNat (⟨(rd_T56 bA a1).f0, (((rd_T56 bA a1).f0).size : Int)⟩ : S56)), true)) else (none)) else (none))) else (some (([] : List (S56)), false)))) = some (r1, r2) := h
 clear h
 replace H := bnd_ H
 obtain ⟨iB, A3, H⟩ := H
 replace H := ifb_ H
 obtain ⟨rfl, H⟩ | ⟨rfl, H⟩ := H
 rotate_left
 ·simp only [Option.some.injEq, Prod.mk.injEq] at H
  obtain ⟨rfl, rfl⟩ := H
  go_enter Try.func37, Try.ntmps37
  go_wp2_with (first | ((with_reducible refine gate_dst (N := 2) rfl ?_); refine bq_ (N := 2) #[.slice A0_0 l0_0.length c0_0] 31 ?_; intro wA hg xC aA hb; have eA := ge_ hg; replace HB := nb_ hb; clear hb hg) | ((with_reducible refine gate_dst (N := 4) rfl ?_); refine bq_ (N := 4) #[.slice none 0 0] 31 ?_; intro lA hg yC cA hb; have gA := ge1_ hg eA; replace HB := nc_ eA hb; have jA := nl_ aA hg; have kA := ng_ aA hg; replace aA := bK_ aA hb; clear hb hg; have gC := jA.out; have hC := kA.out; obtain ⟨pB, qB⟩ := cf1_ aA.out) | ((with_reducible refine gate_callee (f := 49) rfl ?_); refine gl_ 9 Try.func49 #[.agg #[.slice A0_0 l0_0.length c0_0], .int .i64 a1] rfl ma_ ?_; (with_reducible refine (spec_l3File.calls k _ _ l0_0 a1 false _ ?side1 ?side2 A3.out).mono ?_); (case side1 => exact cs_ ((Kd.C_below uA.out HB.out))); (case side2 => exact vA.out); rintro e zC ⟨rfl, hb⟩; refine ⟨_, rfl, ?_⟩; replace aA := bK_ aA hb; replace cA := bK_ cA hb; replace HB := nc2_ eA gA hb; (try clear hb); (try clear hb2); (try clear hk); (try clear hi); obtain ⟨rB, sB⟩ := cf1_ cA.out))
  refine bodyPost_ret (results_ct rfl _ _ lA 31 #[.slice none 0 0] (0, 0) _ rfl (up_ cA) Try.underlying31 rfl (by kernel_rfl)) rfl ?_
  exact ⟨_, er_, ni_, hs2_ eA.out gA.out⟩
 replace H := bnd_ H
 obtain ⟨bA, A5, H⟩ := H
 replace H := ifs_ H
 obtain ⟨c6, H⟩ := H
 have tC := decide_eq_true c6
 clear c6
 replace H := ifs_ H
 obtain ⟨c7, H⟩ := H
 have uC := decide_eq_true c7
 clear c7
 obtain ⟨jB, rA⟩ : ∃ y_ : List (S56), y_ = (bA.set (a1 : Int).toNat (⟨(rd_T56 bA a1).f0, (((rd_T56 bA a1).f0).size : Int)⟩ : S56)) := ⟨_, rfl⟩
 replace H : (some (jB, true)) = some (r1, r2) := by first | (rw [rA]; with_reducible exact H) | (have H2_ := (Option.bind_some _ _).symm.trans H; rw [rA]; with_reducible exact H2_) | (have H2_ := (Option.bind_some _ _).symm.trans H; with_reducible exact H2_) | with_reducible exact H | (rw [rA]; exact H) | exact H
 have kB := Aside0.mk rA
 clear rA
 simp only [Option.some.injEq, Prod.mk.injEq] at H
 obtain ⟨rfl, rfl⟩ := H
 go_enter Try.func37, Try.ntmps37
 try go_wp2_with (first | ((with_reducible refine gate_dst (N := 2) rfl ?_); refine bq_ (N := 2) #[.slice A0_0 l0_0.length c0_0] 31 ?_; intro wA hg w9 aA hb; have eA := ge_ hg; replace HB := nb_ hb; clear hb hg) | ((with_reducible refine gate_dst (N := 4) rfl ?_); refine bq_ (N := 4) #[.slice none 0 0] 31 ?_; intro lA hg aD cA hb; have gA := ge1_ hg eA; replace HB := nc_ eA hb; have jA := nl_ aA hg; have kA := ng_ aA hg; replace aA := bK_ aA hb; clear hb hg; have iC := jA.out; have jC := kA.out; obtain ⟨tB, uB⟩ := cf1_ aA.out) | ((with_reducible refine gate_callee (f := 49) rfl ?_); refine gl_ 9 Try.func49 #[.agg #[.slice A0_0 l0_0.length c0_0], .int .i64 a1] rfl ma_ ?_; (with_reducible refine (spec_l3File.calls k _ _ l0_0 a1 true _ ?side1 ?side2 A3.out).mono ?_); (case side1 => exact cs_ ((Kd.C_below uA.out HB.out))); (case side2 => exact vA.out); rintro e bD ⟨rfl, hb⟩; refine ⟨_, rfl, ?_⟩; replace aA := bK_ aA hb; replace cA := bK_ cA hb; replace HB := nc2_ eA gA hb; (try clear hb); (try clear hb2); (try clear hk); (try clear hi); obtain ⟨vB, wB⟩ := cf1_ aA.out) | ((with_reducible refine gate_callee (f := 76) rfl ?_); refine gl_ 13 Try.func76 #[.agg #[.slice A0_0 l0_0.length c0_0]] rfl ma_ ?_; (with_reducible refine (spec_l3Own.calls _ _ l0_0 bA _ ?side1 ?side2 A5.out).mono ?_); (case side1 => exact cs_ ((Kd.C_below uA.out HB.out))); (case side2 => exact vA.out); rintro e cD ⟨vC, rfl, kC, hb⟩; refine ⟨_, rfl, ?_⟩; have dA := Aside0.mk (Kd.R_lower kC (below_size (hs2_ eA.out gA.out))); replace aA := bK_ aA hb; replace cA := bK_ cA hb; replace HB := nc2_ eA gA hb; (try clear hb); (try clear hb2); (try clear hk); (try clear hi); (try clear kC)) | ((with_reducible refine gate_dst (N := 6) rfl ?_); refine bq_ (N := 6) #[.slice none 0 0] 31 ?_; intro hA hg gB fA hb; replace dA := rB_ dA hb; have xA := ge2_ hg eA gA; replace HB := nc2_ eA gA hb; have mA := nl_ aA hg; have sA := ng_ aA hg; replace aA := bK_ aA hb; have nA := nl_ cA hg; have tA := ng_ cA hg; replace cA := bK_ cA hb; clear hb hg; obtain ⟨oA, iA, dC⟩ := Kd.R_slice dA.out; subst dC; have lC := sA.out; have mC := mA.out; have nC := tA.out; have oC := nA.out; obtain ⟨xB, yB⟩ := cf1_ fA.out))
 have n0_ : Aside0 (Kd.R k56 56 (gB.setCell ⟨hA, 0, none⟩ (.slice oA bA.length iA)) w.heap.size (fun _ => True) (.slice oA bA.length iA) bA) := ⟨rF_ (Kd.R_mono (Kd.R_far (p := ⟨hA, 0, none⟩) (Kd.R_types dA.out fA.out (by decide)) (fun _ hk => hk.2) (.slice oA bA.length iA)) (fun _ hk => trivial))⟩
 have n1_ : Aside0 ((gB.setCell ⟨hA, 0, none⟩ (.slice oA bA.length iA)).heap[wA]? = some (.cells #[.slice A0_0 l0_0.length c0_0] 31 (0, 0))) := ⟨uf_ aA mA.out⟩
 have n2_ : Aside0 ((gB.setCell ⟨hA, 0, none⟩ (.slice oA bA.length iA)).heap[lA]? = some (.cells #[.slice none 0 0] 31 (0, 0))) := ⟨uf_ cA nA.out⟩
 have n3_ : Aside0 ((gB.setCell ⟨hA, 0, none⟩ (.slice oA bA.length iA)).heap[hA]? = some (.cells #[.slice oA bA.length iA] 31 (0, 0))) := ⟨up_ fA⟩
 have n4_ : Aside0 (Below w.heap.size w (gB.setCell ⟨hA, 0, none⟩ (.slice oA bA.length iA))) := ⟨hs3_ eA.out gA.out xA.out⟩
 (try clear dA)
 (try clear aA)
 (try clear cA)
 (try clear fA)
 (try clear HB)
 generalize (gB.setCell ⟨hA, 0, none⟩ (.slice oA bA.length iA)) = wC at n0_ n1_ n2_ n3_ n4_ ⊢
 have dA := n0_
 have aA := n1_
 have cA := n2_
 have fA := n3_
 have HB := n4_
 clear n0_ n1_ n2_ n3_ n4_
 replace dA := qR_ dA
 replace aA := qK_ aA
 replace cA := qK_ cA
 replace fA := qK_ fA
 replace HB := qH_ HB
 have bB : 0 ≤ (a1 : Int) := oa_
 have cB : a1 < (bA.length : Int) := oa_
 obtain ⟨pC, eC, pA, qA⟩ := at_T56 (Kd.R_reads' dA.out).2.2 a1 bB cB
 cases eC
 replace bB := eq_true bB
 replace cB := eq_true cB
 have p8 : 0 ≤ (a1 : Int) := oa_
 have q8 : (a1 : Int) < ((bA.length : Int) : Int) := oa_
 obtain ⟨go8, dD, qC, rC, gl8, cl8, sC⟩ := Kd.R_form dA.out (by omega)
 (first | cases qC | (injection qC with ea_ en_ ec_; (first | subst ea_ | (injection ea_ with ea_; subst ea_)); subst ec_; clear en_))
 have GB8 := Aside0.mk rC
 have GG8 := Aside0.mk sC
 clear rC gl8 sC
 (first | simp only [add_plain] at pA | skip)
 (first | simp only [add_plain] at qA | skip)
 obtain ⟨ce8, fC, hM8, dB, eB⟩ := Kd.R_elem dA.out z56 (a1 : Int) p8 q8
 obtain rfl := k56_openM hM8
 have lB : World.cell? _ ⟨go8, (a1 : Int).toNat * 2, none⟩ = some (.string ((rd_T56 bA a1).f0)) := dB 0 _ rfl
 have mB : World.cell? _ ⟨go8, (a1 : Int).toNat * 2 + 1, none⟩ = some (.int .i64 ((rd_T56 bA a1).f1)) := dB 1 _ rfl
 have hf8_0 : World.frozen? _ ⟨go8, (a1 : Int).toNat * 2, none⟩ = false := eB 0
 have hf8_1 : World.frozen? _ ⟨go8, (a1 : Int).toNat * 2 + 1, none⟩ = false := eB 1
 clear fC dB eB; (try clear hM8)
 replace p8 := eq_true p8
 replace q8 := eq_true q8
 obtain ⟨ce23, yA, hM23, zA, nB⟩ := Kd.R_elem dA.out z56 (a1 : Int) (oa_) (by have h_ : (a1 : Int) < ((bA.length : Int) : Int) := oa_; first | exact h_ | (have e_ := (Kd.R_reads' dA.out).1; omega) | simpa using h_)
 obtain rfl := k56_openM hM23
 have fB := (Kd.R_seg dA.out (a1 : Int) (oa_) (by have h_ : (a1 : Int) < ((bA.length : Int) : Int) := oa_; first | exact h_ | (have e_ := (Kd.R_reads' dA.out).1; omega) | simpa using h_) (seg := [.int .i64 (((rd_T56 bA a1).f0).size : Int)]) (j := 1) yA zA (show 2 ≤ 2 from by decide) (x' := (⟨(rd_T56 bA a1).f0, (((rd_T56 bA a1).f0).size : Int)⟩ : S56)) (k56_mkM _ _ _ (⟨(rd_T56 bA a1).f0, (((rd_T56 bA a1).f0).size : Int)⟩ : S56) ) (fun _ hk => hk)).1
 rw [← kB.out] at fB
 have oB := Aside0.mk fB
 clear yA zA nB fB; (try clear hM23)
 refine start_ (n := 13) (S := fun w' => w'.cell? ⟨hA, 0, none⟩ = some (.slice (some ⟨go8, 0, none⟩) bA.length iA) ∧ w'.cell? ⟨go8, ((a1).toNat * 2), none⟩ = some (.string ((rd_T56 bA a1).f0)) ∧ w'.cell? ⟨go8, ((a1).toNat * 2) + 1, none⟩ = some (.int .i64 ((rd_T56 bA a1).f1))) (ds := [12]) (List.replicate 13 false).toArray (by kernel_rfl) rfl rfl ⟨bt_ fA 0, pA, qA⟩ (fun hHeld => ?_); refine with_tabW spec_SyncFile.tab4 spec_SyncFile.bits4 (fun HT_ HW_ => ?_)
 generalize wC.drew = hB at dA aA cA fA HB GG8 oB hf8_0 hf8_1 pA qA lB mB hHeld ⊢
 refine pv_ 0 14 ?_
 refine pv_ 2 16 ?_
 refine pv_ 3 17 ?_
 refine pv_ 5 19 ?_
 refine tk_ 1 15 ?_
 refine tk_ 4 18 ?_
 refine pv_ 6 20 ?_
 refine pv_ 7 21 ?_
 refine tk_ 8 22 ?_
 refine pv_ 9 23 ?_
 refine pv_ 10 24 ?_
 refine pv_ 11 25 ?_
 refine last_ (i := 12) (N := none) #[true, true, true, true, true, true, true, true, true, true, true, true, true] rfl rfl (one_of HT_.out (by kernel_rfl)) (by decide) (fun K hK => ?_)
 refine skip_ (w1 := ?_) (by rfl) rfl ?_ ?_
 rotate_left
 ·go_simp
  rfl
 refine hK.out _ _ ?_
 clear hK K
 refine done_ (done_of HT_.out (by kernel_rfl)) ?_
 have n0_ : Aside0 (Kd.R k56 56 (hB.setCell ⟨go8, (a1 : Int).toNat * 2 + 1, none⟩ (.int .i64 (((rd_T56 bA a1).f0).size : Int))) w.heap.size (fun _ => True) (.slice (some ⟨go8, 0, none⟩) bA.length iA) jB) := ⟨kr_ oB.out⟩
 have n1_ : Aside0 ((hB.setCell ⟨go8, (a1 : Int).toNat * 2 + 1, none⟩ (.int .i64 (((rd_T56 bA a1).f0).size : Int))).heap[wA]? = some (.cells #[.slice A0_0 l0_0.length c0_0] 31 (0, 0))) := ⟨by (with_reducible repeat (first | refine blk_drewN ?_ _ | refine blk_drew ?_ | refine blk_alloc ?_ _)); refine blk_far ?_ (by have h_ := Kd.R_ne dA.out aA.out (by decide); intro e_; exact h_ (by rw [e_]; rfl)) _; (with_reducible repeat (first | refine blk_drewN ?_ _ | refine blk_drew ?_ | refine blk_alloc ?_ _)); exact aA.out⟩
 have n2_ : Aside0 ((hB.setCell ⟨go8, (a1 : Int).toNat * 2 + 1, none⟩ (.int .i64 (((rd_T56 bA a1).f0).size : Int))).heap[lA]? = some (.cells #[.slice none 0 0] 31 (0, 0))) := ⟨by (with_reducible repeat (first | refine blk_drewN ?_ _ | refine blk_drew ?_ | refine blk_alloc ?_ _)); refine blk_far ?_ (by have h_ := Kd.R_ne dA.out cA.out (by decide); intro e_; exact h_ (by rw [e_]; rfl)) _; (with_reducible repeat (first | refine blk_drewN ?_ _ | refine blk_drew ?_ | refine blk_alloc ?_ _)); exact cA.out⟩
 have n3_ : Aside0 ((hB.setCell ⟨go8, (a1 : Int).toNat * 2 + 1, none⟩ (.int .i64 (((rd_T56 bA a1).f0).size : Int))).heap[hA]? = some (.cells #[.slice (some ⟨go8, 0, none⟩) bA.length iA] 31 (0, 0))) := ⟨by (with_reducible repeat (first | refine blk_drewN ?_ _ | refine blk_drew ?_ | refine blk_alloc ?_ _)); refine blk_far ?_ (by have h_ := Kd.R_ne dA.out fA.out (by decide); intro e_; exact h_ (by rw [e_]; rfl)) _; (with_reducible repeat (first | refine blk_drewN ?_ _ | refine blk_drew ?_ | refine blk_alloc ?_ _)); exact fA.out⟩
 have n4_ : Aside0 (Below w.heap.size w (hB.setCell ⟨go8, (a1 : Int).toNat * 2 + 1, none⟩ (.int .i64 (((rd_T56 bA a1).f0).size : Int)))) := ⟨hs4_ GB8.out eA.out gA.out xA.out⟩
 (try clear dA)
 (try clear aA)
 (try clear cA)
 (try clear fA)
 (try clear HB)
 generalize (hB.setCell ⟨go8, (a1 : Int).toNat * 2 + 1, none⟩ (.int .i64 (((rd_T56 bA a1).f0).size : Int))) = eD at n0_ n1_ n2_ n3_ n4_ ⊢
 have dA := n0_
 have aA := n1_
 have cA := n2_
 have fA := n3_
 have HB := n4_
 clear n0_ n1_ n2_ n3_ n4_
 obtain ⟨zB, aC⟩ := cf1_ fA.out
 obtain ⟨bC, cC⟩ := cf1_ cA.out
 try go_wp2
 refine bodyPost_ret (results_ct rfl _ _ lA 31 #[.slice (some ⟨go8, 0, none⟩) bA.length iA] (0, 0) _ rfl (up_ cA) Try.underlying31 rfl (by kernel_rfl)) rfl ?_
 exact ⟨_, er_, rF_ (Kd.R_mono (Kd.R_far (p := ⟨lA, 0, none⟩) (Kd.R_types dA.out cA.out (by decide)) (fun _ hk => hk.2) (.slice (some ⟨go8, 0, none⟩) bA.length iA)) (fun _ hk => trivial)), hs3_ eA.out gA.out xA.out⟩

/-! ### spec_NewDisk: function 40 -/
def spec_NewDisk.f (a0 : Int) : Option ((List (S56)) × Bool) := (spec_l1In.f a0 1 4).bind fun t303 => (if t303 = true then (if 0 ≤ a0 then (if (a0 : Int).toNat ≤ 11728124029610 then (some ((List.replicate (a0 : Int).toNat z56), true)) else (none)) else (none)) else (some (([] : List (S56)), false)))
set_option maxHeartbeats 8000000 in
set_option maxRecDepth 100000 in
theorem spec_NewDisk.calls (a0 : Int) (r1 : List (S56)) (r2 : Bool) (w : World) (h : spec_NewDisk.f a0 = some (r1, r2)) :
  Calls Try.prog 40 #[.int .i64 a0] w fun e w' => ∃ v0_ : Value, e = .returned (.tuple #[.agg #[v0_], .bool r2]) ∧ Kd.R k56 56 w' w.heap.size (fun _ => True) v0_ r1 ∧ Below w.heap.size w w' := by
 have hu31 := Try.underlying31
 have HB := Aside0.mk (Below.refl w.heap.size w)
 have H : ((spec_l1In.f a0 1 4).bind fun hA => (if hA = true then (if 0 ≤ a0 then (if (a0 : Int).toNat ≤ 11728124029610 then (some ((List.replicate (a0 : Int).toNat z56), true)) else (none)) else (none)) else (some (([] : List (S56)), false)))) = some (r1, r2) := h
 clear h
 replace H := bnd_ H
 obtain ⟨hA, A2, H⟩ := H
 replace H := ifb_ H
 obtain ⟨rfl, H⟩ | ⟨rfl, H⟩ := H
 rotate_left
 ·simp only [Option.some.injEq, Prod.mk.injEq] at H
  obtain ⟨rfl, rfl⟩ := H
  go_enter Try.func40, Try.ntmps40
  go_wp2_with (first | ((with_reducible refine gate_dst (N := 2) rfl ?_); refine bq_ (N := 2) #[.slice none 0 0] 31 ?_; intro dA hg nA aA hb; have bA := ge_ hg; replace HB := nb_ hb; clear hb hg) | ((with_reducible refine gate_callee (f := 78) rfl ?_); refine gl_ 5 Try.func78 #[.int .i64 a0, .int .i64 1, .int .i64 4] rfl ma_ ?_; (with_reducible refine (spec_l1In.calls a0 1 4 false _ A2.out).mono ?_); rintro e w' ⟨rfl, ⟨nd, rfl⟩⟩; refine ⟨_, rfl, ?_⟩; (try (rw [drewN_self nA]; replace aA := dK_ nd aA; replace HB := dH_ nd HB; generalize World.drewN nA nd = nA at aA HB ⊢)); obtain ⟨jA, kA⟩ := cf1_ aA.out))
  refine bodyPost_ret (results_ct rfl _ _ dA 31 #[.slice none 0 0] (0, 0) _ rfl (up_ aA) Try.underlying31 rfl (by kernel_rfl)) rfl ?_
  exact ⟨_, er_, ni_, hs_ bA.out⟩
 replace H := ifs_ H
 obtain ⟨c4, H⟩ := H
 have qA := eq_true c4
 have rA := decide_eq_true c4
 clear c4
 replace H := ifs_ H
 obtain ⟨c5, H⟩ := H
 have sA := eq_true c5
 have tA := decide_eq_true c5
 clear c5
 obtain ⟨gA, cA⟩ : ∃ y_ : List (S56), y_ = (List.replicate (a0 : Int).toNat z56) := ⟨_, rfl⟩
 replace H : (some (gA, true)) = some (r1, r2) := by first | (rw [cA]; with_reducible exact H) | (have H2_ := (Option.bind_some _ _).symm.trans H; rw [cA]; with_reducible exact H2_) | (have H2_ := (Option.bind_some _ _).symm.trans H; with_reducible exact H2_) | with_reducible exact H | (rw [cA]; exact H) | exact H
 have eA := Aside0.mk cA
 clear cA
 simp only [Option.some.injEq, Prod.mk.injEq] at H
 obtain ⟨rfl, rfl⟩ := H
 go_enter Try.func40, Try.ntmps40
 go_wp2_with (first | ((with_reducible refine gate_dst (N := 2) rfl ?_); refine bq_ (N := 2) #[.slice none 0 0] 31 ?_; intro dA hg w6 aA hb; have bA := ge_ hg; replace HB := nb_ hb; clear hb hg) | ((with_reducible refine gate_callee (f := 78) rfl ?_); refine gl_ 5 Try.func78 #[.int .i64 a0, .int .i64 1, .int .i64 4] rfl ma_ ?_; (with_reducible refine (spec_l1In.calls a0 1 4 true _ A2.out).mono ?_); rintro e w' ⟨rfl, ⟨nd, rfl⟩⟩; refine ⟨_, rfl, ?_⟩; (try (rw [drewN_self w6]; replace aA := dK_ nd aA; replace HB := dH_ nd HB; generalize World.drewN w6 nd = w6 at aA HB ⊢))) | ((with_reducible refine gate_dst (N := 9) rfl ?_); refine Kd.R_make k56 _ 56 rfl (N := 9) rfl 29 _ _ rfl a0 rfl rfl Try.underlying29 (.agg #[(.string ⟨#[]⟩), (.int .i64 0)]) 24 info56 rfl (by decide) (by omega) z56 (ok := fun _ => True) (okp := fun _ => True) (k56_mkM _ _ _ z56 ) (fun _ hk => hk) trivial (oa_) (Nat.le_trans (Nat.mul_le_mul_right _ (oa_ : a0.toNat ≤ 11728124029610)) (by omega)) (Below.refl _ _) (Nat.le_refl _) ?_; intro uA w7 iA hb hg_ hnew_; clear hg_ hnew_; (first | rw [← eA.out] at iA | (simp only [Int.reduceToNat] at iA; rw [← eA.out] at iA)); have fA := Aside0.mk (Kd.R_lower iA (below_size (hs_ bA.out))); replace aA := bK_ aA hb; replace HB := nc_ bA hb; clear hb iA; obtain ⟨oA, pA, vA⟩ := Kd.R_slice fA.out; subst vA; obtain ⟨lA, mA⟩ := cf1_ aA.out))
 refine bodyPost_ret (results_ct rfl _ _ dA 31 #[.slice oA gA.length pA] (0, 0) _ rfl (up_ aA) Try.underlying31 rfl (by kernel_rfl)) rfl ?_
 exact ⟨_, er_, rF_ (Kd.R_mono (Kd.R_far (p := ⟨dA, 0, none⟩) (Kd.R_types fA.out aA.out (by decide)) (fun _ hk => hk.2) (.slice oA gA.length pA)) (fun _ hk => trivial)), hs_ bA.out⟩
end Go.Proofs.Ytpdpipfkllfhmaa.QFnDisks
