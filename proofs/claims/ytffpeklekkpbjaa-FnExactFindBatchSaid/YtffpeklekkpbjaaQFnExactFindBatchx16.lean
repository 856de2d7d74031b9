/- Functions that one statement reaches: of each a plain function, and the proof that calls come to it. Conditions: those that each contract names. Written by a program of this repository. -/
import Derived.Test.YtffpeklekkpbjaaVFindBatcha
import Derived.Test.YtffpeklekkpbjaaQFnExactFindBatchx0
import Derived.Test.YtffpeklekkpbjaaQFnExactFindBatchx13
import Derived.Test.YtffpeklekkpbjaaQFnExactFindBatchx15
namespace Go.Proofs.Ytffpeklekkpbjaa.QFnExactFindBatch
open Go.RowKit Go.Proofs.YtffpeklekkpbjaaW.PrintWords Go.Proofs.YtffpeklekkpbjaaW.PrintLast Go.Proofs.YtffpeklekkpbjaaW.PrintMore
attribute [local go_sem] max2_int min2_int max_two min_two max_three min_three max_four min_four Go.Proofs.YtffpeklekkpbjaaW.PrintMore2.isSome_setCell   -- for this text's walks alone
set_option linter.unusedVariables false
set_option linter.unusedSimpArgs false

/-! ### impl_storeOf: function 72 -/
def impl_storeOf.l0 : Nat → List (List (S43)) → Int → Int → List (S65) → Int → Option ((List (S65)) × Int)
 | 0, _, _, _, _, _ => none
 | k + 1, x10, x11, x12, x317000, x317001 => if x12 < x11 then (if 0 ≤ x12 then (if x12 < (x10.length : Int) then ((impl_segmentOf.f k (rd_L13 x10 x12) x317001).bind fun bt318 => (if x317000.length < 2932031007402 then ((some (x317000 ++ [(⟨bt318.1, bt318.2.1, bt318.2.2⟩ : S65)] : List (S65))).bind fun y323 => (if ((rd_L13 x10 x12).length : Int) > 0 then (if 0 ≤ (wrap64 (((rd_L13 x10 x12).length : Int) - 1)) then (if (wrap64 (((rd_L13 x10 x12).length : Int) - 1)) < ((rd_L13 x10 x12).length : Int) then ((impl_Batch_end.f ((rd_T43 (rd_L13 x10 x12) (wrap64 (((rd_L13 x10 x12).length : Int) - 1))).f0) ((rd_T43 (rd_L13 x10 x12) (wrap64 (((rd_L13 x10 x12).length : Int) - 1))).f1) ((rd_T43 (rd_L13 x10 x12) (wrap64 (((rd_L13 x10 x12).length : Int) - 1))).f2) ((rd_T43 (rd_L13 x10 x12) (wrap64 (((rd_L13 x10 x12).length : Int) - 1))).f3) ((rd_T43 (rd_L13 x10 x12) (wrap64 (((rd_L13 x10 x12).length : Int) - 1))).f4)).bind fun t327 => (impl_storeOf.l0 k x10 x11 (wrap64 (x12 + 1)) y323 t327)) else (none)) else (none)) else (impl_storeOf.l0 k x10 x11 (wrap64 (x12 + 1)) y323 x317001))) else (none))) else (none)) else (none)) else (some (x317000, x317001))
def impl_storeOf.f (k : Nat) (l0 : List (List (S43))) (a1 : Int) : Option ((List (S65)) × Int) := impl_storeOf.l0 k l0 (l0.length : Int) 0 ([] : List (S65)) a1
theorem impl_storeOf.mono_l : ∀ k, (∀ y0 y1 y2 y3 y4, LeO (impl_storeOf.l0 k y0 y1 y2 y3 y4) (impl_storeOf.l0 (k + 1) y0 y1 y2 y3 y4))
 | 0 => fun _ _ _ _ _ r h => by simp [impl_storeOf.l0] at h
 | k + 1 => by
  have ih0 := impl_storeOf.mono_l k
  ·intro y0 y1 y2 y3 y4
   unfold impl_storeOf.l0
   repeat' first
   | (with_reducible first | apply ih0 | apply impl_segmentOf.mono | exact LeO.refl _ | exact LeO.none _ | refine LeO.ite ?_ ?_ | refine LeO.bind ?_ (fun _ => ?_))
theorem impl_storeOf.mono : ∀ a0 a1 k, LeO (impl_storeOf.f k a0 a1) (impl_storeOf.f (k + 1) a0 a1) := by
 intro a0 a1 k
 have ih0 := impl_storeOf.mono_l k
 unfold impl_storeOf.f
 repeat' first
   | (with_reducible first | apply ih0 | apply impl_segmentOf.mono | exact LeO.refl _ | exact LeO.none _ | refine LeO.ite ?_ ?_ | refine LeO.bind ?_ (fun _ => ?_))
def impl_storeOf.T5 : Bool × List (List Nat × List Nat) := (true, [([], []), ([0], [0]), ([], []), ([], []), ([3], [3]), ([2, 4], [2, 4]), ([5], [5]), ([1, 6, 5], [1, 6]), ([0, 1, 2, 3, 4, 5, 6, 7], []), ([8, 7, 7, 0, 1, 2, 3, 4, 5, 6, 7], [7, 8])])
def impl_storeOf.B5 : List Nat := [0, 1, 0, 0, 8, 28, 60, 127, 255, 511]
theorem impl_storeOf.tab5 : rtab .any (opsOf Try.f72 5) = impl_storeOf.T5 := by kernel_rfl
theorem impl_storeOf.bits5 : waitsOk impl_storeOf.T5.2 impl_storeOf.B5 = true := by kernel_rfl
set_option maxHeartbeats 8000000 in
set_option maxRecDepth 100000 in
theorem impl_storeOf.calls (k : Nat) (A0 : Option Addr) (c0 : Nat) (l0 : List (List (S43))) (a1 : Int) (r1 : List (S65)) (r2 : Int) (w : World) (hr0 : Kd.C (Kd.slice 43 k43) w A0 l0.length l0) (hc0 : l0.length ≤ c0) (h : impl_storeOf.f k l0 a1 = some (r1, r2)) :
  Calls Try.prog 72 #[.slice A0 l0.length c0, .int .i64 a1] w fun e w' => ∃ v0_ : Value, e = .returned (.agg #[v0_, .int .i64 r2]) ∧ Kd.S k65 65 w' w.heap.size (fun _ => True) v0_ r1 ∧ Below w.heap.size w w' := by
 have hu24 := Try.underlying24
 have hu43 := Try.underlying43
 have HR0 := Aside0.mk hr0
 have HC0 := Aside0.mk hc0
 clear hr0 hc0
 have HB := Aside0.mk (Below.refl w.heap.size w)
 have H : (impl_storeOf.l0 k l0 (l0.length : Int) 0 ([] : List (S65)) a1) = some (r1, r2) := h
 clear h
 have H' := Aside0.mk H
 clear H
 go_enter Try.func72, Try.ntmps72
 go_wp2_with (first | ((with_reducible refine gate_dst (N := 4) rfl ?_); refine bq_ (N := 4) #[.slice none 0 0, .int .i64 0] 24 ?_; intro gb315 hg w3 BK315 hb; have GE315 := ge_ hg; replace HB := nb_ hb; clear hb hg) | ((with_reducible refine gate_dst (N := 5) rfl ?_); refine bq_ (N := 5) #[.slice none 0 0, .int .i64 0] 24 ?_; intro gb316 hg w4 BK316 hb; have GW316 := ge1_ hg GE315; have GE316 := ge1_ hg GE315; replace HB := nc_ GE315 hb; have NB315_316 := nl_ BK315 hg; have NB316_315 := ng_ BK315 hg; replace BK315 := bK_ BK315 hb; clear hb hg; have hnb5 := NB316_315.out; have hnc5 := NB315_316.out; obtain ⟨hcz6_0, hcz6_1, hfz6_0, hfz6_1⟩ := cf2_ BK316.out))
 go_loopg [12] k (fun kq v12 w' => ∃ (x12_1 : Int) (x317000_1 : List (S65)) (x317001_1 : Int) (u317000 : Value), v12 = .int .i64 x12_1 ∧ Aside0 (impl_storeOf.l0 kq l0 (l0.length : Int) x12_1 x317000_1 x317001_1 = some (r1, r2)) ∧ Aside0 (kq ≤ k) ∧ Aside0 (Kd.S k65 65 w' w.heap.size (fun _ => True) u317000 x317000_1) ∧ Aside0 (w'.heap[gb315]? = some (.cells #[(.slice none 0 0), .int .i64 0] 24 (0, 0))) ∧ Aside0 (w'.heap[gb316]? = some (.cells #[u317000, .int .i64 x317001_1] 24 (0, 0))) ∧ Aside0 (Below w.heap.size w w'))
 case atStart => exact ⟨(0), (([] : List (S65))), (a1), (.slice none 0 0), sr_, H', ⟨Nat.le_refl _⟩, ⟨by first | exact Kd.S_nil _ _ _ _ _ | exact Kd.N_nil _ _ _ _ _ | exact Kd.V_nil _ _ _ _ _ | exact Kd.Q_nil _ _ _ _ _ | exact Kd.R_nil _ _ _ _ _⟩, ⟨uf_ BK315 NB315_316.out⟩, ⟨up_ BK316⟩, ⟨hs2_ GE315.out GE316.out⟩⟩
 case round =>
  clear H'
  try clear hcz6_0
  try clear hcz6_1
  try clear hfz6_0
  try clear hfz6_1
  obtain ⟨x12_1, x317000_1, x317001_1, u317000, rfl, HA, HK1, HO_317000, BK315, BK316, HB⟩ := hrel
  cases gk with
  | zero => exact absurd HA.out (by simp [impl_storeOf.l0])
  | succ k1 =>
   have H := HA.out
   clear HA
   simp only [impl_storeOf.l0] at H
   replace H := ite_ H
   obtain ⟨c7, H⟩ | ⟨c7, H⟩ := H
   rotate_left
   ·have c7b0 := decide_eq_false c7
    clear c7
    simp only [Option.some.injEq, Prod.mk.injEq] at H
    obtain ⟨rfl, rfl⟩ := H
    have hnb32 := NB316_315.out
    have hnc32 := NB315_316.out
    obtain ⟨hcz33_0, hcz33_1, hfz33_0, hfz33_1⟩ := cf2_ BK316.out
    obtain ⟨Ao34, co34, eo34⟩ := Kd.S_slice HO_317000.out
    subst eo34
    obtain ⟨hcz35_0, hcz35_1, hfz35_0, hfz35_1⟩ := cf2_ BK315.out
    go_wp2
    refine bodyPost_ret (results_cell_row rfl _ _ gb315 24 #[.slice Ao34 x317000_1.length co34, .int .i64 x317001_1] (0, 0) _ rfl (up_ BK315) Try.underlying24 rfl (by kernel_rfl)) rfl ?_
    exact ⟨_, er_, Kd.S_mono (sF_ (Kd.S_types HO_317000.out BK315.out (by decide))) (fun _ hk => trivial), hs2_ GE315.out GE316.out⟩
   have c7b0 := decide_eq_true c7
   clear c7
   replace H := ifs_ H
   obtain ⟨c8, H⟩ := H
   have c8b0 := decide_eq_true c8
   clear c8
   replace H := ifs_ H
   obtain ⟨c9, H⟩ := H
   have c9b0 := decide_eq_true c9
   clear c9
   replace H := bnd_ H
   obtain ⟨⟨t318, t319, t320⟩, A10, H⟩ := H
   replace H := red_ H
   replace H := ifs_ H
   obtain ⟨c11, H⟩ := H
   have LMc11 := Aside0.mk c11
   clear c11
   obtain ⟨y323, hy323⟩ : ∃ y_ : List (S65), y_ = (x317000_1 ++ [(⟨t318, t319, t320⟩ : S65)]) := ⟨_, rfl⟩
   replace H : (if ((rd_L13 l0 x12_1).length : Int) > 0 then (if 0 ≤ (wrap64 (((rd_L13 l0 x12_1).length : Int) - 1)) then (if (wrap64 (((rd_L13 l0 x12_1).length : Int) - 1)) < ((rd_L13 l0 x12_1).length : Int) then ((impl_Batch_end.f ((rd_T43 (rd_L13 l0 x12_1) (wrap64 (((rd_L13 l0 x12_1).length : Int) - 1))).f0) ((rd_T43 (rd_L13 l0 x12_1) (wrap64 (((rd_L13 l0 x12_1).length : Int) - 1))).f1) ((rd_T43 (rd_L13 l0 x12_1) (wrap64 (((rd_L13 l0 x12_1).length : Int) - 1))).f2) ((rd_T43 (rd_L13 l0 x12_1) (wrap64 (((rd_L13 l0 x12_1).length : Int) - 1))).f3) ((rd_T43 (rd_L13 l0 x12_1) (wrap64 (((rd_L13 l0 x12_1).length : Int) - 1))).f4)).bind fun t327 => (impl_storeOf.l0 k1 l0 (l0.length : Int) (wrap64 (x12_1 + 1)) y323 t327)) else (none)) else (none)) else (impl_storeOf.l0 k1 l0 (l0.length : Int) (wrap64 (x12_1 + 1)) y323 x317001_1)) = some (r1, r2) := by first | (rw [hy323]; with_reducible exact H) | (have H2_ := (Option.bind_some _ _).symm.trans H; rw [hy323]; with_reducible exact H2_) | (have H2_ := (Option.bind_some _ _).symm.trans H; with_reducible exact H2_) | with_reducible exact H | (rw [hy323]; exact H) | exact H
   have Ny323 := Aside0.mk hy323
   clear hy323
   replace H := ite_ H
   obtain ⟨c12, H⟩ | ⟨c12, H⟩ := H
   rotate_left
   ·have c12b0 := dgf_ c12
    have c12b1 : decide (0 < (rd_L13 l0 x12_1).length) = false := decide_eq_false (by omega)
    clear c12
    have H' := Aside0.mk H
    clear H
    have p317 : 0 ≤ (x12_1 : Int) := oa_
    have q317 : x12_1 < (l0.length : Int) := oa_
    obtain ⟨ad317, A317_0, c317_0, e317, hx317_0, hl317_0, hi317_0⟩ := at_L13 HR0.out x12_1 p317 q317
    cases e317
    replace hx317_0 := pc_ HB.out hx317_0
    have HR317_0 := Aside0.mk hi317_0
    have HC317_0 := Aside0.mk hl317_0
    clear hi317_0 hl317_0
    replace p317 := eq_true p317
    replace q317 := eq_true q317
    try go_wp2
    replace HO_317000 := Aside0.mk (Kd.S_drew HO_317000.out)
    replace BK315 := qK_ BK315
    replace BK316 := qK_ BK316
    replace HB := qH_ HB
    refine start_ (n := 10) (S := fun w' => w'.cell? ⟨gb316, 0, none⟩ = some (u317000) ∧ w'.cell? ⟨gb316, 1, none⟩ = some (.int .i64 x317001_1)) (ds := [9]) (List.replicate 10 false).toArray (by kernel_rfl) rfl rfl ⟨bt_ BK316 0, bt_ BK316 1⟩ (fun hHeld => ?_); refine with_tabW impl_storeOf.tab5 impl_storeOf.bits5 (fun HT_ HW_ => ?_)
    generalize wr.drew = w26 at HO_317000 BK315 BK316 HB hHeld ⊢
    refine pv_ 0 16 ?_
    refine pv_ 2 18 ?_
    refine pv_ 3 19 ?_
    refine tk_ 1 17 ?_
    refine tk_ 4 20 ?_
    refine on_ 5 21 (fun K hK => ?_)
    refine gs_ Try.func104 #[.slice A317_0 (rd_L13 l0 x12_1).length c317_0, .int .i64 x317001_1] rfl ma_ ?_
    with_reducible refine (impl_segmentOf.calls k1 _ _ (rd_L13 l0 x12_1) x317001_1 t318 t319 t320 _ ?side1 ?side2 A10.out).mono ?_
    (case side1 => exact cs_ ((Kd.C_below HR317_0.out HB.out)))
    (case side2 => exact HC317_0.out)
    rintro e w27 ⟨v321, rfl, ho0, hb⟩
    refine ⟨_, rfl, ?_⟩
    replace HO_317000 := Aside0.mk (Kd.S_elder' (ks_ HO_317000.out) (Kd.R_base ho0) hb)
    have HO322 := Aside0.mk (Kd.R_lower ho0 (below_size (hs2_ GE315.out GE316.out)))
    replace BK315 := bK_ BK315 hb
    replace BK316 := bK_ BK316 hb
    replace HB := nc2_ GE315 GE316 hb
    (try clear hb)
    (try clear hb2)
    (try clear hk)
    (try clear hi)
    (try clear ho0)
    obtain ⟨Ao29, co29, eo29⟩ := Kd.R_slice HO322.out
    (first | subst eo29 | (injection eo29 with f1_ f2_ f3_; have f4_ := f1_.symm; have f5_ := f3_.symm; clear f1_ f2_ f3_; subst f4_; subst f5_))
    refine hK.out _ _ ⟨bt_ BK316 0, bt_ BK316 1⟩ (fun hHeld => ?_)
    clear hK K
    refine no_ ?_
    refine on_ 6 22 (fun K hK => ?_)
    refine value_ (w1 := ?_) (v := ?_) (by rfl) rfl ?_ ?_
    rotate_left 2
    ·go_simp
     constructor
     ·rfl
     ·rfl
    refine hK.out _ _ ⟨(blk_cell (blk_alloc BK316.out _) 0).trans rfl, (blk_cell (blk_alloc BK316.out _) 1).trans rfl⟩ (fun hHeld => ?_)
    clear hK K
    refine no_ ?_
    refine on_ 7 23 (fun K hK => ?_)
    refine Kd.S_append_step k65 (w0 := w) w.heap.size (by rfl) (.tmp 17) (.tmp 22) 22 65 (.agg #[(.int .i64 0), (.string ⟨#[]⟩), (.slice none 0 0)]) 48 rfl Try.underlying22 info65 rfl (by decide) (by omega) u317000 x317000_1 (⟨t318, t319, t320⟩ : S65) [.int .i64 t318, .string t319, .slice Ao29 t320.length co29] (fun _ => True) (fun k_ => some k_ = (.slice Ao29 t320.length co29 : Value).ownBlock) rfl rfl ?aP (fun k_ hk_ => ((Kd.R_mono (ok' := fun k_ => ((fun _ => True)) k_ ∧ some k_ ≠ (u317000 : Value).ownBlock) (Kd.R_apart' (HO322.out) (Kd.S_typed HO_317000.out) (by decide)) (fun k_ hk => ⟨trivial, hk.2⟩))).1 k_ hk_.symm) ?aF ?aO ?aB ?aS ?aL ?_
    (case aP => exact k65_mkM _ _ _ (⟨t318, t319, t320⟩ : S65) (Kd.R_mono (Kd.R_tight rfl (Kd.R_mono (ok' := fun k_ => ((fun _ => True)) k_ ∧ some k_ ≠ (u317000 : Value).ownBlock) (Kd.R_apart' (HO322.out) (Kd.S_typed HO_317000.out) (by decide)) (fun k_ hk => ⟨trivial, hk.2⟩))) (fun _ h_ => h_)))
    (case aB => exact (hs2_ GE315.out GE316.out))
    (case aF => exact (fun _ _ => trivial))
    (case aO => exact (sF_ (Kd.S_mono HO_317000.out (fun k_ hk => ⟨trivial, fun e_ => hk.2 e_⟩))))
    (case aS => exact (below_size (hs2_ GE315.out GE316.out)))
    (case aL => have := LMc11.out; omega)
    intro v324 w28 ho hb hg hat
    rw [← Ny323.out] at ho
    replace BK315 := Aside0.mk (blk_grown (g := gb315) (o := .cells #[.slice none 0 0, .int .i64 0] 24 (0, 0)) (kb_ BK315.out) hg (Kd.S_ne HO_317000.out BK315.out (by decide)))
    replace BK316 := Aside0.mk (blk_grown (g := gb316) (o := .cells #[u317000, .int .i64 x317001_1] 24 (0, 0)) (kb_ BK316.out) hg (Kd.S_ne HO_317000.out BK316.out (by decide)))
    replace HB := Aside0.mk (hb)
    have HO325 := Aside0.mk (ho)
    clear HO_317000 HO322
    clear ho hb hg hat
    obtain ⟨Ao30, co30, eo30⟩ := Kd.S_slice HO325.out
    (first | subst eo30 | (injection eo30 with f1_ f2_ f3_; have f4_ := f1_.symm; have f5_ := f3_.symm; clear f1_ f2_ f3_; subst f4_; subst f5_))
    refine hK.out _ _ ⟨bt_ BK316 0, bt_ BK316 1⟩ (fun hHeld => ?_)
    clear hK K
    refine no_ ?_
    refine pv_ 8 24 ?_
    refine last_ (i := 9) (N := none) #[true, true, true, true, true, true, true, true, true, true] rfl rfl (one_of HT_.out (by kernel_rfl)) (by decide) (fun K hK => ?_)
    obtain ⟨hs31, hfs31⟩ := cf1_ BK316.out
    have hns31_0 := NB315_316.out
    have hms31_0 := NB316_315.out
    refine skip_ (w1 := ?_) (by rfl) rfl ?_ ?_
    rotate_left
    ·go_simp
     rfl
    refine hK.out _ _ ?_
    clear hK K
    refine done_ (done_of HT_.out (by kernel_rfl)) ?_
    try go_wp2
    go_roundg k1
    case measure => have := HK1.out; omega
    case rel => exact ⟨(wrap64 (x12_1 + 1)), (y323), (x317001_1), (.slice Ao30 y323.length co30), sr_, H', ⟨by have := HK1.out; omega⟩, ⟨sF_ (Kd.S_mono (Kd.S_far (p := ⟨gb316, 0, none⟩) (Kd.S_types HO325.out BK316.out (by decide)) (fun _ hk => hk.2) (.slice Ao30 y323.length co30)) (fun _ hk => trivial))⟩, ⟨uf_ BK315 NB315_316.out⟩, ⟨up_ BK316⟩, ⟨hs2_ GE315.out GE316.out⟩⟩
   have c12b0 := dgt_ c12
   have c12b1 : decide (0 < (rd_L13 l0 x12_1).length) = true := decide_eq_true (by omega)
   clear c12
   obtain ⟨ji13, hji13⟩ : ∃ j_ : Int, (wrap64 (((rd_L13 l0 x12_1).length : Int) - 1)) = j_ := ⟨_, rfl⟩
   first | rw [hji13] at H | simp only [hji13] at H
   (try rw [hji13] at A10)
   have hji13w : (IntKind.i64.wrap (((rd_L13 l0 x12_1).length : Int) - 1)) = ji13 := (i64_w _).trans hji13
   replace H := ifs_ H
   obtain ⟨c14, H⟩ := H
   have c14b0 := decide_eq_true c14
   clear c14
   replace H := ifs_ H
   obtain ⟨c15, H⟩ := H
   have c15b0 := decide_eq_true c15
   clear c15
   replace H := bnd_ H
   obtain ⟨t327, A16, H⟩ := H
   have H' := Aside0.mk H
   clear H
   have p317 : 0 ≤ (x12_1 : Int) := oa_
   have q317 : x12_1 < (l0.length : Int) := oa_
   obtain ⟨ad317, A317_0, c317_0, e317, hx317_0, hl317_0, hi317_0⟩ := at_L13 HR0.out x12_1 p317 q317
   cases e317
   replace hx317_0 := pc_ HB.out hx317_0
   have HR317_0 := Aside0.mk hi317_0
   have HC317_0 := Aside0.mk hl317_0
   clear hi317_0 hl317_0
   replace p317 := eq_true p317
   replace q317 := eq_true q317
   try go_wp2
   replace HO_317000 := Aside0.mk (Kd.S_drew HO_317000.out)
   replace BK315 := qK_ BK315
   replace BK316 := qK_ BK316
   replace HB := qH_ HB
   refine start_ (n := 10) (S := fun w' => w'.cell? ⟨gb316, 0, none⟩ = some (u317000) ∧ w'.cell? ⟨gb316, 1, none⟩ = some (.int .i64 x317001_1)) (ds := [9]) (List.replicate 10 false).toArray (by kernel_rfl) rfl rfl ⟨bt_ BK316 0, bt_ BK316 1⟩ (fun hHeld => ?_); refine with_tabW impl_storeOf.tab5 impl_storeOf.bits5 (fun HT_ HW_ => ?_)
   generalize wr.drew = w17 at HO_317000 BK315 BK316 HB hHeld ⊢
   refine pv_ 0 16 ?_
   refine pv_ 2 18 ?_
   refine pv_ 3 19 ?_
   refine tk_ 1 17 ?_
   refine tk_ 4 20 ?_
   refine on_ 5 21 (fun K hK => ?_)
   refine gs_ Try.func104 #[.slice A317_0 (rd_L13 l0 x12_1).length c317_0, .int .i64 x317001_1] rfl ma_ ?_
   with_reducible refine (impl_segmentOf.calls k1 _ _ (rd_L13 l0 x12_1) x317001_1 t318 t319 t320 _ ?side1 ?side2 A10.out).mono ?_
   (case side1 => exact cs_ ((Kd.C_below HR317_0.out HB.out)))
   (case side2 => exact HC317_0.out)
   rintro e w18 ⟨v321, rfl, ho0, hb⟩
   refine ⟨_, rfl, ?_⟩
   replace HO_317000 := Aside0.mk (Kd.S_elder' (ks_ HO_317000.out) (Kd.R_base ho0) hb)
   have HO322 := Aside0.mk (Kd.R_lower ho0 (below_size (hs2_ GE315.out GE316.out)))
   replace BK315 := bK_ BK315 hb
   replace BK316 := bK_ BK316 hb
   replace HB := nc2_ GE315 GE316 hb
   (try clear hb)
   (try clear hb2)
   (try clear hk)
   (try clear hi)
   (try clear ho0)
   obtain ⟨Ao20, co20, eo20⟩ := Kd.R_slice HO322.out
   (first | subst eo20 | (injection eo20 with f1_ f2_ f3_; have f4_ := f1_.symm; have f5_ := f3_.symm; clear f1_ f2_ f3_; subst f4_; subst f5_))
   refine hK.out _ _ ⟨bt_ BK316 0, bt_ BK316 1⟩ (fun hHeld => ?_)
   clear hK K
   refine no_ ?_
   refine on_ 6 22 (fun K hK => ?_)
   refine value_ (w1 := ?_) (v := ?_) (by rfl) rfl ?_ ?_
   rotate_left 2
   ·go_simp
    constructor
    ·rfl
    ·rfl
   refine hK.out _ _ ⟨(blk_cell (blk_alloc BK316.out _) 0).trans rfl, (blk_cell (blk_alloc BK316.out _) 1).trans rfl⟩ (fun hHeld => ?_)
   clear hK K
   refine no_ ?_
   refine on_ 7 23 (fun K hK => ?_)
   refine Kd.S_append_step k65 (w0 := w) w.heap.size (by rfl) (.tmp 17) (.tmp 22) 22 65 (.agg #[(.int .i64 0), (.string ⟨#[]⟩), (.slice none 0 0)]) 48 rfl Try.underlying22 info65 rfl (by decide) (by omega) u317000 x317000_1 (⟨t318, t319, t320⟩ : S65) [.int .i64 t318, .string t319, .slice Ao20 t320.length co20] (fun _ => True) (fun k_ => some k_ = (.slice Ao20 t320.length co20 : Value).ownBlock) rfl rfl ?aP (fun k_ hk_ => ((Kd.R_mono (ok' := fun k_ => ((fun _ => True)) k_ ∧ some k_ ≠ (u317000 : Value).ownBlock) (Kd.R_apart' (HO322.out) (Kd.S_typed HO_317000.out) (by decide)) (fun k_ hk => ⟨trivial, hk.2⟩))).1 k_ hk_.symm) ?aF ?aO ?aB ?aS ?aL ?_
   (case aP => exact k65_mkM _ _ _ (⟨t318, t319, t320⟩ : S65) (Kd.R_mono (Kd.R_tight rfl (Kd.R_mono (ok' := fun k_ => ((fun _ => True)) k_ ∧ some k_ ≠ (u317000 : Value).ownBlock) (Kd.R_apart' (HO322.out) (Kd.S_typed HO_317000.out) (by decide)) (fun k_ hk => ⟨trivial, hk.2⟩))) (fun _ h_ => h_)))
   (case aB => exact (hs2_ GE315.out GE316.out))
   (case aF => exact (fun _ _ => trivial))
   (case aO => exact (sF_ (Kd.S_mono HO_317000.out (fun k_ hk => ⟨trivial, fun e_ => hk.2 e_⟩))))
   (case aS => exact (below_size (hs2_ GE315.out GE316.out)))
   (case aL => have := LMc11.out; omega)
   intro v324 w19 ho hb hg hat
   rw [← Ny323.out] at ho
   replace BK315 := Aside0.mk (blk_grown (g := gb315) (o := .cells #[.slice none 0 0, .int .i64 0] 24 (0, 0)) (kb_ BK315.out) hg (Kd.S_ne HO_317000.out BK315.out (by decide)))
   replace BK316 := Aside0.mk (blk_grown (g := gb316) (o := .cells #[u317000, .int .i64 x317001_1] 24 (0, 0)) (kb_ BK316.out) hg (Kd.S_ne HO_317000.out BK316.out (by decide)))
   replace HB := Aside0.mk (hb)
   have HO325 := Aside0.mk (ho)
   clear HO_317000 HO322
   clear ho hb hg hat
   obtain ⟨Ao21, co21, eo21⟩ := Kd.S_slice HO325.out
   (first | subst eo21 | (injection eo21 with f1_ f2_ f3_; have f4_ := f1_.symm; have f5_ := f3_.symm; clear f1_ f2_ f3_; subst f4_; subst f5_))
   refine hK.out _ _ ⟨bt_ BK316 0, bt_ BK316 1⟩ (fun hHeld => ?_)
   clear hK K
   refine no_ ?_
   refine pv_ 8 24 ?_
   refine last_ (i := 9) (N := none) #[true, true, true, true, true, true, true, true, true, true] rfl rfl (one_of HT_.out (by kernel_rfl)) (by decide) (fun K hK => ?_)
   obtain ⟨hs22, hfs22⟩ := cf1_ BK316.out
   have hns22_0 := NB315_316.out
   have hms22_0 := NB316_315.out
   refine skip_ (w1 := ?_) (by rfl) rfl ?_ ?_
   rotate_left
   ·go_simp
    rfl
   refine hK.out _ _ ?_
   clear hK K
   refine done_ (done_of HT_.out (by kernel_rfl)) ?_
   have p326 : 0 ≤ ((ji13) : Int) := oa_
   have q326 : (ji13) < ((rd_L13 l0 x12_1).length : Int) := oa_
   obtain ⟨ad326, A326_4, c326_4, e326, hx326_0, hx326_1, hx326_2, hx326_3, hx326_4, hl326_4, hi326_4⟩ := at_T43 HR317_0.out (ji13) p326 q326
   cases e326
   have hn326_0 : ad326.block ≠ gb316 := Nat.ne_of_lt (Nat.lt_of_lt_of_le (by have := World.block_lt_of_cell? _ _ hx326_0; first | rwa [add_block] at this | exact this) GW316.out)
   replace hx326_0 := pc_ HB.out hx326_0
   replace hx326_1 := pc_ HB.out hx326_1
   replace hx326_2 := pc_ HB.out hx326_2
   replace hx326_3 := pc_ HB.out hx326_3
   replace hx326_4 := pc_ HB.out hx326_4
   have HR326_4 := Aside0.mk hi326_4
   have HC326_4 := Aside0.mk hl326_4
   clear hi326_4 hl326_4
   replace hx326_0 := (cell_far (p := ⟨gb316, 0, none⟩) (by first | (rw [add_block]; exact hn326_0) | (show (Addr.add _ _).block ≠ _; rw [add_block]; exact hn326_0) | exact hn326_0) (.slice Ao21 y323.length co21)).trans hx326_0
   replace hx326_1 := (cell_far (p := ⟨gb316, 0, none⟩) (by first | (rw [add_block]; exact hn326_0) | (show (Addr.add _ _).block ≠ _; rw [add_block]; exact hn326_0) | exact hn326_0) (.slice Ao21 y323.length co21)).trans hx326_1
   replace hx326_2 := (cell_far (p := ⟨gb316, 0, none⟩) (by first | (rw [add_block]; exact hn326_0) | (show (Addr.add _ _).block ≠ _; rw [add_block]; exact hn326_0) | exact hn326_0) (.slice Ao21 y323.length co21)).trans hx326_2
   replace hx326_3 := (cell_far (p := ⟨gb316, 0, none⟩) (by first | (rw [add_block]; exact hn326_0) | (show (Addr.add _ _).block ≠ _; rw [add_block]; exact hn326_0) | exact hn326_0) (.slice Ao21 y323.length co21)).trans hx326_3
   replace hx326_4 := (cell_far (p := ⟨gb316, 0, none⟩) (by first | (rw [add_block]; exact hn326_0) | (show (Addr.add _ _).block ≠ _; rw [add_block]; exact hn326_0) | exact hn326_0) (.slice Ao21 y323.length co21)).trans hx326_4
   clear hn326_0
   replace p326 := eq_true p326
   replace q326 := eq_true q326
   try go_wp2_with (first | ((with_reducible refine gate_callee (f := 77) rfl ?_); refine gl_ 34 Try.func77 #[.agg #[.int .i64 ((rd_T43 (rd_L13 l0 x12_1) (ji13)).f0), .int .i64 ((rd_T43 (rd_L13 l0 x12_1) (ji13)).f1), .int .i64 ((rd_T43 (rd_L13 l0 x12_1) (ji13)).f2), .int .i64 ((rd_T43 (rd_L13 l0 x12_1) (ji13)).f3), .slice A326_4 ((rd_T43 (rd_L13 l0 x12_1) (ji13)).f4).length c326_4]] rfl (mb_ hji13) ?_; (with_reducible refine (impl_Batch_end.calls ((rd_T43 (rd_L13 l0 x12_1) (ji13)).f0) ((rd_T43 (rd_L13 l0 x12_1) (ji13)).f1) ((rd_T43 (rd_L13 l0 x12_1) (ji13)).f2) ((rd_T43 (rd_L13 l0 x12_1) (ji13)).f3) _ _ ((rd_T43 (rd_L13 l0 x12_1) (ji13)).f4) t327 _ ?side1 ?side2 A16.out).mono ?_); (case side1 => exact Kd.C_below HR326_4.out (hs2_ GE315.out GE316.out)); (case side2 => exact HC326_4.out); rintro e w23 ⟨rfl, hb⟩; refine ⟨_, rfl, ?_⟩; replace HO325 := Aside0.mk (Kd.S_below (sF_ (Kd.S_mono (Kd.S_far (p := ⟨gb316, 0, none⟩) (Kd.S_types HO325.out BK316.out (by decide)) (fun _ hk => hk.2) (.slice Ao21 y323.length co21)) (fun _ h_ => h_.1))) hb); replace BK315 := Aside0.mk (blk_below (g := gb315) (o := .cells #[.slice none 0 0, .int .i64 0] 24 (0, 0)) (uf_ BK315 NB315_316.out) hb); replace BK316 := Aside0.mk (blk_below (g := gb316) (o := .cells #[.slice Ao21 y323.length co21, .int .i64 x317001_1] 24 (0, 0)) (up_ BK316) hb); replace HB := nc2_ GE315 GE316 hb; (try clear hb); (try clear hb2); (try clear hk); (try clear hi); have hnb24 := NB316_315.out; have hnc24 := NB315_316.out; obtain ⟨hcz25_0, hcz25_1, hfz25_0, hfz25_1⟩ := cf2_ BK316.out))
   go_roundg k1
   case measure => have := HK1.out; omega
   case rel => exact ⟨(wrap64 (x12_1 + 1)), (y323), (t327), (.slice Ao21 y323.length co21), sr_, H', ⟨by have := HK1.out; omega⟩, ⟨sF_ (Kd.S_mono (Kd.S_far (p := ⟨gb316, 1, none⟩) (Kd.S_types HO325.out BK316.out (by decide)) (fun _ hk => hk.2) (.int .i64 t327)) (fun _ hk => trivial))⟩, ⟨uf_ BK315 NB315_316.out⟩, ⟨up_ BK316⟩, ⟨hs2_ GE315.out GE316.out⟩⟩

-- NOT PRINTED: function 130 (slices_IndexFunc_string)

-- NOT PRINTED: function 124 (slices_ContainsFunc_string)

/-! ### impl_areRecords: function 110 -/
/-- The first place, from i on, of d places, where q holds. -/
def ixS (q : Nat → Bool) : Nat → Nat → Int
 | _, 0 => -1
 | i, d + 1 => if q i = true then (i : Int) else ixS q (i + 1) d
theorem areRecords_lit (s : ByteArray) (w : World) : Calls Try.prog 125 #[.string s] w fun e w' => e = .returned (.bool (decide ((20 : Int) < (s.size : Int)))) ∧ w = w' := by
 go_enter Try.func125, Try.ntmps125
 go_wp2
 go_ret
 exact ⟨rfl, rfl⟩
set_option maxHeartbeats 8000000 in
set_option maxRecDepth 100000 in
theorem areRecords_idx (q : Nat → Bool) (l : List ByteArray) (A : Option Addr) (c : Nat) (g : Nat) (lb : Array Value) (eg : ∀ args w, (callFunc g args).run Try.prog w = .ok (.enter g args) w) (w : World)
  (hr : Kd.C Kd.string w A l.length l)
  (hp : ∀ (W : World) (i : Nat), Drawn0 w W → i < l.length → Calls Try.prog g (#[.string (rdOf ByteArray.empty l (i : Int))] ++ lb) W fun e w' => e = .returned (.bool (q i)) ∧ Drawn0 w w') :
  Calls Try.prog 130 #[.slice A l.length c, .func (.func g) #[] lb] w fun e w' => e = .returned (.int .i64 (ixS q 0 l.length)) ∧ Drawn0 w w' := by
 have hbig : l.length ≤ 9223372036854775807 := hr.2.1
 have HR := Aside0.mk hr
 have HP := Aside0.mk hp
 clear hr hp
 go_enter Try.func130, Try.ntmps130
 go_wp2
 go_loopg [5, 8] l.length (fun gg _ s8 wr => ∃ kk : Nat, kk ≤ l.length ∧ l.length - kk ≤ gg ∧ s8 = .int .i64 kk ∧ Aside (Drawn0 w wr) ∧ Aside (ixS q 0 l.length = ixS q kk (l.length - kk)))
 case atStart => exact ⟨0, Nat.zero_le _, by omega, rfl, Drawn0.refl w, rfl⟩
 case round =>
  obtain ⟨kk, hkk, hg, rfl, BW, AA⟩ := hrel
  by_cases hlt : kk < l.length
  ·have hltz : (kk : Int) < (l.length : Int) := by omega
   obtain ⟨ad, rfl, hcell⟩ := Kd.at_string (Kd.C_below HR.out BW.out.below) (kk : Int) (by omega) hltz
   have hcall := HP.out wr kk BW.out hlt
   generalize rdOf ByteArray.empty l (kk : Int) = y at hcell hcall
   rw [Int.toNat_natCast] at hcell
   have e1 : ixS q kk (l.length - kk) = if q kk = true then (kk : Int) else ixS q (kk + 1) (l.length - (kk + 1)) := by
    rw [show l.length - kk = (l.length - (kk + 1)) + 1 by omega]
    rfl
   have E1 := Aside0.mk e1
   clear e1
   have HC := Aside0.mk hcall
   clear hcall
   cases hq : q kk with
   | true =>
    have HQ := Aside0.mk hq
    clear hq
    go_wp2_with fail
    refine HC.out.mono ?_
    rw [HQ.out]
    clear HC
    rintro e w2 ⟨rfl, hb2⟩
    have HB2 := Aside0.mk hb2
    clear hb2
    go_wp2_with fail
    go_ret
    refine ⟨?_, HB2.out⟩
    rw [AA.out, E1.out, if_pos HQ.out]
    rfl
   | false =>
    have HQ := Aside0.mk hq
    clear hq
    go_wp2_with fail
    refine HC.out.mono ?_
    rw [HQ.out]
    clear HC
    rintro e w2 ⟨rfl, hb2⟩
    have HB2 := Aside0.mk hb2
    clear hb2
    go_wp2_with fail
    go_roundg (l.length - (kk + 1))
    case measure => omega
    case rel => exact ⟨kk + 1, by omega, by omega, by go_num, HB2.out, (show Aside _ from by rw [AA.out, E1.out, if_neg (by rw [HQ.out]; decide)]; exact rfl)⟩
  ·have hltz : ¬ (kk : Int) < (l.length : Int) := by omega
   have hkl : kk = l.length := by omega
   subst hkl
   go_wp2
   go_ret
   refine ⟨?_, BW.out⟩
   rw [AA.out, Nat.sub_self]
   rfl
set_option maxHeartbeats 8000000 in
set_option maxRecDepth 100000 in
theorem areRecords_cont (q : Nat → Bool) (l : List ByteArray) (A : Option Addr) (c : Nat) (g : Nat) (lb : Array Value) (eg : ∀ args w, (callFunc g args).run Try.prog w = .ok (.enter g args) w) (w : World)
  (hr : Kd.C Kd.string w A l.length l)
  (hp : ∀ (W : World) (i : Nat), Drawn0 w W → i < l.length → Calls Try.prog g (#[.string (rdOf ByteArray.empty l (i : Int))] ++ lb) W fun e w' => e = .returned (.bool (q i)) ∧ Drawn0 w w') :
  Calls Try.prog 124 #[.slice A l.length c, .func (.func g) #[] lb] w fun e w' => e = .returned (.bool (decide (0 ≤ ixS q 0 l.length))) ∧ Drawn0 w w' := by
 have HC := Aside0.mk (areRecords_idx q l A c g lb eg w hr hp)
 clear hr hp
 go_enter Try.func124, Try.ntmps124
 go_wp2_with fail
 refine HC.out.mono ?_
 clear HC
 rintro e w2 ⟨rfl, hb2⟩
 have HB2 := Aside0.mk hb2
 clear hb2
 go_wp2_with fail
 go_ret
 exact ⟨rfl, HB2.out⟩
def impl_areRecords.q (l : List ByteArray) (i : Nat) : Bool := decide ((20 : Int) < ((rdOf ByteArray.empty l (i : Int)).size : Int))
def impl_areRecords.f (l0 : List ByteArray) : Option (Bool) := (impl_in.f (l0.length : Int) 1 8).bind fun t => if t = true then some (!(decide (0 ≤ ixS (impl_areRecords.q l0) 0 l0.length))) else some false
set_option maxHeartbeats 8000000 in
set_option maxRecDepth 100000 in
theorem impl_areRecords.calls (A0 : Option Addr) (c0 : Nat) (l0 : List ByteArray) (r : Bool) (w : World) (hr0 : Kd.C Kd.string w A0 l0.length l0) (_hc0 : l0.length ≤ c0) (h : impl_areRecords.f l0 = some r) :
  Calls Try.prog 110 #[.slice A0 l0.length c0] w fun e w' => e = .returned (.bool r) ∧ Drawn0 w w' := by
 have HR := Aside0.mk hr0
 clear hr0
 unfold impl_areRecords.f at h
 obtain ⟨t, h1, h2⟩ := Option.bind_eq_some_iff.1 h
 have H1 := Aside0.mk h1
 clear h h1
 cases t with
 | true =>
  rw [if_pos rfl] at h2
  have H2 := Aside0.mk (Option.some.inj h2)
  clear h2
  go_enter Try.func110, Try.ntmps110
  go_wp2_with fail
  refine (impl_in.calls _ _ _ _ _ H1.out).mono ?_
  rintro e w1 ⟨rfl, hd1⟩
  have HD1 := Aside0.mk hd1
  clear hd1
  go_wp2_with fail
  refine (areRecords_cont (impl_areRecords.q l0) l0 A0 c0 125 #[] (fun args w => by first | rfl | kernel_rfl) w1 (Kd.C_below HR.out HD1.out.below) (fun W i hd hi => (areRecords_lit _ W).mono fun e w' he => ⟨he.1, he.2 ▸ hd⟩)).mono ?_
  rintro e w2 ⟨rfl, hd2⟩
  have HD2 := Aside0.mk hd2
  clear hd2
  go_wp2_with fail
  go_ret
  refine ⟨by rw [H2.out]; rfl, ?_⟩
  obtain ⟨n2, e2⟩ := HD2.out.out
  rw [e2]
  exact HD1.out.step n2
 | false =>
  rw [if_neg (by decide)] at h2
  have H2 := Aside0.mk (Option.some.inj h2)
  clear h2
  go_enter Try.func110, Try.ntmps110
  go_wp2_with fail
  refine (impl_in.calls _ _ _ _ _ H1.out).mono ?_
  rintro e w1 ⟨rfl, hd1⟩
  have HD1 := Aside0.mk hd1
  clear hd1
  go_wp2_with fail
  go_ret
  exact ⟨by rw [H2.out]; rfl, HD1.out⟩



/-! ### impl_isBatch: function 83 -/
def impl_isBatch.f (a0_0 : Int) (a0_1 : Int) (a0_2 : Int) (a0_3 : Int) (l0_4 : List ByteArray) : Option (Bool) := (impl_in.f a0_0 0 100000).bind fun t329 => (if t329 = true then ((impl_in.f a0_1 0 1000).bind fun t330 => (if t330 = true then ((impl_in.f a0_2 0 65535).bind fun t331 => (if t331 = true then ((impl_in.f a0_3 0 65535).bind fun t332 => (if t332 = true then ((impl_areRecords.f l0_4).bind fun t333 => (some t333)) else (some false))) else (some false))) else (some false))) else (some false))
set_option maxHeartbeats 8000000 in
set_option maxRecDepth 100000 in
theorem impl_isBatch.calls (a0_0 : Int) (a0_1 : Int) (a0_2 : Int) (a0_3 : Int) (A0_4 : Option Addr) (c0_4 : Nat) (l0_4 : List ByteArray) (r : Bool) (w : World) (hr0_4 : Kd.C Kd.string w A0_4 l0_4.length l0_4) (hc0_4 : l0_4.length ≤ c0_4) (h : impl_isBatch.f a0_0 a0_1 a0_2 a0_3 l0_4 = some r) :
  Calls Try.prog 83 #[.agg #[.int .i64 a0_0, .int .i64 a0_1, .int .i64 a0_2, .int .i64 a0_3, .slice A0_4 l0_4.length c0_4]] w fun e w' => e = .returned (.bool r) ∧ Below w.heap.size w w' := by
 have hu43 := Try.underlying43
 have HR0_4 := Aside0.mk hr0_4
 have HC0_4 := Aside0.mk hc0_4
 clear hr0_4 hc0_4
 have HB := Aside0.mk (Below.refl w.heap.size w)
 have H : ((impl_in.f a0_0 0 100000).bind fun t329 => (if t329 = true then ((impl_in.f a0_1 0 1000).bind fun t330 => (if t330 = true then ((impl_in.f a0_2 0 65535).bind fun t331 => (if t331 = true then ((impl_in.f a0_3 0 65535).bind fun t332 => (if t332 = true then ((impl_areRecords.f l0_4).bind fun t333 => (some t333)) else (some false))) else (some false))) else (some false))) else (some false))) = some r := h
 clear h
 replace H := bnd_ H
 obtain ⟨t329, A2, H⟩ := H
 replace H := ifb_ H
 obtain ⟨rfl, H⟩ | ⟨rfl, H⟩ := H
 rotate_left
 ·obtain rfl := Option.some.inj H
  go_enter Try.func83, Try.ntmps83
  go_wp2_with (first | ((with_reducible refine gate_dst (N := 1) rfl ?_); refine bq_ (N := 1) #[.int .i64 a0_0, .int .i64 a0_1, .int .i64 a0_2, .int .i64 a0_3, .slice A0_4 l0_4.length c0_4] 43 ?_; intro gb328 hg w19 BK328 hb; have GE328 := ge_ hg; replace HB := nb_ hb; clear hb hg; obtain ⟨hcz20_0, hcz20_1, hcz20_2, hcz20_3, hcz20_4, hfz20_0, hfz20_1, hfz20_2, hfz20_3, hfz20_4⟩ := cf5_ BK328.out) | ((with_reducible refine gate_callee (f := 58) rfl ?_); refine gl_ 5 Try.func58 #[.int .i64 a0_0, .int .i64 0, .int .i64 100000] rfl ma_ ?_; (with_reducible refine (impl_in.calls a0_0 0 100000 false _ A2.out).mono ?_); rintro e w' ⟨rfl, ⟨nd, rfl⟩⟩; refine ⟨_, rfl, ?_⟩))
  go_ret
  exact ⟨er_, hs_ GE328.out⟩
 replace H := bnd_ H
 obtain ⟨t330, A4, H⟩ := H
 replace H := ifb_ H
 obtain ⟨rfl, H⟩ | ⟨rfl, H⟩ := H
 rotate_left
 ·obtain rfl := Option.some.inj H
  go_enter Try.func83, Try.ntmps83
  go_wp2_with (first | ((with_reducible refine gate_dst (N := 1) rfl ?_); refine bq_ (N := 1) #[.int .i64 a0_0, .int .i64 a0_1, .int .i64 a0_2, .int .i64 a0_3, .slice A0_4 l0_4.length c0_4] 43 ?_; intro gb328 hg w17 BK328 hb; have GE328 := ge_ hg; replace HB := nb_ hb; clear hb hg; obtain ⟨hcz18_0, hcz18_1, hcz18_2, hcz18_3, hcz18_4, hfz18_0, hfz18_1, hfz18_2, hfz18_3, hfz18_4⟩ := cf5_ BK328.out) | ((with_reducible refine gate_callee (f := 58) rfl ?_); refine gl_ 5 Try.func58 #[.int .i64 a0_0, .int .i64 0, .int .i64 100000] rfl ma_ ?_; (with_reducible refine (impl_in.calls a0_0 0 100000 true _ A2.out).mono ?_); rintro e w' ⟨rfl, ⟨nd, rfl⟩⟩; refine ⟨_, rfl, ?_⟩) | (go_at_call 58; (with_reducible refine (impl_in.calls a0_1 0 1000 false _ A4.out).mono ?_); rintro e w' ⟨rfl, ⟨nd, rfl⟩⟩))
  go_ret
  exact ⟨er_, hs_ GE328.out⟩
 replace H := bnd_ H
 obtain ⟨t331, A6, H⟩ := H
 replace H := ifb_ H
 obtain ⟨rfl, H⟩ | ⟨rfl, H⟩ := H
 rotate_left
 ·obtain rfl := Option.some.inj H
  go_enter Try.func83, Try.ntmps83
  go_wp2_with (first | ((with_reducible refine gate_dst (N := 1) rfl ?_); refine bq_ (N := 1) #[.int .i64 a0_0, .int .i64 a0_1, .int .i64 a0_2, .int .i64 a0_3, .slice A0_4 l0_4.length c0_4] 43 ?_; intro gb328 hg w15 BK328 hb; have GE328 := ge_ hg; replace HB := nb_ hb; clear hb hg; obtain ⟨hcz16_0, hcz16_1, hcz16_2, hcz16_3, hcz16_4, hfz16_0, hfz16_1, hfz16_2, hfz16_3, hfz16_4⟩ := cf5_ BK328.out) | ((with_reducible refine gate_callee (f := 58) rfl ?_); refine gl_ 5 Try.func58 #[.int .i64 a0_0, .int .i64 0, .int .i64 100000] rfl ma_ ?_; (with_reducible refine (impl_in.calls a0_0 0 100000 true _ A2.out).mono ?_); rintro e w' ⟨rfl, ⟨nd, rfl⟩⟩; refine ⟨_, rfl, ?_⟩) | (go_at_call 58; (with_reducible refine (impl_in.calls a0_1 0 1000 true _ A4.out).mono ?_); rintro e w' ⟨rfl, ⟨nd, rfl⟩⟩) | (go_at_call 58; (with_reducible refine (impl_in.calls a0_2 0 65535 false _ A6.out).mono ?_); rintro e w' ⟨rfl, ⟨nd, rfl⟩⟩))
  go_ret
  exact ⟨er_, hs_ GE328.out⟩
 replace H := bnd_ H
 obtain ⟨t332, A8, H⟩ := H
 replace H := ifb_ H
 obtain ⟨rfl, H⟩ | ⟨rfl, H⟩ := H
 rotate_left
 ·obtain rfl := Option.some.inj H
  go_enter Try.func83, Try.ntmps83
  go_wp2_with (first | ((with_reducible refine gate_dst (N := 1) rfl ?_); refine bq_ (N := 1) #[.int .i64 a0_0, .int .i64 a0_1, .int .i64 a0_2, .int .i64 a0_3, .slice A0_4 l0_4.length c0_4] 43 ?_; intro gb328 hg w13 BK328 hb; have GE328 := ge_ hg; replace HB := nb_ hb; clear hb hg; obtain ⟨hcz14_0, hcz14_1, hcz14_2, hcz14_3, hcz14_4, hfz14_0, hfz14_1, hfz14_2, hfz14_3, hfz14_4⟩ := cf5_ BK328.out) | ((with_reducible refine gate_callee (f := 58) rfl ?_); refine gl_ 5 Try.func58 #[.int .i64 a0_0, .int .i64 0, .int .i64 100000] rfl ma_ ?_; (with_reducible refine (impl_in.calls a0_0 0 100000 true _ A2.out).mono ?_); rintro e w' ⟨rfl, ⟨nd, rfl⟩⟩; refine ⟨_, rfl, ?_⟩) | (go_at_call 58; (with_reducible refine (impl_in.calls a0_1 0 1000 true _ A4.out).mono ?_); rintro e w' ⟨rfl, ⟨nd, rfl⟩⟩) | (go_at_call 58; (with_reducible refine (impl_in.calls a0_2 0 65535 true _ A6.out).mono ?_); rintro e w' ⟨rfl, ⟨nd, rfl⟩⟩) | (go_at_call 58; (with_reducible refine (impl_in.calls a0_3 0 65535 false _ A8.out).mono ?_); rintro e w' ⟨rfl, ⟨nd, rfl⟩⟩))
  go_ret
  exact ⟨er_, hs_ GE328.out⟩
 replace H := bnd_ H
 obtain ⟨t333, A10, H⟩ := H
 obtain rfl := Option.some.inj H
 go_enter Try.func83, Try.ntmps83
 go_wp2_with (first | ((with_reducible refine gate_dst (N := 1) rfl ?_); refine bq_ (N := 1) #[.int .i64 a0_0, .int .i64 a0_1, .int .i64 a0_2, .int .i64 a0_3, .slice A0_4 l0_4.length c0_4] 43 ?_; intro gb328 hg w11 BK328 hb; have GE328 := ge_ hg; replace HB := nb_ hb; clear hb hg; obtain ⟨hcz12_0, hcz12_1, hcz12_2, hcz12_3, hcz12_4, hfz12_0, hfz12_1, hfz12_2, hfz12_3, hfz12_4⟩ := cf5_ BK328.out) | ((with_reducible refine gate_callee (f := 58) rfl ?_); refine gl_ 5 Try.func58 #[.int .i64 a0_0, .int .i64 0, .int .i64 100000] rfl ma_ ?_; (with_reducible refine (impl_in.calls a0_0 0 100000 true _ A2.out).mono ?_); rintro e w' ⟨rfl, ⟨nd, rfl⟩⟩; refine ⟨_, rfl, ?_⟩) | (go_at_call 58; (with_reducible refine (impl_in.calls a0_1 0 1000 true _ A4.out).mono ?_); rintro e w' ⟨rfl, ⟨nd, rfl⟩⟩) | (go_at_call 58; (with_reducible refine (impl_in.calls a0_2 0 65535 true _ A6.out).mono ?_); rintro e w' ⟨rfl, ⟨nd, rfl⟩⟩) | (go_at_call 58; (with_reducible refine (impl_in.calls a0_3 0 65535 true _ A8.out).mono ?_); rintro e w' ⟨rfl, ⟨nd, rfl⟩⟩) | (go_at_call 110; (with_reducible refine (impl_areRecords.calls _ _ l0_4 t333 _ ?side1 ?side2 A10.out).mono ?_); (case side1 => exact cs_ ((Kd.C_below HR0_4.out (hs_ GE328.out)))); (case side2 => exact HC0_4.out); rintro e w' ⟨rfl, ⟨nd, rfl⟩⟩))
 go_ret
 exact ⟨er_, hs_ GE328.out⟩

/-! ### impl_get: function 116 -/
def impl_get.l0 : Nat → ByteArray → Int → Int → Int → Option (Int)
 | 0, _, _, _, _ => none
 | k + 1, x0, x3, x6, x7 => if x7 < x6 then (if 0 ≤ x7 then (if x7 < (x0.size : Int) then (impl_get.l0 k x0 (Go.bits .or .i64 (wrap64 (x3 * 256)) (wrap64 (bt x0 x7))) x6 (wrap64 (x7 + 1))) else (none)) else (none)) else (some x3)
def impl_get.f (k : Nat) (a0 : ByteArray) : Option (Int) := impl_get.l0 k a0 0 (a0.size : Int) 0
theorem impl_get.mono_l : ∀ k, (∀ y0 y1 y2 y3, LeO (impl_get.l0 k y0 y1 y2 y3) (impl_get.l0 (k + 1) y0 y1 y2 y3))
 | 0 => fun _ _ _ _ r h => by simp [impl_get.l0] at h
 | k + 1 => by
  have ih0 := impl_get.mono_l k
  ·intro y0 y1 y2 y3
   unfold impl_get.l0
   repeat' first
   | (with_reducible first | apply ih0 | exact LeO.refl _ | exact LeO.none _ | refine LeO.ite ?_ ?_ | refine LeO.bind ?_ (fun _ => ?_))
theorem impl_get.mono : ∀ a0 k, LeO (impl_get.f k a0) (impl_get.f (k + 1) a0) := by
 intro a0 k
 have ih0 := impl_get.mono_l k
 unfold impl_get.f
 repeat' first
   | (with_reducible first | apply ih0 | exact LeO.refl _ | exact LeO.none _ | refine LeO.ite ?_ ?_ | refine LeO.bind ?_ (fun _ => ?_))
set_option maxHeartbeats 8000000 in
set_option maxRecDepth 100000 in
theorem impl_get.calls (k : Nat) (a0 : ByteArray) (r : Int) (w : World) (h : impl_get.f k a0 = some r) :
  Calls Try.prog 116 #[.string a0] w fun e w' => e = .returned (.int .i64 r) ∧ Drawn0 w w' := by
 have H : (impl_get.l0 k a0 0 (a0.size : Int) 0) = some r := h
 clear h
 have H' := Aside0.mk H
 clear H
 go_enter Try.func116, Try.ntmps116
 go_wp2
 go_loopg [3, 7] k (fun kq v3 v7 w' => ∃ (x3_1 : Int) (x7_1 : Int), v3 = .int .i64 x3_1 ∧ v7 = .int .i64 x7_1 ∧ Aside0 (impl_get.l0 kq a0 x3_1 (a0.size : Int) x7_1 = some r) ∧ Aside0 (kq ≤ k) ∧ Drawn0 w w')
 case atStart => exact ⟨(0), (0), sr_, sr_, H', ⟨Nat.le_refl _⟩, dr_⟩
 case round =>
  clear H'
  obtain ⟨x3_1, x7_1, rfl, rfl, HA, HK1, ⟨m1, rfl⟩⟩ := hrel
  cases gk with
  | zero => exact absurd HA.out (by simp [impl_get.l0])
  | succ k1 =>
   have H := HA.out
   clear HA
   simp only [impl_get.l0] at H
   replace H := ite_ H
   obtain ⟨c2, H⟩ | ⟨c2, H⟩ := H
   rotate_left
   ·have c2b0 := decide_eq_false c2
    clear c2
    obtain rfl := Option.some.inj H
    go_wp2
    go_ret
    exact ⟨by first | rfl | (simp; done) | (simp [*]; done), dr_⟩
   have c2b0 := decide_eq_true c2
   clear c2
   replace H := ifs_ H
   obtain ⟨c3, H⟩ := H
   have c3b0 := decide_eq_true c3
   clear c3
   replace H := ifs_ H
   obtain ⟨c4, H⟩ := H
   have c4b0 := decide_eq_true c4
   clear c4
   have H' := Aside0.mk H
   clear H
   have p5 : 0 ≤ (x7_1 : Int) := oa_
   have q5 : x7_1 < (a0.size : Int) := oa_
   have hx5 := bt_at a0 x7_1
   replace p5 := eq_true p5
   replace q5 := eq_true q5
   go_wp2
   go_roundg k1
   case measure => have := HK1.out; omega
   case rel => exact ⟨(Go.bits .or .i64 (wrap64 (x3_1 * 256)) (wrap64 (bt a0 x7_1))), (wrap64 (x7_1 + 1)), sr_, sr_, H', ⟨by have := HK1.out; omega⟩, dr_⟩

end Go.Proofs.Ytffpeklekkpbjaa.QFnExactFindBatch
