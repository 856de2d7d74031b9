/- Functions that one statement reaches: of each a plain function, and the proof that calls come to it. Conditions: those that each contract names. Written by a program of this repository. -/
import Derived.Test.YtffpeklekkpbjaaVTruncateToa
import Derived.Test.YtffpeklekkpbjaaQFnExactTruncateTox2
import Derived.Test.YtffpeklekkpbjaaQFnExactTruncateTox16
import Derived.Test.YtffpeklekkpbjaaQFnExactTruncateTox17
namespace Go.Proofs.Ytffpeklekkpbjaa.QFnExactTruncateTo
open Go.RowKit Go.Proofs.YtffpeklekkpbjaaW.PrintWords Go.Proofs.YtffpeklekkpbjaaW.PrintLast Go.Proofs.YtffpeklekkpbjaaW.PrintMore
attribute [local go_sem] max2_int min2_int max_two min_two max_three min_three max_four min_four Go.Proofs.YtffpeklekkpbjaaW.PrintMore2.isSome_setCell   -- for this text's walks alone
set_option linter.unusedVariables false
set_option linter.unusedSimpArgs false

/-! ### impl_storeOf: function 72 -/
def impl_storeOf.l0 : Nat → List (List (S43)) → Int → Int → List (S65) → Int → Option ((List (S65)) × Int)
 | 0, _, _, _, _, _ => none
 | k + 1, x10, x11, x12, x337000, x337001 => if x12 < x11 then (if 0 ≤ x12 then (if x12 < (x10.length : Int) then ((impl_segmentOf.f k (rd_L13 x10 x12) x337001).bind fun bt338 => (if x337000.length < 2932031007402 then ((some (x337000 ++ [(⟨bt338.1, bt338.2.1, bt338.2.2⟩ : S65)] : List (S65))).bind fun y343 => (if ((rd_L13 x10 x12).length : Int) > 0 then (if 0 ≤ (wrap64 (((rd_L13 x10 x12).length : Int) - 1)) then (if (wrap64 (((rd_L13 x10 x12).length : Int) - 1)) < ((rd_L13 x10 x12).length : Int) then ((impl_Batch_end.f ((rd_T43 (rd_L13 x10 x12) (wrap64 (((rd_L13 x10 x12).length : Int) - 1))).f0) ((rd_T43 (rd_L13 x10 x12) (wrap64 (((rd_L13 x10 x12).length : Int) - 1))).f1) ((rd_T43 (rd_L13 x10 x12) (wrap64 (((rd_L13 x10 x12).length : Int) - 1))).f2) ((rd_T43 (rd_L13 x10 x12) (wrap64 (((rd_L13 x10 x12).length : Int) - 1))).f3) ((rd_T43 (rd_L13 x10 x12) (wrap64 (((rd_L13 x10 x12).length : Int) - 1))).f4)).bind fun t347 => (impl_storeOf.l0 k x10 x11 (wrap64 (x12 + 1)) y343 t347)) else (none)) else (none)) else (impl_storeOf.l0 k x10 x11 (wrap64 (x12 + 1)) y343 x337001))) else (none))) else (none)) else (none)) else (some (x337000, x337001))
def impl_storeOf.f (k : Nat) (l0 : List (List (S43))) (a1 : Int) : Option ((List (S65)) × Int) := impl_storeOf.l0 k l0 (l0.length : Int) 0 ([] : List (S65)) a1
theorem impl_storeOf.mono_l : ∀ k, (∀ y0 y1 y2 y3 y4, LeO (impl_storeOf.l0 k y0 y1 y2 y3 y4) (impl_storeOf.l0 (k + 1) y0 y1 y2 y3 y4))
 | 0 => fun _ _ _ _ _ r h => by simp [impl_storeOf.l0] at h
 | k + 1 => by
  have ih0 := impl_storeOf.mono_l k
  ·intro y0 y1 y2 y3 y4
   unfold impl_storeOf.l0
   repeat' first
   | (with_reducible first | apply ih0 | apply impl_segmentOf.mono | exact LeO.refl _ | exact LeO.none _ | refine LeO.ite ?_ ?_ | refine LeO.bind ?_ (fun _ => ?_))
theorem impl_storeOf.mono : ∀ a0 a1 k, LeO (impl_storeOf.f k a0 a1) (impl_storeOf.f (k + 1) a0 a1) := by
 intro a0 a1 k
 have ih0 := impl_storeOf.mono_l k
 unfold impl_storeOf.f
 repeat' first
   | (with_reducible first | apply ih0 | apply impl_segmentOf.mono | exact LeO.refl _ | exact LeO.none _ | refine LeO.ite ?_ ?_ | refine LeO.bind ?_ (fun _ => ?_))
def impl_storeOf.T5 : Bool × List (List Nat × List Nat) := (true, [([], []), ([0], [0]), ([], []), ([], []), ([3], [3]), ([2, 4], [2, 4]), ([5], [5]), ([1, 6, 5], [1, 6]), ([0, 1, 2, 3, 4, 5, 6, 7], []), ([8, 7, 7, 0, 1, 2, 3, 4, 5, 6, 7], [7, 8])])
def impl_storeOf.B5 : List Nat := [0, 1, 0, 0, 8, 28, 60, 127, 255, 511]
theorem impl_storeOf.tab5 : rtab .any (opsOf Try.f72 5) = impl_storeOf.T5 := by kernel_rfl
theorem impl_storeOf.bits5 : waitsOk impl_storeOf.T5.2 impl_storeOf.B5 = true := by kernel_rfl
set_option maxHeartbeats 8000000 in
set_option maxRecDepth 100000 in
theorem impl_storeOf.calls (k : Nat) (A0 : Option Addr) (c0 : Nat) (l0 : List (List (S43))) (a1 : Int) (r1 : List (S65)) (r2 : Int) (w : World) (hr0 : Kd.C (Kd.slice 43 k43) w A0 l0.length l0) (hc0 : l0.length ≤ c0) (h : impl_storeOf.f k l0 a1 = some (r1, r2)) :
  Calls Try.prog 72 #[.slice A0 l0.length c0, .int .i64 a1] w fun e w' => ∃ v0_ : Value, e = .returned (.agg #[v0_, .int .i64 r2]) ∧ Kd.S k65 65 w' w.heap.size (fun _ => True) v0_ r1 ∧ Below w.heap.size w w' := by
 have hu24 := Try.underlying24
 have hu43 := Try.underlying43
 have HR0 := Aside0.mk hr0
 have HC0 := Aside0.mk hc0
 clear hr0 hc0
 have HB := Aside0.mk (Below.refl w.heap.size w)
 have H : (impl_storeOf.l0 k l0 (l0.length : Int) 0 ([] : List (S65)) a1) = some (r1, r2) := h
 clear h
 have H' := Aside0.mk H
 clear H
 go_enter Try.func72, Try.ntmps72
 go_wp2_with (first | ((with_reducible refine gate_dst (N := 4) rfl ?_); refine bq_ (N := 4) #[.slice none 0 0, .int .i64 0] 24 ?_; intro gb335 hg w3 BK335 hb; have GE335 := ge_ hg; replace HB := nb_ hb; clear hb hg) | ((with_reducible refine gate_dst (N := 5) rfl ?_); refine bq_ (N := 5) #[.slice none 0 0, .int .i64 0] 24 ?_; intro gb336 hg w4 BK336 hb; have GW336 := ge1_ hg GE335; have GE336 := ge1_ hg GE335; replace HB := nc_ GE335 hb; have NB335_336 := nl_ BK335 hg; have NB336_335 := ng_ BK335 hg; replace BK335 := bK_ BK335 hb; clear hb hg; have hnb5 := NB336_335.out; have hnc5 := NB335_336.out; obtain ⟨hcz6_0, hcz6_1, hfz6_0, hfz6_1⟩ := cf2_ BK336.out))
 go_loopg [12] k (fun kq v12 w' => ∃ (x12_1 : Int) (x337000_1 : List (S65)) (x337001_1 : Int) (u337000 : Value), v12 = .int .i64 x12_1 ∧ Aside0 (impl_storeOf.l0 kq l0 (l0.length : Int) x12_1 x337000_1 x337001_1 = some (r1, r2)) ∧ Aside0 (kq ≤ k) ∧ Aside0 (Kd.S k65 65 w' w.heap.size (fun _ => True) u337000 x337000_1) ∧ Aside0 (w'.heap[gb335]? = some (.cells #[(.slice none 0 0), .int .i64 0] 24 (0, 0))) ∧ Aside0 (w'.heap[gb336]? = some (.cells #[u337000, .int .i64 x337001_1] 24 (0, 0))) ∧ Aside0 (Below w.heap.size w w'))
 case atStart => exact ⟨(0), (([] : List (S65))), (a1), (.slice none 0 0), sr_, H', ⟨Nat.le_refl _⟩, ⟨by first | exact Kd.S_nil _ _ _ _ _ | exact Kd.N_nil _ _ _ _ _ | exact Kd.V_nil _ _ _ _ _ | exact Kd.Q_nil _ _ _ _ _ | exact Kd.R_nil _ _ _ _ _⟩, ⟨uf_ BK335 NB335_336.out⟩, ⟨up_ BK336⟩, ⟨hs2_ GE335.out GE336.out⟩⟩
 case round =>
  clear H'
  try clear hcz6_0
  try clear hcz6_1
  try clear hfz6_0
  try clear hfz6_1
  obtain ⟨x12_1, x337000_1, x337001_1, u337000, rfl, HA, HK1, HO_337000, BK335, BK336, HB⟩ := hrel
  cases gk with
  | zero => exact absurd HA.out (by simp [impl_storeOf.l0])
  | succ k1 =>
   have H := HA.out
   clear HA
   simp only [impl_storeOf.l0] at H
   replace H := ite_ H
   obtain ⟨c7, H⟩ | ⟨c7, H⟩ := H
   rotate_left
   ·have c7b0 := decide_eq_false c7
    clear c7
    simp only [Option.some.injEq, Prod.mk.injEq] at H
    obtain ⟨rfl, rfl⟩ := H
    have hnb32 := NB336_335.out
    have hnc32 := NB335_336.out
    obtain ⟨hcz33_0, hcz33_1, hfz33_0, hfz33_1⟩ := cf2_ BK336.out
    obtain ⟨Ao34, co34, eo34⟩ := Kd.S_slice HO_337000.out
    subst eo34
    obtain ⟨hcz35_0, hcz35_1, hfz35_0, hfz35_1⟩ := cf2_ BK335.out
    go_wp2
    refine bodyPost_ret (results_cell_row rfl _ _ gb335 24 #[.slice Ao34 x337000_1.length co34, .int .i64 x337001_1] (0, 0) _ rfl (up_ BK335) Try.underlying24 rfl (by kernel_rfl)) rfl ?_
    exact ⟨_, er_, Kd.S_mono (sF_ (Kd.S_types HO_337000.out BK335.out (by decide))) (fun _ hk => trivial), hs2_ GE335.out GE336.out⟩
   have c7b0 := decide_eq_true c7
   clear c7
   replace H := ifs_ H
   obtain ⟨c8, H⟩ := H
   have c8b0 := decide_eq_true c8
   clear c8
   replace H := ifs_ H
   obtain ⟨c9, H⟩ := H
   have c9b0 := decide_eq_true c9
   clear c9
   replace H := bnd_ H
   obtain ⟨⟨t338, t339, t340⟩, A10, H⟩ := H
   replace H := red_ H
   replace H := ifs_ H
   obtain ⟨c11, H⟩ := H
   have LMc11 := Aside0.mk c11
   clear c11
   obtain ⟨y343, hy343⟩ : ∃ y_ : List (S65), y_ = (x337000_1 ++ [(⟨t338, t339, t340⟩ : S65)]) := ⟨_, rfl⟩
   replace H : (if ((rd_L13 l0 x12_1).length : Int) > 0 then (if 0 ≤ (wrap64 (((rd_L13 l0 x12_1).length : Int) - 1)) then (if (wrap64 (((rd_L13 l0 x12_1).length : Int) - 1)) < ((rd_L13 l0 x12_1).length : Int) then ((impl_Batch_end.f ((rd_T43 (rd_L13 l0 x12_1) (wrap64 (((rd_L13 l0 x12_1).length : Int) - 1))).f0) ((rd_T43 (rd_L13 l0 x12_1) (wrap64 (((rd_L13 l0 x12_1).length : Int) - 1))).f1) ((rd_T43 (rd_L13 l0 x12_1) (wrap64 (((rd_L13 l0 x12_1).length : Int) - 1))).f2) ((rd_T43 (rd_L13 l0 x12_1) (wrap64 (((rd_L13 l0 x12_1).length : Int) - 1))).f3) ((rd_T43 (rd_L13 l0 x12_1) (wrap64 (((rd_L13 l0 x12_1).length : Int) - 1))).f4)).bind fun t347 => (impl_storeOf.l0 k1 l0 (l0.length : Int) (wrap64 (x12_1 + 1)) y343 t347)) else (none)) else (none)) else (impl_storeOf.l0 k1 l0 (l0.length : Int) (wrap64 (x12_1 + 1)) y343 x337001_1)) = some (r1, r2) := by first | (rw [hy343]; with_reducible exact H) | (have H2_ := (Option.bind_some _ _).symm.trans H; rw [hy343]; with_reducible exact H2_) | (have H2_ := (Option.bind_some _ _).symm.trans H; with_reducible exact H2_) | with_reducible exact H | (rw [hy343]; exact H) | exact H
   have Ny343 := Aside0.mk hy343
   clear hy343
   replace H := ite_ H
   obtain ⟨c12, H⟩ | ⟨c12, H⟩ := H
   rotate_left
   ·have c12b0 := dgf_ c12
    have c12b1 : decide (0 < (rd_L13 l0 x12_1).length) = false := decide_eq_false (by omega)
    clear c12
    have H' := Aside0.mk H
    clear H
    have p337 : 0 ≤ (x12_1 : Int) := oa_
    have q337 : x12_1 < (l0.length : Int) := oa_
    obtain ⟨ad337, A337_0, c337_0, e337, hx337_0, hl337_0, hi337_0⟩ := at_L13 HR0.out x12_1 p337 q337
    cases e337
    replace hx337_0 := pc_ HB.out hx337_0
    have HR337_0 := Aside0.mk hi337_0
    have HC337_0 := Aside0.mk hl337_0
    clear hi337_0 hl337_0
    replace p337 := eq_true p337
    replace q337 := eq_true q337
    try go_wp2
    replace HO_337000 := Aside0.mk (Kd.S_drew HO_337000.out)
    replace BK335 := qK_ BK335
    replace BK336 := qK_ BK336
    replace HB := qH_ HB
    refine start_ (n := 10) (S := fun w' => w'.cell? ⟨gb336, 0, none⟩ = some (u337000) ∧ w'.cell? ⟨gb336, 1, none⟩ = some (.int .i64 x337001_1)) (ds := [9]) (List.replicate 10 false).toArray (by kernel_rfl) rfl rfl ⟨bt_ BK336 0, bt_ BK336 1⟩ (fun hHeld => ?_); refine with_tabW impl_storeOf.tab5 impl_storeOf.bits5 (fun HT_ HW_ => ?_)
    generalize wr.drew = w26 at HO_337000 BK335 BK336 HB hHeld ⊢
    refine pv_ 0 16 ?_
    refine pv_ 2 18 ?_
    refine pv_ 3 19 ?_
    refine tk_ 1 17 ?_
    refine tk_ 4 20 ?_
    refine on_ 5 21 (fun K hK => ?_)
    refine gs_ Try.func104 #[.slice A337_0 (rd_L13 l0 x12_1).length c337_0, .int .i64 x337001_1] rfl ma_ ?_
    with_reducible refine (impl_segmentOf.calls k1 _ _ (rd_L13 l0 x12_1) x337001_1 t338 t339 t340 _ ?side1 ?side2 A10.out).mono ?_
    (case side1 => exact cs_ ((Kd.C_below HR337_0.out HB.out)))
    (case side2 => exact HC337_0.out)
    rintro e w27 ⟨v341, rfl, ho0, hb⟩
    refine ⟨_, rfl, ?_⟩
    replace HO_337000 := Aside0.mk (Kd.S_elder' (ks_ HO_337000.out) (Kd.R_base ho0) hb)
    have HO342 := Aside0.mk (Kd.R_lower ho0 (below_size (hs2_ GE335.out GE336.out)))
    replace BK335 := bK_ BK335 hb
    replace BK336 := bK_ BK336 hb
    replace HB := nc2_ GE335 GE336 hb
    (try clear hb)
    (try clear hb2)
    (try clear hk)
    (try clear hi)
    (try clear ho0)
    obtain ⟨Ao29, co29, eo29⟩ := Kd.R_slice HO342.out
    (first | subst eo29 | (injection eo29 with f1_ f2_ f3_; have f4_ := f1_.symm; have f5_ := f3_.symm; clear f1_ f2_ f3_; subst f4_; subst f5_))
    refine hK.out _ _ ⟨bt_ BK336 0, bt_ BK336 1⟩ (fun hHeld => ?_)
    clear hK K
    refine no_ ?_
    refine on_ 6 22 (fun K hK => ?_)
    refine value_ (w1 := ?_) (v := ?_) (by rfl) rfl ?_ ?_
    rotate_left 2
    ·go_simp
     constructor
     ·rfl
     ·rfl
    refine hK.out _ _ ⟨(blk_cell (blk_alloc BK336.out _) 0).trans rfl, (blk_cell (blk_alloc BK336.out _) 1).trans rfl⟩ (fun hHeld => ?_)
    clear hK K
    refine no_ ?_
    refine on_ 7 23 (fun K hK => ?_)
    refine Kd.S_append_step k65 (w0 := w) w.heap.size (by rfl) (.tmp 17) (.tmp 22) 22 65 (.agg #[(.int .i64 0), (.string ⟨#[]⟩), (.slice none 0 0)]) 48 rfl Try.underlying22 info65 rfl (by decide) (by omega) u337000 x337000_1 (⟨t338, t339, t340⟩ : S65) [.int .i64 t338, .string t339, .slice Ao29 t340.length co29] (fun _ => True) (fun k_ => some k_ = (.slice Ao29 t340.length co29 : Value).ownBlock) rfl rfl ?aP (fun k_ hk_ => ((Kd.R_mono (ok' := fun k_ => ((fun _ => True)) k_ ∧ some k_ ≠ (u337000 : Value).ownBlock) (Kd.R_apart' (HO342.out) (Kd.S_typed HO_337000.out) (by decide)) (fun k_ hk => ⟨trivial, hk.2⟩))).1 k_ hk_.symm) ?aF ?aO ?aB ?aS ?aL ?_
    (case aP => exact k65_mkM _ _ _ (⟨t338, t339, t340⟩ : S65) (Kd.R_mono (Kd.R_tight rfl (Kd.R_mono (ok' := fun k_ => ((fun _ => True)) k_ ∧ some k_ ≠ (u337000 : Value).ownBlock) (Kd.R_apart' (HO342.out) (Kd.S_typed HO_337000.out) (by decide)) (fun k_ hk => ⟨trivial, hk.2⟩))) (fun _ h_ => h_)))
    (case aB => exact (hs2_ GE335.out GE336.out))
    (case aF => exact (fun _ _ => trivial))
    (case aO => exact (sF_ (Kd.S_mono HO_337000.out (fun k_ hk => ⟨trivial, fun e_ => hk.2 e_⟩))))
    (case aS => exact (below_size (hs2_ GE335.out GE336.out)))
    (case aL => have := LMc11.out; omega)
    intro v344 w28 ho hb hg hat
    rw [← Ny343.out] at ho
    replace BK335 := Aside0.mk (blk_grown (g := gb335) (o := .cells #[.slice none 0 0, .int .i64 0] 24 (0, 0)) (kb_ BK335.out) hg (Kd.S_ne HO_337000.out BK335.out (by decide)))
    replace BK336 := Aside0.mk (blk_grown (g := gb336) (o := .cells #[u337000, .int .i64 x337001_1] 24 (0, 0)) (kb_ BK336.out) hg (Kd.S_ne HO_337000.out BK336.out (by decide)))
    replace HB := Aside0.mk (hb)
    have HO345 := Aside0.mk (ho)
    clear HO_337000 HO342
    clear ho hb hg hat
    obtain ⟨Ao30, co30, eo30⟩ := Kd.S_slice HO345.out
    (first | subst eo30 | (injection eo30 with f1_ f2_ f3_; have f4_ := f1_.symm; have f5_ := f3_.symm; clear f1_ f2_ f3_; subst f4_; subst f5_))
    refine hK.out _ _ ⟨bt_ BK336 0, bt_ BK336 1⟩ (fun hHeld => ?_)
    clear hK K
    refine no_ ?_
    refine pv_ 8 24 ?_
    refine last_ (i := 9) (N := none) #[true, true, true, true, true, true, true, true, true, true] rfl rfl (one_of HT_.out (by kernel_rfl)) (by decide) (fun K hK => ?_)
    obtain ⟨hs31, hfs31⟩ := cf1_ BK336.out
    have hns31_0 := NB335_336.out
    have hms31_0 := NB336_335.out
    refine skip_ (w1 := ?_) (by rfl) rfl ?_ ?_
    rotate_left
    ·go_simp
     rfl
    refine hK.out _ _ ?_
    clear hK K
    refine done_ (done_of HT_.out (by kernel_rfl)) ?_
    try go_wp2
    go_roundg k1
    case measure => have := HK1.out; omega
    case rel => exact ⟨(wrap64 (x12_1 + 1)), (y343), (x337001_1), (.slice Ao30 y343.length co30), sr_, H', ⟨by have := HK1.out; omega⟩, ⟨sF_ (Kd.S_mono (Kd.S_far (p := ⟨gb336, 0, none⟩) (Kd.S_types HO345.out BK336.out (by decide)) (fun _ hk => hk.2) (.slice Ao30 y343.length co30)) (fun _ hk => trivial))⟩, ⟨uf_ BK335 NB335_336.out⟩, ⟨up_ BK336⟩, ⟨hs2_ GE335.out GE336.out⟩⟩
   have c12b0 := dgt_ c12
   have c12b1 : decide (0 < (rd_L13 l0 x12_1).length) = true := decide_eq_true (by omega)
   clear c12
   obtain ⟨ji13, hji13⟩ : ∃ j_ : Int, (wrap64 (((rd_L13 l0 x12_1).length : Int) - 1)) = j_ := ⟨_, rfl⟩
   first | rw [hji13] at H | simp only [hji13] at H
   (try rw [hji13] at A10)
   have hji13w : (IntKind.i64.wrap (((rd_L13 l0 x12_1).length : Int) - 1)) = ji13 := (i64_w _).trans hji13
   replace H := ifs_ H
   obtain ⟨c14, H⟩ := H
   have c14b0 := decide_eq_true c14
   clear c14
   replace H := ifs_ H
   obtain ⟨c15, H⟩ := H
   have c15b0 := decide_eq_true c15
   clear c15
   replace H := bnd_ H
   obtain ⟨t347, A16, H⟩ := H
   have H' := Aside0.mk H
   clear H
   have p337 : 0 ≤ (x12_1 : Int) := oa_
   have q337 : x12_1 < (l0.length : Int) := oa_
   obtain ⟨ad337, A337_0, c337_0, e337, hx337_0, hl337_0, hi337_0⟩ := at_L13 HR0.out x12_1 p337 q337
   cases e337
   replace hx337_0 := pc_ HB.out hx337_0
   have HR337_0 := Aside0.mk hi337_0
   have HC337_0 := Aside0.mk hl337_0
   clear hi337_0 hl337_0
   replace p337 := eq_true p337
   replace q337 := eq_true q337
   try go_wp2
   replace HO_337000 := Aside0.mk (Kd.S_drew HO_337000.out)
   replace BK335 := qK_ BK335
   replace BK336 := qK_ BK336
   replace HB := qH_ HB
   refine start_ (n := 10) (S := fun w' => w'.cell? ⟨gb336, 0, none⟩ = some (u337000) ∧ w'.cell? ⟨gb336, 1, none⟩ = some (.int .i64 x337001_1)) (ds := [9]) (List.replicate 10 false).toArray (by kernel_rfl) rfl rfl ⟨bt_ BK336 0, bt_ BK336 1⟩ (fun hHeld => ?_); refine with_tabW impl_storeOf.tab5 impl_storeOf.bits5 (fun HT_ HW_ => ?_)
   generalize wr.drew = w17 at HO_337000 BK335 BK336 HB hHeld ⊢
   refine pv_ 0 16 ?_
   refine pv_ 2 18 ?_
   refine pv_ 3 19 ?_
   refine tk_ 1 17 ?_
   refine tk_ 4 20 ?_
   refine on_ 5 21 (fun K hK => ?_)
   refine gs_ Try.func104 #[.slice A337_0 (rd_L13 l0 x12_1).length c337_0, .int .i64 x337001_1] rfl ma_ ?_
   with_reducible refine (impl_segmentOf.calls k1 _ _ (rd_L13 l0 x12_1) x337001_1 t338 t339 t340 _ ?side1 ?side2 A10.out).mono ?_
   (case side1 => exact cs_ ((Kd.C_below HR337_0.out HB.out)))
   (case side2 => exact HC337_0.out)
   rintro e w18 ⟨v341, rfl, ho0, hb⟩
   refine ⟨_, rfl, ?_⟩
   replace HO_337000 := Aside0.mk (Kd.S_elder' (ks_ HO_337000.out) (Kd.R_base ho0) hb)
   have HO342 := Aside0.mk (Kd.R_lower ho0 (below_size (hs2_ GE335.out GE336.out)))
   replace BK335 := bK_ BK335 hb
   replace BK336 := bK_ BK336 hb
   replace HB := nc2_ GE335 GE336 hb
   (try clear hb)
   (try clear hb2)
   (try clear hk)
   (try clear hi)
   (try clear ho0)
   obtain ⟨Ao20, co20, eo20⟩ := Kd.R_slice HO342.out
   (first | subst eo20 | (injection eo20 with f1_ f2_ f3_; have f4_ := f1_.symm; have f5_ := f3_.symm; clear f1_ f2_ f3_; subst f4_; subst f5_))
   refine hK.out _ _ ⟨bt_ BK336 0, bt_ BK336 1⟩ (fun hHeld => ?_)
   clear hK K
   refine no_ ?_
   refine on_ 6 22 (fun K hK => ?_)
   refine value_ (w1 := ?_) (v := ?_) (by rfl) rfl ?_ ?_
   rotate_left 2
   ·go_simp
    constructor
    ·rfl
    ·rfl
   refine hK.out _ _ ⟨(blk_cell (blk_alloc BK336.out _) 0).trans rfl, (blk_cell (blk_alloc BK336.out _) 1).trans rfl⟩ (fun hHeld => ?_)
   clear hK K
   refine no_ ?_
   refine on_ 7 23 (fun K hK => ?_)
   refine Kd.S_append_step k65 (w0 := w) w.heap.size (by rfl) (.tmp 17) (.tmp 22) 22 65 (.agg #[(.int .i64 0), (.string ⟨#[]⟩), (.slice none 0 0)]) 48 rfl Try.underlying22 info65 rfl (by decide) (by omega) u337000 x337000_1 (⟨t338, t339, t340⟩ : S65) [.int .i64 t338, .string t339, .slice Ao20 t340.length co20] (fun _ => True) (fun k_ => some k_ = (.slice Ao20 t340.length co20 : Value).ownBlock) rfl rfl ?aP (fun k_ hk_ => ((Kd.R_mono (ok' := fun k_ => ((fun _ => True)) k_ ∧ some k_ ≠ (u337000 : Value).ownBlock) (Kd.R_apart' (HO342.out) (Kd.S_typed HO_337000.out) (by decide)) (fun k_ hk => ⟨trivial, hk.2⟩))).1 k_ hk_.symm) ?aF ?aO ?aB ?aS ?aL ?_
   (case aP => exact k65_mkM _ _ _ (⟨t338, t339, t340⟩ : S65) (Kd.R_mono (Kd.R_tight rfl (Kd.R_mono (ok' := fun k_ => ((fun _ => True)) k_ ∧ some k_ ≠ (u337000 : Value).ownBlock) (Kd.R_apart' (HO342.out) (Kd.S_typed HO_337000.out) (by decide)) (fun k_ hk => ⟨trivial, hk.2⟩))) (fun _ h_ => h_)))
   (case aB => exact (hs2_ GE335.out GE336.out))
   (case aF => exact (fun _ _ => trivial))
   (case aO => exact (sF_ (Kd.S_mono HO_337000.out (fun k_ hk => ⟨trivial, fun e_ => hk.2 e_⟩))))
   (case aS => exact (below_size (hs2_ GE335.out GE336.out)))
   (case aL => have := LMc11.out; omega)
   intro v344 w19 ho hb hg hat
   rw [← Ny343.out] at ho
   replace BK335 := Aside0.mk (blk_grown (g := gb335) (o := .cells #[.slice none 0 0, .int .i64 0] 24 (0, 0)) (kb_ BK335.out) hg (Kd.S_ne HO_337000.out BK335.out (by decide)))
   replace BK336 := Aside0.mk (blk_grown (g := gb336) (o := .cells #[u337000, .int .i64 x337001_1] 24 (0, 0)) (kb_ BK336.out) hg (Kd.S_ne HO_337000.out BK336.out (by decide)))
   replace HB := Aside0.mk (hb)
   have HO345 := Aside0.mk (ho)
   clear HO_337000 HO342
   clear ho hb hg hat
   obtain ⟨Ao21, co21, eo21⟩ := Kd.S_slice HO345.out
   (first | subst eo21 | (injection eo21 with f1_ f2_ f3_; have f4_ := f1_.symm; have f5_ := f3_.symm; clear f1_ f2_ f3_; subst f4_; subst f5_))
   refine hK.out _ _ ⟨bt_ BK336 0, bt_ BK336 1⟩ (fun hHeld => ?_)
   clear hK K
   refine no_ ?_
   refine pv_ 8 24 ?_
   refine last_ (i := 9) (N := none) #[true, true, true, true, true, true, true, true, true, true] rfl rfl (one_of HT_.out (by kernel_rfl)) (by decide) (fun K hK => ?_)
   obtain ⟨hs22, hfs22⟩ := cf1_ BK336.out
   have hns22_0 := NB335_336.out
   have hms22_0 := NB336_335.out
   refine skip_ (w1 := ?_) (by rfl) rfl ?_ ?_
   rotate_left
   ·go_simp
    rfl
   refine hK.out _ _ ?_
   clear hK K
   refine done_ (done_of HT_.out (by kernel_rfl)) ?_
   have p346 : 0 ≤ ((ji13) : Int) := oa_
   have q346 : (ji13) < ((rd_L13 l0 x12_1).length : Int) := oa_
   obtain ⟨ad346, A346_4, c346_4, e346, hx346_0, hx346_1, hx346_2, hx346_3, hx346_4, hl346_4, hi346_4⟩ := at_T43 HR337_0.out (ji13) p346 q346
   cases e346
   have hn346_0 : ad346.block ≠ gb336 := Nat.ne_of_lt (Nat.lt_of_lt_of_le (by have := World.block_lt_of_cell? _ _ hx346_0; first | rwa [add_block] at this | exact this) GW336.out)
   replace hx346_0 := pc_ HB.out hx346_0
   replace hx346_1 := pc_ HB.out hx346_1
   replace hx346_2 := pc_ HB.out hx346_2
   replace hx346_3 := pc_ HB.out hx346_3
   replace hx346_4 := pc_ HB.out hx346_4
   have HR346_4 := Aside0.mk hi346_4
   have HC346_4 := Aside0.mk hl346_4
   clear hi346_4 hl346_4
   replace hx346_0 := (cell_far (p := ⟨gb336, 0, none⟩) (by first | (rw [add_block]; exact hn346_0) | (show (Addr.add _ _).block ≠ _; rw [add_block]; exact hn346_0) | exact hn346_0) (.slice Ao21 y343.length co21)).trans hx346_0
   replace hx346_1 := (cell_far (p := ⟨gb336, 0, none⟩) (by first | (rw [add_block]; exact hn346_0) | (show (Addr.add _ _).block ≠ _; rw [add_block]; exact hn346_0) | exact hn346_0) (.slice Ao21 y343.length co21)).trans hx346_1
   replace hx346_2 := (cell_far (p := ⟨gb336, 0, none⟩) (by first | (rw [add_block]; exact hn346_0) | (show (Addr.add _ _).block ≠ _; rw [add_block]; exact hn346_0) | exact hn346_0) (.slice Ao21 y343.length co21)).trans hx346_2
   replace hx346_3 := (cell_far (p := ⟨gb336, 0, none⟩) (by first | (rw [add_block]; exact hn346_0) | (show (Addr.add _ _).block ≠ _; rw [add_block]; exact hn346_0) | exact hn346_0) (.slice Ao21 y343.length co21)).trans hx346_3
   replace hx346_4 := (cell_far (p := ⟨gb336, 0, none⟩) (by first | (rw [add_block]; exact hn346_0) | (show (Addr.add _ _).block ≠ _; rw [add_block]; exact hn346_0) | exact hn346_0) (.slice Ao21 y343.length co21)).trans hx346_4
   clear hn346_0
   replace p346 := eq_true p346
   replace q346 := eq_true q346
   try go_wp2_with (first | ((with_reducible refine gate_callee (f := 77) rfl ?_); refine gl_ 34 Try.func77 #[.agg #[.int .i64 ((rd_T43 (rd_L13 l0 x12_1) (ji13)).f0), .int .i64 ((rd_T43 (rd_L13 l0 x12_1) (ji13)).f1), .int .i64 ((rd_T43 (rd_L13 l0 x12_1) (ji13)).f2), .int .i64 ((rd_T43 (rd_L13 l0 x12_1) (ji13)).f3), .slice A346_4 ((rd_T43 (rd_L13 l0 x12_1) (ji13)).f4).length c346_4]] rfl (mb_ hji13) ?_; (with_reducible refine (impl_Batch_end.calls ((rd_T43 (rd_L13 l0 x12_1) (ji13)).f0) ((rd_T43 (rd_L13 l0 x12_1) (ji13)).f1) ((rd_T43 (rd_L13 l0 x12_1) (ji13)).f2) ((rd_T43 (rd_L13 l0 x12_1) (ji13)).f3) _ _ ((rd_T43 (rd_L13 l0 x12_1) (ji13)).f4) t347 _ ?side1 ?side2 A16.out).mono ?_); (case side1 => exact Kd.C_below HR346_4.out (hs2_ GE335.out GE336.out)); (case side2 => exact HC346_4.out); rintro e w23 ⟨rfl, hb⟩; refine ⟨_, rfl, ?_⟩; replace HO345 := Aside0.mk (Kd.S_below (sF_ (Kd.S_mono (Kd.S_far (p := ⟨gb336, 0, none⟩) (Kd.S_types HO345.out BK336.out (by decide)) (fun _ hk => hk.2) (.slice Ao21 y343.length co21)) (fun _ h_ => h_.1))) hb); replace BK335 := Aside0.mk (blk_below (g := gb335) (o := .cells #[.slice none 0 0, .int .i64 0] 24 (0, 0)) (uf_ BK335 NB335_336.out) hb); replace BK336 := Aside0.mk (blk_below (g := gb336) (o := .cells #[.slice Ao21 y343.length co21, .int .i64 x337001_1] 24 (0, 0)) (up_ BK336) hb); replace HB := nc2_ GE335 GE336 hb; (try clear hb); (try clear hb2); (try clear hk); (try clear hi); have hnb24 := NB336_335.out; have hnc24 := NB335_336.out; obtain ⟨hcz25_0, hcz25_1, hfz25_0, hfz25_1⟩ := cf2_ BK336.out))
   go_roundg k1
   case measure => have := HK1.out; omega
   case rel => exact ⟨(wrap64 (x12_1 + 1)), (y343), (t347), (.slice Ao21 y343.length co21), sr_, H', ⟨by have := HK1.out; omega⟩, ⟨sF_ (Kd.S_mono (Kd.S_far (p := ⟨gb336, 1, none⟩) (Kd.S_types HO345.out BK336.out (by decide)) (fun _ hk => hk.2) (.int .i64 t347)) (fun _ hk => trivial))⟩, ⟨uf_ BK335 NB335_336.out⟩, ⟨up_ BK336⟩, ⟨hs2_ GE335.out GE336.out⟩⟩

-- NOT PRINTED: function 130 (slices_IndexFunc_string)

-- NOT PRINTED: function 124 (slices_ContainsFunc_string)

/-! ### impl_areRecords: function 110 -/
/-- The first place, from i on, of d places, where q holds. -/
def ixS (q : Nat → Bool) : Nat → Nat → Int
 | _, 0 => -1
 | i, d + 1 => if q i = true then (i : Int) else ixS q (i + 1) d
theorem areRecords_lit (s : ByteArray) (w : World) : Calls Try.prog 125 #[.string s] w fun e w' => e = .returned (.bool (decide ((20 : Int) < (s.size : Int)))) ∧ w = w' := by
 go_enter Try.func125, Try.ntmps125
 go_wp2
 go_ret
 exact ⟨rfl, rfl⟩
set_option maxHeartbeats 8000000 in
set_option maxRecDepth 100000 in
theorem areRecords_idx (q : Nat → Bool) (l : List ByteArray) (A : Option Addr) (c : Nat) (g : Nat) (lb : Array Value) (eg : ∀ args w, (callFunc g args).run Try.prog w = .ok (.enter g args) w) (w : World)
  (hr : Kd.C Kd.string w A l.length l)
  (hp : ∀ (W : World) (i : Nat), Drawn0 w W → i < l.length → Calls Try.prog g (#[.string (rdOf ByteArray.empty l (i : Int))] ++ lb) W fun e w' => e = .returned (.bool (q i)) ∧ Drawn0 w w') :
  Calls Try.prog 130 #[.slice A l.length c, .func (.func g) #[] lb] w fun e w' => e = .returned (.int .i64 (ixS q 0 l.length)) ∧ Drawn0 w w' := by
 have hbig : l.length ≤ 9223372036854775807 := hr.2.1
 have HR := Aside0.mk hr
 have HP := Aside0.mk hp
 clear hr hp
 go_enter Try.func130, Try.ntmps130
 go_wp2
 go_loopg [5, 8] l.length (fun gg _ s8 wr => ∃ kk : Nat, kk ≤ l.length ∧ l.length - kk ≤ gg ∧ s8 = .int .i64 kk ∧ Aside (Drawn0 w wr) ∧ Aside (ixS q 0 l.length = ixS q kk (l.length - kk)))
 case atStart => exact ⟨0, Nat.zero_le _, by omega, rfl, Drawn0.refl w, rfl⟩
 case round =>
  obtain ⟨kk, hkk, hg, rfl, BW, AA⟩ := hrel
  by_cases hlt : kk < l.length
  ·have hltz : (kk : Int) < (l.length : Int) := by omega
   obtain ⟨ad, rfl, hcell⟩ := Kd.at_string (Kd.C_below HR.out BW.out.below) (kk : Int) (by omega) hltz
   have hcall := HP.out wr kk BW.out hlt
   generalize rdOf ByteArray.empty l (kk : Int) = y at hcell hcall
   rw [Int.toNat_natCast] at hcell
   have e1 : ixS q kk (l.length - kk) = if q kk = true then (kk : Int) else ixS q (kk + 1) (l.length - (kk + 1)) := by
    rw [show l.length - kk = (l.length - (kk + 1)) + 1 by omega]
    rfl
   have E1 := Aside0.mk e1
   clear e1
   have HC := Aside0.mk hcall
   clear hcall
   cases hq : q kk with
   | true =>
    have HQ := Aside0.mk hq
    clear hq
    go_wp2_with fail
    refine HC.out.mono ?_
    rw [HQ.out]
    clear HC
    rintro e w2 ⟨rfl, hb2⟩
    have HB2 := Aside0.mk hb2
    clear hb2
    go_wp2_with fail
    go_ret
    refine ⟨?_, HB2.out⟩
    rw [AA.out, E1.out, if_pos HQ.out]
    rfl
   | false =>
    have HQ := Aside0.mk hq
    clear hq
    go_wp2_with fail
    refine HC.out.mono ?_
    rw [HQ.out]
    clear HC
    rintro e w2 ⟨rfl, hb2⟩
    have HB2 := Aside0.mk hb2
    clear hb2
    go_wp2_with fail
    go_roundg (l.length - (kk + 1))
    case measure => omega
    case rel => exact ⟨kk + 1, by omega, by omega, by go_num, HB2.out, (show Aside _ from by rw [AA.out, E1.out, if_neg (by rw [HQ.out]; decide)]; exact rfl)⟩
  ·have hltz : ¬ (kk : Int) < (l.length : Int) := by omega
   have hkl : kk = l.length := by omega
   subst hkl
   go_wp2
   go_ret
   refine ⟨?_, BW.out⟩
   rw [AA.out, Nat.sub_self]
   rfl
set_option maxHeartbeats 8000000 in
set_option maxRecDepth 100000 in
theorem areRecords_cont (q : Nat → Bool) (l : List ByteArray) (A : Option Addr) (c : Nat) (g : Nat) (lb : Array Value) (eg : ∀ args w, (callFunc g args).run Try.prog w = .ok (.enter g args) w) (w : World)
  (hr : Kd.C Kd.string w A l.length l)
  (hp : ∀ (W : World) (i : Nat), Drawn0 w W → i < l.length → Calls Try.prog g (#[.string (rdOf ByteArray.empty l (i : Int))] ++ lb) W fun e w' => e = .returned (.bool (q i)) ∧ Drawn0 w w') :
  Calls Try.prog 124 #[.slice A l.length c, .func (.func g) #[] lb] w fun e w' => e = .returned (.bool (decide (0 ≤ ixS q 0 l.length))) ∧ Drawn0 w w' := by
 have HC := Aside0.mk (areRecords_idx q l A c g lb eg w hr hp)
 clear hr hp
 go_enter Try.func124, Try.ntmps124
 go_wp2_with fail
 refine HC.out.mono ?_
 clear HC
 rintro e w2 ⟨rfl, hb2⟩
 have HB2 := Aside0.mk hb2
 clear hb2
 go_wp2_with fail
 go_ret
 exact ⟨rfl, HB2.out⟩
def impl_areRecords.q (l : List ByteArray) (i : Nat) : Bool := decide ((20 : Int) < ((rdOf ByteArray.empty l (i : Int)).size : Int))
def impl_areRecords.f (l0 : List ByteArray) : Option (Bool) := (impl_in.f (l0.length : Int) 1 8).bind fun t => if t = true then some (!(decide (0 ≤ ixS (impl_areRecords.q l0) 0 l0.length))) else some false
set_option maxHeartbeats 8000000 in
set_option maxRecDepth 100000 in
theorem impl_areRecords.calls (A0 : Option Addr) (c0 : Nat) (l0 : List ByteArray) (r : Bool) (w : World) (hr0 : Kd.C Kd.string w A0 l0.length l0) (_hc0 : l0.length ≤ c0) (h : impl_areRecords.f l0 = some r) :
  Calls Try.prog 110 #[.slice A0 l0.length c0] w fun e w' => e = .returned (.bool r) ∧ Drawn0 w w' := by
 have HR := Aside0.mk hr0
 clear hr0
 unfold impl_areRecords.f at h
 obtain ⟨t, h1, h2⟩ := Option.bind_eq_some_iff.1 h
 have H1 := Aside0.mk h1
 clear h h1
 cases t with
 | true =>
  rw [if_pos rfl] at h2
  have H2 := Aside0.mk (Option.some.inj h2)
  clear h2
  go_enter Try.func110, Try.ntmps110
  go_wp2_with fail
  refine (impl_in.calls _ _ _ _ _ H1.out).mono ?_
  rintro e w1 ⟨rfl, hd1⟩
  have HD1 := Aside0.mk hd1
  clear hd1
  go_wp2_with fail
  refine (areRecords_cont (impl_areRecords.q l0) l0 A0 c0 125 #[] (fun args w => by first | rfl | kernel_rfl) w1 (Kd.C_below HR.out HD1.out.below) (fun W i hd hi => (areRecords_lit _ W).mono fun e w' he => ⟨he.1, he.2 ▸ hd⟩)).mono ?_
  rintro e w2 ⟨rfl, hd2⟩
  have HD2 := Aside0.mk hd2
  clear hd2
  go_wp2_with fail
  go_ret
  refine ⟨by rw [H2.out]; rfl, ?_⟩
  obtain ⟨n2, e2⟩ := HD2.out.out
  rw [e2]
  exact HD1.out.step n2
 | false =>
  rw [if_neg (by decide)] at h2
  have H2 := Aside0.mk (Option.some.inj h2)
  clear h2
  go_enter Try.func110, Try.ntmps110
  go_wp2_with fail
  refine (impl_in.calls _ _ _ _ _ H1.out).mono ?_
  rintro e w1 ⟨rfl, hd1⟩
  have HD1 := Aside0.mk hd1
  clear hd1
  go_wp2_with fail
  go_ret
  exact ⟨by rw [H2.out]; rfl, HD1.out⟩



/-! ### impl_isBatch: function 83 -/
def impl_isBatch.f (a0_0 : Int) (a0_1 : Int) (a0_2 : Int) (a0_3 : Int) (l0_4 : List ByteArray) : Option (Bool) := (impl_in.f a0_0 0 100000).bind fun t349 => (if t349 = true then ((impl_in.f a0_1 0 1000).bind fun t350 => (if t350 = true then ((impl_in.f a0_2 0 65535).bind fun t351 => (if t351 = true then ((impl_in.f a0_3 0 65535).bind fun t352 => (if t352 = true then ((impl_areRecords.f l0_4).bind fun t353 => (some t353)) else (some false))) else (some false))) else (some false))) else (some false))
set_option maxHeartbeats 8000000 in
set_option maxRecDepth 100000 in
theorem impl_isBatch.calls (a0_0 : Int) (a0_1 : Int) (a0_2 : Int) (a0_3 : Int) (A0_4 : Option Addr) (c0_4 : Nat) (l0_4 : List ByteArray) (r : Bool) (w : World) (hr0_4 : Kd.C Kd.string w A0_4 l0_4.length l0_4) (hc0_4 : l0_4.length ≤ c0_4) (h : impl_isBatch.f a0_0 a0_1 a0_2 a0_3 l0_4 = some r) :
  Calls Try.prog 83 #[.agg #[.int .i64 a0_0, .int .i64 a0_1, .int .i64 a0_2, .int .i64 a0_3, .slice A0_4 l0_4.length c0_4]] w fun e w' => e = .returned (.bool r) ∧ Below w.heap.size w w' := by
 have hu43 := Try.underlying43
 have HR0_4 := Aside0.mk hr0_4
 have HC0_4 := Aside0.mk hc0_4
 clear hr0_4 hc0_4
 have HB := Aside0.mk (Below.refl w.heap.size w)
 have H : ((impl_in.f a0_0 0 100000).bind fun t349 => (if t349 = true then ((impl_in.f a0_1 0 1000).bind fun t350 => (if t350 = true then ((impl_in.f a0_2 0 65535).bind fun t351 => (if t351 = true then ((impl_in.f a0_3 0 65535).bind fun t352 => (if t352 = true then ((impl_areRecords.f l0_4).bind fun t353 => (some t353)) else (some false))) else (some false))) else (some false))) else (some false))) = some r := h
 clear h
 replace H := bnd_ H
 obtain ⟨t349, A2, H⟩ := H
 replace H := ifb_ H
 obtain ⟨rfl, H⟩ | ⟨rfl, H⟩ := H
 rotate_left
 ·obtain rfl := Option.some.inj H
  go_enter Try.func83, Try.ntmps83
  go_wp2_with (first | ((with_reducible refine gate_dst (N := 1) rfl ?_); refine bq_ (N := 1) #[.int .i64 a0_0, .int .i64 a0_1, .int .i64 a0_2, .int .i64 a0_3, .slice A0_4 l0_4.length c0_4] 43 ?_; intro gb348 hg w19 BK348 hb; have GE348 := ge_ hg; replace HB := nb_ hb; clear hb hg; obtain ⟨hcz20_0, hcz20_1, hcz20_2, hcz20_3, hcz20_4, hfz20_0, hfz20_1, hfz20_2, hfz20_3, hfz20_4⟩ := cf5_ BK348.out) | ((with_reducible refine gate_callee (f := 58) rfl ?_); refine gl_ 5 Try.func58 #[.int .i64 a0_0, .int .i64 0, .int .i64 100000] rfl ma_ ?_; (with_reducible refine (impl_in.calls a0_0 0 100000 false _ A2.out).mono ?_); rintro e w' ⟨rfl, ⟨nd, rfl⟩⟩; refine ⟨_, rfl, ?_⟩))
  go_ret
  exact ⟨er_, hs_ GE348.out⟩
 replace H := bnd_ H
 obtain ⟨t350, A4, H⟩ := H
 replace H := ifb_ H
 obtain ⟨rfl, H⟩ | ⟨rfl, H⟩ := H
 rotate_left
 ·obtain rfl := Option.some.inj H
  go_enter Try.func83, Try.ntmps83
  go_wp2_with (first | ((with_reducible refine gate_dst (N := 1) rfl ?_); refine bq_ (N := 1) #[.int .i64 a0_0, .int .i64 a0_1, .int .i64 a0_2, .int .i64 a0_3, .slice A0_4 l0_4.length c0_4] 43 ?_; intro gb348 hg w17 BK348 hb; have GE348 := ge_ hg; replace HB := nb_ hb; clear hb hg; obtain ⟨hcz18_0, hcz18_1, hcz18_2, hcz18_3, hcz18_4, hfz18_0, hfz18_1, hfz18_2, hfz18_3, hfz18_4⟩ := cf5_ BK348.out) | ((with_reducible refine gate_callee (f := 58) rfl ?_); refine gl_ 5 Try.func58 #[.int .i64 a0_0, .int .i64 0, .int .i64 100000] rfl ma_ ?_; (with_reducible refine (impl_in.calls a0_0 0 100000 true _ A2.out).mono ?_); rintro e w' ⟨rfl, ⟨nd, rfl⟩⟩; refine ⟨_, rfl, ?_⟩) | (go_at_call 58; (with_reducible refine (impl_in.calls a0_1 0 1000 false _ A4.out).mono ?_); rintro e w' ⟨rfl, ⟨nd, rfl⟩⟩))
  go_ret
  exact ⟨er_, hs_ GE348.out⟩
 replace H := bnd_ H
 obtain ⟨t351, A6, H⟩ := H
 replace H := ifb_ H
 obtain ⟨rfl, H⟩ | ⟨rfl, H⟩ := H
 rotate_left
 ·obtain rfl := Option.some.inj H
  go_enter Try.func83, Try.ntmps83
  go_wp2_with (first | ((with_reducible refine gate_dst (N := 1) rfl ?_); refine bq_ (N := 1) #[.int .i64 a0_0, .int .i64 a0_1, .int .i64 a0_2, .int .i64 a0_3, .slice A0_4 l0_4.length c0_4] 43 ?_; intro gb348 hg w15 BK348 hb; have GE348 := ge_ hg; replace HB := nb_ hb; clear hb hg; obtain ⟨hcz16_0, hcz16_1, hcz16_2, hcz16_3, hcz16_4, hfz16_0, hfz16_1, hfz16_2, hfz16_3, hfz16_4⟩ := cf5_ BK348.out) | ((with_reducible refine gate_callee (f := 58) rfl ?_); refine gl_ 5 Try.func58 #[.int .i64 a0_0, .int .i64 0, .int .i64 100000] rfl ma_ ?_; (with_reducible refine (impl_in.calls a0_0 0 100000 true _ A2.out).mono ?_); rintro e w' ⟨rfl, ⟨nd, rfl⟩⟩; refine ⟨_, rfl, ?_⟩) | (go_at_call 58; (with_reducible refine (impl_in.calls a0_1 0 1000 true _ A4.out).mono ?_); rintro e w' ⟨rfl, ⟨nd, rfl⟩⟩) | (go_at_call 58; (with_reducible refine (impl_in.calls a0_2 0 65535 false _ A6.out).mono ?_); rintro e w' ⟨rfl, ⟨nd, rfl⟩⟩))
  go_ret
  exact ⟨er_, hs_ GE348.out⟩
 replace H := bnd_ H
 obtain ⟨t352, A8, H⟩ := H
 replace H := ifb_ H
 obtain ⟨rfl, H⟩ | ⟨rfl, H⟩ := H
 rotate_left
 ·obtain rfl := Option.some.inj H
  go_enter Try.func83, Try.ntmps83
  go_wp2_with (first | ((with_reducible refine gate_dst (N := 1) rfl ?_); refine bq_ (N := 1) #[.int .i64 a0_0, .int .i64 a0_1, .int .i64 a0_2, .int .i64 a0_3, .slice A0_4 l0_4.length c0_4] 43 ?_; intro gb348 hg w13 BK348 hb; have GE348 := ge_ hg; replace HB := nb_ hb; clear hb hg; obtain ⟨hcz14_0, hcz14_1, hcz14_2, hcz14_3, hcz14_4, hfz14_0, hfz14_1, hfz14_2, hfz14_3, hfz14_4⟩ := cf5_ BK348.out) | ((with_reducible refine gate_callee (f := 58) rfl ?_); refine gl_ 5 Try.func58 #[.int .i64 a0_0, .int .i64 0, .int .i64 100000] rfl ma_ ?_; (with_reducible refine (impl_in.calls a0_0 0 100000 true _ A2.out).mono ?_); rintro e w' ⟨rfl, ⟨nd, rfl⟩⟩; refine ⟨_, rfl, ?_⟩) | (go_at_call 58; (with_reducible refine (impl_in.calls a0_1 0 1000 true _ A4.out).mono ?_); rintro e w' ⟨rfl, ⟨nd, rfl⟩⟩) | (go_at_call 58; (with_reducible refine (impl_in.calls a0_2 0 65535 true _ A6.out).mono ?_); rintro e w' ⟨rfl, ⟨nd, rfl⟩⟩) | (go_at_call 58; (with_reducible refine (impl_in.calls a0_3 0 65535 false _ A8.out).mono ?_); rintro e w' ⟨rfl, ⟨nd, rfl⟩⟩))
  go_ret
  exact ⟨er_, hs_ GE348.out⟩
 replace H := bnd_ H
 obtain ⟨t353, A10, H⟩ := H
 obtain rfl := Option.some.inj H
 go_enter Try.func83, Try.ntmps83
 go_wp2_with (first | ((with_reducible refine gate_dst (N := 1) rfl ?_); refine bq_ (N := 1) #[.int .i64 a0_0, .int .i64 a0_1, .int .i64 a0_2, .int .i64 a0_3, .slice A0_4 l0_4.length c0_4] 43 ?_; intro gb348 hg w11 BK348 hb; have GE348 := ge_ hg; replace HB := nb_ hb; clear hb hg; obtain ⟨hcz12_0, hcz12_1, hcz12_2, hcz12_3, hcz12_4, hfz12_0, hfz12_1, hfz12_2, hfz12_3, hfz12_4⟩ := cf5_ BK348.out) | ((with_reducible refine gate_callee (f := 58) rfl ?_); refine gl_ 5 Try.func58 #[.int .i64 a0_0, .int .i64 0, .int .i64 100000] rfl ma_ ?_; (with_reducible refine (impl_in.calls a0_0 0 100000 true _ A2.out).mono ?_); rintro e w' ⟨rfl, ⟨nd, rfl⟩⟩; refine ⟨_, rfl, ?_⟩) | (go_at_call 58; (with_reducible refine (impl_in.calls a0_1 0 1000 true _ A4.out).mono ?_); rintro e w' ⟨rfl, ⟨nd, rfl⟩⟩) | (go_at_call 58; (with_reducible refine (impl_in.calls a0_2 0 65535 true _ A6.out).mono ?_); rintro e w' ⟨rfl, ⟨nd, rfl⟩⟩) | (go_at_call 58; (with_reducible refine (impl_in.calls a0_3 0 65535 true _ A8.out).mono ?_); rintro e w' ⟨rfl, ⟨nd, rfl⟩⟩) | (go_at_call 110; (with_reducible refine (impl_areRecords.calls _ _ l0_4 t353 _ ?side1 ?side2 A10.out).mono ?_); (case side1 => exact cs_ ((Kd.C_below HR0_4.out (hs_ GE348.out)))); (case side2 => exact HC0_4.out); rintro e w' ⟨rfl, ⟨nd, rfl⟩⟩))
 go_ret
 exact ⟨er_, hs_ GE348.out⟩

/-! ### impl_get: function 116 -/
def impl_get.l0 : Nat → ByteArray → Int → Int → Int → Option (Int)
 | 0, _, _, _, _ => none
 | k + 1, x0, x3, x6, x7 => if x7 < x6 then (if 0 ≤ x7 then (if x7 < (x0.size : Int) then (impl_get.l0 k x0 (Go.bits .or .i64 (wrap64 (x3 * 256)) (wrap64 (bt x0 x7))) x6 (wrap64 (x7 + 1))) else (none)) else (none)) else (some x3)
def impl_get.f (k : Nat) (a0 : ByteArray) : Option (Int) := impl_get.l0 k a0 0 (a0.size : Int) 0
theorem impl_get.mono_l : ∀ k, (∀ y0 y1 y2 y3, LeO (impl_get.l0 k y0 y1 y2 y3) (impl_get.l0 (k + 1) y0 y1 y2 y3))
 | 0 => fun _ _ _ _ r h => by simp [impl_get.l0] at h
 | k + 1 => by
  have ih0 := impl_get.mono_l k
  ·intro y0 y1 y2 y3
   unfold impl_get.l0
   repeat' first
   | (with_reducible first | apply ih0 | exact LeO.refl _ | exact LeO.none _ | refine LeO.ite ?_ ?_ | refine LeO.bind ?_ (fun _ => ?_))
theorem impl_get.mono : ∀ a0 k, LeO (impl_get.f k a0) (impl_get.f (k + 1) a0) := by
 intro a0 k
 have ih0 := impl_get.mono_l k
 unfold impl_get.f
 repeat' first
   | (with_reducible first | apply ih0 | exact LeO.refl _ | exact LeO.none _ | refine LeO.ite ?_ ?_ | refine LeO.bind ?_ (fun _ => ?_))
set_option maxHeartbeats 8000000 in
set_option maxRecDepth 100000 in
theorem impl_get.calls (k : Nat) (a0 : ByteArray) (r : Int) (w : World) (h : impl_get.f k a0 = some r) :
  Calls Try.prog 116 #[.string a0] w fun e w' => e = .returned (.int .i64 r) ∧ Drawn0 w w' := by
 have H : (impl_get.l0 k a0 0 (a0.size : Int) 0) = some r := h
 clear h
 have H' := Aside0.mk H
 clear H
 go_enter Try.func116, Try.ntmps116
 go_wp2
 go_loopg [3, 7] k (fun kq v3 v7 w' => ∃ (x3_1 : Int) (x7_1 : Int), v3 = .int .i64 x3_1 ∧ v7 = .int .i64 x7_1 ∧ Aside0 (impl_get.l0 kq a0 x3_1 (a0.size : Int) x7_1 = some r) ∧ Aside0 (kq ≤ k) ∧ Drawn0 w w')
 case atStart => exact ⟨(0), (0), sr_, sr_, H', ⟨Nat.le_refl _⟩, dr_⟩
 case round =>
  clear H'
  obtain ⟨x3_1, x7_1, rfl, rfl, HA, HK1, ⟨m1, rfl⟩⟩ := hrel
  cases gk with
  | zero => exact absurd HA.out (by simp [impl_get.l0])
  | succ k1 =>
   have H := HA.out
   clear HA
   simp only [impl_get.l0] at H
   replace H := ite_ H
   obtain ⟨c2, H⟩ | ⟨c2, H⟩ := H
   rotate_left
   ·have c2b0 := decide_eq_false c2
    clear c2
    obtain rfl := Option.some.inj H
    go_wp2
    go_ret
    exact ⟨by first | rfl | (simp; done) | (simp [*]; done), dr_⟩
   have c2b0 := decide_eq_true c2
   clear c2
   replace H := ifs_ H
   obtain ⟨c3, H⟩ := H
   have c3b0 := decide_eq_true c3
   clear c3
   replace H := ifs_ H
   obtain ⟨c4, H⟩ := H
   have c4b0 := decide_eq_true c4
   clear c4
   have H' := Aside0.mk H
   clear H
   have p5 : 0 ≤ (x7_1 : Int) := oa_
   have q5 : x7_1 < (a0.size : Int) := oa_
   have hx5 := bt_at a0 x7_1
   replace p5 := eq_true p5
   replace q5 := eq_true q5
   go_wp2
   go_roundg k1
   case measure => have := HK1.out; omega
   case rel => exact ⟨(Go.bits .or .i64 (wrap64 (x3_1 * 256)) (wrap64 (bt a0 x7_1))), (wrap64 (x7_1 + 1)), sr_, sr_, H', ⟨by have := HK1.out; omega⟩, dr_⟩
/-! ### stringslite_HasPrefix: function 127 -/
def stringslite_HasPrefix.f (a0 : ByteArray) (a1 : ByteArray) : Option (Bool) := if (a0.size : Int) ≥ (a1.size : Int) then (if 0 ≤ (a1.size : Int) then (if (a1.size : Int) ≤ (a0.size : Int) then (some ((a0.extract 0 ((a1.size : Int) : Int).toNat).toList == a1.toList)) else (none)) else (none)) else (some false)
set_option maxHeartbeats 8000000 in
set_option maxRecDepth 100000 in
theorem stringslite_HasPrefix.calls (a0 : ByteArray) (a1 : ByteArray) (r : Bool) (w : World) (h : stringslite_HasPrefix.f a0 a1 = some r) :
  Calls Try.prog 127 #[.string a0, .string a1] w fun e w' => e = .returned (.bool r) ∧ Drawn0 w w' := by
 have H : (if (a0.size : Int) ≥ (a1.size : Int) then (if 0 ≤ (a1.size : Int) then (if (a1.size : Int) ≤ (a0.size : Int) then (some ((a0.extract 0 ((a1.size : Int) : Int).toNat).toList == a1.toList)) else (none)) else (none)) else (some false)) = some r := h
 clear h
 replace H := ite_ H
 obtain ⟨c3, H⟩ | ⟨c3, H⟩ := H
 rotate_left
 ·have c3b0 := dne_ c3
  have c3b1 : decide (a1.size ≤ a0.size) = false := decide_eq_false (fun h => c3 (Int.ofNat_le.mpr h))
  clear c3
  obtain rfl := Option.some.inj H
  go_enter Try.func127, Try.ntmps127
  go_wp2
  go_ret
  exact ⟨by first | rfl | (simp; done) | (simp [*]; done), dr_⟩
 have c3b0 := dge_ c3
 have c3b1 : decide (a1.size ≤ a0.size) = true := decide_eq_true (Int.ofNat_le.mp c3)
 clear c3
 replace H := ifs_ H
 obtain ⟨c4, H⟩ := H
 have c4b0 := eq_true c4
 have c4b1 := decide_eq_true c4
 clear c4
 replace H := ifs_ H
 obtain ⟨c5, H⟩ := H
 have c5b0 := eq_true c5
 have c5b1 := decide_eq_true c5
 clear c5
 obtain rfl := Option.some.inj H
 go_enter Try.func127, Try.ntmps127
 go_wp2
 go_ret
 exact ⟨by first | rfl | (simp; done) | (simp [*]; done), dr_⟩

/-! ### strings_HasPrefix: function 117 -/
def strings_HasPrefix.f (a0 : ByteArray) (a1 : ByteArray) : Option (Bool) := (stringslite_HasPrefix.f a0 a1).bind fun t354 => (some t354)
set_option maxHeartbeats 8000000 in
set_option maxRecDepth 100000 in
theorem strings_HasPrefix.calls (a0 : ByteArray) (a1 : ByteArray) (r : Bool) (w : World) (h : strings_HasPrefix.f a0 a1 = some r) :
  Calls Try.prog 117 #[.string a0, .string a1] w fun e w' => e = .returned (.bool r) ∧ Drawn0 w w' := by
 have H : ((stringslite_HasPrefix.f a0 a1).bind fun t354 => (some t354)) = some r := h
 clear h
 replace H := bnd_ H
 obtain ⟨t354, A3, H⟩ := H
 obtain rfl := Option.some.inj H
 go_enter Try.func117, Try.ntmps117
 go_wp2_with (first | ((with_reducible refine gate_callee (f := 127) rfl ?_); refine gl_ 7 Try.func127 #[.string a0, .string a1] rfl ma_ ?_; (with_reducible refine (stringslite_HasPrefix.calls a0 a1 t354 _ A3.out).mono ?_); rintro e w' ⟨rfl, ⟨nd, rfl⟩⟩; refine ⟨_, rfl, ?_⟩))
 go_ret
 exact ⟨by first | rfl | (simp; done) | (simp [*]; done), dr_⟩
end Go.Proofs.Ytffpeklekkpbjaa.QFnExactTruncateTo
