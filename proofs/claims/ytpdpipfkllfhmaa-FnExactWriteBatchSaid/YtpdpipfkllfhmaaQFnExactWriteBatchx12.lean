/- For each Go function that one statement reaches: a plain function with the same answers, and the proof that the call comes to them. Conditions: those that each contract names. Written by a program of this repository. -/
import Derived.Test.YtpdpipfkllfhmaaVWriteBatcha
import Derived.Test.YtpdpipfkllfhmaaQFnExactWriteBatchx0
import Derived.Test.YtpdpipfkllfhmaaQFnExactWriteBatchx8
import Derived.Test.YtpdpipfkllfhmaaQFnExactWriteBatchx9
import Derived.Test.YtpdpipfkllfhmaaQFnExactWriteBatchx10
import Derived.Test.YtpdpipfkllfhmaaQFnExactWriteBatchx11
namespace Go.Proofs.Ytpdpipfkllfhmaa.QFnExactWriteBatch
open Go.RowKit Go.Proofs.YtpdpipfkllfhmaaW.PrintWords Go.Proofs.YtpdpipfkllfhmaaW.PrintLast Go.Proofs.YtpdpipfkllfhmaaW.PrintMore
attribute [local go_sem] max2_int min2_int max_two min_two max_three min_three max_four min_four Go.Proofs.YtpdpipfkllfhmaaW.PrintMore2.isSome_setCell   -- for this text's walks alone
set_option linter.unusedVariables false
set_option linter.unusedSimpArgs false

/-! ### impl_readLog: function 53 -/
def impl_readLog.l0 : Nat → ByteArray → List (S44) → Int → Option ((List (S44)) × Int)
 | 0, _, _, _ => none
 | k + 1, x0, x4, x5 => (impl_takeBatch.f k x0 x5).bind fun bt296 => (if bt296.2.2.2.2.2.2 = true then ((impl_follows.f x4 bt296.1 bt296.2.1 bt296.2.2.1 bt296.2.2.2.1 bt296.2.2.2.2.1).bind fun t306 => (if t306 = true then (if x4.length < 2513169434916 then (impl_readLog.l0 k x0 (x4 ++ [(⟨bt296.1, bt296.2.1, bt296.2.2.1, bt296.2.2.2.1, bt296.2.2.2.2.1⟩ : S44)]) bt296.2.2.2.2.2.1) else (none)) else (some (x4, x5)))) else (some (x4, x5)))
def impl_readLog.f (k : Nat) (a0 : ByteArray) : Option ((List (S44)) × Int) := impl_readLog.l0 k a0 (([] : List (S44))) 0
theorem impl_readLog.mono_l : ∀ k, (∀ y0 y1 y2, LeO (impl_readLog.l0 k y0 y1 y2) (impl_readLog.l0 (k + 1) y0 y1 y2))
 | 0 => fun _ _ _ r h => by simp [impl_readLog.l0] at h
 | k + 1 => by
  have ih0 := impl_readLog.mono_l k
  ·intro y0 y1 y2
   unfold impl_readLog.l0
   repeat' first
   | (with_reducible exact ih0 _ _ _)
   | (with_reducible exact impl_takeBatch.mono _ _ _)
   | (with_reducible exact LeO.refl _)
   | (with_reducible exact LeO.none _)
   | (with_reducible refine LeO.ite ?_ ?_)
   | (with_reducible refine LeO.bind ?_ (fun _ => ?_))
   | exact ih0 _ _ _
   | exact impl_takeBatch.mono _ _ _
   | exact LeO.none _
   | refine LeO.ite ?_ ?_
   | refine LeO.bind ?_ (fun _ => ?_)
theorem impl_readLog.mono : ∀ a0 k, LeO (impl_readLog.f k a0) (impl_readLog.f (k + 1) a0) := by
 intro a0 k
 have ih0 := impl_readLog.mono_l k
 unfold impl_readLog.f
 repeat' first
   | (with_reducible exact ih0 _ _ _)
   | (with_reducible exact impl_takeBatch.mono _ _ _)
   | (with_reducible exact LeO.refl _)
   | (with_reducible exact LeO.none _)
   | (with_reducible refine LeO.ite ?_ ?_)
   | (with_reducible refine LeO.bind ?_ (fun _ => ?_))
   | exact ih0 _ _ _
   | exact impl_takeBatch.mono _ _ _
   | exact LeO.none _
   | refine LeO.ite ?_ ?_
   | refine LeO.bind ?_ (fun _ => ?_)
set_option maxHeartbeats 8000000 in
set_option maxRecDepth 100000 in
theorem impl_readLog.calls (k : Nat) (a0 : ByteArray) (r1 : List (S44)) (r2 : Int) (w : World) (h : impl_readLog.f k a0 = some (r1, r2)) :
  Calls Try.prog 53 #[.string a0] w fun e w' => ∃ v0_ : Value, e = .returned (.tuple #[v0_, .int .i64 r2]) ∧ Kd.S k44 44 w' w.heap.size (fun _ => True) v0_ r1 ∧ Below w.heap.size w w' := by
 have hu44 := Try.underlying44
 have HB := Aside0.mk (Below.refl w.heap.size w)
 have H : (impl_readLog.l0 k a0 (([] : List (S44))) 0) = some (r1, r2) := h
 clear h
 obtain ⟨y293, hy293⟩ : ∃ y_ : List (S44), y_ = (([] : List (S44))) := ⟨_, rfl⟩
 replace H : (impl_readLog.l0 k a0 y293 0) = some (r1, r2) := by first | (rw [hy293]; with_reducible exact H) | (have H2_ := (Option.bind_some _ _).symm.trans H; rw [hy293]; with_reducible exact H2_) | (have H2_ := (Option.bind_some _ _).symm.trans H; with_reducible exact H2_) | with_reducible exact H | (rw [hy293]; exact H) | exact H
 have Ny293 := Aside0.mk hy293
 clear hy293
 have H' := Aside0.mk H
 clear H
 go_enter Try.func53, Try.ntmps53
 go_wp2_with (first | ((with_reducible refine gate_dst (N := 9) rfl ?_); refine Kd.S_lit k44 _ 44 ?hg (N := 9) ?hd (xs := ([] : List (S44))) (inner := []) (ok := fun _ => True) (okp := fun _ => True) ?hr ?hp (fun _ hk => hk) trivial (Below.refl _ _) (Nat.le_refl _) (by simp) ?_; (case hd => rfl); (case hg => rfl); (case hr => first | (go_simp; done) | (go_simp; rfl)); (case hp => exact (Reps.none _ _)); intro v294 w2 ho3 hb hg_ hnew_; clear hg_ hnew_; (first | rw [← Ny293.out] at ho3 | (simp only [Int.reduceToNat] at ho3; rw [← Ny293.out] at ho3)); have HO295 := Aside0.mk (Kd.S_lower ho3 (below_size (hb_))); replace HB := nb_ hb; clear hb ho3))
 go_loopg [4, 5] k (fun kq v4 v5 w' => ∃ (x4_1 : List (S44)) (x5_1 : Int), v5 = .int .i64 x5_1 ∧ Aside0 (impl_readLog.l0 kq a0 x4_1 x5_1 = some (r1, r2)) ∧ Aside0 (kq ≤ k) ∧ Aside0 (Kd.S k44 44 w' w.heap.size (fun _ => True) v4 x4_1) ∧ Aside0 (Below w.heap.size w w'))
 case atStart => exact ⟨(y293), (0), sr_, H', ⟨Nat.le_refl _⟩, ⟨ks_ HO295.out⟩, ⟨hb_⟩⟩
 case round =>
  clear H'
  try clear p2
  obtain ⟨x4_1, x5_1, rfl, HA, HK1, HO_4, HB⟩ := hrel
  cases gk with
  | zero => exact absurd HA.out (by simp [impl_readLog.l0])
  | succ k1 =>
   have H := HA.out
   clear HA
   simp only [impl_readLog.l0] at H
   replace H := bnd_ H
   obtain ⟨⟨t296, t297, t298, t299, t300, t303, t304⟩, A4, H⟩ := H
   replace H := red_ H
   replace H := ifb_ H
   obtain ⟨rfl, H⟩ | ⟨rfl, H⟩ := H
   rotate_left
   ·simp only [Option.some.injEq, Prod.mk.injEq] at H
    obtain ⟨rfl, rfl⟩ := H
    go_wp2_with (first | ((with_reducible refine gate_callee (f := 83) rfl ?_); refine gl_ 13 Try.func83 #[.string a0, .int .i64 x5_1] rfl ma_ ?_; (with_reducible refine (impl_takeBatch.calls k1 a0 x5_1 t296 t297 t298 t299 t300 t303 false _ A4.out).mono ?_); rintro e w23 ⟨v301, rfl, ho0, hb⟩; refine ⟨_, rfl, ?_⟩; replace HO_4 := Aside0.mk (Kd.S_elder' (ks_ HO_4.out) (Kd.R_base ho0) hb); have HO302 := Aside0.mk (Kd.R_lower ho0 (below_size (hb_))); replace HB := nb_ hb; (try clear hb); (try clear hb2); (try clear hk); (try clear hi); (try clear ho0)) | ((with_reducible refine gate_dst (N := 6) rfl ?_); refine be_ (N := 6) #[.int .i64 0, .int .i64 0, .int .i64 0, .int .i64 0, .slice none 0 0] 44 ?_; intro gb305 hg w24 hbox hb; replace HO_4 := Aside0.mk (Kd.S_below (Kd.S_elderB (ks_ HO_4.out) gb305 (Nat.le_of_eq hg.symm)) hb); replace HO302 := rB_ HO302 hb; have BK305 := Aside0.mk (hbox); have GW305 := ge_ hg; have GE305 := ge_ hg; replace HB := nb_ hb; clear hb hbox hg; obtain ⟨hcz25_0, hcz25_1, hcz25_2, hcz25_3, hcz25_4, hfz25_0, hfz25_1, hfz25_2, hfz25_3, hfz25_4⟩ := cf5_ BK305.out; obtain ⟨Ao26, co26, eo26⟩ := Kd.R_slice HO302.out; subst eo26))
    go_ret2
    exact ⟨_, er_, by (with_reducible repeat (first | apply Kd.S_alloc | apply Kd.S_drewN | apply Kd.S_drew)); exact Kd.S_mono (Kd.S_far (p := ⟨gb305, 4, none⟩) (Kd.S_far (p := ⟨gb305, 3, none⟩) (Kd.S_far (p := ⟨gb305, 2, none⟩) (Kd.S_far (p := ⟨gb305, 1, none⟩) (Kd.S_far (p := ⟨gb305, 0, none⟩) (Kd.S_mono HO_4.out (fun k_ hk => (⟨hk, hk.2⟩ : _ ∧ k_ ≠ gb305))) (fun _ hk => hk.2) (.int .i64 t296)) (fun _ hk => hk.2) (.int .i64 t297)) (fun _ hk => hk.2) (.int .i64 t298)) (fun _ hk => hk.2) (.int .i64 t299)) (fun _ hk => hk.2) (.slice Ao26 t300.length co26)) (fun _ hk => trivial), hs_ GE305.out⟩
   replace H := bnd_ H
   obtain ⟨t306, A6, H⟩ := H
   replace H := ifb_ H
   obtain ⟨rfl, H⟩ | ⟨rfl, H⟩ := H
   rotate_left
   ·simp only [Option.some.injEq, Prod.mk.injEq] at H
    obtain ⟨rfl, rfl⟩ := H
    go_wp2_with (first | ((with_reducible refine gate_callee (f := 83) rfl ?_); refine gl_ 13 Try.func83 #[.string a0, .int .i64 x5_1] rfl ma_ ?_; (with_reducible refine (impl_takeBatch.calls k1 a0 x5_1 t296 t297 t298 t299 t300 t303 true _ A4.out).mono ?_); rintro e w17 ⟨v301, rfl, ho0, hb⟩; refine ⟨_, rfl, ?_⟩; replace HO_4 := Aside0.mk (Kd.S_elder' (ks_ HO_4.out) (Kd.R_base ho0) hb); have HO302 := Aside0.mk (Kd.R_lower ho0 (below_size (hb_))); replace HB := nb_ hb; (try clear hb); (try clear hb2); (try clear hk); (try clear hi); (try clear ho0)) | ((with_reducible refine gate_dst (N := 6) rfl ?_); refine be_ (N := 6) #[.int .i64 0, .int .i64 0, .int .i64 0, .int .i64 0, .slice none 0 0] 44 ?_; intro gb305 hg w18 hbox hb; replace HO_4 := Aside0.mk (Kd.S_below (Kd.S_elderB (ks_ HO_4.out) gb305 (Nat.le_of_eq hg.symm)) hb); replace HO302 := rB_ HO302 hb; have BK305 := Aside0.mk (hbox); have GW305 := ge_ hg; have GE305 := ge_ hg; replace HB := nb_ hb; clear hb hbox hg; obtain ⟨hcz19_0, hcz19_1, hcz19_2, hcz19_3, hcz19_4, hfz19_0, hfz19_1, hfz19_2, hfz19_3, hfz19_4⟩ := cf5_ BK305.out; obtain ⟨Ao20, co20, eo20⟩ := Kd.R_slice HO302.out; subst eo20; obtain ⟨Ao21, co21, eo21⟩ := Kd.S_slice HO_4.out; subst eo21) | (go_at_call 65; (with_reducible refine (impl_follows.calls _ _ x4_1 t296 t297 t298 t299 _ _ t300 false _ ?side1 ?side2 ?side3 ?side4 A6.out).mono ?_); (case side1 => refine (Kd.S_reads' (e := 44) (base := w.heap.size) (ok := fun k_ => ((True ∧ some k_ ≠ (.slice Ao20 t300.length co20 : Value).ownBlock) ∧ k_ ≠ gb305)) (n := x4_1.length) (c := co21) ?_).2.2; exact (by (with_reducible repeat (first | apply Kd.S_alloc | apply Kd.S_drewN | apply Kd.S_drew)); exact (Kd.S_mono (Kd.S_far (p := ⟨gb305, 4, none⟩) (Kd.S_far (p := ⟨gb305, 3, none⟩) (Kd.S_far (p := ⟨gb305, 2, none⟩) (Kd.S_far (p := ⟨gb305, 1, none⟩) (Kd.S_far (p := ⟨gb305, 0, none⟩) (Kd.S_mono HO_4.out (fun k_ hk => (⟨hk, hk.2⟩ : _ ∧ k_ ≠ gb305))) (fun _ hk => hk.2) (.int .i64 t296)) (fun _ hk => hk.2) (.int .i64 t297)) (fun _ hk => hk.2) (.int .i64 t298)) (fun _ hk => hk.2) (.int .i64 t299)) (fun _ hk => hk.2) (.slice Ao20 t300.length co20)) (fun _ h_ => h_.1)))); (case side2 => exact (Kd.S_reads' HO_4.out).2.1); (case side3 => refine (Kd.R_reads' (e := 9) (base := w.heap.size) (ok := fun k_ => True) (n := t300.length) (c := co20) ?_).2.2; exact (by (with_reducible repeat (first | apply Kd.R_alloc | apply Kd.R_drewN | apply Kd.R_drew)); exact (Kd.R_mono (Kd.R_far (p := ⟨gb305, 4, none⟩) (Kd.R_far (p := ⟨gb305, 3, none⟩) (Kd.R_far (p := ⟨gb305, 2, none⟩) (Kd.R_far (p := ⟨gb305, 1, none⟩) (Kd.R_far (p := ⟨gb305, 0, none⟩) (Kd.R_types HO302.out BK305.out (by decide)) (fun _ hk => hk.2) (.int .i64 t296)) (fun _ hk => hk.2) (.int .i64 t297)) (fun _ hk => hk.2) (.int .i64 t298)) (fun _ hk => hk.2) (.int .i64 t299)) (fun _ hk => hk.2) (.slice Ao20 t300.length co20)) (fun _ h_ => h_.1)))); (case side4 => exact (Kd.R_reads' HO302.out).2.1); rintro e w22 ⟨rfl, hb⟩; replace HO_4 := Aside0.mk (Kd.S_below (by (with_reducible repeat (first | apply Kd.S_alloc | apply Kd.S_drewN | apply Kd.S_drew)); exact (Kd.S_mono (Kd.S_far (p := ⟨gb305, 4, none⟩) (Kd.S_far (p := ⟨gb305, 3, none⟩) (Kd.S_far (p := ⟨gb305, 2, none⟩) (Kd.S_far (p := ⟨gb305, 1, none⟩) (Kd.S_far (p := ⟨gb305, 0, none⟩) (Kd.S_mono HO_4.out (fun k_ hk => (⟨hk, hk.2⟩ : _ ∧ k_ ≠ gb305))) (fun _ hk => hk.2) (.int .i64 t296)) (fun _ hk => hk.2) (.int .i64 t297)) (fun _ hk => hk.2) (.int .i64 t298)) (fun _ hk => hk.2) (.int .i64 t299)) (fun _ hk => hk.2) (.slice Ao20 t300.length co20)) (fun _ h_ => h_.1))) hb); replace HO302 := Aside0.mk (Kd.R_below (by (with_reducible repeat (first | apply Kd.R_alloc | apply Kd.R_drewN | apply Kd.R_drew)); exact (Kd.R_mono (Kd.R_far (p := ⟨gb305, 4, none⟩) (Kd.R_far (p := ⟨gb305, 3, none⟩) (Kd.R_far (p := ⟨gb305, 2, none⟩) (Kd.R_far (p := ⟨gb305, 1, none⟩) (Kd.R_far (p := ⟨gb305, 0, none⟩) (Kd.R_types HO302.out BK305.out (by decide)) (fun _ hk => hk.2) (.int .i64 t296)) (fun _ hk => hk.2) (.int .i64 t297)) (fun _ hk => hk.2) (.int .i64 t298)) (fun _ hk => hk.2) (.int .i64 t299)) (fun _ hk => hk.2) (.slice Ao20 t300.length co20)) (fun _ h_ => h_.1))) hb); replace BK305 := Aside0.mk (blk_below (g := gb305) (o := .cells #[.int .i64 t296, .int .i64 t297, .int .i64 t298, .int .i64 t299, .slice Ao20 t300.length co20] 44 (0, 0)) (by (with_reducible repeat (first | refine blk_drewN ?_ _ | refine blk_drew ?_ | refine blk_alloc ?_ _)); refine blk_put (cs := #[.int .i64 t296, .int .i64 t297, .int .i64 t298, .int .i64 t299, .slice none 0 0]) ?_ 4 _ rfl; (with_reducible repeat (first | refine blk_drewN ?_ _ | refine blk_drew ?_ | refine blk_alloc ?_ _)); refine blk_put (cs := #[.int .i64 t296, .int .i64 t297, .int .i64 t298, .int .i64 0, .slice none 0 0]) ?_ 3 _ rfl; (with_reducible repeat (first | refine blk_drewN ?_ _ | refine blk_drew ?_ | refine blk_alloc ?_ _)); refine blk_put (cs := #[.int .i64 t296, .int .i64 t297, .int .i64 0, .int .i64 0, .slice none 0 0]) ?_ 2 _ rfl; (with_reducible repeat (first | refine blk_drewN ?_ _ | refine blk_drew ?_ | refine blk_alloc ?_ _)); refine blk_put (cs := #[.int .i64 t296, .int .i64 0, .int .i64 0, .int .i64 0, .slice none 0 0]) ?_ 1 _ rfl; (with_reducible repeat (first | refine blk_drewN ?_ _ | refine blk_drew ?_ | refine blk_alloc ?_ _)); refine blk_put (cs := #[.int .i64 0, .int .i64 0, .int .i64 0, .int .i64 0, .slice none 0 0]) ?_ 0 _ rfl; (with_reducible repeat (first | refine blk_drewN ?_ _ | refine blk_drew ?_ | refine blk_alloc ?_ _)); exact BK305.out) hb); replace HB := nc_ GE305 hb; (try clear hb); (try clear hb2); (try clear hk); (try clear hi)))
    go_ret2
    exact ⟨_, er_, by (with_reducible repeat (first | apply Kd.S_alloc | apply Kd.S_drewN | apply Kd.S_drew)); exact Kd.S_mono HO_4.out (fun _ hk => trivial), hs_ GE305.out⟩
   replace H := ifs_ H
   obtain ⟨c8, H⟩ := H
   have LMc8 := Aside0.mk c8
   clear c8
   obtain ⟨y307, hy307⟩ : ∃ y_ : List (S44), y_ = (x4_1 ++ [(⟨t296, t297, t298, t299, t300⟩ : S44)]) := ⟨_, rfl⟩
   replace H : (impl_readLog.l0 k1 a0 y307 t303) = some (r1, r2) := by first | (rw [hy307]; with_reducible exact H) | (have H2_ := (Option.bind_some _ _).symm.trans H; rw [hy307]; with_reducible exact H2_) | (have H2_ := (Option.bind_some _ _).symm.trans H; with_reducible exact H2_) | with_reducible exact H | (rw [hy307]; exact H) | exact H
   have Ny307 := Aside0.mk hy307
   clear hy307
   have H' := Aside0.mk H
   clear H
   go_wp2_with (first | ((with_reducible refine gate_callee (f := 83) rfl ?_); refine gl_ 13 Try.func83 #[.string a0, .int .i64 x5_1] rfl ma_ ?_; (with_reducible refine (impl_takeBatch.calls k1 a0 x5_1 t296 t297 t298 t299 t300 t303 true _ A4.out).mono ?_); rintro e w9 ⟨v301, rfl, ho0, hb⟩; refine ⟨_, rfl, ?_⟩; replace HO_4 := Aside0.mk (Kd.S_elder' (ks_ HO_4.out) (Kd.R_base ho0) hb); have HO302 := Aside0.mk (Kd.R_lower ho0 (below_size (hb_))); replace HB := nb_ hb; (try clear hb); (try clear hb2); (try clear hk); (try clear hi); (try clear ho0)) | ((with_reducible refine gate_dst (N := 6) rfl ?_); refine be_ (N := 6) #[.int .i64 0, .int .i64 0, .int .i64 0, .int .i64 0, .slice none 0 0] 44 ?_; intro gb305 hg w10 hbox hb; replace HO_4 := Aside0.mk (Kd.S_below (Kd.S_elderB (ks_ HO_4.out) gb305 (Nat.le_of_eq hg.symm)) hb); replace HO302 := rB_ HO302 hb; have BK305 := Aside0.mk (hbox); have GW305 := ge_ hg; have GE305 := ge_ hg; replace HB := nb_ hb; clear hb hbox hg; obtain ⟨hcz11_0, hcz11_1, hcz11_2, hcz11_3, hcz11_4, hfz11_0, hfz11_1, hfz11_2, hfz11_3, hfz11_4⟩ := cf5_ BK305.out; obtain ⟨Ao12, co12, eo12⟩ := Kd.R_slice HO302.out; subst eo12; obtain ⟨Ao13, co13, eo13⟩ := Kd.S_slice HO_4.out; subst eo13) | (go_at_call 65; (with_reducible refine (impl_follows.calls _ _ x4_1 t296 t297 t298 t299 _ _ t300 true _ ?side1 ?side2 ?side3 ?side4 A6.out).mono ?_); (case side1 => refine (Kd.S_reads' (e := 44) (base := w.heap.size) (ok := fun k_ => ((True ∧ some k_ ≠ (.slice Ao12 t300.length co12 : Value).ownBlock) ∧ k_ ≠ gb305)) (n := x4_1.length) (c := co13) ?_).2.2; exact (by (with_reducible repeat (first | apply Kd.S_alloc | apply Kd.S_drewN | apply Kd.S_drew)); exact (Kd.S_mono (Kd.S_far (p := ⟨gb305, 4, none⟩) (Kd.S_far (p := ⟨gb305, 3, none⟩) (Kd.S_far (p := ⟨gb305, 2, none⟩) (Kd.S_far (p := ⟨gb305, 1, none⟩) (Kd.S_far (p := ⟨gb305, 0, none⟩) (Kd.S_mono HO_4.out (fun k_ hk => (⟨hk, hk.2⟩ : _ ∧ k_ ≠ gb305))) (fun _ hk => hk.2) (.int .i64 t296)) (fun _ hk => hk.2) (.int .i64 t297)) (fun _ hk => hk.2) (.int .i64 t298)) (fun _ hk => hk.2) (.int .i64 t299)) (fun _ hk => hk.2) (.slice Ao12 t300.length co12)) (fun _ h_ => h_.1)))); (case side2 => exact (Kd.S_reads' HO_4.out).2.1); (case side3 => refine (Kd.R_reads' (e := 9) (base := w.heap.size) (ok := fun k_ => True) (n := t300.length) (c := co12) ?_).2.2; exact (by (with_reducible repeat (first | apply Kd.R_alloc | apply Kd.R_drewN | apply Kd.R_drew)); exact (Kd.R_mono (Kd.R_far (p := ⟨gb305, 4, none⟩) (Kd.R_far (p := ⟨gb305, 3, none⟩) (Kd.R_far (p := ⟨gb305, 2, none⟩) (Kd.R_far (p := ⟨gb305, 1, none⟩) (Kd.R_far (p := ⟨gb305, 0, none⟩) (Kd.R_types HO302.out BK305.out (by decide)) (fun _ hk => hk.2) (.int .i64 t296)) (fun _ hk => hk.2) (.int .i64 t297)) (fun _ hk => hk.2) (.int .i64 t298)) (fun _ hk => hk.2) (.int .i64 t299)) (fun _ hk => hk.2) (.slice Ao12 t300.length co12)) (fun _ h_ => h_.1)))); (case side4 => exact (Kd.R_reads' HO302.out).2.1); rintro e w14 ⟨rfl, hb⟩; replace HO_4 := Aside0.mk (Kd.S_below (by (with_reducible repeat (first | apply Kd.S_alloc | apply Kd.S_drewN | apply Kd.S_drew)); exact (Kd.S_mono (Kd.S_far (p := ⟨gb305, 4, none⟩) (Kd.S_far (p := ⟨gb305, 3, none⟩) (Kd.S_far (p := ⟨gb305, 2, none⟩) (Kd.S_far (p := ⟨gb305, 1, none⟩) (Kd.S_far (p := ⟨gb305, 0, none⟩) (Kd.S_mono HO_4.out (fun k_ hk => (⟨hk, hk.2⟩ : _ ∧ k_ ≠ gb305))) (fun _ hk => hk.2) (.int .i64 t296)) (fun _ hk => hk.2) (.int .i64 t297)) (fun _ hk => hk.2) (.int .i64 t298)) (fun _ hk => hk.2) (.int .i64 t299)) (fun _ hk => hk.2) (.slice Ao12 t300.length co12)) (fun _ h_ => h_.1))) hb); replace HO302 := Aside0.mk (Kd.R_below (by (with_reducible repeat (first | apply Kd.R_alloc | apply Kd.R_drewN | apply Kd.R_drew)); exact (Kd.R_mono (Kd.R_far (p := ⟨gb305, 4, none⟩) (Kd.R_far (p := ⟨gb305, 3, none⟩) (Kd.R_far (p := ⟨gb305, 2, none⟩) (Kd.R_far (p := ⟨gb305, 1, none⟩) (Kd.R_far (p := ⟨gb305, 0, none⟩) (Kd.R_types HO302.out BK305.out (by decide)) (fun _ hk => hk.2) (.int .i64 t296)) (fun _ hk => hk.2) (.int .i64 t297)) (fun _ hk => hk.2) (.int .i64 t298)) (fun _ hk => hk.2) (.int .i64 t299)) (fun _ hk => hk.2) (.slice Ao12 t300.length co12)) (fun _ h_ => h_.1))) hb); replace BK305 := Aside0.mk (blk_below (g := gb305) (o := .cells #[.int .i64 t296, .int .i64 t297, .int .i64 t298, .int .i64 t299, .slice Ao12 t300.length co12] 44 (0, 0)) (by (with_reducible repeat (first | refine blk_drewN ?_ _ | refine blk_drew ?_ | refine blk_alloc ?_ _)); refine blk_put (cs := #[.int .i64 t296, .int .i64 t297, .int .i64 t298, .int .i64 t299, .slice none 0 0]) ?_ 4 _ rfl; (with_reducible repeat (first | refine blk_drewN ?_ _ | refine blk_drew ?_ | refine blk_alloc ?_ _)); refine blk_put (cs := #[.int .i64 t296, .int .i64 t297, .int .i64 t298, .int .i64 0, .slice none 0 0]) ?_ 3 _ rfl; (with_reducible repeat (first | refine blk_drewN ?_ _ | refine blk_drew ?_ | refine blk_alloc ?_ _)); refine blk_put (cs := #[.int .i64 t296, .int .i64 t297, .int .i64 0, .int .i64 0, .slice none 0 0]) ?_ 2 _ rfl; (with_reducible repeat (first | refine blk_drewN ?_ _ | refine blk_drew ?_ | refine blk_alloc ?_ _)); refine blk_put (cs := #[.int .i64 t296, .int .i64 0, .int .i64 0, .int .i64 0, .slice none 0 0]) ?_ 1 _ rfl; (with_reducible repeat (first | refine blk_drewN ?_ _ | refine blk_drew ?_ | refine blk_alloc ?_ _)); refine blk_put (cs := #[.int .i64 0, .int .i64 0, .int .i64 0, .int .i64 0, .slice none 0 0]) ?_ 0 _ rfl; (with_reducible repeat (first | refine blk_drewN ?_ _ | refine blk_drew ?_ | refine blk_alloc ?_ _)); exact BK305.out) hb); replace HB := nc_ GE305 hb; (try clear hb); (try clear hb2); (try clear hk); (try clear hi); obtain ⟨hcz15_0, hcz15_1, hcz15_2, hcz15_3, hcz15_4, hfz15_0, hfz15_1, hfz15_2, hfz15_3, hfz15_4⟩ := cf5_ BK305.out) | ((with_reducible refine gate_builtin (b := .append) (xs := #[.tmp 27, .tmp 29]) rfl ?_); at_builtin; refine Kd.S_append k44 (w0 := w) w.heap.size rfl (.tmp 27) (.tmp 29) 26 44 (.agg #[(.int .i64 0), (.int .i64 0), (.int .i64 0), (.int .i64 0), (.slice none 0 0)]) 56 rfl Try.underlying26 info44 rfl (by decide) (by omega) (.slice Ao13 x4_1.length co13) x4_1 (⟨t296, t297, t298, t299, t300⟩ : S44) [.int .i64 t296, .int .i64 t297, .int .i64 t298, .int .i64 t299, .slice Ao12 t300.length co12] (fun k_ => k_ ≠ gb305) (fun k_ => some k_ = (.slice Ao12 t300.length co12 : Value).ownBlock) rfl rfl ?aP (fun k_ hk_ => ((Kd.R_mono (ok' := fun k_ => ((fun k_ => k_ ≠ gb305)) k_ ∧ some k_ ≠ (.slice Ao13 x4_1.length co13 : Value).ownBlock) (Kd.R_types (Kd.R_apart' (HO302.out) (Kd.S_typed HO_4.out) (by decide)) BK305.out (by decide)) (fun k_ hk => ⟨hk.2, hk.1.2⟩))).1 k_ hk_.symm) ?aF ?aO ?aB ?aS ?aL ?_; (case aP => exact k44_mkM _ _ _ (⟨t296, t297, t298, t299, t300⟩ : S44) (Kd.R_mono (Kd.R_tight rfl (Kd.R_mono (ok' := fun k_ => ((fun k_ => k_ ≠ gb305)) k_ ∧ some k_ ≠ (.slice Ao13 x4_1.length co13 : Value).ownBlock) (Kd.R_types (Kd.R_apart' (HO302.out) (Kd.S_typed HO_4.out) (by decide)) BK305.out (by decide)) (fun k_ hk => ⟨hk.2, hk.1.2⟩))) (fun _ h_ => h_))); (case aB => exact (hs_ GE305.out)); (case aF => exact (fun k_ hk => Kd.freshB (g := gb305) (o := .cells #[.int .i64 t296, .int .i64 t297, .int .i64 t298, .int .i64 t299, .slice Ao12 t300.length co12] 44 (0, 0)) (kb_ BK305.out) k_ hk)); (case aO => exact (by (with_reducible repeat (first | apply Kd.S_alloc | apply Kd.S_drewN | apply Kd.S_drew)); exact Kd.S_mono HO_4.out (fun k_ hk => ⟨hk.2, fun e_ => hk.1.2 e_⟩))); (case aS => exact (below_size (hs_ GE305.out))); (case aL => have := LMc8.out; omega); intro v308 w16 ho hb hg hat; rw [← Ny307.out] at ho; replace BK305 := Aside0.mk (blk_grown (g := gb305) (o := .cells #[.int .i64 t296, .int .i64 t297, .int .i64 t298, .int .i64 t299, .slice Ao12 t300.length co12] 44 (0, 0)) (kb_ BK305.out) hg (Kd.S_away HO_4.out (fun _ hk => hk.2))); replace HB := Aside0.mk (hb); have HO309 := Aside0.mk (ho); clear HO_4 HO302; clear ho hb hg hat))
   go_roundg k1
   case measure => have := HK1.out; omega
   case rel => exact ⟨(y307), (t303), sr_, H', ⟨by have := HK1.out; omega⟩, ⟨by (with_reducible repeat (first | apply Kd.S_alloc | apply Kd.S_drewN | apply Kd.S_drew)); exact Kd.S_mono HO309.out (fun _ hk => trivial)⟩, ⟨hs_ GE305.out⟩⟩

/-! ### impl_Disk_with: function 66 -/
def impl_Disk_with.f (l0_0 : List (S56)) (a1 : Int) (a2_0 : ByteArray) (a2_1 : Int) : Option ((List (S56))) := (some (([] : List (S56)) : List (S56))).bind fun y313 => (if y313.length + l0_0.length < 5864062014805 then ((some (y313 ++ l0_0 : List (S56))).bind fun y316 => (if 0 ≤ a1 then (if a1 < (y316.length : Int) then (some (y316.set (a1 : Int).toNat (⟨a2_0, a2_1⟩ : S56))) else (none)) else (none))) else (none))
set_option maxHeartbeats 8000000 in
set_option maxRecDepth 100000 in
theorem impl_Disk_with.calls (A0_0 : Option Addr) (c0_0 : Nat) (l0_0 : List (S56)) (a1 : Int) (a2_0 : ByteArray) (a2_1 : Int) (r : List (S56)) (w : World) (hr0_0 : Kd.C k56 w A0_0 l0_0.length l0_0) (hc0_0 : l0_0.length ≤ c0_0) (h : impl_Disk_with.f l0_0 a1 a2_0 a2_1 = some r) :
  Calls Try.prog 66 #[.agg #[.slice A0_0 l0_0.length c0_0], .int .i64 a1, .agg #[.string a2_0, .int .i64 a2_1]] w fun e w' => ∃ v0_ : Value, e = .returned (.agg #[v0_]) ∧ Kd.R k56 56 w' w.heap.size (fun _ => True) v0_ r ∧ Below w.heap.size w w' := by
 have hu31 := Try.underlying31
 have hu56 := Try.underlying56
 have HR0_0 := Aside0.mk hr0_0
 have HC0_0 := Aside0.mk hc0_0
 clear hr0_0 hc0_0
 have HB := Aside0.mk (Below.refl w.heap.size w)
 have H : ((some (([] : List (S56)) : List (S56))).bind fun y313 => (if y313.length + l0_0.length < 5864062014805 then ((some (y313 ++ l0_0 : List (S56))).bind fun y316 => (if 0 ≤ a1 then (if a1 < (y316.length : Int) then (some (y316.set (a1 : Int).toNat (⟨a2_0, a2_1⟩ : S56))) else (none)) else (none))) else (none))) = some r := h
 clear h
 obtain ⟨y313, hy313⟩ : ∃ y_ : List (S56), y_ = (([] : List (S56))) := ⟨_, rfl⟩
 replace H : (if y313.length + l0_0.length < 5864062014805 then ((some (y313 ++ l0_0 : List (S56))).bind fun y316 => (if 0 ≤ a1 then (if a1 < (y316.length : Int) then (some (y316.set (a1 : Int).toNat (⟨a2_0, a2_1⟩ : S56))) else (none)) else (none))) else (none)) = some r := by first | (rw [hy313]; with_reducible exact H) | (have H2_ := (Option.bind_some _ _).symm.trans H; rw [hy313]; with_reducible exact H2_) | (have H2_ := (Option.bind_some _ _).symm.trans H; with_reducible exact H2_) | with_reducible exact H | (rw [hy313]; exact H) | exact H
 have Ny313 := Aside0.mk hy313
 clear hy313
 replace H := ifs_ H
 obtain ⟨c4, H⟩ := H
 have LMc4 := Aside0.mk c4
 clear c4
 obtain ⟨y316, hy316⟩ : ∃ y_ : List (S56), y_ = (y313 ++ l0_0) := ⟨_, rfl⟩
 replace H : (if 0 ≤ a1 then (if a1 < (y316.length : Int) then (some (y316.set (a1 : Int).toNat (⟨a2_0, a2_1⟩ : S56))) else (none)) else (none)) = some r := by first | (rw [hy316]; with_reducible exact H) | (have H2_ := (Option.bind_some _ _).symm.trans H; rw [hy316]; with_reducible exact H2_) | (have H2_ := (Option.bind_some _ _).symm.trans H; with_reducible exact H2_) | with_reducible exact H | (rw [hy316]; exact H) | exact H
 have Ny316 := Aside0.mk hy316
 clear hy316
 replace H := ifs_ H
 obtain ⟨c5, H⟩ := H
 have c5b0 := decide_eq_true c5
 clear c5
 replace H := ifs_ H
 obtain ⟨c6, H⟩ := H
 have c6b0 := decide_eq_true c6
 clear c6
 obtain ⟨y320, hy320⟩ : ∃ y_ : List (S56), y_ = (y316.set (a1 : Int).toNat (⟨a2_0, a2_1⟩ : S56)) := ⟨_, rfl⟩
 replace H : (some y320) = some r := by first | (rw [hy320]; with_reducible exact H) | (have H2_ := (Option.bind_some _ _).symm.trans H; rw [hy320]; with_reducible exact H2_) | (have H2_ := (Option.bind_some _ _).symm.trans H; with_reducible exact H2_) | with_reducible exact H | (rw [hy320]; exact H) | exact H
 have Ny320 := Aside0.mk hy320
 clear hy320
 obtain rfl := Option.some.inj H
 go_enter Try.func66, Try.ntmps66
 go_wp2_with (first | ((with_reducible refine gate_dst (N := 3) rfl ?_); refine be_ (N := 3) #[.slice A0_0 l0_0.length c0_0] 31 ?_; intro gb310 hg w8 hbox hb; have BK310 := Aside0.mk (hbox); have GW310 := ge_ hg; have GE310 := ge_ hg; replace HB := nb_ hb; clear hb hbox hg) | ((with_reducible refine gate_dst (N := 5) rfl ?_); refine be_ (N := 5) #[.string a2_0, .int .i64 a2_1] 56 ?_; intro gb311 hg w9 hbox hb; have BK311 := Aside0.mk (hbox); have GW311 := ge1_ hg GE310; have GE311 := ge1_ hg GE310; replace HB := nc_ GE310 hb; have NB310_311 := nl_ BK310 hg; have NB311_310 := ng_ BK310 hg; replace BK310 := bK_ BK310 hb; clear hb hbox hg) | ((with_reducible refine gate_dst (N := 6) rfl ?_); refine be_ (N := 6) #[.slice none 0 0] 31 ?_; intro gb312 hg w10 hbox hb; have BK312 := Aside0.mk (hbox); have GW312 := ge2_ hg GE310 GE311; have GE312 := ge2_ hg GE310 GE311; replace HB := nc2_ GE310 GE311 hb; have NB310_312 := nl_ BK310 hg; have NB312_310 := ng_ BK310 hg; replace BK310 := bK_ BK310 hb; have NB311_312 := nl_ BK311 hg; have NB312_311 := ng_ BK311 hg; replace BK311 := bK_ BK311 hb; clear hb hbox hg) | ((with_reducible refine gate_dst (N := 8) rfl ?_); refine Kd.R_lit k56 _ 56 ?hg (N := 8) ?hd (xs := ([] : List (S56))) (inner := []) (ok := fun _ => True) (okp := fun _ => True) ?hr ?hp (fun _ hk => hk) trivial (Below.refl _ _) (Nat.le_refl _) (by simp) ?_; (case hd => rfl); (case hg => rfl); (case hr => first | (go_simp; done) | (go_simp; rfl)); (case hp => exact (Reps.none _ _)); intro v314 w11 ho12 hb hg_ hnew_; clear hg_ hnew_; (first | rw [← Ny313.out] at ho12 | (simp only [Int.reduceToNat] at ho12; rw [← Ny313.out] at ho12)); have HO315 := Aside0.mk (Kd.R_lower (Kd.R_newB ho12 (g := gb311) (o := .cells #[.string a2_0, .int .i64 a2_1] 56 (0, 0)) (kb_ BK311.out)) (below_size (hs3_ GE310.out GE311.out GE312.out))); replace BK310 := bK_ BK310 hb; replace BK311 := bK_ BK311 hb; replace BK312 := bK_ BK312 hb; replace HB := nc3_ GE310 GE311 GE312 hb; clear hb ho12; have hnb13 := NB310_311.out; have hnc13 := NB311_310.out; have hnb14 := NB310_312.out; have hnc14 := NB312_310.out; obtain ⟨hcz15_0, hfz15_0⟩ := cf1_ BK310.out) | ((with_reducible refine gate_builtin (b := .append) (xs := #[.tmp 8, .tmp 10]) rfl ?_); at_builtin; refine Kd.R_append_rows k56 (w0 := w) w.heap.size rfl (.tmp 8) (.tmp 10) 29 56 (.agg #[(.string ⟨#[]⟩), (.int .i64 0)]) 24 rfl Try.underlying29 info56 rfl (by decide) (by omega) v314 y313 l0_0 _ _ _ (fun k_ => k_ ≠ gb311) (fun _ => False) rfl rfl ?aO ?aR (fun _ _ h => h) (fun _ h => h.elim) ?aF ?aB ?aS ?aL ?_; (case aR => exact cs_ ((Kd.C_below HR0_0.out HB.out))); (case aB => exact (hs3_ GE310.out GE311.out GE312.out)); (case aF => exact (fun k_ hk => Kd.freshB (g := gb311) (o := .cells #[.string a2_0, .int .i64 a2_1] 56 (0, 0)) (kb_ BK311.out) k_ hk)); (case aO => exact (by (with_reducible repeat (first | apply Kd.R_alloc | apply Kd.R_drewN | apply Kd.R_drew)); exact Kd.R_mono HO315.out (fun _ hk => hk.2))); (case aS => exact (below_size (hs3_ GE310.out GE311.out GE312.out))); (case aL => have := LMc4.out; omega); intro v317 w16 ho hb hg hat; rw [← Ny316.out] at ho; replace BK310 := Aside0.mk (blk_grown (g := gb310) (o := .cells #[.slice A0_0 l0_0.length c0_0] 31 (0, 0)) (kb_ BK310.out) hg (Kd.R_ne HO315.out BK310.out (by decide))); replace BK311 := Aside0.mk (blk_grown (g := gb311) (o := .cells #[.string a2_0, .int .i64 a2_1] 56 (0, 0)) (kb_ BK311.out) hg (Kd.R_away HO315.out (fun _ hk => hk.2))); replace BK312 := Aside0.mk (blk_grown (g := gb312) (o := .cells #[.slice none 0 0] 31 (0, 0)) (kb_ BK312.out) hg (Kd.R_ne HO315.out BK312.out (by decide))); replace HB := Aside0.mk (hb); have HO318 := Aside0.mk (ho); clear HO315; clear ho hb hg hat; obtain ⟨Ao17, co17, eo17⟩ := Kd.R_slice HO318.out; subst eo17) | ((with_reducible refine gate_dst (N := 7) rfl ?_); refine be_ (N := 7) #[.slice none 0 0] 31 ?_; intro gb319 hg w18 hbox hb; replace HO318 := rB_ HO318 hb; have BK319 := Aside0.mk (hbox); have GW319 := ge3_ hg GE310 GE311 GE312; have GE319 := ge3_ hg GE310 GE311 GE312; replace HB := nc3_ GE310 GE311 GE312 hb; have NB310_319 := nl_ BK310 hg; have NB319_310 := ng_ BK310 hg; replace BK310 := bK_ BK310 hb; have NB311_319 := nl_ BK311 hg; have NB319_311 := ng_ BK311 hg; replace BK311 := bK_ BK311 hb; have NB312_319 := nl_ BK312 hg; have NB319_312 := ng_ BK312 hg; replace BK312 := bK_ BK312 hb; clear hb hbox hg; have hnb19 := NB319_310.out; have hnc19 := NB310_319.out; have hnb20 := NB319_311.out; have hnc20 := NB311_319.out; have hnb21 := NB319_312.out; have hnc21 := NB312_319.out; obtain ⟨hcz22_0, hfz22_0⟩ := cf1_ BK319.out) | ((with_reducible refine gate_store (t := 31) (p := 7) rfl ?_); refine store_event (t := 31) (p := 7) (v := ?vo_w23) (w1 := (w18.setCell ⟨gb319, 0, none⟩ (.slice Ao17 y316.length co17))) ?hg ?ho ?hn ?hr ?_; (case ho => rfl); (case hg => rfl); (case hn => rfl); (case hr => first | (go_simp; done) | (go_simp; rfl)); intro w23 hw; have n0_ : Aside0 (Kd.R k56 56 w23 w.heap.size (fun k_ => k_ ≠ gb311) (.slice Ao17 y316.length co17) y316) := ⟨(by rw [hw]; exact (by (with_reducible repeat (first | apply Kd.R_alloc | apply Kd.R_drewN | apply Kd.R_drew)); exact Kd.R_mono (Kd.R_far (p := ⟨gb319, 0, none⟩) (Kd.R_types HO318.out BK319.out (by decide)) (fun _ hk => hk.2) (.slice Ao17 y316.length co17)) (fun _ hk => hk.1)))⟩; have n1_ : Aside0 (w23.heap[gb310]? = some (.cells #[.slice A0_0 l0_0.length c0_0] 31 (0, 0))) := ⟨(by rw [hw]; exact (by (with_reducible repeat (first | refine blk_drewN ?_ _ | refine blk_drew ?_ | refine blk_alloc ?_ _)); refine blk_far ?_ NB310_319.out _; (with_reducible repeat (first | refine blk_drewN ?_ _ | refine blk_drew ?_ | refine blk_alloc ?_ _)); exact BK310.out))⟩; have n2_ : Aside0 (w23.heap[gb311]? = some (.cells #[.string a2_0, .int .i64 a2_1] 56 (0, 0))) := ⟨(by rw [hw]; exact (by (with_reducible repeat (first | refine blk_drewN ?_ _ | refine blk_drew ?_ | refine blk_alloc ?_ _)); refine blk_far ?_ NB311_319.out _; (with_reducible repeat (first | refine blk_drewN ?_ _ | refine blk_drew ?_ | refine blk_alloc ?_ _)); exact BK311.out))⟩; have n3_ : Aside0 (w23.heap[gb312]? = some (.cells #[.slice none 0 0] 31 (0, 0))) := ⟨(by rw [hw]; exact (by (with_reducible repeat (first | refine blk_drewN ?_ _ | refine blk_drew ?_ | refine blk_alloc ?_ _)); refine blk_far ?_ NB312_319.out _; (with_reducible repeat (first | refine blk_drewN ?_ _ | refine blk_drew ?_ | refine blk_alloc ?_ _)); exact BK312.out))⟩; have n4_ : Aside0 (w23.heap[gb319]? = some (.cells #[.slice Ao17 y316.length co17] 31 (0, 0))) := ⟨(by rw [hw]; exact (by (with_reducible repeat (first | refine blk_drewN ?_ _ | refine blk_drew ?_ | refine blk_alloc ?_ _)); refine blk_put (cs := #[.slice none 0 0]) ?_ 0 _ rfl; (with_reducible repeat (first | refine blk_drewN ?_ _ | refine blk_drew ?_ | refine blk_alloc ?_ _)); exact BK319.out))⟩; have n5_ : Aside0 (Below w.heap.size w w23) := ⟨(by rw [hw]; exact (hs4_ GE310.out GE311.out GE312.out GE319.out))⟩; clear hw; clear HO318; clear BK310; clear BK311; clear BK312; clear BK319; clear HB; have HO318 := n0_; have BK310 := n1_; have BK311 := n2_; have BK312 := n3_; have BK319 := n4_; have HB := n5_; clear n0_ n1_ n2_ n3_ n4_ n5_; obtain ⟨hcz24_0, hfz24_0⟩ := cf1_ BK319.out; have hnb25 := NB311_312.out; have hnc25 := NB312_311.out; obtain ⟨hcz26_0, hcz26_1, hfz26_0, hfz26_1⟩ := cf2_ BK311.out; have p7 : 0 ≤ (a1 : Int) := oa_; have q7 : (a1 : Int) < ((y316.length : Int) : Int) := oa_; obtain ⟨go7, co7, eo7, gb7, gl7, cl7, HG7⟩ := Kd.R_form HO318.out (by omega); (first | cases eo7 | (injection eo7 with ea_ en_ ec_; (first | subst ea_ | (injection ea_ with ea_; subst ea_)); subst ec_; clear en_)); have GB7 := Aside0.mk gb7; have GG7 := Aside0.mk HG7; clear gb7 gl7 HG7; obtain ⟨ce7, hcl7, hM7, hcc7, hfr7⟩ := Kd.R_elem HO318.out z56 (a1 : Int) p7 q7; obtain rfl := k56_openM hM7; have hx7_0 : w23.cell? ⟨go7, (a1 : Int).toNat * 2, none⟩ = some (.string ((rd_T56 y316 a1).f0)) := hcc7 0 _ rfl; have hx7_1 : w23.cell? ⟨go7, (a1 : Int).toNat * 2 + 1, none⟩ = some (.int .i64 ((rd_T56 y316 a1).f1)) := hcc7 1 _ rfl; have hf7_0 : w23.frozen? ⟨go7, (a1 : Int).toNat * 2, none⟩ = false := hfr7 0; have hf7_1 : w23.frozen? ⟨go7, (a1 : Int).toNat * 2 + 1, none⟩ = false := hfr7 1; clear hcl7 hcc7 hfr7; (try clear hM7); replace p7 := eq_true p7; replace q7 := eq_true q7; have HX27 := Aside0.mk (show Kd.R k56 56 w23 w.heap.size (fun k_ => k_ ≠ gb311) (.slice (some ⟨go7, 0, none⟩) y316.length co17) y316 from (kr_ HO318.out)); obtain ⟨ce27, hcl27, hM27, hcc27, hfr27⟩ := Kd.R_elem HX27.out z56 (a1 : Int) (oa_) (by have h_ : (a1 : Int) < ((y316.length : Int) : Int) := oa_; first | exact h_ | (have e_ := (Kd.R_reads' HO318.out).1; omega) | simpa using h_); obtain rfl := k56_openM hM27; have HP27 := Kd.R_seg HX27.out (a1 : Int) (oa_) (by have h_ : (a1 : Int) < ((y316.length : Int) : Int) := oa_; first | exact h_ | (have e_ := (Kd.R_reads' HO318.out).1; omega) | simpa using h_) (seg := [.string a2_0, .int .i64 a2_1]) (j := 0) hcl27 hcc27 (show 2 ≤ 2 from by decide) (x' := (⟨a2_0, a2_1⟩ : S56)) (k56_mkM _ _ _ (⟨a2_0, a2_1⟩ : S56) ) (fun _ hk => hk); have hx27_0 := hcc27 0 _ rfl; (try simp only [show (k56).sz = 2 from rfl, Nat.mul_one, Nat.add_zero] at hx27_0); have hf27_0 := hfr27 0; (try simp only [show (k56).sz = 2 from rfl, Nat.mul_one, Nat.add_zero] at hf27_0); have hx27_1 := hcc27 1 _ rfl; (try simp only [show (k56).sz = 2 from rfl, Nat.mul_one, Nat.add_zero] at hx27_1); have hf27_1 := hfr27 1; (try simp only [show (k56).sz = 2 from rfl, Nat.mul_one, Nat.add_zero] at hf27_1); clear hcl27 hcc27 hfr27; (try clear hM27)) | ((with_reducible refine gate_store (t := 56) (p := 17) rfl ?_); refine store_event (t := 56) (p := 17) (v := ?vo_w28) (w1 := ((w23.setCell ⟨go7, (a1 : Int).toNat * 2, none⟩ (.string a2_0)).setCell ⟨go7, (a1 : Int).toNat * 2 + 1, none⟩ (.int .i64 a2_1))) ?hg ?ho ?hn ?hr ?_; (case ho => rfl); (case hg => rfl); (case hn => rfl); (case hr => first | (go_simp; done) | (go_simp; rfl)); intro w28 hw; have hg : w23.grownBy w28 (some go7) := (by rw [hw]; exact HP27.2); have hp_ : Kd.R k56 56 w28 w.heap.size (fun k_ => k_ ≠ gb311) (.slice (some ⟨go7, 0, none⟩) y316.length co17) y320 := (by rw [hw, Ny320.out]; exact HP27.1); clear HP27; replace BK310 := Aside0.mk (blk_grown (g := gb310) (o := .cells #[.slice A0_0 l0_0.length c0_0] 31 (0, 0)) (kb_ BK310.out) hg (Kd.R_ne HO318.out BK310.out (by decide))); replace BK311 := Aside0.mk (blk_grown (g := gb311) (o := .cells #[.string a2_0, .int .i64 a2_1] 56 (0, 0)) (kb_ BK311.out) hg (Kd.R_away HO318.out (fun _ hk => hk))); replace BK312 := Aside0.mk (blk_grown (g := gb312) (o := .cells #[.slice none 0 0] 31 (0, 0)) (kb_ BK312.out) hg (Kd.R_ne HO318.out BK312.out (by decide))); replace BK319 := Aside0.mk (blk_grown (g := gb319) (o := .cells #[.slice (some ⟨go7, 0, none⟩) y316.length co17] 31 (0, 0)) (kb_ BK319.out) hg (Kd.R_ne HO318.out BK319.out (by decide))); replace HO318 := Aside0.mk (hp_); replace HB := Aside0.mk ((by rw [hw]; exact below_set (below_set (HB.out) GB7.out) GB7.out : Below w.heap.size w w28)); clear hg hw hp_; obtain ⟨hcz29_0, hfz29_0⟩ := cf1_ BK319.out; obtain ⟨hcz30_0, hfz30_0⟩ := cf1_ BK312.out))
 refine bodyPost_ret (results_cell_row rfl _ _ gb312 31 #[.slice (some ⟨go7, 0, none⟩) y316.length co17] (0, 0) _ rfl (by (with_reducible repeat (first | refine blk_drewN ?_ _ | refine blk_drew ?_ | refine blk_alloc ?_ _)); refine blk_put (cs := #[.slice none 0 0]) ?_ 0 _ rfl; (with_reducible repeat (first | refine blk_drewN ?_ _ | refine blk_drew ?_ | refine blk_alloc ?_ _)); exact BK312.out) Try.underlying31 rfl (by kernel_rfl)) rfl ?_
 exact ⟨_, er_, by (with_reducible repeat (first | apply Kd.R_alloc | apply Kd.R_drewN | apply Kd.R_drew)); exact Kd.R_mono (Kd.R_far (p := ⟨gb312, 0, none⟩) (Kd.R_types HO318.out BK312.out (by decide)) (fun _ hk => hk.2) (.slice (some ⟨go7, 0, none⟩) y316.length co17)) (fun _ hk => trivial), hs4_ GE310.out GE311.out GE312.out GE319.out⟩

/-! ### impl_WriteBatch: function 20 -/
def impl_WriteBatch.j0 : Nat → Int → Bool → List (S56) → Int → Int → Int → Int → List ByteArray → Option ((List (S56)) × Bool)
 | 0, _, _, _, _, _, _, _, _ => none
 | k + 1, x1, x20, x322000, x323000, x323001, x323002, x323003, x323004 => if x20 = true then (some (([] : List (S56)), false)) else (if 0 ≤ x1 then (if x1 < (x322000.length : Int) then ((impl_readLog.f k ((rd_T56 x322000 x1).f0)).bind fun bt328 => ((impl_batchBytes.f k x323000 x323001 x323002 x323003 x323004).bind fun t332 => (if bt328.2 = (((rd_T56 x322000 x1).f0).size : Int) then ((impl_follows.f bt328.1 x323000 x323001 x323002 x323003 x323004).bind fun t333 => (if t333 = true then (if (wrap64 (bt328.2 + (t332.size : Int))) > 400 then (some (([] : List (S56)), false)) else (if ((rd_T56 x322000 x1).f0).size + t332.size ≤ 9223372036854775807 then ((impl_Disk_with.f x322000 x1 (((rd_T56 x322000 x1).f0) ++ t332) ((rd_T56 x322000 x1).f1)).bind fun t334 => (some (t334, true))) else (none))) else (some (([] : List (S56)), false)))) else (some (([] : List (S56)), false))))) else (none)) else (none))
def impl_WriteBatch.f (k : Nat) (l0_0 : List (S56)) (a1 : Int) (a2_0 : Int) (a2_1 : Int) (a2_2 : Int) (a2_3 : Int) (l2_4 : List ByteArray) : Option ((List (S56)) × Bool) := (impl_Disk_has.f l0_0 a1).bind fun t324 => (if t324 = true then ((impl_isBatch.f a2_0 a2_1 a2_2 a2_3 l2_4).bind fun t325 => (impl_WriteBatch.j0 k a1 (!t325) l0_0 a2_0 a2_1 a2_2 a2_3 l2_4)) else (impl_WriteBatch.j0 k a1 true l0_0 a2_0 a2_1 a2_2 a2_3 l2_4))
theorem impl_WriteBatch.mono_l : ∀ k, (∀ y0 y1 y2 y3 y4 y5 y6 y7, LeO (impl_WriteBatch.j0 k y0 y1 y2 y3 y4 y5 y6 y7) (impl_WriteBatch.j0 (k + 1) y0 y1 y2 y3 y4 y5 y6 y7))
 | 0 => fun _ _ _ _ _ _ _ _ r h => by simp [impl_WriteBatch.j0] at h
 | k + 1 => by
  have ih0 := impl_WriteBatch.mono_l k
  ·intro y0 y1 y2 y3 y4 y5 y6 y7
   unfold impl_WriteBatch.j0
   repeat' first
   | (with_reducible exact ih0 _ _ _ _ _ _ _ _)
   | (with_reducible exact impl_batchBytes.mono _ _ _ _ _ _)
   | (with_reducible exact impl_readLog.mono _ _)
   | (with_reducible exact LeO.refl _)
   | (with_reducible exact LeO.none _)
   | (with_reducible refine LeO.ite ?_ ?_)
   | (with_reducible refine LeO.bind ?_ (fun _ => ?_))
   | exact ih0 _ _ _ _ _ _ _ _
   | exact impl_batchBytes.mono _ _ _ _ _ _
   | exact impl_readLog.mono _ _
   | exact LeO.none _
   | refine LeO.ite ?_ ?_
   | refine LeO.bind ?_ (fun _ => ?_)
theorem impl_WriteBatch.mono : ∀ a0 a1 a2 a3 a4 a5 a6 k, LeO (impl_WriteBatch.f k a0 a1 a2 a3 a4 a5 a6) (impl_WriteBatch.f (k + 1) a0 a1 a2 a3 a4 a5 a6) := by
 intro a0 a1 a2 a3 a4 a5 a6 k
 have ih0 := impl_WriteBatch.mono_l k
 unfold impl_WriteBatch.f
 repeat' first
   | (with_reducible exact ih0 _ _ _ _ _ _ _ _)
   | (with_reducible exact impl_batchBytes.mono _ _ _ _ _ _)
   | (with_reducible exact impl_readLog.mono _ _)
   | (with_reducible exact LeO.refl _)
   | (with_reducible exact LeO.none _)
   | (with_reducible refine LeO.ite ?_ ?_)
   | (with_reducible refine LeO.bind ?_ (fun _ => ?_))
   | exact ih0 _ _ _ _ _ _ _ _
   | exact impl_batchBytes.mono _ _ _ _ _ _
   | exact impl_readLog.mono _ _
   | exact LeO.none _
   | refine LeO.ite ?_ ?_
   | refine LeO.bind ?_ (fun _ => ?_)
set_option maxHeartbeats 8000000 in
set_option maxRecDepth 100000 in
theorem impl_WriteBatch.calls (k : Nat) (A0_0 : Option Addr) (c0_0 : Nat) (l0_0 : List (S56)) (a1 : Int) (a2_0 : Int) (a2_1 : Int) (a2_2 : Int) (a2_3 : Int) (A2_4 : Option Addr) (c2_4 : Nat) (l2_4 : List ByteArray) (r1 : List (S56)) (r2 : Bool) (w : World) (hr0_0 : Kd.C k56 w A0_0 l0_0.length l0_0) (hc0_0 : l0_0.length ≤ c0_0) (hr2_4 : Kd.C Kd.string w A2_4 l2_4.length l2_4) (hc2_4 : l2_4.length ≤ c2_4) (h : impl_WriteBatch.f k l0_0 a1 a2_0 a2_1 a2_2 a2_3 l2_4 = some (r1, r2)) :
  Calls Try.prog 20 #[.agg #[.slice A0_0 l0_0.length c0_0], .int .i64 a1, .agg #[.int .i64 a2_0, .int .i64 a2_1, .int .i64 a2_2, .int .i64 a2_3, .slice A2_4 l2_4.length c2_4]] w fun e w' => ∃ v0_ : Value, e = .returned (.tuple #[.agg #[v0_], .bool r2]) ∧ Kd.R k56 56 w' w.heap.size (fun _ => True) v0_ r1 ∧ Below w.heap.size w w' := by
 have hu31 := Try.underlying31
 have hu44 := Try.underlying44
 have hu56 := Try.underlying56
 have HR0_0 := Aside0.mk hr0_0
 have HC0_0 := Aside0.mk hc0_0
 clear hr0_0 hc0_0
 have HR2_4 := Aside0.mk hr2_4
 have HC2_4 := Aside0.mk hc2_4
 clear hr2_4 hc2_4
 have HB := Aside0.mk (Below.refl w.heap.size w)
 have H : ((impl_Disk_has.f l0_0 a1).bind fun t324 => (if t324 = true then ((impl_isBatch.f a2_0 a2_1 a2_2 a2_3 l2_4).bind fun t325 => (impl_WriteBatch.j0 k a1 (!t325) l0_0 a2_0 a2_1 a2_2 a2_3 l2_4)) else (impl_WriteBatch.j0 k a1 true l0_0 a2_0 a2_1 a2_2 a2_3 l2_4))) = some (r1, r2) := h
 clear h
 have HC4 := Aside0.mk H
 clear H
 go_enter Try.func20, Try.ntmps20
 go_upto_region 1 with (first | ((with_reducible refine gate_dst (N := 3) rfl ?_); (try (refine gate_guard (by rfl) ?_; dsimp only)); refine be_ (N := 3) #[.slice A0_0 l0_0.length c0_0] 31 ?_; intro gb321 hg w5 hbox hb; have BK321 := Aside0.mk (hbox); have GW321 := ge_ hg; have GE321 := ge_ hg; replace HB := nb_ hb; clear hb hbox hg) | ((with_reducible refine gate_dst (N := 5) rfl ?_); (try (refine gate_guard (by rfl) ?_; dsimp only)); refine be_ (N := 5) #[.int .i64 a2_0, .int .i64 a2_1, .int .i64 a2_2, .int .i64 a2_3, .slice A2_4 l2_4.length c2_4] 44 ?_; intro gb322 hg w6 hbox hb; have BK322 := Aside0.mk (hbox); have GW322 := ge1_ hg GE321; have GE322 := ge1_ hg GE321; replace HB := nc_ GE321 hb; have NB321_322 := nl_ BK321 hg; have NB322_321 := ng_ BK321 hg; replace BK321 := bK_ BK321 hb; clear hb hbox hg) | ((with_reducible refine gate_dst (N := 6) rfl ?_); (try (refine gate_guard (by rfl) ?_; dsimp only)); refine be_ (N := 6) #[.slice none 0 0] 31 ?_; intro gb323 hg w7 hbox hb; have BK323 := Aside0.mk (hbox); have GW323 := ge2_ hg GE321 GE322; have GE323 := ge2_ hg GE321 GE322; replace HB := nc2_ GE321 GE322 hb; have NB321_323 := nl_ BK321 hg; have NB323_321 := ng_ BK321 hg; replace BK321 := bK_ BK321 hb; have NB322_323 := nl_ BK322 hg; have NB323_322 := ng_ BK322 hg; replace BK322 := bK_ BK322 hb; clear hb hbox hg))
 (try simp only [Act.put, List.setIfInBounds_toArray, List.set_cons_zero, List.set_cons_succ])
 go_cut [20] (fun v20 wc => ∃ (kq : Nat) (x20_3 : Bool), v20 = .bool x20_3 ∧ Aside0 (impl_WriteBatch.j0 kq a1 x20_3 l0_0 a2_0 a2_1 a2_2 a2_3 l2_4 = some (r1, r2)) ∧ Aside0 (kq ≤ k) ∧ Aside0 (wc.heap[gb321]? = some (.cells #[(.slice A0_0 l0_0.length c0_0)] 31 (0, 0))) ∧ Aside0 (wc.heap[gb322]? = some (.cells #[.int .i64 a2_0, .int .i64 a2_1, .int .i64 a2_2, .int .i64 a2_3, (.slice A2_4 l2_4.length c2_4)] 44 (0, 0))) ∧ Aside0 (wc.heap[gb323]? = some (.cells #[(.slice none 0 0)] 31 (0, 0))) ∧ Aside0 (Below w.heap.size w wc))
 case first =>
  have H := HC4.out
  clear HC4
  replace H := bnd_ H
  obtain ⟨t324, A8, H⟩ := H
  replace H := ifb_ H
  obtain ⟨rfl, H⟩ | ⟨rfl, H⟩ := H
  rotate_left
  ·have H' := Aside0.mk H
   clear H
   have hnb18 := NB321_322.out
   have hnc18 := NB322_321.out
   have hnb19 := NB321_323.out
   have hnc19 := NB323_321.out
   obtain ⟨hcz20_0, hfz20_0⟩ := cf1_ BK321.out
   go_wp2_with (first | ((with_reducible refine gate_callee (f := 52) rfl ?_); refine gl_ 14 Try.func52 #[.agg #[.slice A0_0 l0_0.length c0_0], .int .i64 a1] rfl ma_ ?_; (with_reducible refine (impl_Disk_has.calls _ _ l0_0 a1 false _ ?side1 ?side2 A8.out).mono ?_); (case side1 => exact cs_ ((Kd.C_below HR0_0.out HB.out))); (case side2 => exact HC0_0.out); rintro e w21 ⟨rfl, hb⟩; refine ⟨_, rfl, ?_⟩; replace BK321 := bK_ BK321 hb; replace BK322 := bK_ BK322 hb; replace BK323 := bK_ BK323 hb; replace HB := nc3_ GE321 GE322 GE323 hb; (try clear hb); (try clear hb2); (try clear hk); (try clear hi)))
   go_meet
   case rel => exact ⟨_, (true), sr_, H', ⟨by first | omega | exact Nat.le_refl _⟩, ⟨kb_ BK321.out⟩, ⟨kb_ BK322.out⟩, ⟨kb_ BK323.out⟩, ⟨hs3_ GE321.out GE322.out GE323.out⟩⟩
  replace H := bnd_ H
  obtain ⟨t325, A10, H⟩ := H
  have H' := Aside0.mk H
  clear H
  have hnb11 := NB321_322.out
  have hnc11 := NB322_321.out
  have hnb12 := NB321_323.out
  have hnc12 := NB323_321.out
  obtain ⟨hcz13_0, hfz13_0⟩ := cf1_ BK321.out
  go_wp2_with (first | ((with_reducible refine gate_callee (f := 52) rfl ?_); refine gl_ 14 Try.func52 #[.agg #[.slice A0_0 l0_0.length c0_0], .int .i64 a1] rfl ma_ ?_; (with_reducible refine (impl_Disk_has.calls _ _ l0_0 a1 true _ ?side1 ?side2 A8.out).mono ?_); (case side1 => exact cs_ ((Kd.C_below HR0_0.out HB.out))); (case side2 => exact HC0_0.out); rintro e w14 ⟨rfl, hb⟩; refine ⟨_, rfl, ?_⟩; replace BK321 := bK_ BK321 hb; replace BK322 := bK_ BK322 hb; replace BK323 := bK_ BK323 hb; replace HB := nc3_ GE321 GE322 GE323 hb; (try clear hb); (try clear hb2); (try clear hk); (try clear hi); have hnb15 := NB322_323.out; have hnc15 := NB323_322.out; obtain ⟨hcz16_0, hcz16_1, hcz16_2, hcz16_3, hcz16_4, hfz16_0, hfz16_1, hfz16_2, hfz16_3, hfz16_4⟩ := cf5_ BK322.out) | (go_at_call 63; (with_reducible refine (impl_isBatch.calls a2_0 a2_1 a2_2 a2_3 _ _ l2_4 t325 _ ?side1 ?side2 A10.out).mono ?_); (case side1 => exact cs_ ((Kd.C_below HR2_4.out HB.out))); (case side2 => exact HC2_4.out); rintro e w17 ⟨rfl, hb⟩; replace BK321 := bK_ BK321 hb; replace BK322 := bK_ BK322 hb; replace BK323 := bK_ BK323 hb; replace HB := nc3_ GE321 GE322 GE323 hb; (try clear hb); (try clear hb2); (try clear hk); (try clear hi)))
  go_meet
  case rel => exact ⟨_, (!t325), sr_, H', ⟨by first | omega | exact Nat.le_refl _⟩, ⟨kb_ BK321.out⟩, ⟨kb_ BK322.out⟩, ⟨kb_ BK323.out⟩, ⟨hs3_ GE321.out GE322.out GE323.out⟩⟩
 case rest =>
  clear HC4
  try clear c1
  try clear c2
  try clear p2
  try clear c5
  try clear c9
  try clear c11
  try clear c12
  try clear c15
  try clear c18
  try clear c19
  try clear c20
  try clear hcz13_0
  try clear hcz16_0
  try clear hcz16_1
  try clear hcz16_2
  try clear hcz16_3
  try clear hcz16_4
  try clear hcz20_0
  try clear hfz13_0
  try clear hfz16_0
  try clear hfz16_1
  try clear hfz16_2
  try clear hfz16_3
  try clear hfz16_4
  try clear hfz20_0
  obtain ⟨kq, x20_3, rfl, HA, HJ3, BK321, BK322, BK323, HB⟩ := hcut
  cases kq with
  | zero => exact absurd HA.out (by simp [impl_WriteBatch.j0])
  | succ kj3 =>
   have H := HA.out
   clear HA
   simp only [impl_WriteBatch.j0] at H
   replace H := ifb_ H
   obtain ⟨rfl, H⟩ | ⟨rfl, H⟩ := H
   ·simp only [Option.some.injEq, Prod.mk.injEq] at H
    obtain ⟨rfl, rfl⟩ := H
    have hnb23 := NB323_321.out
    have hnc23 := NB321_323.out
    have hnb24 := NB323_322.out
    have hnc24 := NB322_323.out
    obtain ⟨hcz25_0, hfz25_0⟩ := cf1_ BK323.out
    go_wp2
    refine bodyPost_ret (results_ct rfl _ _ gb323 31 #[.slice none 0 0] (0, 0) _ rfl (by (with_reducible repeat (first | refine blk_drewN ?_ _ | refine blk_drew ?_ | refine blk_alloc ?_ _)); refine blk_put (cs := #[.slice none 0 0]) ?_ 0 _ rfl; (with_reducible repeat (first | refine blk_drewN ?_ _ | refine blk_drew ?_ | refine blk_alloc ?_ _)); exact BK323.out) Try.underlying31 rfl (by kernel_rfl)) rfl ?_
    exact ⟨_, er_, ni_, hs3_ GE321.out GE322.out GE323.out⟩
   replace H := ifs_ H
   obtain ⟨c26, H⟩ := H
   have c26b0 := decide_eq_true c26
   clear c26
   replace H := ifs_ H
   obtain ⟨c27, H⟩ := H
   have c27b0 := decide_eq_true c27
   clear c27
   replace H := bnd_ H
   obtain ⟨⟨t328, t329⟩, A28, H⟩ := H
   replace H := red_ H
   replace H := bnd_ H
   obtain ⟨t332, A29, H⟩ := H
   replace H := ite_ H
   obtain ⟨c30, H⟩ | ⟨c30, H⟩ := H
   rotate_left
   ·have c30b0 : (t329 == (((rd_T56 l0_0 a1).f0).size : Int)) = false := beq_eq_false_iff_ne.mpr c30
    have c30b1 : (t329 != (((rd_T56 l0_0 a1).f0).size : Int)) = true := bne_iff_ne.mpr c30
    simp only [Option.some.injEq, Prod.mk.injEq] at H
    obtain ⟨rfl, rfl⟩ := H
    have hnb91 := NB321_322.out
    have hnc91 := NB322_321.out
    have hnb92 := NB321_323.out
    have hnc92 := NB323_321.out
    obtain ⟨hcz93_0, hfz93_0⟩ := cf1_ BK321.out
    have p326 : 0 ≤ (a1 : Int) := oa_
    have q326 : a1 < (l0_0.length : Int) := oa_
    obtain ⟨ad326, e326, hx326_0, hx326_1⟩ := at_T56 HR0_0.out a1 p326 q326
    cases e326
    replace hx326_0 := pc_ HB.out hx326_0
    replace hx326_1 := pc_ HB.out hx326_1
    replace p326 := eq_true p326
    replace q326 := eq_true q326
    go_wp2_with (first | ((with_reducible refine gate_dst (N := 8) rfl ?_); (try (refine gate_guard (by rfl) ?_; dsimp only)); refine box_event ?hg (N := 8) ?hd (cs := #[.string (⟨#[]⟩ : ByteArray), .int .i64 0]) (t := 56) ?hr ?_; (case hd => rfl); (case hg => rfl); (case hr => first | (go_simp; done) | (go_simp; rfl)); intro gb327 hg w94 hbox hb; have BK327 := Aside0.mk (hbox); have GW327 := ge3_ hg GE321 GE322 GE323; have GE327 := ge3_ hg GE321 GE322 GE323; replace HB := nc3_ GE321 GE322 GE323 hb; have NB321_327 := nl_ BK321 hg; have NB327_321 := ng_ BK321 hg; replace BK321 := bK_ BK321 hb; have NB322_327 := nl_ BK322 hg; have NB327_322 := ng_ BK322 hg; replace BK322 := bK_ BK322 hb; have NB323_327 := nl_ BK323 hg; have NB327_323 := ng_ BK323 hg; replace BK323 := bK_ BK323 hb; clear hb hbox hg; have hnb95 := NB327_321.out; have hnc95 := NB321_327.out; have hnb96 := NB327_322.out; have hnc96 := NB322_327.out; have hnb97 := NB327_323.out; have hnc97 := NB323_327.out; obtain ⟨hcz98_0, hcz98_1, hfz98_0, hfz98_1⟩ := cf2_ BK327.out) | ((with_reducible refine gate_callee (f := 53) rfl ?_); refine gl_ 30 Try.func53 #[.string ((rd_T56 l0_0 a1).f0)] rfl ma_ ?_; (with_reducible refine (impl_readLog.calls kj3 ((rd_T56 l0_0 a1).f0) t328 t329 _ A28.out).mono ?_); rintro e w99 ⟨v330, rfl, ho0, hb⟩; refine ⟨_, rfl, ?_⟩; have HO331 := Aside0.mk (Kd.S_lower (Kd.S_newB ho0 (g := gb322) (o := .cells #[.int .i64 a2_0, .int .i64 a2_1, .int .i64 a2_2, .int .i64 a2_3, .slice A2_4 l2_4.length c2_4] 44 (0, 0)) (by (with_reducible repeat (first | refine blk_drewN ?_ _ | refine blk_drew ?_ | refine blk_alloc ?_ _)); refine blk_far ?_ NB322_327.out _; (with_reducible repeat (first | refine blk_drewN ?_ _ | refine blk_drew ?_ | refine blk_alloc ?_ _)); refine blk_far ?_ NB322_327.out _; (with_reducible repeat (first | refine blk_drewN ?_ _ | refine blk_drew ?_ | refine blk_alloc ?_ _)); exact BK322.out)) (below_size (hs4_ GE321.out GE322.out GE323.out GE327.out))); replace BK321 := Aside0.mk (blk_below (g := gb321) (o := .cells #[.slice (some ad326) l0_0.length c0_0] 31 (0, 0)) (by (with_reducible repeat (first | refine blk_drewN ?_ _ | refine blk_drew ?_ | refine blk_alloc ?_ _)); refine blk_far ?_ NB321_327.out _; (with_reducible repeat (first | refine blk_drewN ?_ _ | refine blk_drew ?_ | refine blk_alloc ?_ _)); refine blk_far ?_ NB321_327.out _; (with_reducible repeat (first | refine blk_drewN ?_ _ | refine blk_drew ?_ | refine blk_alloc ?_ _)); exact BK321.out) hb); replace BK322 := Aside0.mk (blk_below (g := gb322) (o := .cells #[.int .i64 a2_0, .int .i64 a2_1, .int .i64 a2_2, .int .i64 a2_3, .slice A2_4 l2_4.length c2_4] 44 (0, 0)) (by (with_reducible repeat (first | refine blk_drewN ?_ _ | refine blk_drew ?_ | refine blk_alloc ?_ _)); refine blk_far ?_ NB322_327.out _; (with_reducible repeat (first | refine blk_drewN ?_ _ | refine blk_drew ?_ | refine blk_alloc ?_ _)); refine blk_far ?_ NB322_327.out _; (with_reducible repeat (first | refine blk_drewN ?_ _ | refine blk_drew ?_ | refine blk_alloc ?_ _)); exact BK322.out) hb); replace BK323 := Aside0.mk (blk_below (g := gb323) (o := .cells #[.slice none 0 0] 31 (0, 0)) (by (with_reducible repeat (first | refine blk_drewN ?_ _ | refine blk_drew ?_ | refine blk_alloc ?_ _)); refine blk_far ?_ NB323_327.out _; (with_reducible repeat (first | refine blk_drewN ?_ _ | refine blk_drew ?_ | refine blk_alloc ?_ _)); refine blk_far ?_ NB323_327.out _; (with_reducible repeat (first | refine blk_drewN ?_ _ | refine blk_drew ?_ | refine blk_alloc ?_ _)); exact BK323.out) hb); replace BK327 := Aside0.mk (blk_below (g := gb327) (o := .cells #[.string ((rd_T56 l0_0 a1).f0), .int .i64 ((rd_T56 l0_0 a1).f1)] 56 (0, 0)) (by (with_reducible repeat (first | refine blk_drewN ?_ _ | refine blk_drew ?_ | refine blk_alloc ?_ _)); refine blk_put (cs := #[.string ((rd_T56 l0_0 a1).f0), .int .i64 0]) ?_ 1 _ rfl; (with_reducible repeat (first | refine blk_drewN ?_ _ | refine blk_drew ?_ | refine blk_alloc ?_ _)); refine blk_put (cs := #[.string (⟨#[]⟩ : ByteArray), .int .i64 0]) ?_ 0 _ rfl; (with_reducible repeat (first | refine blk_drewN ?_ _ | refine blk_drew ?_ | refine blk_alloc ?_ _)); exact BK327.out) hb); replace HB := nc4_ GE321 GE322 GE323 GE327 hb; (try clear hb); (try clear hb2); (try clear hk); (try clear hi); (try clear ho0); have hnb100 := NB322_323.out; have hnc100 := NB323_322.out; obtain ⟨hcz101_0, hcz101_1, hcz101_2, hcz101_3, hcz101_4, hfz101_0, hfz101_1, hfz101_2, hfz101_3, hfz101_4⟩ := cf5_ BK322.out) | ((with_reducible refine gate_callee (f := 64) rfl ?_); refine gl_ 34 Try.func64 #[.agg #[.int .i64 a2_0, .int .i64 a2_1, .int .i64 a2_2, .int .i64 a2_3, .slice A2_4 l2_4.length c2_4]] rfl ma_ ?_; (with_reducible refine (impl_batchBytes.calls kj3 a2_0 a2_1 a2_2 a2_3 _ _ l2_4 t332 _ ?side1 ?side2 A29.out).mono ?_); (case side1 => exact cs_ ((Kd.C_below HR2_4.out HB.out))); (case side2 => exact HC2_4.out); rintro e w102 ⟨rfl, hb⟩; refine ⟨_, rfl, ?_⟩; replace HO331 := sB_ HO331 hb; replace BK321 := bK_ BK321 hb; replace BK322 := bK_ BK322 hb; replace BK323 := bK_ BK323 hb; replace BK327 := bK_ BK327 hb; replace HB := nc4_ GE321 GE322 GE323 GE327 hb; (try clear hb); (try clear hb2); (try clear hk); (try clear hi); obtain ⟨hcz103_0, hcz103_1, hfz103_0, hfz103_1⟩ := cf2_ BK327.out; obtain ⟨hcz104_0, hfz104_0⟩ := cf1_ BK323.out))
    refine bodyPost_ret (results_ct rfl _ _ gb323 31 #[.slice none 0 0] (0, 0) _ rfl (by (with_reducible repeat (first | refine blk_drewN ?_ _ | refine blk_drew ?_ | refine blk_alloc ?_ _)); refine blk_put (cs := #[.slice none 0 0]) ?_ 0 _ rfl; (with_reducible repeat (first | refine blk_drewN ?_ _ | refine blk_drew ?_ | refine blk_alloc ?_ _)); exact BK323.out) Try.underlying31 rfl (by kernel_rfl)) rfl ?_
    exact ⟨_, er_, ni_, hs4_ GE321.out GE322.out GE323.out GE327.out⟩
   have c30b0 : (t329 == (((rd_T56 l0_0 a1).f0).size : Int)) = true := beq_iff_eq.mpr c30
   have c30b1 : (t329 != (((rd_T56 l0_0 a1).f0).size : Int)) = false := bne_eq_false_iff_eq.mpr c30
   clear c30
   replace H := bnd_ H
   obtain ⟨t333, A31, H⟩ := H
   replace H := ifb_ H
   obtain ⟨rfl, H⟩ | ⟨rfl, H⟩ := H
   rotate_left
   ·simp only [Option.some.injEq, Prod.mk.injEq] at H
    obtain ⟨rfl, rfl⟩ := H
    have hnb74 := NB321_322.out
    have hnc74 := NB322_321.out
    have hnb75 := NB321_323.out
    have hnc75 := NB323_321.out
    obtain ⟨hcz76_0, hfz76_0⟩ := cf1_ BK321.out
    have p326 : 0 ≤ (a1 : Int) := oa_
    have q326 : a1 < (l0_0.length : Int) := oa_
    obtain ⟨ad326, e326, hx326_0, hx326_1⟩ := at_T56 HR0_0.out a1 p326 q326
    cases e326
    replace hx326_0 := pc_ HB.out hx326_0
    replace hx326_1 := pc_ HB.out hx326_1
    replace p326 := eq_true p326
    replace q326 := eq_true q326
    go_wp2_with (first | ((with_reducible refine gate_dst (N := 8) rfl ?_); (try (refine gate_guard (by rfl) ?_; dsimp only)); refine box_event ?hg (N := 8) ?hd (cs := #[.string (⟨#[]⟩ : ByteArray), .int .i64 0]) (t := 56) ?hr ?_; (case hd => rfl); (case hg => rfl); (case hr => first | (go_simp; done) | (go_simp; rfl)); intro gb327 hg w77 hbox hb; have BK327 := Aside0.mk (hbox); have GW327 := ge3_ hg GE321 GE322 GE323; have GE327 := ge3_ hg GE321 GE322 GE323; replace HB := nc3_ GE321 GE322 GE323 hb; have NB321_327 := nl_ BK321 hg; have NB327_321 := ng_ BK321 hg; replace BK321 := bK_ BK321 hb; have NB322_327 := nl_ BK322 hg; have NB327_322 := ng_ BK322 hg; replace BK322 := bK_ BK322 hb; have NB323_327 := nl_ BK323 hg; have NB327_323 := ng_ BK323 hg; replace BK323 := bK_ BK323 hb; clear hb hbox hg; have hnb78 := NB327_321.out; have hnc78 := NB321_327.out; have hnb79 := NB327_322.out; have hnc79 := NB322_327.out; have hnb80 := NB327_323.out; have hnc80 := NB323_327.out; obtain ⟨hcz81_0, hcz81_1, hfz81_0, hfz81_1⟩ := cf2_ BK327.out) | ((with_reducible refine gate_callee (f := 53) rfl ?_); refine gl_ 30 Try.func53 #[.string ((rd_T56 l0_0 a1).f0)] rfl ma_ ?_; (with_reducible refine (impl_readLog.calls kj3 ((rd_T56 l0_0 a1).f0) t328 t329 _ A28.out).mono ?_); rintro e w82 ⟨v330, rfl, ho0, hb⟩; refine ⟨_, rfl, ?_⟩; have HO331 := Aside0.mk (Kd.S_lower (Kd.S_newB ho0 (g := gb322) (o := .cells #[.int .i64 a2_0, .int .i64 a2_1, .int .i64 a2_2, .int .i64 a2_3, .slice A2_4 l2_4.length c2_4] 44 (0, 0)) (by (with_reducible repeat (first | refine blk_drewN ?_ _ | refine blk_drew ?_ | refine blk_alloc ?_ _)); refine blk_far ?_ NB322_327.out _; (with_reducible repeat (first | refine blk_drewN ?_ _ | refine blk_drew ?_ | refine blk_alloc ?_ _)); refine blk_far ?_ NB322_327.out _; (with_reducible repeat (first | refine blk_drewN ?_ _ | refine blk_drew ?_ | refine blk_alloc ?_ _)); exact BK322.out)) (below_size (hs4_ GE321.out GE322.out GE323.out GE327.out))); replace BK321 := Aside0.mk (blk_below (g := gb321) (o := .cells #[.slice (some ad326) l0_0.length c0_0] 31 (0, 0)) (by (with_reducible repeat (first | refine blk_drewN ?_ _ | refine blk_drew ?_ | refine blk_alloc ?_ _)); refine blk_far ?_ NB321_327.out _; (with_reducible repeat (first | refine blk_drewN ?_ _ | refine blk_drew ?_ | refine blk_alloc ?_ _)); refine blk_far ?_ NB321_327.out _; (with_reducible repeat (first | refine blk_drewN ?_ _ | refine blk_drew ?_ | refine blk_alloc ?_ _)); exact BK321.out) hb); replace BK322 := Aside0.mk (blk_below (g := gb322) (o := .cells #[.int .i64 a2_0, .int .i64 a2_1, .int .i64 a2_2, .int .i64 a2_3, .slice A2_4 l2_4.length c2_4] 44 (0, 0)) (by (with_reducible repeat (first | refine blk_drewN ?_ _ | refine blk_drew ?_ | refine blk_alloc ?_ _)); refine blk_far ?_ NB322_327.out _; (with_reducible repeat (first | refine blk_drewN ?_ _ | refine blk_drew ?_ | refine blk_alloc ?_ _)); refine blk_far ?_ NB322_327.out _; (with_reducible repeat (first | refine blk_drewN ?_ _ | refine blk_drew ?_ | refine blk_alloc ?_ _)); exact BK322.out) hb); replace BK323 := Aside0.mk (blk_below (g := gb323) (o := .cells #[.slice none 0 0] 31 (0, 0)) (by (with_reducible repeat (first | refine blk_drewN ?_ _ | refine blk_drew ?_ | refine blk_alloc ?_ _)); refine blk_far ?_ NB323_327.out _; (with_reducible repeat (first | refine blk_drewN ?_ _ | refine blk_drew ?_ | refine blk_alloc ?_ _)); refine blk_far ?_ NB323_327.out _; (with_reducible repeat (first | refine blk_drewN ?_ _ | refine blk_drew ?_ | refine blk_alloc ?_ _)); exact BK323.out) hb); replace BK327 := Aside0.mk (blk_below (g := gb327) (o := .cells #[.string ((rd_T56 l0_0 a1).f0), .int .i64 ((rd_T56 l0_0 a1).f1)] 56 (0, 0)) (by (with_reducible repeat (first | refine blk_drewN ?_ _ | refine blk_drew ?_ | refine blk_alloc ?_ _)); refine blk_put (cs := #[.string ((rd_T56 l0_0 a1).f0), .int .i64 0]) ?_ 1 _ rfl; (with_reducible repeat (first | refine blk_drewN ?_ _ | refine blk_drew ?_ | refine blk_alloc ?_ _)); refine blk_put (cs := #[.string (⟨#[]⟩ : ByteArray), .int .i64 0]) ?_ 0 _ rfl; (with_reducible repeat (first | refine blk_drewN ?_ _ | refine blk_drew ?_ | refine blk_alloc ?_ _)); exact BK327.out) hb); replace HB := nc4_ GE321 GE322 GE323 GE327 hb; (try clear hb); (try clear hb2); (try clear hk); (try clear hi); (try clear ho0); have hnb83 := NB322_323.out; have hnc83 := NB323_322.out; obtain ⟨hcz84_0, hcz84_1, hcz84_2, hcz84_3, hcz84_4, hfz84_0, hfz84_1, hfz84_2, hfz84_3, hfz84_4⟩ := cf5_ BK322.out) | ((with_reducible refine gate_callee (f := 64) rfl ?_); refine gl_ 34 Try.func64 #[.agg #[.int .i64 a2_0, .int .i64 a2_1, .int .i64 a2_2, .int .i64 a2_3, .slice A2_4 l2_4.length c2_4]] rfl ma_ ?_; (with_reducible refine (impl_batchBytes.calls kj3 a2_0 a2_1 a2_2 a2_3 _ _ l2_4 t332 _ ?side1 ?side2 A29.out).mono ?_); (case side1 => exact cs_ ((Kd.C_below HR2_4.out HB.out))); (case side2 => exact HC2_4.out); rintro e w85 ⟨rfl, hb⟩; refine ⟨_, rfl, ?_⟩; replace HO331 := sB_ HO331 hb; replace BK321 := bK_ BK321 hb; replace BK322 := bK_ BK322 hb; replace BK323 := bK_ BK323 hb; replace BK327 := bK_ BK327 hb; replace HB := nc4_ GE321 GE322 GE323 GE327 hb; (try clear hb); (try clear hb2); (try clear hk); (try clear hi); obtain ⟨hcz86_0, hcz86_1, hfz86_0, hfz86_1⟩ := cf2_ BK327.out; obtain ⟨hcz87_0, hcz87_1, hcz87_2, hcz87_3, hcz87_4, hfz87_0, hfz87_1, hfz87_2, hfz87_3, hfz87_4⟩ := cf5_ BK322.out; obtain ⟨Ao88, co88, eo88⟩ := Kd.S_slice HO331.out; subst eo88) | (go_at_call 65; (with_reducible refine (impl_follows.calls _ _ t328 a2_0 a2_1 a2_2 a2_3 _ _ l2_4 false _ ?side1 ?side2 ?side3 ?side4 A31.out).mono ?_); (case side1 => exact cs_ ((Kd.S_reads' HO331.out).2.2)); (case side2 => exact (Kd.S_reads' HO331.out).2.1); (case side3 => exact cs_ ((Kd.C_below HR2_4.out HB.out))); (case side4 => exact HC2_4.out); rintro e w89 ⟨rfl, hb⟩; replace HO331 := sB_ HO331 hb; replace BK321 := bK_ BK321 hb; replace BK322 := bK_ BK322 hb; replace BK323 := bK_ BK323 hb; replace BK327 := bK_ BK327 hb; replace HB := nc4_ GE321 GE322 GE323 GE327 hb; (try clear hb); (try clear hb2); (try clear hk); (try clear hi); obtain ⟨hcz90_0, hfz90_0⟩ := cf1_ BK323.out))
    refine bodyPost_ret (results_ct rfl _ _ gb323 31 #[.slice none 0 0] (0, 0) _ rfl (by (with_reducible repeat (first | refine blk_drewN ?_ _ | refine blk_drew ?_ | refine blk_alloc ?_ _)); refine blk_put (cs := #[.slice none 0 0]) ?_ 0 _ rfl; (with_reducible repeat (first | refine blk_drewN ?_ _ | refine blk_drew ?_ | refine blk_alloc ?_ _)); exact BK323.out) Try.underlying31 rfl (by kernel_rfl)) rfl ?_
    exact ⟨_, er_, ni_, hs4_ GE321.out GE322.out GE323.out GE327.out⟩
   replace H := ite_ H
   obtain ⟨c33, H⟩ | ⟨c33, H⟩ := H
   ·have c33b0 := dgt_ c33
    clear c33
    simp only [Option.some.injEq, Prod.mk.injEq] at H
    obtain ⟨rfl, rfl⟩ := H
    have hnb34 := NB321_322.out
    have hnc34 := NB322_321.out
    have hnb35 := NB321_323.out
    have hnc35 := NB323_321.out
    obtain ⟨hcz36_0, hfz36_0⟩ := cf1_ BK321.out
    have p326 : 0 ≤ (a1 : Int) := oa_
    have q326 : a1 < (l0_0.length : Int) := oa_
    obtain ⟨ad326, e326, hx326_0, hx326_1⟩ := at_T56 HR0_0.out a1 p326 q326
    cases e326
    replace hx326_0 := pc_ HB.out hx326_0
    replace hx326_1 := pc_ HB.out hx326_1
    replace p326 := eq_true p326
    replace q326 := eq_true q326
    go_wp2_with (first | ((with_reducible refine gate_dst (N := 8) rfl ?_); (try (refine gate_guard (by rfl) ?_; dsimp only)); refine box_event ?hg (N := 8) ?hd (cs := #[.string (⟨#[]⟩ : ByteArray), .int .i64 0]) (t := 56) ?hr ?_; (case hd => rfl); (case hg => rfl); (case hr => first | (go_simp; done) | (go_simp; rfl)); intro gb327 hg w37 hbox hb; have BK327 := Aside0.mk (hbox); have GW327 := ge3_ hg GE321 GE322 GE323; have GE327 := ge3_ hg GE321 GE322 GE323; replace HB := nc3_ GE321 GE322 GE323 hb; have NB321_327 := nl_ BK321 hg; have NB327_321 := ng_ BK321 hg; replace BK321 := bK_ BK321 hb; have NB322_327 := nl_ BK322 hg; have NB327_322 := ng_ BK322 hg; replace BK322 := bK_ BK322 hb; have NB323_327 := nl_ BK323 hg; have NB327_323 := ng_ BK323 hg; replace BK323 := bK_ BK323 hb; clear hb hbox hg; have hnb38 := NB327_321.out; have hnc38 := NB321_327.out; have hnb39 := NB327_322.out; have hnc39 := NB322_327.out; have hnb40 := NB327_323.out; have hnc40 := NB323_327.out; obtain ⟨hcz41_0, hcz41_1, hfz41_0, hfz41_1⟩ := cf2_ BK327.out) | ((with_reducible refine gate_callee (f := 53) rfl ?_); refine gl_ 30 Try.func53 #[.string ((rd_T56 l0_0 a1).f0)] rfl ma_ ?_; (with_reducible refine (impl_readLog.calls kj3 ((rd_T56 l0_0 a1).f0) t328 t329 _ A28.out).mono ?_); rintro e w42 ⟨v330, rfl, ho0, hb⟩; refine ⟨_, rfl, ?_⟩; have HO331 := Aside0.mk (Kd.S_lower (Kd.S_newB ho0 (g := gb322) (o := .cells #[.int .i64 a2_0, .int .i64 a2_1, .int .i64 a2_2, .int .i64 a2_3, .slice A2_4 l2_4.length c2_4] 44 (0, 0)) (by (with_reducible repeat (first | refine blk_drewN ?_ _ | refine blk_drew ?_ | refine blk_alloc ?_ _)); refine blk_far ?_ NB322_327.out _; (with_reducible repeat (first | refine blk_drewN ?_ _ | refine blk_drew ?_ | refine blk_alloc ?_ _)); refine blk_far ?_ NB322_327.out _; (with_reducible repeat (first | refine blk_drewN ?_ _ | refine blk_drew ?_ | refine blk_alloc ?_ _)); exact BK322.out)) (below_size (hs4_ GE321.out GE322.out GE323.out GE327.out))); replace BK321 := Aside0.mk (blk_below (g := gb321) (o := .cells #[.slice (some ad326) l0_0.length c0_0] 31 (0, 0)) (by (with_reducible repeat (first | refine blk_drewN ?_ _ | refine blk_drew ?_ | refine blk_alloc ?_ _)); refine blk_far ?_ NB321_327.out _; (with_reducible repeat (first | refine blk_drewN ?_ _ | refine blk_drew ?_ | refine blk_alloc ?_ _)); refine blk_far ?_ NB321_327.out _; (with_reducible repeat (first | refine blk_drewN ?_ _ | refine blk_drew ?_ | refine blk_alloc ?_ _)); exact BK321.out) hb); replace BK322 := Aside0.mk (blk_below (g := gb322) (o := .cells #[.int .i64 a2_0, .int .i64 a2_1, .int .i64 a2_2, .int .i64 a2_3, .slice A2_4 l2_4.length c2_4] 44 (0, 0)) (by (with_reducible repeat (first | refine blk_drewN ?_ _ | refine blk_drew ?_ | refine blk_alloc ?_ _)); refine blk_far ?_ NB322_327.out _; (with_reducible repeat (first | refine blk_drewN ?_ _ | refine blk_drew ?_ | refine blk_alloc ?_ _)); refine blk_far ?_ NB322_327.out _; (with_reducible repeat (first | refine blk_drewN ?_ _ | refine blk_drew ?_ | refine blk_alloc ?_ _)); exact BK322.out) hb); replace BK323 := Aside0.mk (blk_below (g := gb323) (o := .cells #[.slice none 0 0] 31 (0, 0)) (by (with_reducible repeat (first | refine blk_drewN ?_ _ | refine blk_drew ?_ | refine blk_alloc ?_ _)); refine blk_far ?_ NB323_327.out _; (with_reducible repeat (first | refine blk_drewN ?_ _ | refine blk_drew ?_ | refine blk_alloc ?_ _)); refine blk_far ?_ NB323_327.out _; (with_reducible repeat (first | refine blk_drewN ?_ _ | refine blk_drew ?_ | refine blk_alloc ?_ _)); exact BK323.out) hb); replace BK327 := Aside0.mk (blk_below (g := gb327) (o := .cells #[.string ((rd_T56 l0_0 a1).f0), .int .i64 ((rd_T56 l0_0 a1).f1)] 56 (0, 0)) (by (with_reducible repeat (first | refine blk_drewN ?_ _ | refine blk_drew ?_ | refine blk_alloc ?_ _)); refine blk_put (cs := #[.string ((rd_T56 l0_0 a1).f0), .int .i64 0]) ?_ 1 _ rfl; (with_reducible repeat (first | refine blk_drewN ?_ _ | refine blk_drew ?_ | refine blk_alloc ?_ _)); refine blk_put (cs := #[.string (⟨#[]⟩ : ByteArray), .int .i64 0]) ?_ 0 _ rfl; (with_reducible repeat (first | refine blk_drewN ?_ _ | refine blk_drew ?_ | refine blk_alloc ?_ _)); exact BK327.out) hb); replace HB := nc4_ GE321 GE322 GE323 GE327 hb; (try clear hb); (try clear hb2); (try clear hk); (try clear hi); (try clear ho0); have hnb43 := NB322_323.out; have hnc43 := NB323_322.out; obtain ⟨hcz44_0, hcz44_1, hcz44_2, hcz44_3, hcz44_4, hfz44_0, hfz44_1, hfz44_2, hfz44_3, hfz44_4⟩ := cf5_ BK322.out) | ((with_reducible refine gate_callee (f := 64) rfl ?_); refine gl_ 34 Try.func64 #[.agg #[.int .i64 a2_0, .int .i64 a2_1, .int .i64 a2_2, .int .i64 a2_3, .slice A2_4 l2_4.length c2_4]] rfl ma_ ?_; (with_reducible refine (impl_batchBytes.calls kj3 a2_0 a2_1 a2_2 a2_3 _ _ l2_4 t332 _ ?side1 ?side2 A29.out).mono ?_); (case side1 => exact cs_ ((Kd.C_below HR2_4.out HB.out))); (case side2 => exact HC2_4.out); rintro e w45 ⟨rfl, hb⟩; refine ⟨_, rfl, ?_⟩; replace HO331 := sB_ HO331 hb; replace BK321 := bK_ BK321 hb; replace BK322 := bK_ BK322 hb; replace BK323 := bK_ BK323 hb; replace BK327 := bK_ BK327 hb; replace HB := nc4_ GE321 GE322 GE323 GE327 hb; (try clear hb); (try clear hb2); (try clear hk); (try clear hi); obtain ⟨hcz46_0, hcz46_1, hfz46_0, hfz46_1⟩ := cf2_ BK327.out; obtain ⟨hcz47_0, hcz47_1, hcz47_2, hcz47_3, hcz47_4, hfz47_0, hfz47_1, hfz47_2, hfz47_3, hfz47_4⟩ := cf5_ BK322.out; obtain ⟨Ao48, co48, eo48⟩ := Kd.S_slice HO331.out; subst eo48) | (go_at_call 65; (with_reducible refine (impl_follows.calls _ _ t328 a2_0 a2_1 a2_2 a2_3 _ _ l2_4 true _ ?side1 ?side2 ?side3 ?side4 A31.out).mono ?_); (case side1 => exact cs_ ((Kd.S_reads' HO331.out).2.2)); (case side2 => exact (Kd.S_reads' HO331.out).2.1); (case side3 => exact cs_ ((Kd.C_below HR2_4.out HB.out))); (case side4 => exact HC2_4.out); rintro e w49 ⟨rfl, hb⟩; replace HO331 := sB_ HO331 hb; replace BK321 := bK_ BK321 hb; replace BK322 := bK_ BK322 hb; replace BK323 := bK_ BK323 hb; replace BK327 := bK_ BK327 hb; replace HB := nc4_ GE321 GE322 GE323 GE327 hb; (try clear hb); (try clear hb2); (try clear hk); (try clear hi); obtain ⟨hcz50_0, hfz50_0⟩ := cf1_ BK323.out))
    refine bodyPost_ret (results_ct rfl _ _ gb323 31 #[.slice none 0 0] (0, 0) _ rfl (by (with_reducible repeat (first | refine blk_drewN ?_ _ | refine blk_drew ?_ | refine blk_alloc ?_ _)); refine blk_put (cs := #[.slice none 0 0]) ?_ 0 _ rfl; (with_reducible repeat (first | refine blk_drewN ?_ _ | refine blk_drew ?_ | refine blk_alloc ?_ _)); exact BK323.out) Try.underlying31 rfl (by kernel_rfl)) rfl ?_
    exact ⟨_, er_, ni_, hs4_ GE321.out GE322.out GE323.out GE327.out⟩
   have c33b0 := dgf_ c33
   clear c33
   replace H := ifs_ H
   obtain ⟨c51, H⟩ := H
   have c51b0 := eq_true c51
   have c51b1 := decide_eq_true c51
   try have c51b2 : (9223372036854775807 < ((rd_T56 l0_0 a1).f0).size + t332.size) = False := eq_false (Nat.not_lt.2 c51)
   try have c51w := cw_ c51
   (try rw [c51w] at c26b0)
   (try rw [c51w] at c27b0)
   (try rw [c51w] at c30b0)
   (try rw [c51w] at c33b0)
   replace H := bnd_ H
   obtain ⟨t334, A52, H⟩ := H
   simp only [Option.some.injEq, Prod.mk.injEq] at H
   obtain ⟨rfl, rfl⟩ := H
   have hnb53 := NB321_322.out
   have hnc53 := NB322_321.out
   have hnb54 := NB321_323.out
   have hnc54 := NB323_321.out
   obtain ⟨hcz55_0, hfz55_0⟩ := cf1_ BK321.out
   have p326 : 0 ≤ (a1 : Int) := oa_
   have q326 : a1 < (l0_0.length : Int) := oa_
   obtain ⟨ad326, e326, hx326_0, hx326_1⟩ := at_T56 HR0_0.out a1 p326 q326
   cases e326
   replace hx326_0 := pc_ HB.out hx326_0
   replace hx326_1 := pc_ HB.out hx326_1
   replace p326 := eq_true p326
   replace q326 := eq_true q326
   go_wp2_with (first | ((with_reducible refine gate_dst (N := 8) rfl ?_); (try (refine gate_guard (by rfl) ?_; dsimp only)); refine box_event ?hg (N := 8) ?hd (cs := #[.string (⟨#[]⟩ : ByteArray), .int .i64 0]) (t := 56) ?hr ?_; (case hd => rfl); (case hg => rfl); (case hr => first | (go_simp; done) | (go_simp; rfl)); intro gb327 hg w56 hbox hb; have BK327 := Aside0.mk (hbox); have GW327 := ge3_ hg GE321 GE322 GE323; have GE327 := ge3_ hg GE321 GE322 GE323; replace HB := nc3_ GE321 GE322 GE323 hb; have NB321_327 := nl_ BK321 hg; have NB327_321 := ng_ BK321 hg; replace BK321 := bK_ BK321 hb; have NB322_327 := nl_ BK322 hg; have NB327_322 := ng_ BK322 hg; replace BK322 := bK_ BK322 hb; have NB323_327 := nl_ BK323 hg; have NB327_323 := ng_ BK323 hg; replace BK323 := bK_ BK323 hb; clear hb hbox hg; have hnb57 := NB327_321.out; have hnc57 := NB321_327.out; have hnb58 := NB327_322.out; have hnc58 := NB322_327.out; have hnb59 := NB327_323.out; have hnc59 := NB323_327.out; obtain ⟨hcz60_0, hcz60_1, hfz60_0, hfz60_1⟩ := cf2_ BK327.out) | ((with_reducible refine gate_callee (f := 53) rfl ?_); refine gl_ 30 Try.func53 #[.string ((rd_T56 l0_0 a1).f0)] rfl ma_ ?_; (with_reducible refine (impl_readLog.calls kj3 ((rd_T56 l0_0 a1).f0) t328 t329 _ A28.out).mono ?_); rintro e w61 ⟨v330, rfl, ho0, hb⟩; refine ⟨_, rfl, ?_⟩; have HO331 := Aside0.mk (Kd.S_lower (Kd.S_newB ho0 (g := gb322) (o := .cells #[.int .i64 a2_0, .int .i64 a2_1, .int .i64 a2_2, .int .i64 a2_3, .slice A2_4 l2_4.length c2_4] 44 (0, 0)) (by (with_reducible repeat (first | refine blk_drewN ?_ _ | refine blk_drew ?_ | refine blk_alloc ?_ _)); refine blk_far ?_ NB322_327.out _; (with_reducible repeat (first | refine blk_drewN ?_ _ | refine blk_drew ?_ | refine blk_alloc ?_ _)); refine blk_far ?_ NB322_327.out _; (with_reducible repeat (first | refine blk_drewN ?_ _ | refine blk_drew ?_ | refine blk_alloc ?_ _)); exact BK322.out)) (below_size (hs4_ GE321.out GE322.out GE323.out GE327.out))); replace BK321 := Aside0.mk (blk_below (g := gb321) (o := .cells #[.slice (some ad326) l0_0.length c0_0] 31 (0, 0)) (by (with_reducible repeat (first | refine blk_drewN ?_ _ | refine blk_drew ?_ | refine blk_alloc ?_ _)); refine blk_far ?_ NB321_327.out _; (with_reducible repeat (first | refine blk_drewN ?_ _ | refine blk_drew ?_ | refine blk_alloc ?_ _)); refine blk_far ?_ NB321_327.out _; (with_reducible repeat (first | refine blk_drewN ?_ _ | refine blk_drew ?_ | refine blk_alloc ?_ _)); exact BK321.out) hb); replace BK322 := Aside0.mk (blk_below (g := gb322) (o := .cells #[.int .i64 a2_0, .int .i64 a2_1, .int .i64 a2_2, .int .i64 a2_3, .slice A2_4 l2_4.length c2_4] 44 (0, 0)) (by (with_reducible repeat (first | refine blk_drewN ?_ _ | refine blk_drew ?_ | refine blk_alloc ?_ _)); refine blk_far ?_ NB322_327.out _; (with_reducible repeat (first | refine blk_drewN ?_ _ | refine blk_drew ?_ | refine blk_alloc ?_ _)); refine blk_far ?_ NB322_327.out _; (with_reducible repeat (first | refine blk_drewN ?_ _ | refine blk_drew ?_ | refine blk_alloc ?_ _)); exact BK322.out) hb); replace BK323 := Aside0.mk (blk_below (g := gb323) (o := .cells #[.slice none 0 0] 31 (0, 0)) (by (with_reducible repeat (first | refine blk_drewN ?_ _ | refine blk_drew ?_ | refine blk_alloc ?_ _)); refine blk_far ?_ NB323_327.out _; (with_reducible repeat (first | refine blk_drewN ?_ _ | refine blk_drew ?_ | refine blk_alloc ?_ _)); refine blk_far ?_ NB323_327.out _; (with_reducible repeat (first | refine blk_drewN ?_ _ | refine blk_drew ?_ | refine blk_alloc ?_ _)); exact BK323.out) hb); replace BK327 := Aside0.mk (blk_below (g := gb327) (o := .cells #[.string ((rd_T56 l0_0 a1).f0), .int .i64 ((rd_T56 l0_0 a1).f1)] 56 (0, 0)) (by (with_reducible repeat (first | refine blk_drewN ?_ _ | refine blk_drew ?_ | refine blk_alloc ?_ _)); refine blk_put (cs := #[.string ((rd_T56 l0_0 a1).f0), .int .i64 0]) ?_ 1 _ rfl; (with_reducible repeat (first | refine blk_drewN ?_ _ | refine blk_drew ?_ | refine blk_alloc ?_ _)); refine blk_put (cs := #[.string (⟨#[]⟩ : ByteArray), .int .i64 0]) ?_ 0 _ rfl; (with_reducible repeat (first | refine blk_drewN ?_ _ | refine blk_drew ?_ | refine blk_alloc ?_ _)); exact BK327.out) hb); replace HB := nc4_ GE321 GE322 GE323 GE327 hb; (try clear hb); (try clear hb2); (try clear hk); (try clear hi); (try clear ho0); have hnb62 := NB322_323.out; have hnc62 := NB323_322.out; obtain ⟨hcz63_0, hcz63_1, hcz63_2, hcz63_3, hcz63_4, hfz63_0, hfz63_1, hfz63_2, hfz63_3, hfz63_4⟩ := cf5_ BK322.out) | ((with_reducible refine gate_callee (f := 64) rfl ?_); refine gl_ 34 Try.func64 #[.agg #[.int .i64 a2_0, .int .i64 a2_1, .int .i64 a2_2, .int .i64 a2_3, .slice A2_4 l2_4.length c2_4]] rfl ma_ ?_; (with_reducible refine (impl_batchBytes.calls kj3 a2_0 a2_1 a2_2 a2_3 _ _ l2_4 t332 _ ?side1 ?side2 A29.out).mono ?_); (case side1 => exact cs_ ((Kd.C_below HR2_4.out HB.out))); (case side2 => exact HC2_4.out); rintro e w64 ⟨rfl, hb⟩; refine ⟨_, rfl, ?_⟩; replace HO331 := sB_ HO331 hb; replace BK321 := bK_ BK321 hb; replace BK322 := bK_ BK322 hb; replace BK323 := bK_ BK323 hb; replace BK327 := bK_ BK327 hb; replace HB := nc4_ GE321 GE322 GE323 GE327 hb; (try clear hb); (try clear hb2); (try clear hk); (try clear hi); obtain ⟨hcz65_0, hcz65_1, hfz65_0, hfz65_1⟩ := cf2_ BK327.out; obtain ⟨hcz66_0, hcz66_1, hcz66_2, hcz66_3, hcz66_4, hfz66_0, hfz66_1, hfz66_2, hfz66_3, hfz66_4⟩ := cf5_ BK322.out; obtain ⟨Ao67, co67, eo67⟩ := Kd.S_slice HO331.out; subst eo67) | (go_at_call 65; (with_reducible refine (impl_follows.calls _ _ t328 a2_0 a2_1 a2_2 a2_3 _ _ l2_4 true _ ?side1 ?side2 ?side3 ?side4 A31.out).mono ?_); (case side1 => exact cs_ ((Kd.S_reads' HO331.out).2.2)); (case side2 => exact (Kd.S_reads' HO331.out).2.1); (case side3 => exact cs_ ((Kd.C_below HR2_4.out HB.out))); (case side4 => exact HC2_4.out); rintro e w68 ⟨rfl, hb⟩; replace HO331 := sB_ HO331 hb; replace BK321 := bK_ BK321 hb; replace BK322 := bK_ BK322 hb; replace BK323 := bK_ BK323 hb; replace BK327 := bK_ BK327 hb; replace HB := nc4_ GE321 GE322 GE323 GE327 hb; (try clear hb); (try clear hb2); (try clear hk); (try clear hi); obtain ⟨hcz69_0, hcz69_1, hfz69_0, hfz69_1⟩ := cf2_ BK327.out; obtain ⟨hcz70_0, hfz70_0⟩ := cf1_ BK321.out) | ((with_reducible refine gate_callee (f := 66) rfl ?_); refine gl_ 62 Try.func66 #[.agg #[.slice (some ad326) l0_0.length c0_0], .int .i64 a1, .agg #[.string (((rd_T56 l0_0 a1).f0) ++ t332), .int .i64 ((rd_T56 l0_0 a1).f1)]] rfl ma_ ?_; (with_reducible refine (impl_Disk_with.calls _ _ l0_0 a1 (((rd_T56 l0_0 a1).f0) ++ t332) ((rd_T56 l0_0 a1).f1) t334 _ ?side1 ?side2 A52.out).mono ?_); (case side1 => exact Kd.C_below HR0_0.out (hs4_ GE321.out GE322.out GE323.out GE327.out)); (case side2 => exact HC0_0.out); rintro e w71 ⟨v335, rfl, ho0, hb⟩; refine ⟨_, rfl, ?_⟩; replace HO331 := Aside0.mk (Kd.S_below (by (with_reducible repeat (first | apply Kd.S_alloc | apply Kd.S_drewN | apply Kd.S_drew)); exact (Kd.S_mono (Kd.S_far (p := ⟨gb327, 0, none⟩) (Kd.S_types HO331.out BK327.out (by decide)) (fun _ hk => hk.2) (.string (((rd_T56 l0_0 a1).f0) ++ t332))) (fun _ h_ => h_.1))) hb); have HO336 := Aside0.mk (Kd.R_lower (Kd.R_newB ho0 (g := gb327) (o := .cells #[.string (((rd_T56 l0_0 a1).f0) ++ t332), .int .i64 ((rd_T56 l0_0 a1).f1)] 56 (0, 0)) (by (with_reducible repeat (first | refine blk_drewN ?_ _ | refine blk_drew ?_ | refine blk_alloc ?_ _)); refine blk_put (cs := #[.string ((rd_T56 l0_0 a1).f0), .int .i64 ((rd_T56 l0_0 a1).f1)]) ?_ 0 _ rfl; (with_reducible repeat (first | refine blk_drewN ?_ _ | refine blk_drew ?_ | refine blk_alloc ?_ _)); exact BK327.out)) (below_size (hs4_ GE321.out GE322.out GE323.out GE327.out))); replace BK321 := Aside0.mk (blk_below (g := gb321) (o := .cells #[.slice (some ad326) l0_0.length c0_0] 31 (0, 0)) (by (with_reducible repeat (first | refine blk_drewN ?_ _ | refine blk_drew ?_ | refine blk_alloc ?_ _)); refine blk_far ?_ NB321_327.out _; (with_reducible repeat (first | refine blk_drewN ?_ _ | refine blk_drew ?_ | refine blk_alloc ?_ _)); exact BK321.out) hb); replace BK322 := Aside0.mk (blk_below (g := gb322) (o := .cells #[.int .i64 a2_0, .int .i64 a2_1, .int .i64 a2_2, .int .i64 a2_3, .slice A2_4 l2_4.length c2_4] 44 (0, 0)) (by (with_reducible repeat (first | refine blk_drewN ?_ _ | refine blk_drew ?_ | refine blk_alloc ?_ _)); refine blk_far ?_ NB322_327.out _; (with_reducible repeat (first | refine blk_drewN ?_ _ | refine blk_drew ?_ | refine blk_alloc ?_ _)); exact BK322.out) hb); replace BK323 := Aside0.mk (blk_below (g := gb323) (o := .cells #[.slice none 0 0] 31 (0, 0)) (by (with_reducible repeat (first | refine blk_drewN ?_ _ | refine blk_drew ?_ | refine blk_alloc ?_ _)); refine blk_far ?_ NB323_327.out _; (with_reducible repeat (first | refine blk_drewN ?_ _ | refine blk_drew ?_ | refine blk_alloc ?_ _)); exact BK323.out) hb); replace BK327 := Aside0.mk (blk_below (g := gb327) (o := .cells #[.string (((rd_T56 l0_0 a1).f0) ++ t332), .int .i64 ((rd_T56 l0_0 a1).f1)] 56 (0, 0)) (by (with_reducible repeat (first | refine blk_drewN ?_ _ | refine blk_drew ?_ | refine blk_alloc ?_ _)); refine blk_put (cs := #[.string ((rd_T56 l0_0 a1).f0), .int .i64 ((rd_T56 l0_0 a1).f1)]) ?_ 0 _ rfl; (with_reducible repeat (first | refine blk_drewN ?_ _ | refine blk_drew ?_ | refine blk_alloc ?_ _)); exact BK327.out) hb); replace HB := nc4_ GE321 GE322 GE323 GE327 hb; (try clear hb); (try clear hb2); (try clear hk); (try clear hi); (try clear ho0); obtain ⟨Ao72, co72, eo72⟩ := Kd.R_slice HO336.out; subst eo72; obtain ⟨hcz73_0, hfz73_0⟩ := cf1_ BK323.out))
   refine bodyPost_ret (results_ct rfl _ _ gb323 31 #[.slice Ao72 t334.length co72] (0, 0) _ rfl (by (with_reducible repeat (first | refine blk_drewN ?_ _ | refine blk_drew ?_ | refine blk_alloc ?_ _)); refine blk_put (cs := #[.slice none 0 0]) ?_ 0 _ rfl; (with_reducible repeat (first | refine blk_drewN ?_ _ | refine blk_drew ?_ | refine blk_alloc ?_ _)); exact BK323.out) Try.underlying31 rfl (by kernel_rfl)) rfl ?_
   exact ⟨_, er_, by (with_reducible repeat (first | apply Kd.R_alloc | apply Kd.R_drewN | apply Kd.R_drew)); exact Kd.R_mono (Kd.R_far (p := ⟨gb323, 0, none⟩) (Kd.R_types HO336.out BK323.out (by decide)) (fun _ hk => hk.2) (.slice Ao72 t334.length co72)) (fun _ hk => trivial), hs4_ GE321.out GE322.out GE323.out GE327.out⟩

/-! ### laws_eqStringS: function 67 -/
def laws_eqStringS.l0 : Nat → List ByteArray → List ByteArray → Int → Option (Bool)
 | 0, _, _, _ => none
 | k + 1, x0, x1, x5 => if x5 < (x0.length : Int) then (if 0 ≤ x5 then (if x5 < (x1.length : Int) then (if (rdOf ByteArray.empty x0 x5).toList = (rdOf ByteArray.empty x1 x5).toList then (laws_eqStringS.l0 k x0 x1 (wrap64 (x5 + 1))) else (some false)) else (none)) else (none)) else (some true)
def laws_eqStringS.f (k : Nat) (l0 : List ByteArray) (l1 : List ByteArray) : Option (Bool) := if (l0.length : Int) = (l1.length : Int) then (laws_eqStringS.l0 k l0 l1 0) else (some false)
theorem laws_eqStringS.mono_l : ∀ k, (∀ y0 y1 y2, LeO (laws_eqStringS.l0 k y0 y1 y2) (laws_eqStringS.l0 (k + 1) y0 y1 y2))
 | 0 => fun _ _ _ r h => by simp [laws_eqStringS.l0] at h
 | k + 1 => by
  have ih0 := laws_eqStringS.mono_l k
  ·intro y0 y1 y2
   unfold laws_eqStringS.l0
   repeat' first
   | (with_reducible exact ih0 _ _ _)
   | (with_reducible exact LeO.refl _)
   | (with_reducible exact LeO.none _)
   | (with_reducible refine LeO.ite ?_ ?_)
   | (with_reducible refine LeO.bind ?_ (fun _ => ?_))
   | exact ih0 _ _ _
   | exact LeO.none _
   | refine LeO.ite ?_ ?_
   | refine LeO.bind ?_ (fun _ => ?_)
theorem laws_eqStringS.mono : ∀ a0 a1 k, LeO (laws_eqStringS.f k a0 a1) (laws_eqStringS.f (k + 1) a0 a1) := by
 intro a0 a1 k
 have ih0 := laws_eqStringS.mono_l k
 unfold laws_eqStringS.f
 repeat' first
   | (with_reducible exact ih0 _ _ _)
   | (with_reducible exact LeO.refl _)
   | (with_reducible exact LeO.none _)
   | (with_reducible refine LeO.ite ?_ ?_)
   | (with_reducible refine LeO.bind ?_ (fun _ => ?_))
   | exact ih0 _ _ _
   | exact LeO.none _
   | refine LeO.ite ?_ ?_
   | refine LeO.bind ?_ (fun _ => ?_)
set_option maxHeartbeats 8000000 in
set_option maxRecDepth 100000 in
theorem laws_eqStringS.calls (k : Nat) (A0 : Option Addr) (c0 : Nat) (l0 : List ByteArray) (A1 : Option Addr) (c1 : Nat) (l1 : List ByteArray) (r : Bool) (w : World) (hr0 : Kd.C Kd.string w A0 l0.length l0) (hc0 : l0.length ≤ c0) (hr1 : Kd.C Kd.string w A1 l1.length l1) (hc1 : l1.length ≤ c1) (h : laws_eqStringS.f k l0 l1 = some r) :
  Calls Try.prog 67 #[.slice A0 l0.length c0, .slice A1 l1.length c1] w fun e w' => e = .returned (.bool r) ∧ Drawn0 w w' := by
 have HR0 := Aside0.mk hr0
 have HC0 := Aside0.mk hc0
 clear hr0 hc0
 have HR1 := Aside0.mk hr1
 have HC1 := Aside0.mk hc1
 clear hr1 hc1
 have H : (if (l0.length : Int) = (l1.length : Int) then (laws_eqStringS.l0 k l0 l1 0) else (some false)) = some r := h
 clear h
 replace H := ite_ H
 obtain ⟨c3, H⟩ | ⟨c3, H⟩ := H
 rotate_left
 ·have c3b0 : ((l0.length : Int) == (l1.length : Int)) = false := beq_eq_false_iff_ne.mpr c3
  have c3b1 : ((l0.length : Int) != (l1.length : Int)) = true := bne_iff_ne.mpr c3
  have c3b2 : (l0.length == l1.length) = false := by first | simpa using c3 | (simp at c3 ⊢; omega)
  obtain rfl := Option.some.inj H
  go_enter Try.func67, Try.ntmps67
  go_wp2
  repeat (go_quiet (fail); try go_wp2)
  go_ret
  exact ⟨by first | rfl | (simp; done) | (simp [*]; done), dr_⟩
 have c3b0 : ((l0.length : Int) == (l1.length : Int)) = true := beq_iff_eq.mpr c3
 have c3b1 : ((l0.length : Int) != (l1.length : Int)) = false := bne_eq_false_iff_eq.mpr c3
 have c3b2 : (l0.length == l1.length) = true := by first | simpa using c3 | (simp at c3 ⊢; omega)
 clear c3
 have H' := Aside0.mk H
 clear H
 go_enter Try.func67, Try.ntmps67
 go_wp2
 repeat (go_quiet (fail); try go_wp2)
 go_loopg [5] k (fun kq v5 w' => ∃ (x5_1 : Int), v5 = .int .i64 x5_1 ∧ Aside0 (laws_eqStringS.l0 kq l0 l1 x5_1 = some r) ∧ Aside0 (kq ≤ k) ∧ Drawn0 w w')
 case atStart => exact ⟨(0), sr_, H', ⟨Nat.le_refl _⟩, dr_⟩
 case round =>
  clear H'
  try clear c1
  try clear p2
  try clear c3
  try clear c3b0
  try clear c3b1
  try clear c3b2
  obtain ⟨x5_1, rfl, HA, HK1, ⟨m1, rfl⟩⟩ := hrel
  cases gk with
  | zero => exact absurd HA.out (by simp [laws_eqStringS.l0])
  | succ k1 =>
   have H := HA.out
   clear HA
   simp only [laws_eqStringS.l0] at H
   replace H := ite_ H
   obtain ⟨c4, H⟩ | ⟨c4, H⟩ := H
   rotate_left
   ·have c4b0 := decide_eq_false c4
    clear c4
    obtain rfl := Option.some.inj H
    go_wp2
    repeat (go_quiet (fail); try go_wp2)
    go_ret
    exact ⟨by first | rfl | (simp; done) | (simp [*]; done), dr_⟩
   have c4b0 := decide_eq_true c4
   clear c4
   replace H := ifs_ H
   obtain ⟨c5, H⟩ := H
   have c5b0 := decide_eq_true c5
   clear c5
   replace H := ifs_ H
   obtain ⟨c6, H⟩ := H
   have c6b0 := decide_eq_true c6
   clear c6
   replace H := ite_ H
   obtain ⟨c7, H⟩ | ⟨c7, H⟩ := H
   rotate_left
   ·have c7b0 : ((rdOf ByteArray.empty l0 x5_1).toList == (rdOf ByteArray.empty l1 x5_1).toList) = false := beq_eq_false_iff_ne.mpr c7
    have c7b1 : ((rdOf ByteArray.empty l0 x5_1).toList != (rdOf ByteArray.empty l1 x5_1).toList) = true := bne_iff_ne.mpr c7
    obtain rfl := Option.some.inj H
    have p337 : 0 ≤ (x5_1 : Int) := oa_
    have q337 : x5_1 < (l0.length : Int) := oa_
    obtain ⟨ad337, e337, hx337_0⟩ := Kd.at_string HR0.out x5_1 p337 q337
    cases e337
    replace p337 := eq_true p337
    replace q337 := eq_true q337
    have p338 : 0 ≤ (x5_1 : Int) := oa_
    have q338 : x5_1 < (l1.length : Int) := oa_
    obtain ⟨ad338, e338, hx338_0⟩ := Kd.at_string HR1.out x5_1 p338 q338
    cases e338
    replace p338 := eq_true p338
    replace q338 := eq_true q338
    go_wp2
    repeat (go_quiet (fail); try go_wp2)
    go_ret
    exact ⟨by first | rfl | (simp; done) | (simp [*]; done), dr_⟩
   have c7b0 : ((rdOf ByteArray.empty l0 x5_1).toList == (rdOf ByteArray.empty l1 x5_1).toList) = true := beq_iff_eq.mpr c7
   have c7b1 : ((rdOf ByteArray.empty l0 x5_1).toList != (rdOf ByteArray.empty l1 x5_1).toList) = false := bne_eq_false_iff_eq.mpr c7
   clear c7
   have H' := Aside0.mk H
   clear H
   have p337 : 0 ≤ (x5_1 : Int) := oa_
   have q337 : x5_1 < (l0.length : Int) := oa_
   obtain ⟨ad337, e337, hx337_0⟩ := Kd.at_string HR0.out x5_1 p337 q337
   cases e337
   replace p337 := eq_true p337
   replace q337 := eq_true q337
   have p338 : 0 ≤ (x5_1 : Int) := oa_
   have q338 : x5_1 < (l1.length : Int) := oa_
   obtain ⟨ad338, e338, hx338_0⟩ := Kd.at_string HR1.out x5_1 p338 q338
   cases e338
   replace p338 := eq_true p338
   replace q338 := eq_true q338
   go_wp2
   repeat (go_quiet (fail); try go_wp2)
   go_roundg k1
   case measure => have := HK1.out; omega
   case rel => exact ⟨(wrap64 (x5_1 + 1)), sr_, H', ⟨by have := HK1.out; omega⟩, dr_⟩

/-! ### laws_eqBatch: function 21 -/
def laws_eqBatch.f (k : Nat) (a0_0 : Int) (a0_1 : Int) (a0_2 : Int) (a0_3 : Int) (l0_4 : List ByteArray) (a1_0 : Int) (a1_1 : Int) (a1_2 : Int) (a1_3 : Int) (l1_4 : List ByteArray) : Option (Bool) := if a0_0 = a1_0 then (if a0_1 = a1_1 then (if a0_2 = a1_2 then (if a0_3 = a1_3 then ((laws_eqStringS.f k l0_4 l1_4).bind fun t341 => (if t341 = true then (some true) else (some false))) else (some false)) else (some false)) else (some false)) else (some false)
theorem laws_eqBatch.mono : ∀ a0 a1 a2 a3 a4 a5 a6 a7 a8 a9 k, LeO (laws_eqBatch.f k a0 a1 a2 a3 a4 a5 a6 a7 a8 a9) (laws_eqBatch.f (k + 1) a0 a1 a2 a3 a4 a5 a6 a7 a8 a9) := by
 intro a0 a1 a2 a3 a4 a5 a6 a7 a8 a9 k
 unfold laws_eqBatch.f
 repeat' first
   | (with_reducible exact laws_eqStringS.mono _ _ _)
   | (with_reducible exact LeO.refl _)
   | (with_reducible exact LeO.none _)
   | (with_reducible refine LeO.ite ?_ ?_)
   | (with_reducible refine LeO.bind ?_ (fun _ => ?_))
   | exact laws_eqStringS.mono _ _ _
   | exact LeO.none _
   | refine LeO.ite ?_ ?_
   | refine LeO.bind ?_ (fun _ => ?_)
set_option maxHeartbeats 8000000 in
set_option maxRecDepth 100000 in
theorem laws_eqBatch.calls (k : Nat) (a0_0 : Int) (a0_1 : Int) (a0_2 : Int) (a0_3 : Int) (A0_4 : Option Addr) (c0_4 : Nat) (l0_4 : List ByteArray) (a1_0 : Int) (a1_1 : Int) (a1_2 : Int) (a1_3 : Int) (A1_4 : Option Addr) (c1_4 : Nat) (l1_4 : List ByteArray) (r : Bool) (w : World) (hr0_4 : Kd.C Kd.string w A0_4 l0_4.length l0_4) (hc0_4 : l0_4.length ≤ c0_4) (hr1_4 : Kd.C Kd.string w A1_4 l1_4.length l1_4) (hc1_4 : l1_4.length ≤ c1_4) (h : laws_eqBatch.f k a0_0 a0_1 a0_2 a0_3 l0_4 a1_0 a1_1 a1_2 a1_3 l1_4 = some r) :
  Calls Try.prog 21 #[.agg #[.int .i64 a0_0, .int .i64 a0_1, .int .i64 a0_2, .int .i64 a0_3, .slice A0_4 l0_4.length c0_4], .agg #[.int .i64 a1_0, .int .i64 a1_1, .int .i64 a1_2, .int .i64 a1_3, .slice A1_4 l1_4.length c1_4]] w fun e w' => e = .returned (.bool r) ∧ Below w.heap.size w w' := by
 have hu44 := Try.underlying44
 have HR0_4 := Aside0.mk hr0_4
 have HC0_4 := Aside0.mk hc0_4
 clear hr0_4 hc0_4
 have HR1_4 := Aside0.mk hr1_4
 have HC1_4 := Aside0.mk hc1_4
 clear hr1_4 hc1_4
 have HB := Aside0.mk (Below.refl w.heap.size w)
 have H : (if a0_0 = a1_0 then (if a0_1 = a1_1 then (if a0_2 = a1_2 then (if a0_3 = a1_3 then ((laws_eqStringS.f k l0_4 l1_4).bind fun t341 => (if t341 = true then (some true) else (some false))) else (some false)) else (some false)) else (some false)) else (some false)) = some r := h
 clear h
 replace H := ite_ H
 obtain ⟨c3, H⟩ | ⟨c3, H⟩ := H
 rotate_left
 ·have c3b0 : (a0_0 == a1_0) = false := beq_eq_false_iff_ne.mpr c3
  have c3b1 : (a0_0 != a1_0) = true := bne_iff_ne.mpr c3
  obtain rfl := Option.some.inj H
  go_enter Try.func21, Try.ntmps21
  go_wp2_with (first | ((with_reducible refine gate_dst (N := 2) rfl ?_); refine be_ (N := 2) #[.int .i64 a0_0, .int .i64 a0_1, .int .i64 a0_2, .int .i64 a0_3, .slice A0_4 l0_4.length c0_4] 44 ?_; intro gb339 hg w34 hbox hb; have BK339 := Aside0.mk (hbox); have GW339 := ge_ hg; have GE339 := ge_ hg; replace HB := nb_ hb; clear hb hbox hg) | ((with_reducible refine gate_dst (N := 3) rfl ?_); refine be_ (N := 3) #[.int .i64 a1_0, .int .i64 a1_1, .int .i64 a1_2, .int .i64 a1_3, .slice A1_4 l1_4.length c1_4] 44 ?_; intro gb340 hg w35 hbox hb; have BK340 := Aside0.mk (hbox); have GW340 := ge1_ hg GE339; have GE340 := ge1_ hg GE339; replace HB := nc_ GE339 hb; have NB339_340 := nl_ BK339 hg; have NB340_339 := ng_ BK339 hg; replace BK339 := bK_ BK339 hb; clear hb hbox hg; have hnb36 := NB339_340.out; have hnc36 := NB340_339.out; obtain ⟨hcz37_0, hcz37_1, hcz37_2, hcz37_3, hcz37_4, hfz37_0, hfz37_1, hfz37_2, hfz37_3, hfz37_4⟩ := cf5_ BK339.out; obtain ⟨hcz38_0, hcz38_1, hcz38_2, hcz38_3, hcz38_4, hfz38_0, hfz38_1, hfz38_2, hfz38_3, hfz38_4⟩ := cf5_ BK340.out))
  go_ret
  exact ⟨er_, hs2_ GE339.out GE340.out⟩
 have c3b0 : (a0_0 == a1_0) = true := beq_iff_eq.mpr c3
 have c3b1 : (a0_0 != a1_0) = false := bne_eq_false_iff_eq.mpr c3
 clear c3
 replace H := ite_ H
 obtain ⟨c4, H⟩ | ⟨c4, H⟩ := H
 rotate_left
 ·have c4b0 : (a0_1 == a1_1) = false := beq_eq_false_iff_ne.mpr c4
  have c4b1 : (a0_1 != a1_1) = true := bne_iff_ne.mpr c4
  obtain rfl := Option.some.inj H
  go_enter Try.func21, Try.ntmps21
  go_wp2_with (first | ((with_reducible refine gate_dst (N := 2) rfl ?_); refine be_ (N := 2) #[.int .i64 a0_0, .int .i64 a0_1, .int .i64 a0_2, .int .i64 a0_3, .slice A0_4 l0_4.length c0_4] 44 ?_; intro gb339 hg w29 hbox hb; have BK339 := Aside0.mk (hbox); have GW339 := ge_ hg; have GE339 := ge_ hg; replace HB := nb_ hb; clear hb hbox hg) | ((with_reducible refine gate_dst (N := 3) rfl ?_); refine be_ (N := 3) #[.int .i64 a1_0, .int .i64 a1_1, .int .i64 a1_2, .int .i64 a1_3, .slice A1_4 l1_4.length c1_4] 44 ?_; intro gb340 hg w30 hbox hb; have BK340 := Aside0.mk (hbox); have GW340 := ge1_ hg GE339; have GE340 := ge1_ hg GE339; replace HB := nc_ GE339 hb; have NB339_340 := nl_ BK339 hg; have NB340_339 := ng_ BK339 hg; replace BK339 := bK_ BK339 hb; clear hb hbox hg; have hnb31 := NB339_340.out; have hnc31 := NB340_339.out; obtain ⟨hcz32_0, hcz32_1, hcz32_2, hcz32_3, hcz32_4, hfz32_0, hfz32_1, hfz32_2, hfz32_3, hfz32_4⟩ := cf5_ BK339.out; obtain ⟨hcz33_0, hcz33_1, hcz33_2, hcz33_3, hcz33_4, hfz33_0, hfz33_1, hfz33_2, hfz33_3, hfz33_4⟩ := cf5_ BK340.out))
  go_ret
  exact ⟨er_, hs2_ GE339.out GE340.out⟩
 have c4b0 : (a0_1 == a1_1) = true := beq_iff_eq.mpr c4
 have c4b1 : (a0_1 != a1_1) = false := bne_eq_false_iff_eq.mpr c4
 clear c4
 replace H := ite_ H
 obtain ⟨c5, H⟩ | ⟨c5, H⟩ := H
 rotate_left
 ·have c5b0 : (a0_2 == a1_2) = false := beq_eq_false_iff_ne.mpr c5
  have c5b1 : (a0_2 != a1_2) = true := bne_iff_ne.mpr c5
  obtain rfl := Option.some.inj H
  go_enter Try.func21, Try.ntmps21
  go_wp2_with (first | ((with_reducible refine gate_dst (N := 2) rfl ?_); refine be_ (N := 2) #[.int .i64 a0_0, .int .i64 a0_1, .int .i64 a0_2, .int .i64 a0_3, .slice A0_4 l0_4.length c0_4] 44 ?_; intro gb339 hg w24 hbox hb; have BK339 := Aside0.mk (hbox); have GW339 := ge_ hg; have GE339 := ge_ hg; replace HB := nb_ hb; clear hb hbox hg) | ((with_reducible refine gate_dst (N := 3) rfl ?_); refine be_ (N := 3) #[.int .i64 a1_0, .int .i64 a1_1, .int .i64 a1_2, .int .i64 a1_3, .slice A1_4 l1_4.length c1_4] 44 ?_; intro gb340 hg w25 hbox hb; have BK340 := Aside0.mk (hbox); have GW340 := ge1_ hg GE339; have GE340 := ge1_ hg GE339; replace HB := nc_ GE339 hb; have NB339_340 := nl_ BK339 hg; have NB340_339 := ng_ BK339 hg; replace BK339 := bK_ BK339 hb; clear hb hbox hg; have hnb26 := NB339_340.out; have hnc26 := NB340_339.out; obtain ⟨hcz27_0, hcz27_1, hcz27_2, hcz27_3, hcz27_4, hfz27_0, hfz27_1, hfz27_2, hfz27_3, hfz27_4⟩ := cf5_ BK339.out; obtain ⟨hcz28_0, hcz28_1, hcz28_2, hcz28_3, hcz28_4, hfz28_0, hfz28_1, hfz28_2, hfz28_3, hfz28_4⟩ := cf5_ BK340.out))
  go_ret
  exact ⟨er_, hs2_ GE339.out GE340.out⟩
 have c5b0 : (a0_2 == a1_2) = true := beq_iff_eq.mpr c5
 have c5b1 : (a0_2 != a1_2) = false := bne_eq_false_iff_eq.mpr c5
 clear c5
 replace H := ite_ H
 obtain ⟨c6, H⟩ | ⟨c6, H⟩ := H
 rotate_left
 ·have c6b0 : (a0_3 == a1_3) = false := beq_eq_false_iff_ne.mpr c6
  have c6b1 : (a0_3 != a1_3) = true := bne_iff_ne.mpr c6
  obtain rfl := Option.some.inj H
  go_enter Try.func21, Try.ntmps21
  go_wp2_with (first | ((with_reducible refine gate_dst (N := 2) rfl ?_); refine be_ (N := 2) #[.int .i64 a0_0, .int .i64 a0_1, .int .i64 a0_2, .int .i64 a0_3, .slice A0_4 l0_4.length c0_4] 44 ?_; intro gb339 hg w19 hbox hb; have BK339 := Aside0.mk (hbox); have GW339 := ge_ hg; have GE339 := ge_ hg; replace HB := nb_ hb; clear hb hbox hg) | ((with_reducible refine gate_dst (N := 3) rfl ?_); refine be_ (N := 3) #[.int .i64 a1_0, .int .i64 a1_1, .int .i64 a1_2, .int .i64 a1_3, .slice A1_4 l1_4.length c1_4] 44 ?_; intro gb340 hg w20 hbox hb; have BK340 := Aside0.mk (hbox); have GW340 := ge1_ hg GE339; have GE340 := ge1_ hg GE339; replace HB := nc_ GE339 hb; have NB339_340 := nl_ BK339 hg; have NB340_339 := ng_ BK339 hg; replace BK339 := bK_ BK339 hb; clear hb hbox hg; have hnb21 := NB339_340.out; have hnc21 := NB340_339.out; obtain ⟨hcz22_0, hcz22_1, hcz22_2, hcz22_3, hcz22_4, hfz22_0, hfz22_1, hfz22_2, hfz22_3, hfz22_4⟩ := cf5_ BK339.out; obtain ⟨hcz23_0, hcz23_1, hcz23_2, hcz23_3, hcz23_4, hfz23_0, hfz23_1, hfz23_2, hfz23_3, hfz23_4⟩ := cf5_ BK340.out))
  go_ret
  exact ⟨er_, hs2_ GE339.out GE340.out⟩
 have c6b0 : (a0_3 == a1_3) = true := beq_iff_eq.mpr c6
 have c6b1 : (a0_3 != a1_3) = false := bne_eq_false_iff_eq.mpr c6
 clear c6
 replace H := bnd_ H
 obtain ⟨t341, A7, H⟩ := H
 replace H := ifb_ H
 obtain ⟨rfl, H⟩ | ⟨rfl, H⟩ := H
 ·obtain rfl := Option.some.inj H
  go_enter Try.func21, Try.ntmps21
  go_wp2_with (first | ((with_reducible refine gate_dst (N := 2) rfl ?_); refine be_ (N := 2) #[.int .i64 a0_0, .int .i64 a0_1, .int .i64 a0_2, .int .i64 a0_3, .slice A0_4 l0_4.length c0_4] 44 ?_; intro gb339 hg w9 hbox hb; have BK339 := Aside0.mk (hbox); have GW339 := ge_ hg; have GE339 := ge_ hg; replace HB := nb_ hb; clear hb hbox hg) | ((with_reducible refine gate_dst (N := 3) rfl ?_); refine be_ (N := 3) #[.int .i64 a1_0, .int .i64 a1_1, .int .i64 a1_2, .int .i64 a1_3, .slice A1_4 l1_4.length c1_4] 44 ?_; intro gb340 hg w10 hbox hb; have BK340 := Aside0.mk (hbox); have GW340 := ge1_ hg GE339; have GE340 := ge1_ hg GE339; replace HB := nc_ GE339 hb; have NB339_340 := nl_ BK339 hg; have NB340_339 := ng_ BK339 hg; replace BK339 := bK_ BK339 hb; clear hb hbox hg; have hnb11 := NB339_340.out; have hnc11 := NB340_339.out; obtain ⟨hcz12_0, hcz12_1, hcz12_2, hcz12_3, hcz12_4, hfz12_0, hfz12_1, hfz12_2, hfz12_3, hfz12_4⟩ := cf5_ BK339.out; obtain ⟨hcz13_0, hcz13_1, hcz13_2, hcz13_3, hcz13_4, hfz13_0, hfz13_1, hfz13_2, hfz13_3, hfz13_4⟩ := cf5_ BK340.out) | ((with_reducible refine gate_callee (f := 67) rfl ?_); refine gl_ 29 Try.func67 #[.slice A0_4 l0_4.length c0_4, .slice A1_4 l1_4.length c1_4] rfl ma_ ?_; (with_reducible refine (laws_eqStringS.calls k _ _ l0_4 _ _ l1_4 true _ ?side1 ?side2 ?side3 ?side4 A7.out).mono ?_); (case side1 => exact cs_ ((Kd.C_below HR0_4.out HB.out))); (case side2 => exact HC0_4.out); (case side3 => exact cs_ ((Kd.C_below HR1_4.out HB.out))); (case side4 => exact HC1_4.out); rintro e w' ⟨rfl, ⟨nd, rfl⟩⟩; refine ⟨_, rfl, ?_⟩))
  go_ret
  exact ⟨er_, hs2_ GE339.out GE340.out⟩
 obtain rfl := Option.some.inj H
 go_enter Try.func21, Try.ntmps21
 go_wp2_with (first | ((with_reducible refine gate_dst (N := 2) rfl ?_); refine be_ (N := 2) #[.int .i64 a0_0, .int .i64 a0_1, .int .i64 a0_2, .int .i64 a0_3, .slice A0_4 l0_4.length c0_4] 44 ?_; intro gb339 hg w14 hbox hb; have BK339 := Aside0.mk (hbox); have GW339 := ge_ hg; have GE339 := ge_ hg; replace HB := nb_ hb; clear hb hbox hg) | ((with_reducible refine gate_dst (N := 3) rfl ?_); refine be_ (N := 3) #[.int .i64 a1_0, .int .i64 a1_1, .int .i64 a1_2, .int .i64 a1_3, .slice A1_4 l1_4.length c1_4] 44 ?_; intro gb340 hg w15 hbox hb; have BK340 := Aside0.mk (hbox); have GW340 := ge1_ hg GE339; have GE340 := ge1_ hg GE339; replace HB := nc_ GE339 hb; have NB339_340 := nl_ BK339 hg; have NB340_339 := ng_ BK339 hg; replace BK339 := bK_ BK339 hb; clear hb hbox hg; have hnb16 := NB339_340.out; have hnc16 := NB340_339.out; obtain ⟨hcz17_0, hcz17_1, hcz17_2, hcz17_3, hcz17_4, hfz17_0, hfz17_1, hfz17_2, hfz17_3, hfz17_4⟩ := cf5_ BK339.out; obtain ⟨hcz18_0, hcz18_1, hcz18_2, hcz18_3, hcz18_4, hfz18_0, hfz18_1, hfz18_2, hfz18_3, hfz18_4⟩ := cf5_ BK340.out) | ((with_reducible refine gate_callee (f := 67) rfl ?_); refine gl_ 29 Try.func67 #[.slice A0_4 l0_4.length c0_4, .slice A1_4 l1_4.length c1_4] rfl ma_ ?_; (with_reducible refine (laws_eqStringS.calls k _ _ l0_4 _ _ l1_4 false _ ?side1 ?side2 ?side3 ?side4 A7.out).mono ?_); (case side1 => exact cs_ ((Kd.C_below HR0_4.out HB.out))); (case side2 => exact HC0_4.out); (case side3 => exact cs_ ((Kd.C_below HR1_4.out HB.out))); (case side4 => exact HC1_4.out); rintro e w' ⟨rfl, ⟨nd, rfl⟩⟩; refine ⟨_, rfl, ?_⟩))
 go_ret
 exact ⟨er_, hs2_ GE339.out GE340.out⟩

end Go.Proofs.Ytpdpipfkllfhmaa.QFnExactWriteBatch
