/- Functions that one statement reaches: of each a plain function, and the proof that calls come to it. Conditions: those that each contract names. Written by a program of this repository. -/
import Derived.Test.YtpdpipfkllfhmaaVFnTorna
import Derived.Test.YtpdpipfkllfhmaaQFnTornx2
import Derived.Test.YtpdpipfkllfhmaaQFnTornx7
namespace Go.Proofs.Ytpdpipfkllfhmaa.QFnTorn
open Go.RowKit Go.Proofs.YtpdpipfkllfhmaaW.PrintWords Go.Proofs.YtpdpipfkllfhmaaW.PrintLast Go.Proofs.YtpdpipfkllfhmaaW.PrintMore
attribute [local go_sem] max2_int min2_int max_two min_two max_three min_three max_four min_four Go.Proofs.YtpdpipfkllfhmaaW.PrintMore2.isSome_setCell   -- for this text's walks alone
set_option linter.unusedVariables false
set_option linter.unusedSimpArgs false

/-! ### impl_CrashDisk: function 43 -/
mutual
def impl_CrashDisk.j0 : Nat → List Int → Bool → List (S56) → Option ((List (S56)) × Bool)
 | 0, _, _, _ => none
 | k + 1, x1, x19, x466000 => if x19 = true then (some (([] : List (S56)), false)) else (impl_CrashDisk.l0 k x1 x466000 (x466000.length : Int) 0 ([] : List (S56)))
def impl_CrashDisk.l0 : Nat → List Int → List (S56) → Int → Int → List (S56) → Option ((List (S56)) × Bool)
 | 0, _, _, _, _, _ => none
 | k + 1, x1, x23, x24, x25, x469000 => if x25 < x24 then (if 0 ≤ x25 then (if x25 < (x23.length : Int) then (if x25 < (x1.length : Int) then ((impl_in.f (rd x1 x25) 0 (wrap64 ((((rd_T56 x23 x25).f0).size : Int) - ((rd_T56 x23 x25).f1)))).bind fun t472 => (if t472 = true then (if 0 ≤ (wrap64 (((rd_T56 x23 x25).f1) + (rd x1 x25))) then (if (wrap64 (((rd_T56 x23 x25).f1) + (rd x1 x25))) ≤ (((rd_T56 x23 x25).f0).size : Int) then (if x469000.length < 5864062014805 then (impl_CrashDisk.l0 k x1 x23 x24 (wrap64 (x25 + 1)) (x469000 ++ [(⟨((rd_T56 x23 x25).f0).extract 0 ((wrap64 (((rd_T56 x23 x25).f1) + (rd x1 x25))) : Int).toNat, wrap64 (((rd_T56 x23 x25).f1) + (rd x1 x25))⟩ : S56)])) else (none)) else (none)) else (none)) else (some (([] : List (S56)), false)))) else (none)) else (none)) else (none)) else (some (x469000, true))
end
def impl_CrashDisk.f (k : Nat) (l0_0 : List (S56)) (l1 : List Int) : Option ((List (S56)) × Bool) := (impl_isDisk.f l0_0).bind fun t467 => (if t467 = true then (impl_CrashDisk.j0 k l1 ((l1.length : Int) != (l0_0.length : Int)) l0_0) else (impl_CrashDisk.j0 k l1 true l0_0))
theorem impl_CrashDisk.mono_l : ∀ k, (∀ y0 y1 y2, LeO (impl_CrashDisk.j0 k y0 y1 y2) (impl_CrashDisk.j0 (k + 1) y0 y1 y2)) ∧ (∀ y0 y1 y2 y3 y4, LeO (impl_CrashDisk.l0 k y0 y1 y2 y3 y4) (impl_CrashDisk.l0 (k + 1) y0 y1 y2 y3 y4))
 | 0 => ⟨fun _ _ _ r h => by simp [impl_CrashDisk.j0] at h, fun _ _ _ _ _ r h => by simp [impl_CrashDisk.l0] at h⟩
 | k + 1 => by
  obtain ⟨ih0, ih1⟩ := impl_CrashDisk.mono_l k
  refine ⟨?_, ?_⟩
  all_goals intros; first | unfold impl_CrashDisk.j0 | unfold impl_CrashDisk.l0
  all_goals repeat' first | (with_reducible first | apply ih0 | apply ih1 | exact LeO.refl _ | exact LeO.none _ | refine LeO.ite ?_ ?_ | refine LeO.bind ?_ (fun _ => ?_))
theorem impl_CrashDisk.mono : ∀ a0 a1 k, LeO (impl_CrashDisk.f k a0 a1) (impl_CrashDisk.f (k + 1) a0 a1) := by
 intro a0 a1 k
 obtain ⟨ih0, ih1⟩ := impl_CrashDisk.mono_l k
 unfold impl_CrashDisk.f
 repeat' first
   | (with_reducible first | apply ih0 | apply ih1 | exact LeO.refl _ | exact LeO.none _ | refine LeO.ite ?_ ?_ | refine LeO.bind ?_ (fun _ => ?_))
def impl_CrashDisk.T7 : Bool × List (List Nat × List Nat) := (true, [([], []), ([], []), ([0, 1], [0, 1]), ([2], [2]), ([], []), ([4], [4]), ([5], [5]), ([], []), ([7], [7]), ([6, 8], [6, 8]), ([3, 9], [3, 9]), ([10], [10])])
def impl_CrashDisk.B7 : List Nat := [0, 0, 3, 7, 0, 16, 48, 0, 128, 496, 1023, 2047]
theorem impl_CrashDisk.tab7 : rtab .any (opsOf Try.f43 7) = impl_CrashDisk.T7 := by kernel_rfl
theorem impl_CrashDisk.bits7 : waitsOk impl_CrashDisk.T7.2 impl_CrashDisk.B7 = true := by kernel_rfl
def impl_CrashDisk.T9 : Bool × List (List Nat × List Nat) := (true, [([], []), ([0], [0]), ([], []), ([], []), ([2, 3], [2, 3]), ([4], [4]), ([1, 5], [1, 5]), ([0, 1, 2, 3, 4, 5, 6], []), ([7, 6, 0, 1, 2, 3, 4, 5, 6], [6, 7])])
def impl_CrashDisk.B9 : List Nat := [0, 1, 0, 0, 12, 28, 63, 127, 255]
theorem impl_CrashDisk.tab9 : rtab .any (opsOf Try.f43 9) = impl_CrashDisk.T9 := by kernel_rfl
theorem impl_CrashDisk.bits9 : waitsOk impl_CrashDisk.T9.2 impl_CrashDisk.B9 = true := by kernel_rfl
set_option maxHeartbeats 8000000 in
set_option maxRecDepth 100000 in
theorem impl_CrashDisk.calls (k : Nat) (A0_0 : Option Addr) (c0_0 : Nat) (l0_0 : List (S56)) (A1 : Option Addr) (c1 : Nat) (l1 : List Int) (r1 : List (S56)) (r2 : Bool) (w : World) (hr0_0 : Kd.C k56 w A0_0 l0_0.length l0_0) (hc0_0 : l0_0.length ≤ c0_0) (hr1 : Kd.C (Kd.int .i64) w A1 l1.length l1) (hc1 : l1.length ≤ c1) (h : impl_CrashDisk.f k l0_0 l1 = some (r1, r2)) :
  Calls Try.prog 43 #[.agg #[.slice A0_0 l0_0.length c0_0], .slice A1 l1.length c1] w fun e w' => ∃ v0_ : Value, e = .returned (.tuple #[.agg #[v0_], .bool r2]) ∧ Kd.R k56 56 w' w.heap.size (fun _ => True) v0_ r1 ∧ Below w.heap.size w w' := by
 have hu31 := Try.underlying31
 have hu56 := Try.underlying56
 have HR0_0 := Aside0.mk hr0_0
 have HC0_0 := Aside0.mk hc0_0
 clear hr0_0 hc0_0
 have HR1 := Aside0.mk hr1
 have HC1 := Aside0.mk hc1
 clear hr1 hc1
 have HB := Aside0.mk (Below.refl w.heap.size w)
 have H : ((impl_isDisk.f l0_0).bind fun t467 => (if t467 = true then (impl_CrashDisk.j0 k l1 ((l1.length : Int) != (l0_0.length : Int)) l0_0) else (impl_CrashDisk.j0 k l1 true l0_0))) = some (r1, r2) := h
 clear h
 have HC3 := Aside0.mk H
 clear H
 go_enter Try.func43, Try.ntmps43
 go_upto_region 1 with (first | ((with_reducible refine gate_dst (N := 2) rfl ?_); (try (refine gate_guard (by rfl) ?_; dsimp only)); refine bq_ (N := 2) #[.slice A0_0 l0_0.length c0_0] 31 ?_; intro gb465 hg w4 BK465 hb; have GE465 := ge_ hg; replace HB := nb_ hb; clear hb hg) | ((with_reducible refine gate_dst (N := 4) rfl ?_); (try (refine gate_guard (by rfl) ?_; dsimp only)); refine bq_ (N := 4) #[.slice none 0 0] 31 ?_; intro gb466 hg w5 BK466 hb; have GE466 := ge1_ hg GE465; replace HB := nc_ GE465 hb; have NB465_466 := nl_ BK465 hg; have NB466_465 := ng_ BK465 hg; replace BK465 := bK_ BK465 hb; clear hb hg))
 (try simp only [Act.put, List.setIfInBounds_toArray, List.set_cons_zero, List.set_cons_succ])
 go_cut [19] (fun v19 wc => ∃ (kq : Nat) (x19_2 : Bool), v19 = .bool x19_2 ∧ Aside0 (impl_CrashDisk.j0 kq l1 x19_2 l0_0 = some (r1, r2)) ∧ Aside0 (kq ≤ k) ∧ Aside0 (wc.heap[gb465]? = some (.cells #[(.slice A0_0 l0_0.length c0_0)] 31 (0, 0))) ∧ Aside0 (wc.heap[gb466]? = some (.cells #[(.slice none 0 0)] 31 (0, 0))) ∧ Aside0 (Below w.heap.size w wc))
 case first =>
  have H := HC3.out
  clear HC3
  replace H := bnd_ H
  obtain ⟨t467, A6, H⟩ := H
  replace H := ifb_ H
  obtain ⟨rfl, H⟩ | ⟨rfl, H⟩ := H
  rotate_left
  ·have H' := Aside0.mk H
   clear H
   have hnb12 := NB465_466.out
   have hnc12 := NB466_465.out
   obtain ⟨hcz13_0, hfz13_0⟩ := cf1_ BK465.out
   go_wp2_with (first | ((with_reducible refine gate_callee (f := 79) rfl ?_); refine gl_ 10 Try.func79 #[.agg #[.slice A0_0 l0_0.length c0_0]] rfl ma_ ?_; (with_reducible refine (impl_isDisk.calls _ _ l0_0 false _ ?side1 ?side2 A6.out).mono ?_); (case side1 => exact cs_ ((Kd.C_below HR0_0.out HB.out))); (case side2 => exact HC0_0.out); rintro e w14 ⟨rfl, hb⟩; refine ⟨_, rfl, ?_⟩; replace BK465 := bK_ BK465 hb; replace BK466 := bK_ BK466 hb; replace HB := nc2_ GE465 GE466 hb; (try clear hb); (try clear hb2); (try clear hk); (try clear hi)))
   go_meet
   case rel => exact ⟨_, (true), sr_, H', ⟨by first | omega | exact Nat.le_refl _⟩, ⟨kb_ BK465.out⟩, ⟨kb_ BK466.out⟩, ⟨hs2_ GE465.out GE466.out⟩⟩
  have H' := Aside0.mk H
  clear H
  have hnb8 := NB465_466.out
  have hnc8 := NB466_465.out
  obtain ⟨hcz9_0, hfz9_0⟩ := cf1_ BK465.out
  go_wp2_with (first | ((with_reducible refine gate_callee (f := 79) rfl ?_); refine gl_ 10 Try.func79 #[.agg #[.slice A0_0 l0_0.length c0_0]] rfl ma_ ?_; (with_reducible refine (impl_isDisk.calls _ _ l0_0 true _ ?side1 ?side2 A6.out).mono ?_); (case side1 => exact cs_ ((Kd.C_below HR0_0.out HB.out))); (case side2 => exact HC0_0.out); rintro e w10 ⟨rfl, hb⟩; refine ⟨_, rfl, ?_⟩; replace BK465 := bK_ BK465 hb; replace BK466 := bK_ BK466 hb; replace HB := nc2_ GE465 GE466 hb; (try clear hb); (try clear hb2); (try clear hk); (try clear hi); obtain ⟨hcz11_0, hfz11_0⟩ := cf1_ BK465.out))
  go_meet
  case rel => exact ⟨_, (((l1.length : Int) != (l0_0.length : Int))), sr_, H', ⟨by first | omega | exact Nat.le_refl _⟩, ⟨kb_ BK465.out⟩, ⟨kb_ BK466.out⟩, ⟨hs2_ GE465.out GE466.out⟩⟩
 case rest =>
  clear HC3
  try clear c1
  obtain ⟨kq, x19_2, rfl, HA, HJ2, BK465, BK466, HB⟩ := hcut
  cases kq with
  | zero => exact absurd HA.out (by simp [impl_CrashDisk.j0])
  | succ kj2 =>
   have H := HA.out
   clear HA
   simp only [impl_CrashDisk.j0] at H
   replace H := ifb_ H
   obtain ⟨rfl, H⟩ | ⟨rfl, H⟩ := H
   ·simp only [Option.some.injEq, Prod.mk.injEq] at H
    obtain ⟨rfl, rfl⟩ := H
    have hnb16 := NB466_465.out
    have hnc16 := NB465_466.out
    obtain ⟨hcz17_0, hfz17_0⟩ := cf1_ BK466.out
    go_wp2
    refine bodyPost_ret (results_ct rfl _ _ gb466 31 #[.slice none 0 0] (0, 0) _ rfl (up_ BK466) Try.underlying31 rfl (by kernel_rfl)) rfl ?_
    exact ⟨_, er_, ni_, hs2_ GE465.out GE466.out⟩
   have H' := Aside0.mk H
   clear H
   go_wp2_with (first | ((with_reducible refine gate_dst (N := 6) rfl ?_); (try (refine gate_guard (by rfl) ?_; dsimp only)); refine bq_ (N := 6) #[.slice none 0 0] 31 ?_; intro gb468 hg w18 BK468 hb; have GE468 := ge2_ hg GE465 GE466; replace HB := nc2_ GE465 GE466 hb; have NB465_468 := nl_ BK465 hg; have NB468_465 := ng_ BK465 hg; replace BK465 := bK_ BK465 hb; have NB466_468 := nl_ BK466 hg; have NB468_466 := ng_ BK466 hg; replace BK466 := bK_ BK466 hb; clear hb hg; have hnb19 := NB468_465.out; have hnc19 := NB465_468.out; have hnb20 := NB468_466.out; have hnc20 := NB466_468.out; obtain ⟨hcz21_0, hfz21_0⟩ := cf1_ BK468.out; have hnb22 := NB465_466.out; have hnc22 := NB466_465.out; obtain ⟨hcz23_0, hfz23_0⟩ := cf1_ BK465.out))
   go_loopg [25] kj2 (fun kq v25 w' => ∃ (x25_2 : Int) (x469000_2 : List (S56)) (u469000 : Value), v25 = .int .i64 x25_2 ∧ Aside0 (impl_CrashDisk.l0 kq l1 l0_0 (l0_0.length : Int) x25_2 x469000_2 = some (r1, r2)) ∧ Aside0 (kq ≤ kj2) ∧ Aside0 (Kd.R k56 56 w' w.heap.size (fun _ => True) u469000 x469000_2) ∧ Aside0 (w'.heap[gb465]? = some (.cells #[(.slice A0_0 l0_0.length c0_0)] 31 (0, 0))) ∧ Aside0 (w'.heap[gb466]? = some (.cells #[(.slice none 0 0)] 31 (0, 0))) ∧ Aside0 (w'.heap[gb468]? = some (.cells #[u469000] 31 (0, 0))) ∧ Aside0 (Below w.heap.size w w'))
   case atStart => exact ⟨(0), (([] : List (S56))), (.slice none 0 0), sr_, H', ⟨Nat.le_refl _⟩, ⟨ni_⟩, ⟨uf_ BK465 NB465_468.out⟩, ⟨uf_ BK466 NB466_468.out⟩, ⟨up_ BK468⟩, ⟨hs3_ GE465.out GE466.out GE468.out⟩⟩
   case round =>
    clear H'
    try clear c1
    try clear hcz21_0
    try clear hcz23_0
    try clear hfz21_0
    try clear hfz23_0
    obtain ⟨x25_2, x469000_2, u469000, rfl, HA, HK2, HO_469000, BK465, BK466, BK468, HB⟩ := hrel
    cases gk with
    | zero => exact absurd HA.out (by simp [impl_CrashDisk.l0])
    | succ k2 =>
     have H := HA.out
     clear HA
     simp only [impl_CrashDisk.l0] at H
     replace H := ite_ H
     obtain ⟨c24, H⟩ | ⟨c24, H⟩ := H
     rotate_left
     ·have c24b0 := decide_eq_false c24
      clear c24
      simp only [Option.some.injEq, Prod.mk.injEq] at H
      obtain ⟨rfl, rfl⟩ := H
      have hnb60 := NB468_465.out
      have hnc60 := NB465_468.out
      have hnb61 := NB468_466.out
      have hnc61 := NB466_468.out
      obtain ⟨hcz62_0, hfz62_0⟩ := cf1_ BK468.out
      obtain ⟨Ao63, co63, eo63⟩ := Kd.R_slice HO_469000.out
      subst eo63
      have hnb64 := NB466_465.out
      have hnc64 := NB465_466.out
      obtain ⟨hcz65_0, hfz65_0⟩ := cf1_ BK466.out
      go_wp2
      refine bodyPost_ret (results_ct rfl _ _ gb466 31 #[.slice Ao63 x469000_2.length co63] (0, 0) _ rfl (up_ BK466) Try.underlying31 rfl (by kernel_rfl)) rfl ?_
      exact ⟨_, er_, rF_ (Kd.R_mono (Kd.R_far (p := ⟨gb466, 0, none⟩) (Kd.R_types HO_469000.out BK466.out (by decide)) (fun _ hk => hk.2) (.slice Ao63 x469000_2.length co63)) (fun _ hk => trivial)), hs3_ GE465.out GE466.out GE468.out⟩
     have c24b0 := decide_eq_true c24
     clear c24
     replace H := ifs_ H
     obtain ⟨c25, H⟩ := H
     have c25b0 := decide_eq_true c25
     clear c25
     replace H := ifs_ H
     obtain ⟨c26, H⟩ := H
     have c26b0 := decide_eq_true c26
     clear c26
     replace H := ifs_ H
     obtain ⟨c27, H⟩ := H
     have c27b0 := decide_eq_true c27
     clear c27
     replace H := bnd_ H
     obtain ⟨t472, A28, H⟩ := H
     replace H := ifb_ H
     obtain ⟨rfl, H⟩ | ⟨rfl, H⟩ := H
     rotate_left
     ·simp only [Option.some.injEq, Prod.mk.injEq] at H
      obtain ⟨rfl, rfl⟩ := H
      have p469 : 0 ≤ (x25_2 : Int) := oa_
      have q469 : x25_2 < (l0_0.length : Int) := oa_
      obtain ⟨ad469, e469, hx469_0, hx469_1⟩ := at_T56 HR0_0.out x25_2 p469 q469
      cases e469
      replace hx469_0 := pc_ HB.out hx469_0
      replace hx469_1 := pc_ HB.out hx469_1
      replace p469 := eq_true p469
      replace q469 := eq_true q469
      try go_wp2_with (first | ((with_reducible refine gate_dst (N := 8) rfl ?_); (try (refine gate_guard (by rfl) ?_; dsimp only)); refine box_event ?hg (N := 8) ?hd (cs := #[.string (⟨#[]⟩ : ByteArray), .int .i64 0]) (t := 56) ?hr ?_; (case hd => rfl); (case hg => rfl); (case hr => first | (go_simp; done) | (go_simp; rfl)); intro gb470 hg w50 hbox hb; replace HO_469000 := Aside0.mk (Kd.R_below (Kd.R_elderB (kr_ HO_469000.out) gb470 (Nat.le_of_eq hg.symm)) hb); have BK470 := Aside0.mk (hbox); have GE470 := ge3_ hg GE465 GE466 GE468; replace HB := nc3_ GE465 GE466 GE468 hb; have NB465_470 := nl_ BK465 hg; have NB470_465 := ng_ BK465 hg; replace BK465 := bK_ BK465 hb; have NB466_470 := nl_ BK466 hg; have NB470_466 := ng_ BK466 hg; replace BK466 := bK_ BK466 hb; have NB468_470 := nl_ BK468 hg; have NB470_468 := ng_ BK468 hg; replace BK468 := bK_ BK468 hb; clear hb hbox hg; have hnb51 := NB470_465.out; have hnc51 := NB465_470.out; have hnb52 := NB470_466.out; have hnc52 := NB466_470.out; have hnb53 := NB470_468.out; have hnc53 := NB468_470.out; obtain ⟨hcz54_0, hcz54_1, hfz54_0, hfz54_1⟩ := cf2_ BK470.out))
      have n0_ : Aside0 (Kd.R k56 56 ((w50.setCell ⟨gb470, 0, none⟩ (.string ((rd_T56 l0_0 x25_2).f0))).setCell ⟨gb470, 1, none⟩ (.int .i64 ((rd_T56 l0_0 x25_2).f1))) w.heap.size (fun k_ => k_ ≠ gb470) u469000 x469000_2) := ⟨Kd.R_mono (rF_ (Kd.R_mono HO_469000.out (fun k_ hk => (⟨hk, hk.2⟩ : _ ∧ k_ ≠ gb470)))) (fun _ hk => hk.1.2)⟩
      have n1_ : Aside0 (((w50.setCell ⟨gb470, 0, none⟩ (.string ((rd_T56 l0_0 x25_2).f0))).setCell ⟨gb470, 1, none⟩ (.int .i64 ((rd_T56 l0_0 x25_2).f1))).heap[gb465]? = some (.cells #[.slice (some ad469) l0_0.length c0_0] 31 (0, 0))) := ⟨uf_ BK465 NB465_470.out⟩
      have n2_ : Aside0 (((w50.setCell ⟨gb470, 0, none⟩ (.string ((rd_T56 l0_0 x25_2).f0))).setCell ⟨gb470, 1, none⟩ (.int .i64 ((rd_T56 l0_0 x25_2).f1))).heap[gb466]? = some (.cells #[.slice none 0 0] 31 (0, 0))) := ⟨uf_ BK466 NB466_470.out⟩
      have n3_ : Aside0 (((w50.setCell ⟨gb470, 0, none⟩ (.string ((rd_T56 l0_0 x25_2).f0))).setCell ⟨gb470, 1, none⟩ (.int .i64 ((rd_T56 l0_0 x25_2).f1))).heap[gb468]? = some (.cells #[u469000] 31 (0, 0))) := ⟨uf_ BK468 NB468_470.out⟩
      have n4_ : Aside0 (((w50.setCell ⟨gb470, 0, none⟩ (.string ((rd_T56 l0_0 x25_2).f0))).setCell ⟨gb470, 1, none⟩ (.int .i64 ((rd_T56 l0_0 x25_2).f1))).heap[gb470]? = some (.cells #[.string ((rd_T56 l0_0 x25_2).f0), .int .i64 ((rd_T56 l0_0 x25_2).f1)] 56 (0, 0))) := ⟨up_ BK470⟩
      have n5_ : Aside0 (Below w.heap.size w ((w50.setCell ⟨gb470, 0, none⟩ (.string ((rd_T56 l0_0 x25_2).f0))).setCell ⟨gb470, 1, none⟩ (.int .i64 ((rd_T56 l0_0 x25_2).f1)))) := ⟨hs4_ GE465.out GE466.out GE468.out GE470.out⟩
      (try clear HO_469000)
      (try clear BK465)
      (try clear BK466)
      (try clear BK468)
      (try clear BK470)
      (try clear HB)
      generalize ((w50.setCell ⟨gb470, 0, none⟩ (.string ((rd_T56 l0_0 x25_2).f0))).setCell ⟨gb470, 1, none⟩ (.int .i64 ((rd_T56 l0_0 x25_2).f1))) = w55 at n0_ n1_ n2_ n3_ n4_ n5_ ⊢
      have HO_469000 := n0_
      have BK465 := n1_
      have BK466 := n2_
      have BK468 := n3_
      have BK470 := n4_
      have HB := n5_
      clear n0_ n1_ n2_ n3_ n4_ n5_
      replace HO_469000 := qR_ HO_469000
      replace BK465 := qK_ BK465
      replace BK466 := qK_ BK466
      replace BK468 := qK_ BK468
      replace BK470 := qK_ BK470
      replace HB := qH_ HB
      have p471 : 0 ≤ (x25_2 : Int) := oa_
      have q471 : x25_2 < (l1.length : Int) := oa_
      obtain ⟨ad471, e471, hx471_0⟩ := Kd.at_int HR1.out x25_2 p471 q471
      have hw471_0 := hx471_0
      cases e471
      replace hx471_0 := pc_ HB.out hx471_0
      replace p471 := eq_true p471
      replace q471 := eq_true q471
      refine start_ (n := 12) (S := fun w' => w'.cell? ⟨gb470, 0, none⟩ = some (.string ((rd_T56 l0_0 x25_2).f0)) ∧ w'.cell? ⟨gb470, 1, none⟩ = some (.int .i64 ((rd_T56 l0_0 x25_2).f1)) ∧ w'.cell? (ad471.add (x25_2).toNat) = some (.int .i64 (rd l1 x25_2))) (ds := []) (List.replicate 12 false).toArray (by kernel_rfl) rfl rfl ⟨bt_ BK470 0, bt_ BK470 1, (pc_ HB.out hw471_0)⟩ (fun hHeld => ?_); refine with_tabW impl_CrashDisk.tab7 impl_CrashDisk.bits7 (fun HT_ HW_ => ?_)
      generalize w55.drew = w56 at HO_469000 BK465 BK466 BK468 BK470 HB hx471_0 hHeld ⊢
      refine pv_ 0 30 ?_
      refine pv_ 1 31 ?_
      refine pv_ 2 32 ?_
      refine pv_ 4 34 ?_
      refine pv_ 7 37 ?_
      refine tk_ 3 33 ?_
      refine tk_ 5 35 ?_
      refine pv_ 6 36 ?_
      refine tk_ 8 38 ?_
      refine pv_ 9 39 ?_
      refine on_ 10 40 (fun K hK => ?_)
      refine gs_ Try.func77 #[.int .i64 (rd l1 x25_2), .int .i64 0, .int .i64 (wrap64 ((((rd_T56 l0_0 x25_2).f0).size : Int) - ((rd_T56 l0_0 x25_2).f1)))] rfl ma_ ?_
      with_reducible refine (impl_in.calls (rd l1 x25_2) 0 (wrap64 ((((rd_T56 l0_0 x25_2).f0).size : Int) - ((rd_T56 l0_0 x25_2).f1))) false _ A28.out).mono ?_
      rintro e w' ⟨rfl, ⟨nd, rfl⟩⟩
      refine ⟨_, rfl, ?_⟩
      refine hK.out _ _ ⟨bt_ BK470 0, bt_ BK470 1, (pc_ HB.out hw471_0)⟩ (fun hHeld => ?_)
      clear hK K
      refine no_ ?_
      refine pv_ 11 41 ?_
      refine done_ (done_of HT_.out (by kernel_rfl)) ?_
      have hnb57 := NB466_465.out
      have hnc57 := NB465_466.out
      have hnb58 := NB466_468.out
      have hnc58 := NB468_466.out
      obtain ⟨hcz59_0, hfz59_0⟩ := cf1_ BK466.out
      try go_wp2
      refine bodyPost_ret (results_ct rfl _ _ gb466 31 #[.slice none 0 0] (0, 0) _ rfl (up_ BK466) Try.underlying31 rfl (by kernel_rfl)) rfl ?_
      exact ⟨_, er_, ni_, hs4_ GE465.out GE466.out GE468.out GE470.out⟩
     obtain ⟨ji30, hji30⟩ : ∃ j_ : Int, (wrap64 (((rd_T56 l0_0 x25_2).f1) + (rd l1 x25_2))) = j_ := ⟨_, rfl⟩
     first | rw [hji30] at H | simp only [hji30] at H
     (try rw [hji30] at A28)
     have hji30w : (IntKind.i64.wrap (((rd_T56 l0_0 x25_2).f1) + (rd l1 x25_2))) = ji30 := (i64_w _).trans hji30
     replace H := ifs_ H
     obtain ⟨c31, H⟩ := H
     have c31b0 := eq_true c31
     have c31b1 := decide_eq_true c31
     clear c31
     replace H := ifs_ H
     obtain ⟨c32, H⟩ := H
     have c32b0 := eq_true c32
     have c32b1 := decide_eq_true c32
     clear c32
     replace H := ifs_ H
     obtain ⟨c33, H⟩ := H
     have LMc33 := Aside0.mk c33
     clear c33
     obtain ⟨y474, hy474⟩ : ∃ y_ : List (S56), y_ = (x469000_2 ++ [(⟨((rd_T56 l0_0 x25_2).f0).extract 0 ((ji30) : Int).toNat, ji30⟩ : S56)]) := ⟨_, rfl⟩
     replace H : (impl_CrashDisk.l0 k2 l1 l0_0 (l0_0.length : Int) (wrap64 (x25_2 + 1)) y474) = some (r1, r2) := by first | (rw [hy474]; with_reducible exact H) | (have H2_ := (Option.bind_some _ _).symm.trans H; rw [hy474]; with_reducible exact H2_) | (have H2_ := (Option.bind_some _ _).symm.trans H; with_reducible exact H2_) | with_reducible exact H | (rw [hy474]; exact H) | exact H
     have Ny474 := Aside0.mk hy474
     clear hy474
     have H' := Aside0.mk H
     clear H
     have p469 : 0 ≤ (x25_2 : Int) := oa_
     have q469 : x25_2 < (l0_0.length : Int) := oa_
     obtain ⟨ad469, e469, hx469_0, hx469_1⟩ := at_T56 HR0_0.out x25_2 p469 q469
     cases e469
     replace hx469_0 := pc_ HB.out hx469_0
     replace hx469_1 := pc_ HB.out hx469_1
     replace p469 := eq_true p469
     replace q469 := eq_true q469
     try go_wp2_with (first | ((with_reducible refine gate_dst (N := 8) rfl ?_); (try (refine gate_guard (by rfl) ?_; dsimp only)); refine box_event ?hg (N := 8) ?hd (cs := #[.string (⟨#[]⟩ : ByteArray), .int .i64 0]) (t := 56) ?hr ?_; (case hd => rfl); (case hg => rfl); (case hr => first | (go_simp; done) | (go_simp; rfl)); intro gb470 hg w34 hbox hb; replace HO_469000 := Aside0.mk (Kd.R_below (Kd.R_elderB (kr_ HO_469000.out) gb470 (Nat.le_of_eq hg.symm)) hb); have BK470 := Aside0.mk (hbox); have GE470 := ge3_ hg GE465 GE466 GE468; replace HB := nc3_ GE465 GE466 GE468 hb; have NB465_470 := nl_ BK465 hg; have NB470_465 := ng_ BK465 hg; replace BK465 := bK_ BK465 hb; have NB466_470 := nl_ BK466 hg; have NB470_466 := ng_ BK466 hg; replace BK466 := bK_ BK466 hb; have NB468_470 := nl_ BK468 hg; have NB470_468 := ng_ BK468 hg; replace BK468 := bK_ BK468 hb; clear hb hbox hg; have hnb35 := NB470_465.out; have hnc35 := NB465_470.out; have hnb36 := NB470_466.out; have hnc36 := NB466_470.out; have hnb37 := NB470_468.out; have hnc37 := NB468_470.out; obtain ⟨hcz38_0, hcz38_1, hfz38_0, hfz38_1⟩ := cf2_ BK470.out))
     have n0_ : Aside0 (Kd.R k56 56 ((w34.setCell ⟨gb470, 0, none⟩ (.string ((rd_T56 l0_0 x25_2).f0))).setCell ⟨gb470, 1, none⟩ (.int .i64 ((rd_T56 l0_0 x25_2).f1))) w.heap.size (fun k_ => k_ ≠ gb470) u469000 x469000_2) := ⟨Kd.R_mono (rF_ (Kd.R_mono HO_469000.out (fun k_ hk => (⟨hk, hk.2⟩ : _ ∧ k_ ≠ gb470)))) (fun _ hk => hk.1.2)⟩
     have n1_ : Aside0 (((w34.setCell ⟨gb470, 0, none⟩ (.string ((rd_T56 l0_0 x25_2).f0))).setCell ⟨gb470, 1, none⟩ (.int .i64 ((rd_T56 l0_0 x25_2).f1))).heap[gb465]? = some (.cells #[.slice (some ad469) l0_0.length c0_0] 31 (0, 0))) := ⟨uf_ BK465 NB465_470.out⟩
     have n2_ : Aside0 (((w34.setCell ⟨gb470, 0, none⟩ (.string ((rd_T56 l0_0 x25_2).f0))).setCell ⟨gb470, 1, none⟩ (.int .i64 ((rd_T56 l0_0 x25_2).f1))).heap[gb466]? = some (.cells #[.slice none 0 0] 31 (0, 0))) := ⟨uf_ BK466 NB466_470.out⟩
     have n3_ : Aside0 (((w34.setCell ⟨gb470, 0, none⟩ (.string ((rd_T56 l0_0 x25_2).f0))).setCell ⟨gb470, 1, none⟩ (.int .i64 ((rd_T56 l0_0 x25_2).f1))).heap[gb468]? = some (.cells #[u469000] 31 (0, 0))) := ⟨uf_ BK468 NB468_470.out⟩
     have n4_ : Aside0 (((w34.setCell ⟨gb470, 0, none⟩ (.string ((rd_T56 l0_0 x25_2).f0))).setCell ⟨gb470, 1, none⟩ (.int .i64 ((rd_T56 l0_0 x25_2).f1))).heap[gb470]? = some (.cells #[.string ((rd_T56 l0_0 x25_2).f0), .int .i64 ((rd_T56 l0_0 x25_2).f1)] 56 (0, 0))) := ⟨up_ BK470⟩
     have n5_ : Aside0 (Below w.heap.size w ((w34.setCell ⟨gb470, 0, none⟩ (.string ((rd_T56 l0_0 x25_2).f0))).setCell ⟨gb470, 1, none⟩ (.int .i64 ((rd_T56 l0_0 x25_2).f1)))) := ⟨hs4_ GE465.out GE466.out GE468.out GE470.out⟩
     (try clear HO_469000)
     (try clear BK465)
     (try clear BK466)
     (try clear BK468)
     (try clear BK470)
     (try clear HB)
     generalize ((w34.setCell ⟨gb470, 0, none⟩ (.string ((rd_T56 l0_0 x25_2).f0))).setCell ⟨gb470, 1, none⟩ (.int .i64 ((rd_T56 l0_0 x25_2).f1))) = w39 at n0_ n1_ n2_ n3_ n4_ n5_ ⊢
     have HO_469000 := n0_
     have BK465 := n1_
     have BK466 := n2_
     have BK468 := n3_
     have BK470 := n4_
     have HB := n5_
     clear n0_ n1_ n2_ n3_ n4_ n5_
     replace HO_469000 := qR_ HO_469000
     replace BK465 := qK_ BK465
     replace BK466 := qK_ BK466
     replace BK468 := qK_ BK468
     replace BK470 := qK_ BK470
     replace HB := qH_ HB
     have p471 : 0 ≤ (x25_2 : Int) := oa_
     have q471 : x25_2 < (l1.length : Int) := oa_
     obtain ⟨ad471, e471, hx471_0⟩ := Kd.at_int HR1.out x25_2 p471 q471
     have hw471_0 := hx471_0
     cases e471
     replace hx471_0 := pc_ HB.out hx471_0
     replace p471 := eq_true p471
     replace q471 := eq_true q471
     refine start_ (n := 12) (S := fun w' => w'.cell? ⟨gb470, 0, none⟩ = some (.string ((rd_T56 l0_0 x25_2).f0)) ∧ w'.cell? ⟨gb470, 1, none⟩ = some (.int .i64 ((rd_T56 l0_0 x25_2).f1)) ∧ w'.cell? (ad471.add (x25_2).toNat) = some (.int .i64 (rd l1 x25_2))) (ds := []) (List.replicate 12 false).toArray (by kernel_rfl) rfl rfl ⟨bt_ BK470 0, bt_ BK470 1, (pc_ HB.out hw471_0)⟩ (fun hHeld => ?_); refine with_tabW impl_CrashDisk.tab7 impl_CrashDisk.bits7 (fun HT_ HW_ => ?_)
     generalize w39.drew = w40 at HO_469000 BK465 BK466 BK468 BK470 HB hx471_0 hHeld ⊢
     refine pv_ 0 30 ?_
     refine pv_ 1 31 ?_
     refine pv_ 2 32 ?_
     refine pv_ 4 34 ?_
     refine pv_ 7 37 ?_
     refine tk_ 3 33 ?_
     refine tk_ 5 35 ?_
     refine pv_ 6 36 ?_
     refine tk_ 8 38 ?_
     refine pv_ 9 39 ?_
     refine on_ 10 40 (fun K hK => ?_)
     refine gs_ Try.func77 #[.int .i64 (rd l1 x25_2), .int .i64 0, .int .i64 (wrap64 ((((rd_T56 l0_0 x25_2).f0).size : Int) - ((rd_T56 l0_0 x25_2).f1)))] rfl ma_ ?_
     with_reducible refine (impl_in.calls (rd l1 x25_2) 0 (wrap64 ((((rd_T56 l0_0 x25_2).f0).size : Int) - ((rd_T56 l0_0 x25_2).f1))) true _ A28.out).mono ?_
     rintro e w' ⟨rfl, ⟨nd, rfl⟩⟩
     refine ⟨_, rfl, ?_⟩
     refine hK.out _ _ ⟨bt_ BK470 0, bt_ BK470 1, (pc_ HB.out hw471_0)⟩ (fun hHeld => ?_)
     clear hK K
     refine no_ ?_
     refine pv_ 11 41 ?_
     refine done_ (done_of HT_.out (by kernel_rfl)) ?_
     try go_wp2
     (try (rw [drewN_self w40]; generalize hq_ : World.drewN w40 _ = w40; have n0_ : Aside0 (Kd.R k56 56 w40 w.heap.size (fun k_ => k_ ≠ gb470) u469000 x469000_2) := ⟨by rw [← hq_]; exact (kr_ HO_469000.out)⟩; have n1_ : Aside0 (w40.heap[gb465]? = some (.cells #[.slice (some ad469) l0_0.length c0_0] 31 (0, 0))) := ⟨by rw [← hq_]; exact (kb_ BK465.out)⟩; have n2_ : Aside0 (w40.heap[gb466]? = some (.cells #[.slice none 0 0] 31 (0, 0))) := ⟨by rw [← hq_]; exact (kb_ BK466.out)⟩; have n3_ : Aside0 (w40.heap[gb468]? = some (.cells #[u469000] 31 (0, 0))) := ⟨by rw [← hq_]; exact (kb_ BK468.out)⟩; have n4_ : Aside0 (w40.heap[gb470]? = some (.cells #[.string ((rd_T56 l0_0 x25_2).f0), .int .i64 ((rd_T56 l0_0 x25_2).f1)] 56 (0, 0))) := ⟨by rw [← hq_]; exact (kb_ BK470.out)⟩; have n5_ : Aside0 (Below w.heap.size w w40) := ⟨by rw [← hq_]; exact (hs4_ GE465.out GE466.out GE468.out GE470.out)⟩; clear HO_469000 BK465 BK466 BK468 BK470 HB hq_; have HO_469000 := n0_; have BK465 := n1_; have BK466 := n2_; have BK468 := n3_; have BK470 := n4_; have HB := n5_; clear n0_ n1_ n2_ n3_ n4_ n5_))
     replace HO_469000 := qR_ HO_469000
     replace BK465 := qK_ BK465
     replace BK466 := qK_ BK466
     replace BK468 := qK_ BK468
     replace BK470 := qK_ BK470
     replace HB := qH_ HB
     have p473 : 0 ≤ (x25_2 : Int) := oa_
     have q473 : x25_2 < (l1.length : Int) := oa_
     obtain ⟨ad473, e473, hx473_0⟩ := Kd.at_int HR1.out x25_2 p473 q473
     have hw473_0 := hx473_0
     obtain rfl : ad471 = ad473 := (by injection e473)
     replace hx473_0 := pc_ HB.out hx473_0
     replace p473 := eq_true p473
     replace q473 := eq_true q473
     refine start_ (n := 9) (S := fun w' => w'.cell? ⟨gb470, 0, none⟩ = some (.string ((rd_T56 l0_0 x25_2).f0)) ∧ w'.cell? ⟨gb470, 1, none⟩ = some (.int .i64 ((rd_T56 l0_0 x25_2).f1)) ∧ w'.cell? (ad471.add (x25_2).toNat) = some (.int .i64 (rd l1 x25_2))) (ds := [8]) #[false, false, false, false, false, false, false, false, false] (by kernel_rfl) rfl rfl ⟨bt_ BK470 0, bt_ BK470 1, (pc_ HB.out hw473_0)⟩ (fun hHeld => ?_); refine with_tabW impl_CrashDisk.tab9 impl_CrashDisk.bits9 (fun HT_ HW_ => ?_)
     generalize w40.drew = w41 at HO_469000 BK465 BK466 BK468 BK470 HB hx473_0 hHeld ⊢
     refine pv_ 0 43 ?_
     refine pv_ 2 45 ?_
     refine pv_ 3 46 ?_
     refine pv_ 4 47 ?_
     refine tk_ 1 44 ?_
     refine tk_ 5 48 ?_
     refine pv_ 6 49 ?_
     refine pv_ 7 50 ?_
     refine last_ (i := 8) (N := none) #[true, true, true, true, true, true, true, true, true] rfl rfl (one_of HT_.out (by kernel_rfl)) (by decide) (fun K hK => ?_)
     have hs42 : w41.cell? ⟨gb470, 1, none⟩ = some (.int .i64 ((rd_T56 l0_0 x25_2).f1)) := bt_ BK470 1
     have hfs42 := blk_frozen BK470.out 1
     have hns42_0 := NB465_470.out
     have hns42_1 := NB466_470.out
     have hns42_2 := NB468_470.out
     have hms42_0 := NB470_465.out
     have hms42_1 := NB470_466.out
     have hms42_2 := NB470_468.out
     refine skip_ (w1 := ?_) (by rfl) rfl ?_ ?_
     rotate_left
     ·go_simp
      rfl
     refine hK.out _ _ ?_
     clear hK K
     refine done_ (done_of HT_.out (by kernel_rfl)) ?_
     obtain ⟨hcz43_0, hcz43_1, hfz43_0, hfz43_1⟩ := cf2_ BK470.out
     have hnb44 := NB468_465.out
     have hnc44 := NB465_468.out
     have hnb45 := NB468_466.out
     have hnc45 := NB466_468.out
     obtain ⟨hcz46_0, hfz46_0⟩ := cf1_ BK468.out
     try go_wp2_with (first | ((with_reducible refine gate_builtin (b := .append) (xs := #[.tmp 58, .tmp 60]) rfl ?_); (try (refine gate_guard (by rfl) ?_; dsimp only)); at_builtin; refine Kd.R_append k56 (w0 := w) w.heap.size rfl (.tmp 58) (.tmp 60) 29 56 (.agg #[(.string ⟨#[]⟩), (.int .i64 0)]) 24 rfl Try.underlying29 info56 rfl (by decide) (by omega) u469000 x469000_2 (⟨((rd_T56 l0_0 x25_2).f0).extract 0 ((ji30) : Int).toNat, ji30⟩ : S56) [.string (((rd_T56 l0_0 x25_2).f0).extract 0 ((ji30) : Int).toNat), .int .i64 ji30] (fun k_ => k_ ≠ gb470) (fun _ => False) rfl (by first | (go_simp; done) | (go_simp; rfl)) ?aP (fun _ hk => hk.elim) ?aF ?aO ?aB ?aS ?aL ?_; (case aP => exact k56_mkM _ _ _ (⟨((rd_T56 l0_0 x25_2).f0).extract 0 ((ji30) : Int).toNat, ji30⟩ : S56)); (case aB => exact (hs4_ GE465.out GE466.out GE468.out GE470.out)); (case aF => exact (fun k_ hk => Kd.freshB (g := gb470) (o := .cells #[.string (((rd_T56 l0_0 x25_2).f0).extract 0 ((ji30) : Int).toNat), .int .i64 ji30] 56 (0, 0)) (up_ BK470) k_ hk)); (case aO => exact (Kd.R_mono (rF_ (Kd.R_mono HO_469000.out (fun k_ hk => (⟨hk, hk⟩ : _ ∧ k_ ≠ gb470)))) (fun _ hk => hk.1))); (case aS => exact (below_size (hs4_ GE465.out GE466.out GE468.out GE470.out))); (case aL => have := LMc33.out; omega); intro v475 w47 ho hb hg hat; rw [← Ny474.out] at ho; replace BK465 := Aside0.mk (blk_grown (g := gb465) (o := .cells #[.slice (some ad469) l0_0.length c0_0] 31 (0, 0)) (uf_ BK465 NB465_470.out) hg (Kd.R_ne HO_469000.out BK465.out (by decide))); replace BK466 := Aside0.mk (blk_grown (g := gb466) (o := .cells #[.slice none 0 0] 31 (0, 0)) (uf_ BK466 NB466_470.out) hg (Kd.R_ne HO_469000.out BK466.out (by decide))); replace BK468 := Aside0.mk (blk_grown (g := gb468) (o := .cells #[u469000] 31 (0, 0)) (uf_ BK468 NB468_470.out) hg (Kd.R_ne HO_469000.out BK468.out (by decide))); replace BK470 := Aside0.mk (blk_grown (g := gb470) (o := .cells #[.string (((rd_T56 l0_0 x25_2).f0).extract 0 ((ji30) : Int).toNat), .int .i64 ji30] 56 (0, 0)) (up_ BK470) hg (Kd.R_away HO_469000.out (fun _ hk => hk))); replace HB := Aside0.mk (hb); have HO476 := Aside0.mk (ho); clear HO_469000; clear ho hb hg hat; obtain ⟨Ao48, co48, eo48⟩ := Kd.R_slice HO476.out; subst eo48; obtain ⟨hcz49_0, hfz49_0⟩ := cf1_ BK468.out))
     go_roundg k2
     case measure => have := HJ2.out; have := HK2.out; omega
     case rel => exact ⟨(wrap64 (x25_2 + 1)), (y474), (.slice Ao48 y474.length co48), sr_, H', ⟨by have := HJ2.out; have := HK2.out; omega⟩, ⟨rF_ (Kd.R_mono (Kd.R_far (p := ⟨gb468, 0, none⟩) (Kd.R_types HO476.out BK468.out (by decide)) (fun _ hk => hk.2) (.slice Ao48 y474.length co48)) (fun _ hk => trivial))⟩, ⟨uf_ BK465 NB465_468.out⟩, ⟨uf_ BK466 NB466_468.out⟩, ⟨up_ BK468⟩, ⟨hs4_ GE465.out GE466.out GE468.out GE470.out⟩⟩
end Go.Proofs.Ytpdpipfkllfhmaa.QFnTorn
