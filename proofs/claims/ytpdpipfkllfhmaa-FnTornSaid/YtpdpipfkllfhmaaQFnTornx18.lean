/- Functions that one statement reaches: of each a plain function, and the proof that calls come to it. Conditions: those that each contract names. Written by a program of this repository. -/
import Derived.Test.YtpdpipfkllfhmaaVFnTorna
import Derived.Test.YtpdpipfkllfhmaaQFnTornx2
import Derived.Test.YtpdpipfkllfhmaaQFnTornx10
namespace Go.Proofs.Ytpdpipfkllfhmaa.QFnTorn
open Go.RowKit Go.Proofs.YtpdpipfkllfhmaaW.PrintWords Go.Proofs.YtpdpipfkllfhmaaW.PrintLast Go.Proofs.YtpdpipfkllfhmaaW.PrintMore
attribute [local go_sem] max2_int min2_int max_two min_two max_three min_three max_four min_four Go.Proofs.YtpdpipfkllfhmaaW.PrintMore2.isSome_setCell   -- for this text's walks alone
set_option linter.unusedVariables false
set_option linter.unusedSimpArgs false

/-! ### spec_CrashDisk: function 44 -/
mutual
def spec_CrashDisk.j0 : Nat → List Int → Bool → List (S56) → Option ((List (S56)) × Bool)
 | 0, _, _, _ => none
 | k + 1, x1, x20, x478000 => if x20 = true then (some (([] : List (S56)), false)) else ((spec_l3Own.f x478000).bind fun t480 => (spec_CrashDisk.l0 k x1 x478000 (x478000.length : Int) 0 t480))
def spec_CrashDisk.l0 : Nat → List Int → List (S56) → Int → Int → List (S56) → Option ((List (S56)) × Bool)
 | 0, _, _, _, _, _ => none
 | k + 1, x1, x25, x26, x27, x484000 => if x27 < x26 then (if 0 ≤ x27 then (if x27 < (x25.length : Int) then (if x27 < (x1.length : Int) then (if (rd x1 x27) < 0 then (some (([] : List (S56)), false)) else (if (rd x1 x27) > (wrap64 ((((rd_T56 x25 x27).f0).size : Int) - ((rd_T56 x25 x27).f1))) then (some (([] : List (S56)), false)) else (if 0 ≤ (wrap64 (((rd_T56 x25 x27).f1) + (rd x1 x27))) then (if (wrap64 (((rd_T56 x25 x27).f1) + (rd x1 x27))) ≤ (((rd_T56 x25 x27).f0).size : Int) then (if x27 < (x484000.length : Int) then (spec_CrashDisk.l0 k x1 x25 x26 (wrap64 (x27 + 1)) (x484000.set (x27 : Int).toNat (⟨((rd_T56 x25 x27).f0).extract 0 ((wrap64 (((rd_T56 x25 x27).f1) + (rd x1 x27))) : Int).toNat, wrap64 (((rd_T56 x25 x27).f1) + (rd x1 x27))⟩ : S56))) else (none)) else (none)) else (none)))) else (none)) else (none)) else (none)) else (some (x484000, true))
end
def spec_CrashDisk.f (k : Nat) (l0_0 : List (S56)) (l1 : List Int) : Option ((List (S56)) × Bool) := (spec_GoodDisk.f k l0_0).bind fun t479 => (if t479 = true then (spec_CrashDisk.j0 k l1 ((l1.length : Int) != (l0_0.length : Int)) l0_0) else (spec_CrashDisk.j0 k l1 true l0_0))
theorem spec_CrashDisk.mono_l : ∀ k, (∀ y0 y1 y2, LeO (spec_CrashDisk.j0 k y0 y1 y2) (spec_CrashDisk.j0 (k + 1) y0 y1 y2)) ∧ (∀ y0 y1 y2 y3 y4, LeO (spec_CrashDisk.l0 k y0 y1 y2 y3 y4) (spec_CrashDisk.l0 (k + 1) y0 y1 y2 y3 y4))
 | 0 => ⟨fun _ _ _ r h => by simp [spec_CrashDisk.j0] at h, fun _ _ _ _ _ r h => by simp [spec_CrashDisk.l0] at h⟩
 | k + 1 => by
  obtain ⟨ih0, ih1⟩ := spec_CrashDisk.mono_l k
  refine ⟨?_, ?_⟩
  all_goals intros; first | unfold spec_CrashDisk.j0 | unfold spec_CrashDisk.l0
  all_goals repeat' first | (with_reducible first | apply ih0 | apply ih1 | apply spec_GoodDisk.mono | exact LeO.refl _ | exact LeO.none _ | refine LeO.ite ?_ ?_ | refine LeO.bind ?_ (fun _ => ?_))
theorem spec_CrashDisk.mono : ∀ a0 a1 k, LeO (spec_CrashDisk.f k a0 a1) (spec_CrashDisk.f (k + 1) a0 a1) := by
 intro a0 a1 k
 obtain ⟨ih0, ih1⟩ := spec_CrashDisk.mono_l k
 unfold spec_CrashDisk.f
 repeat' first
   | (with_reducible first | apply ih0 | apply ih1 | apply spec_GoodDisk.mono | exact LeO.refl _ | exact LeO.none _ | refine LeO.ite ?_ ?_ | refine LeO.bind ?_ (fun _ => ?_))
def spec_CrashDisk.T7 : Bool × List (List Nat × List Nat) := (true, [([], []), ([], []), ([0, 1], [0, 1]), ([2], [2]), ([3], [3]), ([4], [4]), ([5], [5]), ([5], [5]), ([6, 7, 5], [5, 6, 7]), ([8, 5], [5, 8]), ([5], [5]), ([10, 5], [5, 10]), ([11, 5], [5, 11]), ([5], [5]), ([13, 5], [5, 13]), ([12, 14, 5], [5, 12, 14]), ([9, 15, 5], [5, 9, 15]), ([5, 16], [5, 16])])
def spec_CrashDisk.B7 : List Nat := [0, 0, 3, 7, 15, 31, 63, 63, 255, 511, 63, 1087, 3135, 63, 8255, 31807, 65535, 131071]
theorem spec_CrashDisk.tab7 : rtab .any (opsOf Try.f44 7) = spec_CrashDisk.T7 := by kernel_rfl
theorem spec_CrashDisk.bits7 : waitsOk spec_CrashDisk.T7.2 spec_CrashDisk.B7 = true := by kernel_rfl
def spec_CrashDisk.T9 : Bool × List (List Nat × List Nat) := (true, [([], []), ([0], [0]), ([], []), ([], []), ([2, 3], [2, 3]), ([4], [4]), ([1, 5], [1, 5]), ([6, 0, 1, 2, 3, 4, 5, 6], [6])])
def spec_CrashDisk.B9 : List Nat := [0, 1, 0, 0, 12, 28, 63, 127]
theorem spec_CrashDisk.tab9 : rtab .any (opsOf Try.f44 9) = spec_CrashDisk.T9 := by kernel_rfl
theorem spec_CrashDisk.bits9 : waitsOk spec_CrashDisk.T9.2 spec_CrashDisk.B9 = true := by kernel_rfl
def spec_CrashDisk.T10 : Bool × List (List Nat × List Nat) := (true, [([], []), ([0], [0]), ([], []), ([], []), ([3], [3]), ([], []), ([4, 5], [4, 5]), ([], []), ([6, 7], [6, 7]), ([1, 2, 0, 1, 2, 3, 4, 5, 6, 7, 8], [1, 2]), ([9, 8, 0, 1, 2, 3, 4, 5, 6, 7, 8], [8, 9])])
def spec_CrashDisk.B10 : List Nat := [0, 1, 0, 0, 8, 0, 56, 0, 248, 511, 1023]
theorem spec_CrashDisk.tab10 : rtab .any (opsOf Try.f44 10) = spec_CrashDisk.T10 := by kernel_rfl
theorem spec_CrashDisk.bits10 : waitsOk spec_CrashDisk.T10.2 spec_CrashDisk.B10 = true := by kernel_rfl
set_option maxHeartbeats 8000000 in
set_option maxRecDepth 100000 in
theorem spec_CrashDisk.calls (k : Nat) (A0_0 : Option Addr) (c0_0 : Nat) (l0_0 : List (S56)) (A1 : Option Addr) (c1 : Nat) (l1 : List Int) (r1 : List (S56)) (r2 : Bool) (w : World) (hr0_0 : Kd.C k56 w A0_0 l0_0.length l0_0) (hc0_0 : l0_0.length ≤ c0_0) (hr1 : Kd.C (Kd.int .i64) w A1 l1.length l1) (hc1 : l1.length ≤ c1) (h : spec_CrashDisk.f k l0_0 l1 = some (r1, r2)) :
  Calls Try.prog 44 #[.agg #[.slice A0_0 l0_0.length c0_0], .slice A1 l1.length c1] w fun e w' => ∃ v0_ : Value, e = .returned (.tuple #[.agg #[v0_], .bool r2]) ∧ Kd.R k56 56 w' w.heap.size (fun _ => True) v0_ r1 ∧ Below w.heap.size w w' := by
 have hu31 := Try.underlying31
 have hu56 := Try.underlying56
 have HR0_0 := Aside0.mk hr0_0
 have HC0_0 := Aside0.mk hc0_0
 clear hr0_0 hc0_0
 have HR1 := Aside0.mk hr1
 have HC1 := Aside0.mk hc1
 clear hr1 hc1
 have HB := Aside0.mk (Below.refl w.heap.size w)
 have H : ((spec_GoodDisk.f k l0_0).bind fun t479 => (if t479 = true then (spec_CrashDisk.j0 k l1 ((l1.length : Int) != (l0_0.length : Int)) l0_0) else (spec_CrashDisk.j0 k l1 true l0_0))) = some (r1, r2) := h
 clear h
 have HC3 := Aside0.mk H
 clear H
 go_enter Try.func44, Try.ntmps44
 go_upto_region 1 with (first | ((with_reducible refine gate_dst (N := 2) rfl ?_); (try (refine gate_guard (by rfl) ?_; dsimp only)); refine bq_ (N := 2) #[.slice A0_0 l0_0.length c0_0] 31 ?_; intro gb477 hg w4 BK477 hb; have GE477 := ge_ hg; replace HB := nb_ hb; clear hb hg) | ((with_reducible refine gate_dst (N := 4) rfl ?_); (try (refine gate_guard (by rfl) ?_; dsimp only)); refine bq_ (N := 4) #[.slice none 0 0] 31 ?_; intro gb478 hg w5 BK478 hb; have GE478 := ge1_ hg GE477; replace HB := nc_ GE477 hb; have NB477_478 := nl_ BK477 hg; have NB478_477 := ng_ BK477 hg; replace BK477 := bK_ BK477 hb; clear hb hg))
 (try simp only [Act.put, List.setIfInBounds_toArray, List.set_cons_zero, List.set_cons_succ])
 go_cut [20] (fun v20 wc => ∃ (kq : Nat) (x20_2 : Bool), v20 = .bool x20_2 ∧ Aside0 (spec_CrashDisk.j0 kq l1 x20_2 l0_0 = some (r1, r2)) ∧ Aside0 (kq ≤ k) ∧ Aside0 (wc.heap[gb477]? = some (.cells #[(.slice A0_0 l0_0.length c0_0)] 31 (0, 0))) ∧ Aside0 (wc.heap[gb478]? = some (.cells #[(.slice none 0 0)] 31 (0, 0))) ∧ Aside0 (Below w.heap.size w wc))
 case first =>
  have H := HC3.out
  clear HC3
  replace H := bnd_ H
  obtain ⟨t479, A6, H⟩ := H
  replace H := ifb_ H
  obtain ⟨rfl, H⟩ | ⟨rfl, H⟩ := H
  rotate_left
  ·have H' := Aside0.mk H
   clear H
   have hnb12 := NB477_478.out
   have hnc12 := NB478_477.out
   obtain ⟨hcz13_0, hfz13_0⟩ := cf1_ BK477.out
   go_wp2_with (first | ((with_reducible refine gate_callee (f := 45) rfl ?_); refine gl_ 11 Try.func45 #[.agg #[.slice A0_0 l0_0.length c0_0]] rfl ma_ ?_; (with_reducible refine (spec_GoodDisk.calls k _ _ l0_0 false _ ?side1 ?side2 A6.out).mono ?_); (case side1 => exact cs_ ((Kd.C_below HR0_0.out HB.out))); (case side2 => exact HC0_0.out); rintro e w14 ⟨rfl, hb⟩; refine ⟨_, rfl, ?_⟩; replace BK477 := bK_ BK477 hb; replace BK478 := bK_ BK478 hb; replace HB := nc2_ GE477 GE478 hb; (try clear hb); (try clear hb2); (try clear hk); (try clear hi)))
   go_meet
   case rel => exact ⟨_, (true), sr_, H', ⟨by first | omega | exact Nat.le_refl _⟩, ⟨kb_ BK477.out⟩, ⟨kb_ BK478.out⟩, ⟨hs2_ GE477.out GE478.out⟩⟩
  have H' := Aside0.mk H
  clear H
  have hnb8 := NB477_478.out
  have hnc8 := NB478_477.out
  obtain ⟨hcz9_0, hfz9_0⟩ := cf1_ BK477.out
  go_wp2_with (first | ((with_reducible refine gate_callee (f := 45) rfl ?_); refine gl_ 11 Try.func45 #[.agg #[.slice A0_0 l0_0.length c0_0]] rfl ma_ ?_; (with_reducible refine (spec_GoodDisk.calls k _ _ l0_0 true _ ?side1 ?side2 A6.out).mono ?_); (case side1 => exact cs_ ((Kd.C_below HR0_0.out HB.out))); (case side2 => exact HC0_0.out); rintro e w10 ⟨rfl, hb⟩; refine ⟨_, rfl, ?_⟩; replace BK477 := bK_ BK477 hb; replace BK478 := bK_ BK478 hb; replace HB := nc2_ GE477 GE478 hb; (try clear hb); (try clear hb2); (try clear hk); (try clear hi); obtain ⟨hcz11_0, hfz11_0⟩ := cf1_ BK477.out))
  go_meet
  case rel => exact ⟨_, (((l1.length : Int) != (l0_0.length : Int))), sr_, H', ⟨by first | omega | exact Nat.le_refl _⟩, ⟨kb_ BK477.out⟩, ⟨kb_ BK478.out⟩, ⟨hs2_ GE477.out GE478.out⟩⟩
 case rest =>
  clear HC3
  try clear c1
  obtain ⟨kq, x20_2, rfl, HA, HJ2, BK477, BK478, HB⟩ := hcut
  cases kq with
  | zero => exact absurd HA.out (by simp [spec_CrashDisk.j0])
  | succ kj2 =>
   have H := HA.out
   clear HA
   simp only [spec_CrashDisk.j0] at H
   replace H := ifb_ H
   obtain ⟨rfl, H⟩ | ⟨rfl, H⟩ := H
   ·simp only [Option.some.injEq, Prod.mk.injEq] at H
    obtain ⟨rfl, rfl⟩ := H
    have hnb16 := NB478_477.out
    have hnc16 := NB477_478.out
    obtain ⟨hcz17_0, hfz17_0⟩ := cf1_ BK478.out
    go_wp2
    refine bodyPost_ret (results_ct rfl _ _ gb478 31 #[.slice none 0 0] (0, 0) _ rfl (up_ BK478) Try.underlying31 rfl (by kernel_rfl)) rfl ?_
    exact ⟨_, er_, ni_, hs2_ GE477.out GE478.out⟩
   replace H := bnd_ H
   obtain ⟨t480, A18, H⟩ := H
   have H' := Aside0.mk H
   clear H
   have hnb19 := NB477_478.out
   have hnc19 := NB478_477.out
   obtain ⟨hcz20_0, hfz20_0⟩ := cf1_ BK477.out
   go_wp2_with (first | ((with_reducible refine gate_callee (f := 76) rfl ?_); refine gl_ 23 Try.func76 #[.agg #[.slice A0_0 l0_0.length c0_0]] rfl ma_ ?_; (with_reducible refine (spec_l3Own.calls _ _ l0_0 t480 _ ?side1 ?side2 A18.out).mono ?_); (case side1 => exact cs_ ((Kd.C_below HR0_0.out HB.out))); (case side2 => exact HC0_0.out); rintro e w21 ⟨v481, rfl, ho0, hb⟩; refine ⟨_, rfl, ?_⟩; have HO482 := Aside0.mk (Kd.R_lower ho0 (below_size (hs2_ GE477.out GE478.out))); replace BK477 := bK_ BK477 hb; replace BK478 := bK_ BK478 hb; replace HB := nc2_ GE477 GE478 hb; (try clear hb); (try clear hb2); (try clear hk); (try clear hi); (try clear ho0)) | ((with_reducible refine gate_dst (N := 6) rfl ?_); (try (refine gate_guard (by rfl) ?_; dsimp only)); refine bq_ (N := 6) #[.slice none 0 0] 31 ?_; intro gb483 hg w22 BK483 hb; replace HO482 := rB_ HO482 hb; have GE483 := ge2_ hg GE477 GE478; replace HB := nc2_ GE477 GE478 hb; have NB477_483 := nl_ BK477 hg; have NB483_477 := ng_ BK477 hg; replace BK477 := bK_ BK477 hb; have NB478_483 := nl_ BK478 hg; have NB483_478 := ng_ BK478 hg; replace BK478 := bK_ BK478 hb; clear hb hg; obtain ⟨Ao23, co23, eo23⟩ := Kd.R_slice HO482.out; subst eo23; have hnb24 := NB483_477.out; have hnc24 := NB477_483.out; have hnb25 := NB483_478.out; have hnc25 := NB478_483.out; obtain ⟨hcz26_0, hfz26_0⟩ := cf1_ BK483.out; obtain ⟨hcz27_0, hfz27_0⟩ := cf1_ BK477.out))
   go_loopg [27] kj2 (fun kq v27 w' => ∃ (x27_2 : Int) (x484000_2 : List (S56)) (u484000 : Value), v27 = .int .i64 x27_2 ∧ Aside0 (spec_CrashDisk.l0 kq l1 l0_0 (l0_0.length : Int) x27_2 x484000_2 = some (r1, r2)) ∧ Aside0 (kq ≤ kj2) ∧ Aside0 (Kd.R k56 56 w' w.heap.size (fun _ => True) u484000 x484000_2) ∧ Aside0 (w'.heap[gb477]? = some (.cells #[(.slice A0_0 l0_0.length c0_0)] 31 (0, 0))) ∧ Aside0 (w'.heap[gb478]? = some (.cells #[(.slice none 0 0)] 31 (0, 0))) ∧ Aside0 (w'.heap[gb483]? = some (.cells #[u484000] 31 (0, 0))) ∧ Aside0 (Below w.heap.size w w'))
   case atStart => exact ⟨(0), (t480), (.slice Ao23 t480.length co23), sr_, H', ⟨Nat.le_refl _⟩, ⟨rF_ (Kd.R_mono (Kd.R_far (p := ⟨gb483, 0, none⟩) (Kd.R_types HO482.out BK483.out (by decide)) (fun _ hk => hk.2) (.slice Ao23 t480.length co23)) (fun _ hk => trivial))⟩, ⟨uf_ BK477 NB477_483.out⟩, ⟨uf_ BK478 NB478_483.out⟩, ⟨up_ BK483⟩, ⟨hs3_ GE477.out GE478.out GE483.out⟩⟩
   case round =>
    clear H'
    try clear c1
    try clear hcz20_0
    try clear hcz26_0
    try clear hcz27_0
    try clear hfz20_0
    try clear hfz26_0
    try clear hfz27_0
    obtain ⟨x27_2, x484000_2, u484000, rfl, HA, HK2, HO_484000, BK477, BK478, BK483, HB⟩ := hrel
    cases gk with
    | zero => exact absurd HA.out (by simp [spec_CrashDisk.l0])
    | succ k2 =>
     have H := HA.out
     clear HA
     simp only [spec_CrashDisk.l0] at H
     replace H := ite_ H
     obtain ⟨c28, H⟩ | ⟨c28, H⟩ := H
     rotate_left
     ·have c28b0 := decide_eq_false c28
      clear c28
      simp only [Option.some.injEq, Prod.mk.injEq] at H
      obtain ⟨rfl, rfl⟩ := H
      have hnb69 := NB483_477.out
      have hnc69 := NB477_483.out
      have hnb70 := NB483_478.out
      have hnc70 := NB478_483.out
      obtain ⟨hcz71_0, hfz71_0⟩ := cf1_ BK483.out
      obtain ⟨Ao72, co72, eo72⟩ := Kd.R_slice HO_484000.out
      subst eo72
      have hnb73 := NB478_477.out
      have hnc73 := NB477_478.out
      obtain ⟨hcz74_0, hfz74_0⟩ := cf1_ BK478.out
      go_wp2
      refine bodyPost_ret (results_ct rfl _ _ gb478 31 #[.slice Ao72 x484000_2.length co72] (0, 0) _ rfl (up_ BK478) Try.underlying31 rfl (by kernel_rfl)) rfl ?_
      exact ⟨_, er_, rF_ (Kd.R_mono (Kd.R_far (p := ⟨gb478, 0, none⟩) (Kd.R_types HO_484000.out BK478.out (by decide)) (fun _ hk => hk.2) (.slice Ao72 x484000_2.length co72)) (fun _ hk => trivial)), hs3_ GE477.out GE478.out GE483.out⟩
     have c28b0 := decide_eq_true c28
     clear c28
     replace H := ifs_ H
     obtain ⟨c29, H⟩ := H
     have c29b0 := decide_eq_true c29
     clear c29
     replace H := ifs_ H
     obtain ⟨c30, H⟩ := H
     have c30b0 := decide_eq_true c30
     clear c30
     replace H := ifs_ H
     obtain ⟨c31, H⟩ := H
     have c31b0 := decide_eq_true c31
     clear c31
     replace H := ite_ H
     obtain ⟨c32, H⟩ | ⟨c32, H⟩ := H
     ·have c32b0 := decide_eq_true c32
      clear c32
      simp only [Option.some.injEq, Prod.mk.injEq] at H
      obtain ⟨rfl, rfl⟩ := H
      have p484 : 0 ≤ (x27_2 : Int) := oa_
      have q484 : x27_2 < (l0_0.length : Int) := oa_
      obtain ⟨ad484, e484, hx484_0, hx484_1⟩ := at_T56 HR0_0.out x27_2 p484 q484
      cases e484
      replace hx484_0 := pc_ HB.out hx484_0
      replace hx484_1 := pc_ HB.out hx484_1
      replace p484 := eq_true p484
      replace q484 := eq_true q484
      try go_wp2_with (first | ((with_reducible refine gate_dst (N := 8) rfl ?_); (try (refine gate_guard (by rfl) ?_; dsimp only)); refine box_event ?hg (N := 8) ?hd (cs := #[.string (⟨#[]⟩ : ByteArray), .int .i64 0]) (t := 56) ?hr ?_; (case hd => rfl); (case hg => rfl); (case hr => first | (go_simp; done) | (go_simp; rfl)); intro gb485 hg w33 hbox hb; replace HO_484000 := Aside0.mk (Kd.R_below (Kd.R_elderB (kr_ HO_484000.out) gb485 (Nat.le_of_eq hg.symm)) hb); have BK485 := Aside0.mk (hbox); have GE485 := ge3_ hg GE477 GE478 GE483; replace HB := nc3_ GE477 GE478 GE483 hb; have NB477_485 := nl_ BK477 hg; have NB485_477 := ng_ BK477 hg; replace BK477 := bK_ BK477 hb; have NB478_485 := nl_ BK478 hg; have NB485_478 := ng_ BK478 hg; replace BK478 := bK_ BK478 hb; have NB483_485 := nl_ BK483 hg; have NB485_483 := ng_ BK483 hg; replace BK483 := bK_ BK483 hb; clear hb hbox hg; have hnb34 := NB485_477.out; have hnc34 := NB477_485.out; have hnb35 := NB485_478.out; have hnc35 := NB478_485.out; have hnb36 := NB485_483.out; have hnc36 := NB483_485.out; obtain ⟨hcz37_0, hcz37_1, hfz37_0, hfz37_1⟩ := cf2_ BK485.out))
      have n0_ : Aside0 (Kd.R k56 56 ((w33.setCell ⟨gb485, 0, none⟩ (.string ((rd_T56 l0_0 x27_2).f0))).setCell ⟨gb485, 1, none⟩ (.int .i64 ((rd_T56 l0_0 x27_2).f1))) w.heap.size (fun k_ => k_ ≠ gb485) u484000 x484000_2) := ⟨Kd.R_mono (rF_ (Kd.R_mono HO_484000.out (fun k_ hk => (⟨hk, hk.2⟩ : _ ∧ k_ ≠ gb485)))) (fun _ hk => hk.1.2)⟩
      have n1_ : Aside0 (((w33.setCell ⟨gb485, 0, none⟩ (.string ((rd_T56 l0_0 x27_2).f0))).setCell ⟨gb485, 1, none⟩ (.int .i64 ((rd_T56 l0_0 x27_2).f1))).heap[gb477]? = some (.cells #[.slice (some ad484) l0_0.length c0_0] 31 (0, 0))) := ⟨uf_ BK477 NB477_485.out⟩
      have n2_ : Aside0 (((w33.setCell ⟨gb485, 0, none⟩ (.string ((rd_T56 l0_0 x27_2).f0))).setCell ⟨gb485, 1, none⟩ (.int .i64 ((rd_T56 l0_0 x27_2).f1))).heap[gb478]? = some (.cells #[.slice none 0 0] 31 (0, 0))) := ⟨uf_ BK478 NB478_485.out⟩
      have n3_ : Aside0 (((w33.setCell ⟨gb485, 0, none⟩ (.string ((rd_T56 l0_0 x27_2).f0))).setCell ⟨gb485, 1, none⟩ (.int .i64 ((rd_T56 l0_0 x27_2).f1))).heap[gb483]? = some (.cells #[u484000] 31 (0, 0))) := ⟨uf_ BK483 NB483_485.out⟩
      have n4_ : Aside0 (((w33.setCell ⟨gb485, 0, none⟩ (.string ((rd_T56 l0_0 x27_2).f0))).setCell ⟨gb485, 1, none⟩ (.int .i64 ((rd_T56 l0_0 x27_2).f1))).heap[gb485]? = some (.cells #[.string ((rd_T56 l0_0 x27_2).f0), .int .i64 ((rd_T56 l0_0 x27_2).f1)] 56 (0, 0))) := ⟨up_ BK485⟩
      have n5_ : Aside0 (Below w.heap.size w ((w33.setCell ⟨gb485, 0, none⟩ (.string ((rd_T56 l0_0 x27_2).f0))).setCell ⟨gb485, 1, none⟩ (.int .i64 ((rd_T56 l0_0 x27_2).f1)))) := ⟨hs4_ GE477.out GE478.out GE483.out GE485.out⟩
      (try clear HO_484000)
      (try clear BK477)
      (try clear BK478)
      (try clear BK483)
      (try clear BK485)
      (try clear HB)
      generalize ((w33.setCell ⟨gb485, 0, none⟩ (.string ((rd_T56 l0_0 x27_2).f0))).setCell ⟨gb485, 1, none⟩ (.int .i64 ((rd_T56 l0_0 x27_2).f1))) = w38 at n0_ n1_ n2_ n3_ n4_ n5_ ⊢
      have HO_484000 := n0_
      have BK477 := n1_
      have BK478 := n2_
      have BK483 := n3_
      have BK485 := n4_
      have HB := n5_
      clear n0_ n1_ n2_ n3_ n4_ n5_
      replace HO_484000 := qR_ HO_484000
      replace BK477 := qK_ BK477
      replace BK478 := qK_ BK478
      replace BK483 := qK_ BK483
      replace BK485 := qK_ BK485
      replace HB := qH_ HB
      have p486 : 0 ≤ (x27_2 : Int) := oa_
      have q486 : x27_2 < (l1.length : Int) := oa_
      obtain ⟨ad486, e486, hx486_0⟩ := Kd.at_int HR1.out x27_2 p486 q486
      have hw486_0 := hx486_0
      cases e486
      replace hx486_0 := pc_ HB.out hx486_0
      replace p486 := eq_true p486
      replace q486 := eq_true q486
      refine start_ (n := 18) (S := fun w' => w'.cell? (ad486.add (x27_2).toNat) = some (.int .i64 (rd l1 x27_2))) (ds := []) (List.replicate 18 false).toArray (by kernel_rfl) rfl rfl ((pc_ HB.out hw486_0)) (fun hHeld => ?_); refine with_tabW spec_CrashDisk.tab7 spec_CrashDisk.bits7 (fun HT_ HW_ => ?_)
      generalize w38.drew = w39 at HO_484000 BK477 BK478 BK483 BK485 HB hx486_0 hHeld ⊢
      refine pv_ 0 32 ?_
      refine pv_ 1 33 ?_
      refine pv_ 2 34 ?_
      refine take_ (i := 3) (N := some 35) (v := ?_) (a' := ?_) #[true, true, true, true, false, false, false, false, false, false, false, false, false, false, false, false, false, false] rfl rfl (take_ofW HT_.out HW_.out (by kernel_rfl)) (fun _ _ _ h => h) (Or.inl ⟨by rfl, ?_⟩) hHeld ?_ ?_
      rotate_left
      ·intro w' s0
       go_simp
       with_reducible rfl
      rotate_left
      ·simp only [Act.put, List.setIfInBounds_toArray, List.set_cons_zero, List.set_cons_succ, i64_w, i32_w]
       rfl
      refine pv_ 4 36 ?_
      refine pv_ 5 37 ?_
      refine po_ 6 38 ?_
      refine po_ 7 39 ?_
      refine po_ 8 40 ?_
      refine po_ 9 41 ?_
      refine po_ 10 42 ?_
      refine po_ 11 43 ?_
      refine po_ 12 44 ?_
      refine po_ 13 45 ?_
      refine po_ 14 46 ?_
      refine po_ 15 47 ?_
      refine po_ 16 48 ?_
      refine pv_ 17 49 ?_
      refine done_ (done_of HT_.out (by kernel_rfl)) ?_
      have hnb40 := NB478_477.out
      have hnc40 := NB477_478.out
      have hnb41 := NB478_483.out
      have hnc41 := NB483_478.out
      obtain ⟨hcz42_0, hfz42_0⟩ := cf1_ BK478.out
      try go_wp2
      refine bodyPost_ret (results_ct rfl _ _ gb478 31 #[.slice none 0 0] (0, 0) _ rfl (up_ BK478) Try.underlying31 rfl (by kernel_rfl)) rfl ?_
      exact ⟨_, er_, ni_, hs4_ GE477.out GE478.out GE483.out GE485.out⟩
     have c32b0 := decide_eq_false c32
     clear c32
     replace H := ite_ H
     obtain ⟨c43, H⟩ | ⟨c43, H⟩ := H
     ·have c43b0 := dgt_ c43
      clear c43
      simp only [Option.some.injEq, Prod.mk.injEq] at H
      obtain ⟨rfl, rfl⟩ := H
      have p484 : 0 ≤ (x27_2 : Int) := oa_
      have q484 : x27_2 < (l0_0.length : Int) := oa_
      obtain ⟨ad484, e484, hx484_0, hx484_1⟩ := at_T56 HR0_0.out x27_2 p484 q484
      cases e484
      replace hx484_0 := pc_ HB.out hx484_0
      replace hx484_1 := pc_ HB.out hx484_1
      replace p484 := eq_true p484
      replace q484 := eq_true q484
      try go_wp2_with (first | ((with_reducible refine gate_dst (N := 8) rfl ?_); (try (refine gate_guard (by rfl) ?_; dsimp only)); refine box_event ?hg (N := 8) ?hd (cs := #[.string (⟨#[]⟩ : ByteArray), .int .i64 0]) (t := 56) ?hr ?_; (case hd => rfl); (case hg => rfl); (case hr => first | (go_simp; done) | (go_simp; rfl)); intro gb485 hg w44 hbox hb; replace HO_484000 := Aside0.mk (Kd.R_below (Kd.R_elderB (kr_ HO_484000.out) gb485 (Nat.le_of_eq hg.symm)) hb); have BK485 := Aside0.mk (hbox); have GE485 := ge3_ hg GE477 GE478 GE483; replace HB := nc3_ GE477 GE478 GE483 hb; have NB477_485 := nl_ BK477 hg; have NB485_477 := ng_ BK477 hg; replace BK477 := bK_ BK477 hb; have NB478_485 := nl_ BK478 hg; have NB485_478 := ng_ BK478 hg; replace BK478 := bK_ BK478 hb; have NB483_485 := nl_ BK483 hg; have NB485_483 := ng_ BK483 hg; replace BK483 := bK_ BK483 hb; clear hb hbox hg; have hnb45 := NB485_477.out; have hnc45 := NB477_485.out; have hnb46 := NB485_478.out; have hnc46 := NB478_485.out; have hnb47 := NB485_483.out; have hnc47 := NB483_485.out; obtain ⟨hcz48_0, hcz48_1, hfz48_0, hfz48_1⟩ := cf2_ BK485.out))
      have n0_ : Aside0 (Kd.R k56 56 ((w44.setCell ⟨gb485, 0, none⟩ (.string ((rd_T56 l0_0 x27_2).f0))).setCell ⟨gb485, 1, none⟩ (.int .i64 ((rd_T56 l0_0 x27_2).f1))) w.heap.size (fun k_ => k_ ≠ gb485) u484000 x484000_2) := ⟨Kd.R_mono (rF_ (Kd.R_mono HO_484000.out (fun k_ hk => (⟨hk, hk.2⟩ : _ ∧ k_ ≠ gb485)))) (fun _ hk => hk.1.2)⟩
      have n1_ : Aside0 (((w44.setCell ⟨gb485, 0, none⟩ (.string ((rd_T56 l0_0 x27_2).f0))).setCell ⟨gb485, 1, none⟩ (.int .i64 ((rd_T56 l0_0 x27_2).f1))).heap[gb477]? = some (.cells #[.slice (some ad484) l0_0.length c0_0] 31 (0, 0))) := ⟨uf_ BK477 NB477_485.out⟩
      have n2_ : Aside0 (((w44.setCell ⟨gb485, 0, none⟩ (.string ((rd_T56 l0_0 x27_2).f0))).setCell ⟨gb485, 1, none⟩ (.int .i64 ((rd_T56 l0_0 x27_2).f1))).heap[gb478]? = some (.cells #[.slice none 0 0] 31 (0, 0))) := ⟨uf_ BK478 NB478_485.out⟩
      have n3_ : Aside0 (((w44.setCell ⟨gb485, 0, none⟩ (.string ((rd_T56 l0_0 x27_2).f0))).setCell ⟨gb485, 1, none⟩ (.int .i64 ((rd_T56 l0_0 x27_2).f1))).heap[gb483]? = some (.cells #[u484000] 31 (0, 0))) := ⟨uf_ BK483 NB483_485.out⟩
      have n4_ : Aside0 (((w44.setCell ⟨gb485, 0, none⟩ (.string ((rd_T56 l0_0 x27_2).f0))).setCell ⟨gb485, 1, none⟩ (.int .i64 ((rd_T56 l0_0 x27_2).f1))).heap[gb485]? = some (.cells #[.string ((rd_T56 l0_0 x27_2).f0), .int .i64 ((rd_T56 l0_0 x27_2).f1)] 56 (0, 0))) := ⟨up_ BK485⟩
      have n5_ : Aside0 (Below w.heap.size w ((w44.setCell ⟨gb485, 0, none⟩ (.string ((rd_T56 l0_0 x27_2).f0))).setCell ⟨gb485, 1, none⟩ (.int .i64 ((rd_T56 l0_0 x27_2).f1)))) := ⟨hs4_ GE477.out GE478.out GE483.out GE485.out⟩
      (try clear HO_484000)
      (try clear BK477)
      (try clear BK478)
      (try clear BK483)
      (try clear BK485)
      (try clear HB)
      generalize ((w44.setCell ⟨gb485, 0, none⟩ (.string ((rd_T56 l0_0 x27_2).f0))).setCell ⟨gb485, 1, none⟩ (.int .i64 ((rd_T56 l0_0 x27_2).f1))) = w49 at n0_ n1_ n2_ n3_ n4_ n5_ ⊢
      have HO_484000 := n0_
      have BK477 := n1_
      have BK478 := n2_
      have BK483 := n3_
      have BK485 := n4_
      have HB := n5_
      clear n0_ n1_ n2_ n3_ n4_ n5_
      replace HO_484000 := qR_ HO_484000
      replace BK477 := qK_ BK477
      replace BK478 := qK_ BK478
      replace BK483 := qK_ BK483
      replace BK485 := qK_ BK485
      replace HB := qH_ HB
      have p486 : 0 ≤ (x27_2 : Int) := oa_
      have q486 : x27_2 < (l1.length : Int) := oa_
      obtain ⟨ad486, e486, hx486_0⟩ := Kd.at_int HR1.out x27_2 p486 q486
      have hw486_0 := hx486_0
      cases e486
      replace hx486_0 := pc_ HB.out hx486_0
      replace p486 := eq_true p486
      replace q486 := eq_true q486
      have p487 : 0 ≤ (x27_2 : Int) := oa_
      have q487 : x27_2 < (l1.length : Int) := oa_
      obtain ⟨ad487, e487, hx487_0⟩ := Kd.at_int HR1.out x27_2 p487 q487
      have hw487_0 := hx487_0
      obtain rfl : ad486 = ad487 := (by injection e487)
      replace hx487_0 := pc_ HB.out hx487_0
      replace p487 := eq_true p487
      replace q487 := eq_true q487
      refine start_ (n := 18) (S := fun w' => w'.cell? ⟨gb485, 0, none⟩ = some (.string ((rd_T56 l0_0 x27_2).f0)) ∧ w'.cell? ⟨gb485, 1, none⟩ = some (.int .i64 ((rd_T56 l0_0 x27_2).f1)) ∧ w'.cell? (ad486.add (x27_2).toNat) = some (.int .i64 (rd l1 x27_2)) ∧ w'.cell? (ad486.add (x27_2).toNat) = some (.int .i64 (rd l1 x27_2))) (ds := []) (List.replicate 18 false).toArray (by kernel_rfl) rfl rfl ⟨bt_ BK485 0, bt_ BK485 1, (pc_ HB.out hw486_0), (pc_ HB.out hw487_0)⟩ (fun hHeld => ?_); refine with_tabW spec_CrashDisk.tab7 spec_CrashDisk.bits7 (fun HT_ HW_ => ?_)
      generalize w49.drew = w50 at HO_484000 BK477 BK478 BK483 BK485 HB hx486_0 hx487_0 hHeld ⊢
      refine pv_ 0 32 ?_
      refine pv_ 1 33 ?_
      refine pv_ 2 34 ?_
      refine tk_ 3 35 ?_
      refine pv_ 4 36 ?_
      refine pv_ 5 37 ?_
      refine pv_ 6 38 ?_
      refine pv_ 7 39 ?_
      refine pv_ 8 40 ?_
      refine pv_ 10 42 ?_
      refine pv_ 13 45 ?_
      refine tk_ 9 41 ?_
      refine tk_ 11 43 ?_
      refine pv_ 12 44 ?_
      refine tk_ 14 46 ?_
      refine pv_ 15 47 ?_
      refine pv_ 16 48 ?_
      refine pv_ 17 49 ?_
      refine done_ (done_of HT_.out (by kernel_rfl)) ?_
      have hnb51 := NB478_477.out
      have hnc51 := NB477_478.out
      have hnb52 := NB478_483.out
      have hnc52 := NB483_478.out
      obtain ⟨hcz53_0, hfz53_0⟩ := cf1_ BK478.out
      try go_wp2
      refine bodyPost_ret (results_ct rfl _ _ gb478 31 #[.slice none 0 0] (0, 0) _ rfl (up_ BK478) Try.underlying31 rfl (by kernel_rfl)) rfl ?_
      exact ⟨_, er_, ni_, hs4_ GE477.out GE478.out GE483.out GE485.out⟩
     have c43b0 := dgf_ c43
     clear c43
     obtain ⟨ji54, hji54⟩ : ∃ j_ : Int, (wrap64 (((rd_T56 l0_0 x27_2).f1) + (rd l1 x27_2))) = j_ := ⟨_, rfl⟩
     first | rw [hji54] at H | simp only [hji54] at H
     have hji54w : (IntKind.i64.wrap (((rd_T56 l0_0 x27_2).f1) + (rd l1 x27_2))) = ji54 := (i64_w _).trans hji54
     replace H := ifs_ H
     obtain ⟨c55, H⟩ := H
     have c55b0 := eq_true c55
     have c55b1 := decide_eq_true c55
     clear c55
     replace H := ifs_ H
     obtain ⟨c56, H⟩ := H
     have c56b0 := eq_true c56
     have c56b1 := decide_eq_true c56
     clear c56
     replace H := ifs_ H
     obtain ⟨c57, H⟩ := H
     have c57b0 := decide_eq_true c57
     clear c57
     obtain ⟨y489, hy489⟩ : ∃ y_ : List (S56), y_ = (x484000_2.set (x27_2 : Int).toNat (⟨((rd_T56 l0_0 x27_2).f0).extract 0 ((ji54) : Int).toNat, ji54⟩ : S56)) := ⟨_, rfl⟩
     replace H : (spec_CrashDisk.l0 k2 l1 l0_0 (l0_0.length : Int) (wrap64 (x27_2 + 1)) y489) = some (r1, r2) := by first | (rw [hy489]; with_reducible exact H) | (have H2_ := (Option.bind_some _ _).symm.trans H; rw [hy489]; with_reducible exact H2_) | (have H2_ := (Option.bind_some _ _).symm.trans H; with_reducible exact H2_) | with_reducible exact H | (rw [hy489]; exact H) | exact H
     have Ny489 := Aside0.mk hy489
     clear hy489
     have H' := Aside0.mk H
     clear H
     have p484 : 0 ≤ (x27_2 : Int) := oa_
     have q484 : x27_2 < (l0_0.length : Int) := oa_
     obtain ⟨ad484, e484, hx484_0, hx484_1⟩ := at_T56 HR0_0.out x27_2 p484 q484
     cases e484
     replace hx484_0 := pc_ HB.out hx484_0
     replace hx484_1 := pc_ HB.out hx484_1
     replace p484 := eq_true p484
     replace q484 := eq_true q484
     try go_wp2_with (first | ((with_reducible refine gate_dst (N := 8) rfl ?_); (try (refine gate_guard (by rfl) ?_; dsimp only)); refine box_event ?hg (N := 8) ?hd (cs := #[.string (⟨#[]⟩ : ByteArray), .int .i64 0]) (t := 56) ?hr ?_; (case hd => rfl); (case hg => rfl); (case hr => first | (go_simp; done) | (go_simp; rfl)); intro gb485 hg w59 hbox hb; replace HO_484000 := Aside0.mk (Kd.R_below (Kd.R_elderB (kr_ HO_484000.out) gb485 (Nat.le_of_eq hg.symm)) hb); have BK485 := Aside0.mk (hbox); have GE485 := ge3_ hg GE477 GE478 GE483; replace HB := nc3_ GE477 GE478 GE483 hb; have NB477_485 := nl_ BK477 hg; have NB485_477 := ng_ BK477 hg; replace BK477 := bK_ BK477 hb; have NB478_485 := nl_ BK478 hg; have NB485_478 := ng_ BK478 hg; replace BK478 := bK_ BK478 hb; have NB483_485 := nl_ BK483 hg; have NB485_483 := ng_ BK483 hg; replace BK483 := bK_ BK483 hb; clear hb hbox hg; have hnb60 := NB485_477.out; have hnc60 := NB477_485.out; have hnb61 := NB485_478.out; have hnc61 := NB478_485.out; have hnb62 := NB485_483.out; have hnc62 := NB483_485.out; obtain ⟨hcz63_0, hcz63_1, hfz63_0, hfz63_1⟩ := cf2_ BK485.out))
     have n0_ : Aside0 (Kd.R k56 56 ((w59.setCell ⟨gb485, 0, none⟩ (.string ((rd_T56 l0_0 x27_2).f0))).setCell ⟨gb485, 1, none⟩ (.int .i64 ((rd_T56 l0_0 x27_2).f1))) w.heap.size (fun k_ => k_ ≠ gb485) u484000 x484000_2) := ⟨Kd.R_mono (rF_ (Kd.R_mono HO_484000.out (fun k_ hk => (⟨hk, hk.2⟩ : _ ∧ k_ ≠ gb485)))) (fun _ hk => hk.1.2)⟩
     have n1_ : Aside0 (((w59.setCell ⟨gb485, 0, none⟩ (.string ((rd_T56 l0_0 x27_2).f0))).setCell ⟨gb485, 1, none⟩ (.int .i64 ((rd_T56 l0_0 x27_2).f1))).heap[gb477]? = some (.cells #[.slice (some ad484) l0_0.length c0_0] 31 (0, 0))) := ⟨uf_ BK477 NB477_485.out⟩
     have n2_ : Aside0 (((w59.setCell ⟨gb485, 0, none⟩ (.string ((rd_T56 l0_0 x27_2).f0))).setCell ⟨gb485, 1, none⟩ (.int .i64 ((rd_T56 l0_0 x27_2).f1))).heap[gb478]? = some (.cells #[.slice none 0 0] 31 (0, 0))) := ⟨uf_ BK478 NB478_485.out⟩
     have n3_ : Aside0 (((w59.setCell ⟨gb485, 0, none⟩ (.string ((rd_T56 l0_0 x27_2).f0))).setCell ⟨gb485, 1, none⟩ (.int .i64 ((rd_T56 l0_0 x27_2).f1))).heap[gb483]? = some (.cells #[u484000] 31 (0, 0))) := ⟨uf_ BK483 NB483_485.out⟩
     have n4_ : Aside0 (((w59.setCell ⟨gb485, 0, none⟩ (.string ((rd_T56 l0_0 x27_2).f0))).setCell ⟨gb485, 1, none⟩ (.int .i64 ((rd_T56 l0_0 x27_2).f1))).heap[gb485]? = some (.cells #[.string ((rd_T56 l0_0 x27_2).f0), .int .i64 ((rd_T56 l0_0 x27_2).f1)] 56 (0, 0))) := ⟨up_ BK485⟩
     have n5_ : Aside0 (Below w.heap.size w ((w59.setCell ⟨gb485, 0, none⟩ (.string ((rd_T56 l0_0 x27_2).f0))).setCell ⟨gb485, 1, none⟩ (.int .i64 ((rd_T56 l0_0 x27_2).f1)))) := ⟨hs4_ GE477.out GE478.out GE483.out GE485.out⟩
     (try clear HO_484000)
     (try clear BK477)
     (try clear BK478)
     (try clear BK483)
     (try clear BK485)
     (try clear HB)
     generalize ((w59.setCell ⟨gb485, 0, none⟩ (.string ((rd_T56 l0_0 x27_2).f0))).setCell ⟨gb485, 1, none⟩ (.int .i64 ((rd_T56 l0_0 x27_2).f1))) = w64 at n0_ n1_ n2_ n3_ n4_ n5_ ⊢
     have HO_484000 := n0_
     have BK477 := n1_
     have BK478 := n2_
     have BK483 := n3_
     have BK485 := n4_
     have HB := n5_
     clear n0_ n1_ n2_ n3_ n4_ n5_
     replace HO_484000 := qR_ HO_484000
     replace BK477 := qK_ BK477
     replace BK478 := qK_ BK478
     replace BK483 := qK_ BK483
     replace BK485 := qK_ BK485
     replace HB := qH_ HB
     have p486 : 0 ≤ (x27_2 : Int) := oa_
     have q486 : x27_2 < (l1.length : Int) := oa_
     obtain ⟨ad486, e486, hx486_0⟩ := Kd.at_int HR1.out x27_2 p486 q486
     have hw486_0 := hx486_0
     cases e486
     replace hx486_0 := pc_ HB.out hx486_0
     replace p486 := eq_true p486
     replace q486 := eq_true q486
     have p487 : 0 ≤ (x27_2 : Int) := oa_
     have q487 : x27_2 < (l1.length : Int) := oa_
     obtain ⟨ad487, e487, hx487_0⟩ := Kd.at_int HR1.out x27_2 p487 q487
     have hw487_0 := hx487_0
     obtain rfl : ad486 = ad487 := (by injection e487)
     replace hx487_0 := pc_ HB.out hx487_0
     replace p487 := eq_true p487
     replace q487 := eq_true q487
     refine start_ (n := 18) (S := fun w' => w'.cell? ⟨gb485, 0, none⟩ = some (.string ((rd_T56 l0_0 x27_2).f0)) ∧ w'.cell? ⟨gb485, 1, none⟩ = some (.int .i64 ((rd_T56 l0_0 x27_2).f1)) ∧ w'.cell? (ad486.add (x27_2).toNat) = some (.int .i64 (rd l1 x27_2)) ∧ w'.cell? (ad486.add (x27_2).toNat) = some (.int .i64 (rd l1 x27_2))) (ds := []) (List.replicate 18 false).toArray (by kernel_rfl) rfl rfl ⟨bt_ BK485 0, bt_ BK485 1, (pc_ HB.out hw486_0), (pc_ HB.out hw487_0)⟩ (fun hHeld => ?_); refine with_tabW spec_CrashDisk.tab7 spec_CrashDisk.bits7 (fun HT_ HW_ => ?_)
     generalize w64.drew = w65 at HO_484000 BK477 BK478 BK483 BK485 HB hx486_0 hx487_0 hHeld ⊢
     refine pv_ 0 32 ?_
     refine pv_ 1 33 ?_
     refine pv_ 2 34 ?_
     refine tk_ 3 35 ?_
     refine pv_ 4 36 ?_
     refine pv_ 5 37 ?_
     refine pv_ 6 38 ?_
     refine pv_ 7 39 ?_
     refine pv_ 8 40 ?_
     refine pv_ 10 42 ?_
     refine pv_ 13 45 ?_
     refine tk_ 9 41 ?_
     refine tk_ 11 43 ?_
     refine pv_ 12 44 ?_
     refine tk_ 14 46 ?_
     refine pv_ 15 47 ?_
     refine pv_ 16 48 ?_
     refine pv_ 17 49 ?_
     refine done_ (done_of HT_.out (by kernel_rfl)) ?_
     try go_wp2
     replace HO_484000 := qR_ HO_484000
     replace BK477 := qK_ BK477
     replace BK478 := qK_ BK478
     replace BK483 := qK_ BK483
     replace BK485 := qK_ BK485
     replace HB := qH_ HB
     have p488 : 0 ≤ (x27_2 : Int) := oa_
     have q488 : x27_2 < (l1.length : Int) := oa_
     obtain ⟨ad488, e488, hx488_0⟩ := Kd.at_int HR1.out x27_2 p488 q488
     have hw488_0 := hx488_0
     obtain rfl : ad486 = ad488 := (by injection e488)
     replace hx488_0 := pc_ HB.out hx488_0
     replace p488 := eq_true p488
     replace q488 := eq_true q488
     refine start_ (n := 8) (S := fun w' => w'.cell? ⟨gb485, 0, none⟩ = some (.string ((rd_T56 l0_0 x27_2).f0)) ∧ w'.cell? ⟨gb485, 1, none⟩ = some (.int .i64 ((rd_T56 l0_0 x27_2).f1)) ∧ w'.cell? (ad486.add (x27_2).toNat) = some (.int .i64 (rd l1 x27_2))) (ds := []) #[false, false, false, false, false, false, false, false] (by kernel_rfl) rfl rfl ⟨bt_ BK485 0, bt_ BK485 1, (pc_ HB.out hw488_0)⟩ (fun hHeld => ?_); refine with_tabW spec_CrashDisk.tab9 spec_CrashDisk.bits9 (fun HT_ HW_ => ?_)
     generalize w65.drew = w66 at HO_484000 BK477 BK478 BK483 BK485 HB hx488_0 hHeld ⊢
     refine pv_ 0 51 ?_
     refine pv_ 2 53 ?_
     refine pv_ 3 54 ?_
     refine pv_ 4 55 ?_
     refine tk_ 1 52 ?_
     refine tk_ 5 56 ?_
     refine pv_ 6 57 ?_
     refine pv_ 7 9 ?_
     refine done_ (done_of HT_.out (by kernel_rfl)) ?_
     try go_wp2
     replace HO_484000 := qR_ HO_484000
     replace BK477 := qK_ BK477
     replace BK478 := qK_ BK478
     replace BK483 := qK_ BK483
     replace BK485 := qK_ BK485
     replace HB := qH_ HB
     have p58 : 0 ≤ (x27_2 : Int) := oa_
     have q58 : (x27_2 : Int) < ((x484000_2.length : Int) : Int) := oa_
     obtain ⟨go58, co58, eo58, gb58, gl58, cl58, HG58⟩ := Kd.R_form HO_484000.out (by omega)
     (first | cases eo58 | (injection eo58 with ea_ en_ ec_; (first | subst ea_ | (injection ea_ with ea_; subst ea_)); subst ec_; clear en_))
     have GB58 := Aside0.mk gb58
     have GG58 := Aside0.mk HG58
     clear gb58 gl58 HG58
     obtain ⟨ce58, hcl58, hM58, hcc58, hfr58⟩ := Kd.R_elem HO_484000.out z56 (x27_2 : Int) p58 q58
     obtain rfl := k56_openM hM58
     have hx58_0 : World.cell? _ ⟨go58, (x27_2 : Int).toNat * 2, none⟩ = some (.string ((rd_T56 x484000_2 x27_2).f0)) := hcc58 0 _ rfl
     have hx58_1 : World.cell? _ ⟨go58, (x27_2 : Int).toNat * 2 + 1, none⟩ = some (.int .i64 ((rd_T56 x484000_2 x27_2).f1)) := hcc58 1 _ rfl
     have hf58_0 : World.frozen? _ ⟨go58, (x27_2 : Int).toNat * 2, none⟩ = false := hfr58 0
     have hf58_1 : World.frozen? _ ⟨go58, (x27_2 : Int).toNat * 2 + 1, none⟩ = false := hfr58 1
     clear hcl58 hcc58 hfr58; (try clear hM58)
     replace p58 := eq_true p58
     replace q58 := eq_true q58
     obtain ⟨ce68, hcl68, hM68, hcc68, hfr68⟩ := Kd.R_elem HO_484000.out z56 (x27_2 : Int) (oa_) (by have h_ : (x27_2 : Int) < ((x484000_2.length : Int) : Int) := oa_; first | exact h_ | (have e_ := (Kd.R_reads' HO_484000.out).1; omega) | simpa using h_)
     obtain rfl := k56_openM hM68
     have HP68 := (Kd.R_seg HO_484000.out (x27_2 : Int) (oa_) (by have h_ : (x27_2 : Int) < ((x484000_2.length : Int) : Int) := oa_; first | exact h_ | (have e_ := (Kd.R_reads' HO_484000.out).1; omega) | simpa using h_) (seg := [.string (((rd_T56 l0_0 x27_2).f0).extract 0 ((ji54) : Int).toNat), .int .i64 ji54]) (j := 0) hcl68 hcc68 (show 2 ≤ 2 from by decide) (x' := (⟨((rd_T56 l0_0 x27_2).f0).extract 0 ((ji54) : Int).toNat, ji54⟩ : S56)) (k56_mkM _ _ _ (⟨((rd_T56 l0_0 x27_2).f0).extract 0 ((ji54) : Int).toNat, ji54⟩ : S56) ) (fun _ hk => hk)).1
     rw [← Ny489.out] at HP68
     have HQ68 := Aside0.mk HP68
     clear hcl68 hcc68 hfr68 HP68; (try clear hM68)
     refine start_ (n := 11) (S := fun w' => w'.cell? ⟨gb483, 0, none⟩ = some (.slice (some ⟨go58, 0, none⟩) x484000_2.length co58) ∧ w'.cell? ⟨gb485, 0, none⟩ = some (.string ((rd_T56 l0_0 x27_2).f0)) ∧ w'.cell? ⟨gb485, 1, none⟩ = some (.int .i64 ((rd_T56 l0_0 x27_2).f1))) (ds := [10]) (List.replicate 11 false).toArray (by kernel_rfl) rfl rfl ⟨bt_ BK483 0, bt_ BK485 0, bt_ BK485 1⟩ (fun hHeld => ?_); refine with_tabW spec_CrashDisk.tab10 spec_CrashDisk.bits10 (fun HT_ HW_ => ?_)
     generalize w66.drew = w67 at HO_484000 BK477 BK478 BK483 BK485 HB GG58 HQ68 hf58_0 hf58_1 hx58_0 hx58_1 hHeld ⊢
     refine pv_ 0 58 ?_
     refine pv_ 2 60 ?_
     refine pv_ 3 61 ?_
     refine pv_ 5 63 ?_
     refine pv_ 7 65 ?_
     refine tk_ 1 59 ?_
     refine tk_ 4 62 ?_
     refine pv_ 6 64 ?_
     refine pv_ 8 66 ?_
     refine pv_ 9 67 ?_
     refine last_ (i := 10) (N := none) #[true, true, true, true, true, true, true, true, true, true, true] rfl rfl (one_of HT_.out (by kernel_rfl)) (by decide) (fun K hK => ?_)
     refine skip_ (w1 := ?_) (by rfl) rfl ?_ ?_
     rotate_left
     ·go_simp
      rfl
     refine hK.out _ _ ?_
     clear hK K
     refine done_ (done_of HT_.out (by kernel_rfl)) ?_
     try go_wp2
     go_roundg k2
     case measure => have := HJ2.out; have := HK2.out; omega
     case rel => exact ⟨(wrap64 (x27_2 + 1)), (y489), (.slice (some ⟨go58, 0, none⟩) x484000_2.length co58), sr_, H', ⟨by have := HJ2.out; have := HK2.out; omega⟩, ⟨by (with_reducible repeat (first | apply Kd.R_alloc | apply Kd.R_drewN | apply Kd.R_drew)); exact Kd.R_mono HQ68.out (fun _ hk => trivial)⟩, ⟨by (with_reducible repeat (first | refine blk_drewN ?_ _ | refine blk_drew ?_ | refine blk_alloc ?_ _)); refine blk_far ?_ (by have h_ := Kd.R_ne HO_484000.out BK477.out (by decide); intro e_; exact h_ (by rw [e_]; rfl)) _; (with_reducible repeat (first | refine blk_drewN ?_ _ | refine blk_drew ?_ | refine blk_alloc ?_ _)); refine blk_far ?_ (by have h_ := Kd.R_ne HO_484000.out BK477.out (by decide); intro e_; exact h_ (by rw [e_]; rfl)) _; (with_reducible repeat (first | refine blk_drewN ?_ _ | refine blk_drew ?_ | refine blk_alloc ?_ _)); exact BK477.out⟩, ⟨by (with_reducible repeat (first | refine blk_drewN ?_ _ | refine blk_drew ?_ | refine blk_alloc ?_ _)); refine blk_far ?_ (by have h_ := Kd.R_ne HO_484000.out BK478.out (by decide); intro e_; exact h_ (by rw [e_]; rfl)) _; (with_reducible repeat (first | refine blk_drewN ?_ _ | refine blk_drew ?_ | refine blk_alloc ?_ _)); refine blk_far ?_ (by have h_ := Kd.R_ne HO_484000.out BK478.out (by decide); intro e_; exact h_ (by rw [e_]; rfl)) _; (with_reducible repeat (first | refine blk_drewN ?_ _ | refine blk_drew ?_ | refine blk_alloc ?_ _)); exact BK478.out⟩, ⟨by (with_reducible repeat (first | refine blk_drewN ?_ _ | refine blk_drew ?_ | refine blk_alloc ?_ _)); refine blk_far ?_ (by have h_ := Kd.R_ne HO_484000.out BK483.out (by decide); intro e_; exact h_ (by rw [e_]; rfl)) _; (with_reducible repeat (first | refine blk_drewN ?_ _ | refine blk_drew ?_ | refine blk_alloc ?_ _)); refine blk_far ?_ (by have h_ := Kd.R_ne HO_484000.out BK483.out (by decide); intro e_; exact h_ (by rw [e_]; rfl)) _; (with_reducible repeat (first | refine blk_drewN ?_ _ | refine blk_drew ?_ | refine blk_alloc ?_ _)); exact BK483.out⟩, ⟨hs6_ GB58.out GB58.out GE477.out GE478.out GE483.out GE485.out⟩⟩
end Go.Proofs.Ytpdpipfkllfhmaa.QFnTorn
