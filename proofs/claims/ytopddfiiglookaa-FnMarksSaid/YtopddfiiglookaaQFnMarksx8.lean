/- For each Go function that one statement reaches: a plain function with the same answers, and the proof that the call comes to them. Conditions: those that each contract names. Written by a program of this repository. -/
import Derived.Test.YtopddfiiglookaaQFnMarksx0
import Derived.Test.YtopddfiiglookaaQFnMarksx2
import Derived.Test.YtopddfiiglookaaQFnMarksx3
import Derived.Test.YtopddfiiglookaaQFnMarksx4
import Derived.Test.YtopddfiiglookaaQFnMarksx5
namespace Go.Proofs.Ytopddfiiglookaa.QFnMarks
open Go.RowKit Go.Proofs.YtopddfiiglookaaW.PrintWords Go.Proofs.YtopddfiiglookaaW.PrintLast Go.Proofs.YtopddfiiglookaaW.PrintMore
attribute [local go_sem] max2_int min2_int max_two min_two max_three min_three max_four min_four Go.Proofs.YtopddfiiglookaaW.PrintMore2.isSome_setCell   -- for this text's walks alone
set_option linter.unusedVariables false
set_option linter.unusedSimpArgs false

/-! ### spec_CutMarks: function 31 -/
mutual
def spec_CutMarks.j0 : Nat → List (S60) → Int → Bool → Option ((List (S60)) × Bool)
  | 0, _, _, _ => none
  | k + 1, x0, x1, x16 => if x16 = true then (some (([] : List (S60)), false)) else (spec_CutMarks.l0 k x1 ([] : List (S60)) x0 (x0.length : Int) 0)
def spec_CutMarks.l0 : Nat → Int → List (S60) → List (S60) → Int → Int → Option ((List (S60)) × Bool)
  | 0, _, _, _, _, _ => none
  | k + 1, x1, x6, x17, x18, x19 => if x19 < x18 then (if 0 ≤ x19 then (if x19 < (x17.length : Int) then (if ((rd_T60 x17 x19).f1) < x1 then (if x6.length < 8796093022208 then (spec_CutMarks.l0 k x1 (x6 ++ [(⟨(rd_T60 x17 x19).f0, (rd_T60 x17 x19).f1⟩ : S60)]) x17 x18 (wrap64 (x19 + 1))) else (none)) else (spec_CutMarks.l0 k x1 x6 x17 x18 (wrap64 (x19 + 1)))) else (none)) else (none)) else (some (x6, true))
end
def spec_CutMarks.f (k : Nat) (l0 : List (S60)) (a1 : Int) : Option ((List (S60)) × Bool) := (spec_GoodMarks.f k l0).bind fun t172 => (if t172 = true then ((spec_l1In.f a1 0 30).bind fun t173 => (spec_CutMarks.j0 k l0 a1 (!t173))) else (spec_CutMarks.j0 k l0 a1 true))
theorem spec_CutMarks.mono_l : ∀ k, (∀ y0 y1 y2, LeO (spec_CutMarks.j0 k y0 y1 y2) (spec_CutMarks.j0 (k + 1) y0 y1 y2)) ∧ (∀ y0 y1 y2 y3 y4, LeO (spec_CutMarks.l0 k y0 y1 y2 y3 y4) (spec_CutMarks.l0 (k + 1) y0 y1 y2 y3 y4))
  | 0 => ⟨fun _ _ _ r h => by simp [spec_CutMarks.j0] at h, fun _ _ _ _ _ r h => by simp [spec_CutMarks.l0] at h⟩
  | k + 1 => by
    obtain ⟨ih0, ih1⟩ := spec_CutMarks.mono_l k
    refine ⟨?_, ?_⟩
    · intro y0 y1 y2
      unfold spec_CutMarks.j0
      repeat' first
      | (with_reducible exact ih0 _ _ _)
      | (with_reducible exact ih1 _ _ _ _ _)
      | (with_reducible exact spec_GoodMarks.mono _ _)
      | (with_reducible exact LeO.refl _)
      | (with_reducible exact LeO.none _)
      | (with_reducible refine LeO.ite ?_ ?_)
      | (with_reducible refine LeO.bind ?_ (fun _ => ?_))
      | exact ih0 _ _ _
      | exact ih1 _ _ _ _ _
      | exact spec_GoodMarks.mono _ _
      | exact LeO.none _
      | refine LeO.ite ?_ ?_
      | refine LeO.bind ?_ (fun _ => ?_)
    · intro y0 y1 y2 y3 y4
      unfold spec_CutMarks.l0
      repeat' first
      | (with_reducible exact ih0 _ _ _)
      | (with_reducible exact ih1 _ _ _ _ _)
      | (with_reducible exact spec_GoodMarks.mono _ _)
      | (with_reducible exact LeO.refl _)
      | (with_reducible exact LeO.none _)
      | (with_reducible refine LeO.ite ?_ ?_)
      | (with_reducible refine LeO.bind ?_ (fun _ => ?_))
      | exact ih0 _ _ _
      | exact ih1 _ _ _ _ _
      | exact spec_GoodMarks.mono _ _
      | exact LeO.none _
      | refine LeO.ite ?_ ?_
      | refine LeO.bind ?_ (fun _ => ?_)
theorem spec_CutMarks.mono : ∀ a0 a1 k, LeO (spec_CutMarks.f k a0 a1) (spec_CutMarks.f (k + 1) a0 a1) := by
  intro a0 a1 k
  obtain ⟨ih0, ih1⟩ := spec_CutMarks.mono_l k
  unfold spec_CutMarks.f
  repeat' first
      | (with_reducible exact ih0 _ _ _)
      | (with_reducible exact ih1 _ _ _ _ _)
      | (with_reducible exact spec_GoodMarks.mono _ _)
      | (with_reducible exact LeO.refl _)
      | (with_reducible exact LeO.none _)
      | (with_reducible refine LeO.ite ?_ ?_)
      | (with_reducible refine LeO.bind ?_ (fun _ => ?_))
      | exact ih0 _ _ _
      | exact ih1 _ _ _ _ _
      | exact spec_GoodMarks.mono _ _
      | exact LeO.none _
      | refine LeO.ite ?_ ?_
      | refine LeO.bind ?_ (fun _ => ?_)
set_option maxHeartbeats 8000000 in
set_option maxRecDepth 100000 in
theorem spec_CutMarks.calls (k : Nat) (A0 : Option Addr) (c0 : Nat) (l0 : List (S60)) (a1 : Int) (r1 : List (S60)) (r2 : Bool) (w : World) (hr0 : Kd.C k60 w A0 l0.length l0) (hc0 : l0.length ≤ c0) (h : spec_CutMarks.f k l0 a1 = some (r1, r2)) :
    Calls Try.prog 31 #[.slice A0 l0.length c0, .int .i64 a1] w fun e w' => ∃ v0_ : Value, e = .returned (.tuple #[v0_, .bool r2]) ∧ Kd.R k60 60 w' w.heap.size (fun _ => True) v0_ r1 ∧ Below w.heap.size w w' := by
  have hu60 := Try.underlying60
  have HR0 := Aside0.mk hr0
  have HC0 := Aside0.mk hc0
  clear hr0 hc0
  have HB := Aside0.mk (Below.refl w.heap.size w)
  have H : ((spec_GoodMarks.f k l0).bind fun t172 => (if t172 = true then ((spec_l1In.f a1 0 30).bind fun t173 => (spec_CutMarks.j0 k l0 a1 (!t173))) else (spec_CutMarks.j0 k l0 a1 true))) = some (r1, r2) := h
  clear h
  have HC3 := Aside0.mk H
  clear H
  go_enter Try.func31, Try.ntmps31
  go_upto_region 1 with (fail)
  go_cut [16] (fun v16 wc => ∃ (kq : Nat) (x16_2 : Bool), v16 = .bool x16_2 ∧ Aside0 (spec_CutMarks.j0 kq l0 a1 x16_2 = some (r1, r2)) ∧ Aside0 (kq ≤ k) ∧ Aside0 (Below w.heap.size w wc))
  case first =>
    have H := HC3.out
    clear HC3
    replace H := Option.bind_eq_some_iff.mp H
    obtain ⟨t172, A40, H⟩ := H
    replace H : (if t172 = true then ((spec_l1In.f a1 0 30).bind fun t173 => (spec_CutMarks.j0 k l0 a1 (!t173))) else (spec_CutMarks.j0 k l0 a1 true)) = some (r1, r2) := H
    have A4 := Aside0.mk A40
    clear A40
    by_cases c5 : t172 = true
    · subst c5
      have H1 : ((spec_l1In.f a1 0 30).bind fun t173 => (spec_CutMarks.j0 k l0 a1 (!t173))) = some (r1, r2) := by rw [if_pos rfl] at H; exact H
      clear H
      have H := H1
      clear H1
      replace H := Option.bind_eq_some_iff.mp H
      obtain ⟨t173, A60, H⟩ := H
      replace H : (spec_CutMarks.j0 k l0 a1 (!t173)) = some (r1, r2) := H
      have A6 := Aside0.mk A60
      clear A60
      have H' := Aside0.mk H
      clear H
      go_wp2_with (first | ((with_reducible refine gate_callee (f := 20) rfl ?_); refine goesL_ (some 10) rfl rfl Try.func20 (by kernel_rfl) rfl #[.slice A0 l0.length c0] rfl (by (try simp only [List.map_toArray, List.map_cons, List.map_nil]); first | done | rfl | (simp only [List.length_drop, List.length_take]; rfl)) ?_; (with_reducible refine (spec_GoodMarks.calls k _ _ l0 true _ ?side1 ?side2 A4.out).mono ?_); (case side1 => repeat (first | exact (Kd.C_below HR0.out HB.out) | (with_reducible refine Kd.C_alloc ?_ _) | (with_reducible refine Kd.C_drewN ?_ _) | (with_reducible refine Kd.C_drew ?_))); (case side2 => exact HC0.out); rintro e w7 ⟨rfl, hb⟩; refine ⟨_, rfl, ?_⟩; have n0_ := Aside0.mk (below_step (by repeat (first | (with_reducible first | exact HB.out | apply below_alloc | apply pw_below_drewN | apply below_drew1) | exact HB.out)) hb); clear HB; have HB := n0_; clear n0_; (try clear hb); (try clear hb2); (try clear hk); (try clear hi)) | (go_at_call 46; (with_reducible refine (spec_l1In.calls a1 0 30 t173 _ A6.out).mono ?_); rintro e w' ⟨rfl, ⟨nd, rfl⟩⟩))
      go_meet
      case rel => exact ⟨_, (!t173), (by first | rfl | (simp; done) | (simp [*]; done)), H', ⟨by first | omega | exact Nat.le_refl _⟩, ⟨by repeat (first | (with_reducible first | exact HB.out | apply below_alloc | apply pw_below_drewN | apply below_drew1) | exact HB.out)⟩⟩
    · replace c5 := Bool.eq_false_iff.mpr c5
      subst c5
      have H1 : (spec_CutMarks.j0 k l0 a1 true) = some (r1, r2) := by rw [if_neg (show ¬ (false = true) by decide)] at H; exact H
      clear H
      have H := H1
      clear H1
      have H' := Aside0.mk H
      clear H
      go_wp2_with (first | ((with_reducible refine gate_callee (f := 20) rfl ?_); refine goesL_ (some 10) rfl rfl Try.func20 (by kernel_rfl) rfl #[.slice A0 l0.length c0] rfl (by (try simp only [List.map_toArray, List.map_cons, List.map_nil]); first | done | rfl | (simp only [List.length_drop, List.length_take]; rfl)) ?_; (with_reducible refine (spec_GoodMarks.calls k _ _ l0 false _ ?side1 ?side2 A4.out).mono ?_); (case side1 => repeat (first | exact (Kd.C_below HR0.out HB.out) | (with_reducible refine Kd.C_alloc ?_ _) | (with_reducible refine Kd.C_drewN ?_ _) | (with_reducible refine Kd.C_drew ?_))); (case side2 => exact HC0.out); rintro e w8 ⟨rfl, hb⟩; refine ⟨_, rfl, ?_⟩; have n0_ := Aside0.mk (below_step (by repeat (first | (with_reducible first | exact HB.out | apply below_alloc | apply pw_below_drewN | apply below_drew1) | exact HB.out)) hb); clear HB; have HB := n0_; clear n0_; (try clear hb); (try clear hb2); (try clear hk); (try clear hi)))
      go_meet
      case rel => exact ⟨_, (true), (by first | rfl | (simp; done) | (simp [*]; done)), H', ⟨by first | omega | exact Nat.le_refl _⟩, ⟨by repeat (first | (with_reducible first | exact HB.out | apply below_alloc | apply pw_below_drewN | apply below_drew1) | exact HB.out)⟩⟩
  case rest =>
    clear HC3
    try clear c2
    try clear p2
    try clear c3
    try clear c5
    obtain ⟨kq, x16_2, rfl, HA, HJ2, HB⟩ := hcut
    cases kq with
    | zero => exact absurd HA.out (by simp [spec_CutMarks.j0])
    | succ kj2 =>
      have H := HA.out
      clear HA
      simp only [spec_CutMarks.j0] at H
      by_cases c9 : x16_2 = true
      · subst c9
        have H1 : (some (([] : List (S60)), false)) = some (r1, r2) := by rw [if_pos rfl] at H; exact H
        clear H
        have H := H1
        clear H1
        simp only [Option.some.injEq, Prod.mk.injEq] at H
        obtain ⟨rfl, rfl⟩ := H
        go_wp2
        go_ret2
        exact ⟨_, by first | rfl | (simp [errW_none, errW_some] <;> rfl) | (simp [*, errW_none, errW_some] <;> rfl), by first | exact Kd.R_nil _ _ _ _ _ | exact Kd.N_nil _ _ _ _ _ | exact Kd.V_nil _ _ _ _ _ | exact Kd.Q_nil _ _ _ _ _ | exact Kd.S_nil _ _ _ _ _, by repeat (first | (with_reducible first | exact HB.out | apply below_alloc | apply pw_below_drewN | apply below_drew1) | exact HB.out)⟩
      · replace c9 := Bool.eq_false_iff.mpr c9
        subst c9
        have H1 : (spec_CutMarks.l0 kj2 a1 ([] : List (S60)) l0 (l0.length : Int) 0) = some (r1, r2) := by rw [if_neg (show ¬ (false = true) by decide)] at H; exact H
        clear H
        have H := H1
        clear H1
        have H' := Aside0.mk H
        clear H
        go_wp2
        go_loopg [6, 19] kj2 (fun kq v6 v19 w' => ∃ (x6_2 : List (S60)) (x19_2 : Int), v19 = .int .i64 x19_2 ∧ Aside0 (spec_CutMarks.l0 kq a1 x6_2 l0 (l0.length : Int) x19_2 = some (r1, r2)) ∧ Aside0 (kq ≤ kj2) ∧ Aside0 (Kd.R k60 60 w' w.heap.size (fun _ => True) v6 x6_2) ∧ Aside0 (Below w.heap.size w w'))
        case atStart => exact ⟨(([] : List (S60))), (0), (by first | rfl | (simp; done) | (simp [*]; done)), H', ⟨Nat.le_refl _⟩, ⟨by first | exact Kd.R_nil _ _ _ _ _ | exact Kd.N_nil _ _ _ _ _ | exact Kd.V_nil _ _ _ _ _ | exact Kd.Q_nil _ _ _ _ _ | exact Kd.S_nil _ _ _ _ _⟩, ⟨by repeat (first | (with_reducible first | exact HB.out | apply below_alloc | apply pw_below_drewN | apply below_drew1) | exact HB.out)⟩⟩
        case round =>
          clear H'
          try clear c2
          try clear p2
          try clear c3
          try clear c5
          try clear c9
          try clear p2
          obtain ⟨x6_2, x19_2, rfl, HA, HK2, HO_6, HB⟩ := hrel
          cases gk with
          | zero => exact absurd HA.out (by simp [spec_CutMarks.l0])
          | succ k2 =>
            have H := HA.out
            clear HA
            simp only [spec_CutMarks.l0] at H
            by_cases c10 : x19_2 < (l0.length : Int)
            · rw [if_pos c10] at H
              have c10b0 : decide (x19_2 < (l0.length : Int)) = true := decide_eq_true c10
              clear c10
              by_cases c11 : 0 ≤ x19_2
              · rw [if_pos c11] at H
                have c11b0 : decide (0 ≤ x19_2) = true := decide_eq_true c11
                clear c11
                by_cases c12 : x19_2 < (l0.length : Int)
                · rw [if_pos c12] at H
                  have c12b0 : decide (x19_2 < (l0.length : Int)) = true := decide_eq_true c12
                  clear c12
                  by_cases c13 : ((rd_T60 l0 x19_2).f1) < a1
                  · rw [if_pos c13] at H
                    have c13b0 : decide (((rd_T60 l0 x19_2).f1) < a1) = true := decide_eq_true c13
                    clear c13
                    by_cases c14 : x6_2.length < 8796093022208
                    · rw [if_pos c14] at H
                      have LMc14 := Aside0.mk c14
                      clear c14
                      obtain ⟨y176, hy176⟩ : ∃ y_ : List (S60), y_ = (x6_2 ++ [(⟨(rd_T60 l0 x19_2).f0, (rd_T60 l0 x19_2).f1⟩ : S60)]) := ⟨_, rfl⟩
                      replace H : (spec_CutMarks.l0 k2 a1 y176 l0 (l0.length : Int) (wrap64 (x19_2 + 1))) = some (r1, r2) := by first | (rw [hy176]; with_reducible exact H) | (have H2_ := (Option.bind_some _ _).symm.trans H; rw [hy176]; with_reducible exact H2_) | (have H2_ := (Option.bind_some _ _).symm.trans H; with_reducible exact H2_) | with_reducible exact H | (rw [hy176]; exact H) | exact H
                      have Ny176 := Aside0.mk hy176
                      clear hy176
                      have H' := Aside0.mk H
                      clear H
                      have p174 : 0 ≤ (x19_2 : Int) := of_decide_eq_true (by first | (with_reducible assumption) | assumption)
                      have q174 : x19_2 < (l0.length : Int) := of_decide_eq_true (by first | (with_reducible assumption) | assumption)
                      obtain ⟨ad174, e174, hx174_0, hx174_1⟩ := at_T60 HR0.out x19_2 p174 q174
                      cases e174
                      replace hx174_0 := (HB.out.cell (World.block_lt_of_cell? w _ hx174_0)).trans hx174_0
                      replace hx174_1 := (HB.out.cell (World.block_lt_of_cell? w _ hx174_1)).trans hx174_1
                      replace p174 := eq_true p174
                      replace q174 := eq_true q174
                      go_wp2_with (first | ((with_reducible refine gate_dst (N := 8) rfl ?_); refine box_event ?hg (N := 8) ?hd (cs := #[.int .i64 0, .int .i64 0]) (t := 60) ?hr ?_; (case hd => rfl); (case hg => rfl); (case hr => first | (go_simp; done) | (go_simp; rfl)); intro gb175 hg w15 hbox hb; have n0_ := Aside0.mk (Kd.R_below (Kd.R_elderB (by (with_reducible repeat (first | apply Kd.R_alloc | apply Kd.R_drewN | apply Kd.R_drew)); exact HO_6.out) gb175 (Nat.le_of_eq hg.symm)) hb); have n1_ := Aside0.mk (below_step (by repeat (first | (with_reducible first | exact HB.out | apply below_alloc | apply pw_below_drewN | apply below_drew1) | exact HB.out)) hb); have n2_ := Aside0.mk (hbox); have n3_ := Aside0.mk ((by rw [hg]; exact (below_size (by repeat (first | (with_reducible first | exact HB.out | apply below_alloc | apply pw_below_drewN | apply below_drew1) | exact HB.out))) : w.heap.size ≤ gb175)); have n4_ := Aside0.mk ((by rw [hg]; exact (below_size (by repeat (first | (with_reducible first | exact HB.out | apply below_alloc | apply pw_below_drewN | apply below_drew1) | exact HB.out))) : w.heap.size ≤ gb175)); clear HO_6; clear HB; have HO_6 := n0_; have HB := n1_; have BK175 := n2_; have GW175 := n3_; have GE175 := n4_; clear n0_ n1_ n2_ n3_ n4_; clear hb hbox hg; have hcz16_0 : w15.cell? ⟨gb175, 0, none⟩ = some (.int .i64 0) := (blk_cell BK175.out 0).trans rfl; have hcz16_1 : w15.cell? ⟨gb175, 1, none⟩ = some (.int .i64 0) := (blk_cell BK175.out 1).trans rfl; have hfz16_0 := blk_frozen BK175.out 0; have hfz16_1 := blk_frozen BK175.out 1) | ((with_reducible refine gate_builtin (b := .append) (xs := #[.tmp 27, .tmp 29]) rfl ?_); at_builtin; refine Kd.R_append k60 (w0 := w) w.heap.size rfl (.tmp 27) (.tmp 29) 31 60 (.agg #[(.int .i64 0), (.int .i64 0)]) 16 rfl Try.underlying31 info60 rfl (by decide) (by omega) u6 x6_2 (⟨(rd_T60 l0 x19_2).f0, (rd_T60 l0 x19_2).f1⟩ : S60) [.int .i64 ((rd_T60 l0 x19_2).f0), .int .i64 ((rd_T60 l0 x19_2).f1)] (fun k_ => k_ ≠ gb175) (fun _ => False) rfl (by first | (go_simp; done) | (go_simp; rfl)) ?aP (fun _ hk => hk.elim) ?aF ?aO ?aB ?aS ?aL ?_; (case aP => exact k60_mkM _ _ _ (⟨(rd_T60 l0 x19_2).f0, (rd_T60 l0 x19_2).f1⟩ : S60)); (case aB => exact (by repeat (first | (with_reducible first | exact HB.out | apply below_alloc | apply pw_below_drewN | apply below_drew1 | refine below_set ?_ GE175.out) | exact HB.out))); (case aF => exact (fun k_ hk => Kd.freshB (g := gb175) (o := .cells #[.int .i64 ((rd_T60 l0 x19_2).f0), .int .i64 ((rd_T60 l0 x19_2).f1)] 60 (0, 0)) (by (with_reducible repeat (first | refine blk_drewN ?_ _ | refine blk_drew ?_ | refine blk_alloc ?_ _)); refine blk_put (cs := #[.int .i64 ((rd_T60 l0 x19_2).f0), .int .i64 0]) ?_ 1 _ rfl; (with_reducible repeat (first | refine blk_drewN ?_ _ | refine blk_drew ?_ | refine blk_alloc ?_ _)); refine blk_put (cs := #[.int .i64 0, .int .i64 0]) ?_ 0 _ rfl; (with_reducible repeat (first | refine blk_drewN ?_ _ | refine blk_drew ?_ | refine blk_alloc ?_ _)); exact BK175.out) k_ hk)); (case aO => exact (by (with_reducible repeat (first | apply Kd.R_alloc | apply Kd.R_drewN | apply Kd.R_drew)); exact Kd.R_mono (Kd.R_far (p := ⟨gb175, 1, none⟩) (Kd.R_far (p := ⟨gb175, 0, none⟩) (Kd.R_mono HO_6.out (fun k_ hk => (⟨hk, hk.2⟩ : _ ∧ k_ ≠ gb175))) (fun _ hk => hk.2) (.int .i64 ((rd_T60 l0 x19_2).f0))) (fun _ hk => hk.2) (.int .i64 ((rd_T60 l0 x19_2).f1))) (fun _ hk => hk.1.2))); (case aS => exact (below_size (by repeat (first | (with_reducible first | exact HB.out | apply below_alloc | apply pw_below_drewN | apply below_drew1 | refine below_set ?_ GE175.out) | exact HB.out)))); (case aL => have := LMc14.out; omega); intro v177 w17 ho hb hg hat; rw [← Ny176.out] at ho; have n0_ := Aside0.mk (blk_grown (g := gb175) (o := .cells #[.int .i64 ((rd_T60 l0 x19_2).f0), .int .i64 ((rd_T60 l0 x19_2).f1)] 60 (0, 0)) (by (with_reducible repeat (first | refine blk_drewN ?_ _ | refine blk_drew ?_ | refine blk_alloc ?_ _)); refine blk_put (cs := #[.int .i64 ((rd_T60 l0 x19_2).f0), .int .i64 0]) ?_ 1 _ rfl; (with_reducible repeat (first | refine blk_drewN ?_ _ | refine blk_drew ?_ | refine blk_alloc ?_ _)); refine blk_put (cs := #[.int .i64 0, .int .i64 0]) ?_ 0 _ rfl; (with_reducible repeat (first | refine blk_drewN ?_ _ | refine blk_drew ?_ | refine blk_alloc ?_ _)); exact BK175.out) hg (Kd.R_away HO_6.out (fun _ hk => hk.2))); have n1_ := Aside0.mk (hb); have n2_ := Aside0.mk (ho); clear BK175; clear HB; clear HO_6; have BK175 := n0_; have HB := n1_; have HO178 := n2_; clear n0_ n1_ n2_; clear ho hb hg hat))
                      go_roundg k2
                      case measure => have := HJ2.out; have := HK2.out; omega
                      case rel => exact ⟨(y176), (wrap64 (x19_2 + 1)), (by first | rfl | (simp; done) | (simp [*]; done)), H', ⟨by have := HJ2.out; have := HK2.out; omega⟩, ⟨by (with_reducible repeat (first | apply Kd.R_alloc | apply Kd.R_drewN | apply Kd.R_drew)); exact Kd.R_mono HO178.out (fun _ hk => trivial)⟩, ⟨by repeat (first | (with_reducible first | exact HB.out | apply below_alloc | apply pw_below_drewN | apply below_drew1 | refine below_set ?_ GE175.out) | exact HB.out)⟩⟩
                    · rw [if_neg c14] at H
                      exact absurd H (by simp)
                  · rw [if_neg c13] at H
                    have c13b0 : decide (((rd_T60 l0 x19_2).f1) < a1) = false := decide_eq_false c13
                    clear c13
                    have H' := Aside0.mk H
                    clear H
                    have p174 : 0 ≤ (x19_2 : Int) := of_decide_eq_true (by first | (with_reducible assumption) | assumption)
                    have q174 : x19_2 < (l0.length : Int) := of_decide_eq_true (by first | (with_reducible assumption) | assumption)
                    obtain ⟨ad174, e174, hx174_0, hx174_1⟩ := at_T60 HR0.out x19_2 p174 q174
                    cases e174
                    replace hx174_0 := (HB.out.cell (World.block_lt_of_cell? w _ hx174_0)).trans hx174_0
                    replace hx174_1 := (HB.out.cell (World.block_lt_of_cell? w _ hx174_1)).trans hx174_1
                    replace p174 := eq_true p174
                    replace q174 := eq_true q174
                    go_wp2_with (first | ((with_reducible refine gate_dst (N := 8) rfl ?_); refine box_event ?hg (N := 8) ?hd (cs := #[.int .i64 0, .int .i64 0]) (t := 60) ?hr ?_; (case hd => rfl); (case hg => rfl); (case hr => first | (go_simp; done) | (go_simp; rfl)); intro gb175 hg w18 hbox hb; have n0_ := Aside0.mk (Kd.R_below (Kd.R_elderB (by (with_reducible repeat (first | apply Kd.R_alloc | apply Kd.R_drewN | apply Kd.R_drew)); exact HO_6.out) gb175 (Nat.le_of_eq hg.symm)) hb); have n1_ := Aside0.mk (below_step (by repeat (first | (with_reducible first | exact HB.out | apply below_alloc | apply pw_below_drewN | apply below_drew1) | exact HB.out)) hb); have n2_ := Aside0.mk (hbox); have n3_ := Aside0.mk ((by rw [hg]; exact (below_size (by repeat (first | (with_reducible first | exact HB.out | apply below_alloc | apply pw_below_drewN | apply below_drew1) | exact HB.out))) : w.heap.size ≤ gb175)); have n4_ := Aside0.mk ((by rw [hg]; exact (below_size (by repeat (first | (with_reducible first | exact HB.out | apply below_alloc | apply pw_below_drewN | apply below_drew1) | exact HB.out))) : w.heap.size ≤ gb175)); clear HO_6; clear HB; have HO_6 := n0_; have HB := n1_; have BK175 := n2_; have GW175 := n3_; have GE175 := n4_; clear n0_ n1_ n2_ n3_ n4_; clear hb hbox hg; have hcz19_0 : w18.cell? ⟨gb175, 0, none⟩ = some (.int .i64 0) := (blk_cell BK175.out 0).trans rfl; have hcz19_1 : w18.cell? ⟨gb175, 1, none⟩ = some (.int .i64 0) := (blk_cell BK175.out 1).trans rfl; have hfz19_0 := blk_frozen BK175.out 0; have hfz19_1 := blk_frozen BK175.out 1))
                    go_roundg k2
                    case measure => have := HJ2.out; have := HK2.out; omega
                    case rel => exact ⟨(x6_2), (wrap64 (x19_2 + 1)), (by first | rfl | (simp; done) | (simp [*]; done)), H', ⟨by have := HJ2.out; have := HK2.out; omega⟩, ⟨by (with_reducible repeat (first | apply Kd.R_alloc | apply Kd.R_drewN | apply Kd.R_drew)); exact Kd.R_mono (Kd.R_far (p := ⟨gb175, 1, none⟩) (Kd.R_far (p := ⟨gb175, 0, none⟩) (Kd.R_mono HO_6.out (fun k_ hk => (⟨hk, hk.2⟩ : _ ∧ k_ ≠ gb175))) (fun _ hk => hk.2) (.int .i64 ((rd_T60 l0 x19_2).f0))) (fun _ hk => hk.2) (.int .i64 ((rd_T60 l0 x19_2).f1))) (fun _ hk => trivial)⟩, ⟨by repeat (first | (with_reducible first | exact HB.out | apply below_alloc | apply pw_below_drewN | apply below_drew1 | refine below_set ?_ GE175.out) | exact HB.out)⟩⟩
                · rw [if_neg c12] at H
                  exact absurd H (by simp)
              · rw [if_neg c11] at H
                exact absurd H (by simp)
            · rw [if_neg c10] at H
              have c10b0 : decide (x19_2 < (l0.length : Int)) = false := decide_eq_false c10
              clear c10
              simp only [Option.some.injEq, Prod.mk.injEq] at H
              obtain ⟨rfl, rfl⟩ := H
              go_wp2
              go_ret2
              exact ⟨_, by first | rfl | (simp [errW_none, errW_some] <;> rfl) | (simp [*, errW_none, errW_some] <;> rfl), by (with_reducible repeat (first | apply Kd.R_alloc | apply Kd.R_drewN | apply Kd.R_drew)); exact HO_6.out, by repeat (first | (with_reducible first | exact HB.out | apply below_alloc | apply pw_below_drewN | apply below_drew1) | exact HB.out)⟩

-- NOT PRINTED: function 64 (impl_EpochMark_64)

-- NOT PRINTED: function 56 (impl_EpochMark_56)

/-! ### impl_CutMarks: function 32 -/
/-! #### a row's beginning stays, whatever is stored behind it -/
theorem cm_prefix {w : World} {base e size n o g c : Nat} {xs : List Value} (h : w.ownsRow base e size (.slice (some ⟨g, 0, none⟩) n c) n xs) (ho : n * size ≤ o) (u : Value) : (w.setCell ⟨g, o, none⟩ u).ownsRow base e size (.slice (some ⟨g, 0, none⟩) n c) n xs := by
  obtain ⟨h1, h2⟩ := h
  refine ⟨h1, ?_⟩
  rcases h2 with ⟨hv, _⟩ | ⟨g', cap, cur, hv, hb, hh, hn, hm, hs, ht⟩
  · cases hv
  · injection hv with ha hl hc
    injection ha with ha
    injection ha with ha
    subst ha hc
    refine .inr ⟨g, c, cur.setIfInBounds o u, rfl, hb, blk_set hh o u, hn, hm, by simpa using hs, ?_⟩
    rw [← ht]
    apply List.ext_getElem?
    intro i
    simp only [List.getElem?_take, Array.getElem?_toList, Array.getElem?_setIfInBounds]
    split
    · rw [if_neg (by omega)]
    · rfl
theorem cm_setCell {α : Type} {d : Kd α} {W : World} {base e n o g c : Nat} {ok : Nat → Prop} {xs : List α} (h : d.R e W base ok (.slice (some ⟨g, 0, none⟩) n c) xs) (ho : n * d.sz ≤ o) (u : Value) : d.R e (W.setCell ⟨g, o, none⟩ u) base ok (.slice (some ⟨g, 0, none⟩) n c) xs := by
  have hn := (Kd.R_reads' h).1
  subst hn
  obtain ⟨h0, inner, hown, hr⟩ := h
  refine ⟨h0, inner, cm_prefix hown ho u, hr.imp_ (fun p cs hp => Kd.M_far (p := ⟨g, o, none⟩) hp (fun k hk e_ => hk.2 ?_) u)⟩
  rw [e_]
  rfl
theorem cm_setCells {α : Type} {d : Kd α} {base e n g c : Nat} {ok : Nat → Prop} {xs : List α} : ∀ (vs : List Value) (o : Nat) (W : World), d.R e W base ok (.slice (some ⟨g, 0, none⟩) n c) xs → n * d.sz ≤ o → d.R e (W.setCells g o vs) base ok (.slice (some ⟨g, 0, none⟩) n c) xs
  | [], _, _, h, _ => h
  | v :: r, o, W, h, ho => cm_setCells r (o + 1) _ (cm_setCell h ho v) (by omega)
theorem cm_grown (g : Nat) : ∀ (vs : List Value) (o : Nat) (W : World), W.grownBy (W.setCells g o vs) (some g)
  | [], _, W => grown_of_below (Below.refl _ _) _
  | v :: r, o, W => World.grownBy.trans (show W.grownBy (W.setCell ⟨g, o, none⟩ v) (some g) from ⟨rfl, rfl, rfl, by simp [World.setCell], fun i _ hn => Below.heap_setCell W ⟨g, o, none⟩ v i (fun e_ => hn (by rw [e_]))⟩) (cm_grown g r (o + 1) _)
theorem cm_clear (w : World) (t e ty : TypeId) (z : Value) (Z : List Value) (b o n c : Nat) (hn : 0 < n) (ht : Try.prog.underlying t = some (.slice e)) (hv : ∀ w, (zeroValue e).run Try.prog w = .ok z w) (hZ : (Builtin.zeroCells z.cells n).toList = Z)
    (hc : ∀ j, j < Z.length → (w.cell? ⟨b, o + j, none⟩).isSome = true) (hf : ∀ j, j < Z.length → w.frozen? ⟨b, o + j, none⟩ = false) (h1 : ∀ v ∈ Z, v.oneCell' = true) :
    (Builtin.clear_ #[t] ty #[.slice (some ⟨b, o, none⟩) n c]).run Try.prog w = .ok (.tuple #[]) (w.setCells b o Z) := by
  have hst := run_storeCells_cells (P := Try.prog) b o Z 0 w (by simpa using hc) (by simpa using hf) h1
  simp only [Nat.add_zero] at hst
  obtain ⟨m, rfl⟩ : ∃ m, n = m + 1 := ⟨n - 1, by omega⟩
  simp [Builtin.clear_, run_underlying ht, hv, hZ, hst]
theorem cm_zeros (z : Value) (n : Nat) (hs : 0 < z.cells.size) (h1 : ∀ v ∈ z.cells.toList, v.oneCell' = true) : (Builtin.zeroCells z.cells n).toList.length = n * z.cells.size ∧ ∀ v ∈ (Builtin.zeroCells z.cells n).toList, v.oneCell' = true := by
  unfold Builtin.zeroCells
  refine ⟨by simp, fun v hv => ?_⟩
  simp only [Array.toList_map, List.mem_map] at hv
  obtain ⟨i, _, rfl⟩ := hv
  have hl : i % z.cells.size < z.cells.size := Nat.mod_lt _ hs
  rw [getElem!_pos z.cells _ hl]
  exact h1 _ (by simp)
/-! #### the first place where p holds -/
def cm_ix {α : Type} (p : α → Bool) : Nat → List α → Int
  | _, [] => -1
  | i, x :: r => if p x = true then (i : Int) else cm_ix p (i + 1) r
theorem cm_ix_spec {α : Type} (p : α → Bool) : ∀ (l : List α) (i : Nat), (cm_ix p i l = -1 ∧ l.filter (fun x => !p x) = l) ∨ ∃ k, k < l.length ∧ cm_ix p i l = ((i + k : Nat) : Int) ∧ (l.take (k + 1)).filter (fun x => !p x) = l.take k
  | [], i => .inl ⟨rfl, rfl⟩
  | x :: r, i => by
    rw [cm_ix]
    by_cases h : p x = true
    · rw [if_pos h]
      exact .inr ⟨0, by simp, by simp, by simp [h]⟩
    · rw [if_neg h]
      have h' : p x = false := by simpa using h
      rcases cm_ix_spec p r (i + 1) with ⟨e, f⟩ | ⟨k, hk, e, f⟩
      · exact .inl ⟨e, by rw [List.filter_cons, h', f]; rfl⟩
      · refine .inr ⟨k + 1, by simpa using hk, by rw [e]; congr 1; omega, ?_⟩
        rw [List.take_succ_cons, List.filter_cons, h', f]
        rfl
set_option maxHeartbeats 8000000 in
set_option maxRecDepth 100000 in
theorem cutMarks_idx (p : S60 → Bool) (l : List S60) (A : Option Addr) (c : Nat) (g : Nat) (lb : Array Value) (eg : ∀ args w, (callFunc g args).run Try.prog w = .ok (.enter g args) w) (w : World) (hr : Kd.C k60 w A l.length l)
    (hp : ∀ (W : World) (x : S60), Below w.heap.size w W → Calls Try.prog g (#[.agg #[.int .i64 x.f0, .int .i64 x.f1]] ++ lb) W fun e w' => e = .returned (.bool (p x)) ∧ Below W.heap.size W w') :
    Calls Try.prog 64 #[.slice A l.length c, .func (.func g) #[] lb] w fun e w' => e = .returned (.int .i64 (cm_ix p 0 l)) ∧ Below w.heap.size w w' := by
  have hbig : l.length ≤ 9223372036854775807 := hr.2.1
  have hu_ := Try.underlying60
  have HR := Aside0.mk hr
  have HP := Aside0.mk hp
  clear hr hp
  go_enter Try.func64, Try.ntmps64
  go_wp2
  go_loopg [5, 8] l.length (fun gg _ s8 wr => ∃ kk : Nat, kk ≤ l.length ∧ l.length - kk ≤ gg ∧ s8 = .int .i64 kk ∧ Aside (Below w.heap.size w wr) ∧ Aside (cm_ix p 0 l = cm_ix p kk (l.drop kk)))
  case atStart => exact ⟨0, Nat.zero_le _, by omega, rfl, Below.refl _ w, rfl⟩
  case round =>
    obtain ⟨kk, hkk, hg, rfl, BW, AA⟩ := hrel
    by_cases hlt : kk < l.length
    · have hltz : (kk : Int) < (l.length : Int) := by omega
      obtain ⟨ad, rfl, hcell0, hcell1⟩ := at_T60 (Kd.C_below HR.out BW.out) (kk : Int) (by omega) hltz
      have e1 : rd_T60 l (kk : Int) = l[kk] := by unfold rd_T60; rw [Int.toNat_natCast, List.getD_eq_getElem?_getD, List.getElem?_eq_getElem hlt]; rfl
      rw [e1] at hcell0 hcell1
      have hA := AA.out
      rw [List.drop_eq_getElem_cons hlt, cm_ix] at hA
      clear AA
      generalize hx : l[kk] = x at hcell0 hcell1 hA e1
      rw [Int.toNat_natCast] at hcell0 hcell1
      have HC := Aside0.mk (HP.out wr x BW.out)
      clear e1 hx
      cases hq : p x with
      | true =>
        rw [hq, if_pos rfl] at hA
        have H2 := Aside0.mk hA
        have HQ := Aside0.mk hq
        clear hA hq
        go_wp2_with fail
        refine HC.out.mono ?_
        rw [HQ.out]
        clear HC
        rintro e w2 ⟨rfl, hb2⟩
        have HB2 := Aside0.mk (below_step BW.out hb2)
        clear hb2
        go_wp2_with fail
        go_ret
        exact ⟨by rw [H2.out]; rfl, HB2.out⟩
      | false =>
        rw [hq, if_neg (by decide)] at hA
        have H2 := Aside0.mk hA
        have HQ := Aside0.mk hq
        clear hA hq
        go_wp2_with fail
        refine HC.out.mono ?_
        rw [HQ.out]
        clear HC
        rintro e w2 ⟨rfl, hb2⟩
        have HB2 := Aside0.mk (below_step BW.out hb2)
        clear hb2
        go_wp2_with fail
        go_roundg (l.length - (kk + 1))
        case measure => omega
        case rel => exact ⟨kk + 1, by omega, by omega, by go_num, HB2.out, (show Aside _ from H2.out)⟩
    · have hltz : ¬ (kk : Int) < (l.length : Int) := by omega
      have hkl : kk = l.length := by omega
      subst hkl
      have hA := AA.out
      rw [List.drop_length, cm_ix] at hA
      have H2 := Aside0.mk hA
      clear hA AA
      go_wp2
      go_ret
      exact ⟨by rw [H2.out]; rfl, BW.out⟩
set_option maxHeartbeats 8000000 in
set_option maxRecDepth 100000 in
theorem cutMarks_del (p : S60 → Bool) (l : List S60) (A : Option Addr) (c : Nat) (g : Nat) (lb : Array Value) (eg : ∀ args w, (callFunc g args).run Try.prog w = .ok (.enter g args) w) (w0 w : World) (ok : Nat → Prop) (hB : Below w0.heap.size w0 w) (ho : Kd.R k60 60 w w0.heap.size ok (.slice A l.length c) l)
    (hp : ∀ (W : World) (x : S60), Kept w W (fun k => some k = (.slice A l.length c : Value).ownBlock) → Calls Try.prog g (#[.agg #[.int .i64 x.f0, .int .i64 x.f1]] ++ lb) W fun e w' => e = .returned (.bool (p x)) ∧ Below W.heap.size W w') :
    Calls Try.prog 56 #[.slice A l.length c, .func (.func g) #[] lb] w fun e w' => e = .returned (.slice A (l.filter fun x => !p x).length c) ∧ Kd.R k60 60 w' w0.heap.size ok (.slice A (l.filter fun x => !p x).length c) (l.filter fun x => !p x) ∧ Below w0.heap.size w0 w' ∧ Kept w w' (fun k => some k = (.slice A l.length c : Value).ownBlock) := by
  have hbig : l.length ≤ 9223372036854775807 := (Kd.R_reads' ho).2.2.2.1
  have hu_ := Try.underlying60
  have hlc := (Kd.R_reads' ho).2.1
  have hIX := cutMarks_idx p l A c g lb eg w (Kd.R_reads' ho).2.2 (fun W x hb => hp W x (Kept.of_below hb _))
  have HB := Aside0.mk hB
  have HO := Aside0.mk ho
  have HP := Aside0.mk hp
  clear hB ho hp
  rcases cm_ix_spec p l 0 with ⟨e1, e2⟩ | ⟨k0, hk0, e1, e2⟩
  · rw [e1] at hIX
    have HIX := Aside0.mk hIX
    have E2 := Aside0.mk e2
    clear hIX e1 e2
    go_enter Try.func56, Try.ntmps56
    go_wp2_with fail
    refine HIX.out.mono ?_
    rintro e w2 ⟨rfl, hb2⟩
    have HB2 := Aside0.mk hb2
    clear hb2 HIX
    go_wp2_with fail
    go_ret
    rw [E2.out]
    exact ⟨rfl, Kd.R_below HO.out HB2.out, below_step HB.out HB2.out, Kept.of_below HB2.out _⟩
  · rw [Nat.zero_add] at e1
    rw [e1] at hIX
    have HIX := Aside0.mk hIX
    have E2 := Aside0.mk e2
    have hne1 : ((k0 : Int) == -1) = false := beq_eq_false_iff_ne.2 (by omega)
    clear hIX e1 e2
    obtain ⟨g0, cap, eg0, hgb, _⟩ := Kd.R_form HO.out (by omega)
    injection eg0 with eg1 eg2 eg3
    subst eg1
    clear eg2 eg3
    have HGB := Aside0.mk hgb
    clear hgb
    go_enter Try.func56, Try.ntmps56
    go_wp2_with fail
    refine HIX.out.mono ?_
    rintro e w2 ⟨rfl, hb2⟩
    have HB2 := Aside0.mk (below_step HB.out hb2)
    have HO2 := Aside0.mk (Kd.R_below HO.out hb2)
    have HK2 := Aside0.mk (Kept.of_below hb2 (fun k => some k = (.slice (some ⟨g0, 0, none⟩) l.length c : Value).ownBlock))
    clear hb2 HIX HO HB
    go_wp2_with fail
    go_loopg [5, 6, 7] l.length (fun gg s5 s6 _ wr => ∃ (i j : Nat) (rows : List S60), s5 = .int .i64 i ∧ s6 = .int .i64 j ∧ j ≤ l.length ∧ l.length - j ≤ gg ∧ i < j ∧ Aside0 (rows.length = l.length) ∧ Aside0 (rows.take i = (l.take j).filter fun x => !p x) ∧ Aside0 (rows.drop j = l.drop j) ∧ Aside0 (Kd.R k60 60 wr w0.heap.size ok (.slice (some ⟨g0, 0, none⟩) l.length c) rows) ∧ Aside0 (Kept w wr (fun k => some k = (.slice (some ⟨g0, 0, none⟩) l.length c : Value).ownBlock)) ∧ Aside0 (Below w0.heap.size w0 wr))
    case atStart => exact ⟨k0, k0 + 1, l, rfl, by go_num, by omega, by omega, by omega, ⟨rfl⟩, ⟨E2.out.symm⟩, ⟨rfl⟩, HO2, HK2, HB2⟩
    case round =>
      clear HO2 HK2 HB2
      obtain ⟨i, j, rows, rfl, rfl, hjn, hgg, hij, HL, HT, HD, HO, HK, HB⟩ := hrel
      by_cases hlt : j < l.length
      · have hltz : (j : Int) < (l.length : Int) := by omega
        obtain ⟨cs, _, hM, hcc, hfr⟩ := Kd.R_elem HO.out z60 (j : Int) (by omega) hltz
        have ej : rows.getD (j : Int).toNat z60 = l[j] := by
          have := congrArg (fun z => z[0]?) HD.out
          simp only [List.getElem?_drop, Nat.add_zero] at this
          rw [Int.toNat_natCast, List.getD_eq_getElem?_getD, this, List.getElem?_eq_getElem hlt]
          rfl
        rw [ej] at hM
        generalize hx : l[j] = x at hM ej
        have HX := Aside0.mk hx
        clear hx
        obtain rfl := k60_openM hM
        have hc0 : wr.cell? ⟨g0, j * 2, none⟩ = some (.int .i64 x.f0) := hcc 0 _ rfl
        have hc1 : wr.cell? ⟨g0, j * 2 + 1, none⟩ = some (.int .i64 x.f1) := hcc 1 _ rfl
        clear hcc hfr hM ej
        have HC := Aside0.mk (HP.out (wr.alloc (.cells #[.int .i64 x.f0, .int .i64 x.f1] 60)) x (HK.out.alloc _))
        have hts : l.take (j + 1) = l.take j ++ [x] := by rw [List.take_succ_eq_append_getElem hlt, HX.out]
        have hdd : rows.drop (j + 1) = l.drop (j + 1) := by
          have := congrArg (fun z => z.drop 1) HD.out
          simpa only [List.drop_drop] using this
        have HTS := Aside0.mk hts
        have HDD := Aside0.mk hdd
        clear hts hdd HX
        cases hq : p x with
        | true =>
          have HQ := Aside0.mk hq
          clear hq
          go_wp2_with fail
          refine HC.out.mono ?_
          rw [HQ.out]
          clear HC
          rintro e w3 ⟨rfl, hb3⟩
          have HO3 := Aside0.mk (Kd.R_below (Kd.R_alloc HO.out _) hb3)
          have HK3 := Aside0.mk (Kept.below (HK.out.alloc _) hb3)
          have HB3 := Aside0.mk (below_step (below_alloc HB.out _) hb3)
          clear hb3 HO HK HB
          go_wp2_with fail
          go_roundg (l.length - (j + 1))
          case measure => omega
          case rel => exact ⟨i, j + 1, rows, rfl, by go_num, by omega, by omega, by omega, HL, ⟨by rw [HT.out, HTS.out, List.filter_append, List.filter_cons, HQ.out]; simp⟩, HDD, HO3, HK3, HB3⟩
        | false =>
          have HQ := Aside0.mk hq
          clear hq
          go_wp2_with fail
          refine HC.out.mono ?_
          rw [HQ.out]
          clear HC
          rintro e w3 ⟨rfl, hb3⟩
          have hx0 : w3.cell? ⟨wr.heap.size, 0, none⟩ = some (.int .i64 x.f0) := (hb3.cell (p := ⟨wr.heap.size, 0, none⟩) (by simp)).trans (by go_simp)
          have hx1 : w3.cell? ⟨wr.heap.size, 1, none⟩ = some (.int .i64 x.f1) := (hb3.cell (p := ⟨wr.heap.size, 1, none⟩) (by simp)).trans (by go_simp)
          have HO3 := Aside0.mk (Kd.R_below (Kd.R_alloc HO.out (.cells #[.int .i64 x.f0, .int .i64 x.f1] 60)) hb3)
          have HK3 := Aside0.mk (Kept.below (HK.out.alloc (.cells #[.int .i64 x.f0, .int .i64 x.f1] 60)) hb3)
          have HB3 := Aside0.mk (below_step (below_alloc HB.out (.cells #[.int .i64 x.f0, .int .i64 x.f1] 60)) hb3)
          have hiltz : (i : Int) < (l.length : Int) := by omega
          obtain ⟨ci, hcl, hMi, hcci, hfri⟩ := Kd.R_elem HO3.out z60 (i : Int) (by omega) hiltz
          obtain rfl := k60_openM hMi
          have hi0 : w3.cell? ⟨g0, i * 2, none⟩ = some (.int .i64 (rows.getD (i : Int).toNat z60).f0) := hcci 0 _ rfl
          have hi1 : w3.cell? ⟨g0, i * 2 + 1, none⟩ = some (.int .i64 (rows.getD (i : Int).toNat z60).f1) := hcci 1 _ rfl
          have hf0 : w3.frozen? ⟨g0, i * 2, none⟩ = false := hfri 0
          have hf1 : w3.frozen? ⟨g0, i * 2 + 1, none⟩ = false := hfri 1
          have HP3 := Aside0.mk (Kd.R_seg HO3.out (i : Int) (by omega) hiltz (seg := [.int .i64 x.f0, .int .i64 x.f1]) (j := 0) hcl hcci (show 2 ≤ 2 from Nat.le_refl 2) (x' := x) (okp := fun _ => False) (k60_mkM _ _ _ x) (fun _ h_ => h_.elim))
          generalize (rows.getD (i : Int).toNat z60).f0 = o0 at hi0
          generalize (rows.getD (i : Int).toNat z60).f1 = o1 at hi1
          clear hcl hMi hcci hfri HO HK HB hb3
          go_wp2_with fail
          go_roundg (l.length - (j + 1))
          case measure => omega
          case rel =>
            refine ⟨i + 1, j + 1, rows.set i x, by go_num, by go_num, by omega, by omega, by omega, ⟨by rw [List.length_set]; exact HL.out⟩, ⟨?_⟩, ⟨?_⟩, ⟨HP3.out.1⟩, ⟨Kept.of_grown HP3.out.2 HK3.out (fun k_ e_ => .inl (by obtain rfl := Option.some.inj e_; rfl))⟩, ⟨pw_below_grown HB3.out (some g0) HB3.out.size HP3.out.2 (fun k_ e_ => by obtain rfl := Option.some.inj e_; exact HGB.out)⟩⟩
            · have hil : i < rows.length := by have := HL.out; omega
              rw [List.take_succ_eq_append_getElem (by rw [List.length_set]; exact hil), List.take_set_of_le (Nat.le_refl _), List.getElem_set_self, HT.out, HTS.out, List.filter_append, List.filter_cons, HQ.out]
              rfl
            · rw [List.drop_set_of_lt (by omega)]
              exact HDD.out
      · have hltz : ¬ (j : Int) < (l.length : Int) := by omega
        have hjl : j = l.length := by omega
        subst hjl
        have hil : i < l.length := hij
        have hiz : (i : Int) < (l.length : Int) := by omega
        have hci : i < c := by omega
        have hT : rows.take i = l.filter fun x => !p x := by rw [HT.out, List.take_length]
        have hTl : (l.filter fun x => !p x).length = i := by rw [← hT, List.length_take]; have := HL.out; omega
        obtain ⟨Z, hZ⟩ : ∃ Z, (Builtin.zeroCells (Value.agg #[.int .i64 0, .int .i64 0]).cells (l.length - i)).toList = Z := ⟨_, rfl⟩
        have hz := cm_zeros (.agg #[.int .i64 0, .int .i64 0]) (l.length - i) (by decide) (by decide)
        rw [hZ] at hz
        have hz1 : Z.length = (l.length - i) * 2 := hz.1
        obtain ⟨cur, hcur⟩ : ∃ cur, wr.heap[g0]? = some (.cells cur 60 (0, 0)) ∧ cur.size = c * 2 := by
          obtain ⟨_, inner, hown, _⟩ := HO.out
          rcases hown.2 with ⟨hv, _⟩ | ⟨g', cap', cur, hv, _, hh, _, _, hs, _⟩
          · cases hv
          · injection hv with ha hl hc
            injection ha with ha
            injection ha with ha
            subst ha hc
            exact ⟨cur, hh, hs⟩
        have hcl : ∀ ty, (Builtin.clear_ #[31] ty #[.slice (some ⟨g0, i * 2, none⟩) (l.length - i) (c - i)]).run Try.prog wr = .ok (.tuple #[]) (wr.setCells g0 (i * 2) Z) := fun ty =>
          cm_clear wr 31 60 ty (.agg #[.int .i64 0, .int .i64 0]) Z g0 (i * 2) (l.length - i) (c - i) (by omega) Try.underlying31 (fun _ => by first | rfl | kernel_rfl) hZ
            (fun t ht => by rw [blk_cell hcur.1, Array.getElem?_eq_getElem (by rw [hcur.2]; omega)]; rfl) (fun t ht => blk_frozen hcur.1 _) hz.2
        have HR := Aside0.mk (cm_setCells Z (i * 2) wr (Kd.R_take HO.out (m := i) (by rw [HL.out]; omega)) (show i * 2 ≤ i * 2 from Nat.le_refl _))
        have HG := Aside0.mk (cm_grown g0 Z (i * 2) wr)
        have HTT := Aside0.mk hT
        have HTL := Aside0.mk hTl
        clear hT hTl hZ hz hz1 hcur HT HD HL HO
        go_wp2
        go_ret
        exact ⟨by rw [HTL.out]; rfl, by rw [HTL.out, ← HTT.out]; exact HR.out, pw_below_grown HB.out (some g0) HB.out.size HG.out (fun k_ e_ => by obtain rfl := Option.some.inj e_; exact HGB.out), Kept.of_grown HG.out HK.out (fun k_ e_ => .inl (by obtain rfl := Option.some.inj e_; rfl))⟩
set_option maxHeartbeats 8000000 in
set_option maxRecDepth 100000 in
theorem cutMarks_lit (x : S60) (a : Int) (b : Nat) (w : World) (hb : w.cell? ⟨b, 0, none⟩ = some (.int .i64 a)) (hlt : b < w.heap.size) :
    Calls Try.prog 57 #[.agg #[.int .i64 x.f0, .int .i64 x.f1], .pointer (some ⟨b, 0, none⟩)] w fun e w' => e = .returned (.bool (decide (x.f1 ≥ a))) ∧ Below w.heap.size w w' := by
  have hu_ := Try.underlying60
  have hne : ¬ w.heap.size = b := by omega
  have hne2 : ¬ b = w.heap.size := by omega
  go_enter Try.func57, Try.ntmps57
  go_wp2_with fail
  go_ret
  exact ⟨rfl, by repeat (first | exact Below.refl _ _ | apply below_alloc | apply pw_below_drewN)⟩
def impl_CutMarks.f (k : Nat) (l0 : List S60) (a1 : Int) : Option (List S60 × Bool) := (impl_areMarks.f k l0).bind fun t => if t = true then ((impl_in.f a1 0 30).bind fun u => if u = true then (if l0.length ≤ 1048576 then some (l0.filter (fun x => !(decide (x.f1 ≥ a1))), true) else none) else some ([], false)) else some ([], false)
theorem impl_CutMarks.mono : ∀ a0 a1 k, LeO (impl_CutMarks.f k a0 a1) (impl_CutMarks.f (k + 1) a0 a1) := by
  intro a0 a1 k
  unfold impl_CutMarks.f
  exact LeO.bind (impl_areMarks.mono _ _) (fun _ => LeO.refl _)
set_option maxHeartbeats 8000000 in
set_option maxRecDepth 100000 in
theorem impl_CutMarks.calls (k : Nat) (A0 : Option Addr) (c0 : Nat) (l0 : List S60) (a1 : Int) (r1 : List S60) (r2 : Bool) (w : World) (hr0 : Kd.C k60 w A0 l0.length l0) (hc0 : l0.length ≤ c0) (h : impl_CutMarks.f k l0 a1 = some (r1, r2)) :
    Calls Try.prog 32 #[.slice A0 l0.length c0, .int .i64 a1] w fun e w' => ∃ v0_ : Value, e = .returned (.tuple #[v0_, .bool r2]) ∧ Kd.R k60 60 w' w.heap.size (fun _ => True) v0_ r1 ∧ Below w.heap.size w w' := by
  have HR := Aside0.mk hr0
  have HL := Aside0.mk hc0
  clear hr0 hc0
  unfold impl_CutMarks.f at h
  obtain ⟨t, h1, g1⟩ := Option.bind_eq_some_iff.1 h
  clear h
  have H1 := Aside0.mk h1
  clear h1
  cases t with
  | false =>
    rw [if_neg (by decide)] at g1
    obtain ⟨e1, e2⟩ := Prod.mk.inj (Option.some.inj g1)
    have E1 := Aside0.mk e1
    have E2 := Aside0.mk e2
    clear g1 e1 e2
    go_enter Try.func32, Try.ntmps32
    go_wp2_with fail
    refine (impl_areMarks.calls k _ _ _ false _ (Kd.C_below HR.out (below_alloc (Below.refl _ _) _)) HL.out H1.out).mono ?_
    rintro e w2 ⟨rfl, hb⟩
    have HB := Aside0.mk (below_step (below_alloc (Below.refl w.heap.size w) _) hb)
    clear hb
    go_wp2_with fail
    go_ret2
    obtain rfl := E1.out
    obtain rfl := E2.out
    exact ⟨_, rfl, Kd.R_nil _ _ _ _ _, HB.out⟩
  | true =>
    rw [if_pos rfl] at g1
    obtain ⟨u, h2, g2⟩ := Option.bind_eq_some_iff.1 g1
    clear g1
    have H2 := Aside0.mk h2
    clear h2
    cases u with
    | false =>
      rw [if_neg (by decide)] at g2
      obtain ⟨e1, e2⟩ := Prod.mk.inj (Option.some.inj g2)
      have E1 := Aside0.mk e1
      have E2 := Aside0.mk e2
      clear g2 e1 e2
      go_enter Try.func32, Try.ntmps32
      go_wp2_with fail
      refine (impl_areMarks.calls k _ _ _ true _ (Kd.C_below HR.out (below_alloc (Below.refl _ _) _)) HL.out H1.out).mono ?_
      rintro e w2 ⟨rfl, hb⟩
      have hx : w2.cell? ⟨w.heap.size, 0, none⟩ = some (.int .i64 a1) := ((hb).cell (p := ⟨w.heap.size, 0, none⟩) (by simp)).trans (by go_simp)
      have HB := Aside0.mk (below_step (below_alloc (Below.refl w.heap.size w) _) hb)
      clear hb
      go_wp2_with fail
      refine (impl_in.calls _ _ _ _ _ H2.out).mono ?_
      rintro e w3 ⟨rfl, ⟨n3, rfl⟩⟩
      go_wp2_with fail
      go_ret2
      obtain rfl := E1.out
      obtain rfl := E2.out
      exact ⟨_, rfl, Kd.R_nil _ _ _ _ _, pw_below_drewN HB.out _⟩
    | true =>
      rw [if_pos rfl] at g2
      by_cases hn : l0.length ≤ 1048576
      · rw [if_pos hn] at g2
        obtain ⟨e1, e2⟩ := Prod.mk.inj (Option.some.inj g2)
        have E1 := Aside0.mk e1
        have E2 := Aside0.mk e2
        clear g2 e1 e2
        go_enter Try.func32, Try.ntmps32
        go_wp2_with fail
        refine (impl_areMarks.calls k _ _ _ true _ (Kd.C_below HR.out (below_alloc (Below.refl _ _) _)) HL.out H1.out).mono ?_
        rintro e w2 ⟨rfl, hb⟩
        have hx : w2.cell? ⟨w.heap.size, 0, none⟩ = some (.int .i64 a1) := ((hb).cell (p := ⟨w.heap.size, 0, none⟩) (by simp)).trans (by go_simp)
        have HZ := Aside0.mk (show w.heap.size < w2.heap.size by have := (hb).size; simp at this; omega)
        have HB := Aside0.mk (below_step (below_alloc (Below.refl w.heap.size w) (.cells #[.int .i64 a1] 3)) hb)
        have HX := Aside0.mk hx
        clear hb
        go_wp2_with fail
        refine (impl_in.calls _ _ _ _ _ H2.out).mono ?_
        rintro e w3 ⟨rfl, ⟨n3, rfl⟩⟩
        clear hx
        have HC := Aside0.mk (Kd.C_below HR.out (pw_below_drewN HB.out n3))
        go_wp2_with (first | ((with_reducible refine gate_dst (N := 14) rfl ?_); refine Kd.R_lit k60 _ 60 ?hg (N := 14) ?hd (xs := ([] : List S60)) (inner := []) (ok := fun _ => True) (okp := fun _ => True) ?hr ?hp (fun _ hk => hk) trivial (Below.refl _ _) (Nat.le_refl _) (by simp) ?_; (case hd => rfl); (case hg => rfl); (case hr => first | (go_simp; done) | (go_simp; rfl)); (case hp => exact (Reps.none _ _)); intro v14 w11 ho12 hb hg_ hnew_; have HO11 := Aside0.mk ho12; have HB11 := Aside0.mk hb; clear ho12 hb hg_ hnew_) | ((with_reducible refine gate_builtin (b := .append) (xs := #[.tmp 14, .tmp 15]) rfl ?_); at_builtin; refine Kd.R_append_rows k60 (w0 := w) w.heap.size rfl (.tmp 14) (.tmp 15) 31 60 (.agg #[(.int .i64 0), (.int .i64 0)]) 16 rfl Try.underlying31 info60 rfl (by decide) (by omega) v14 [] l0 _ _ _ (fun _ => True) (fun _ => False) rfl rfl ?aO ?aR (fun _ _ h => h) (fun _ h => h.elim) ?aF ?aB ?aS ?aL ?_; (case aR => exact Kd.C_below HC.out HB11.out); (case aO => exact Kd.R_lower HO11.out (pw_below_drewN HB.out n3).size); (case aF => exact fun _ _ => trivial); (case aB => exact below_step (pw_below_drewN HB.out n3) HB11.out); (case aS => exact (below_step (pw_below_drewN HB.out n3) HB11.out).size); (case aL => simp only [List.length_nil]; omega); intro v16 w12 ho hb hg hat; have HO12 := Aside0.mk ho; have HB12 := Aside0.mk hb; have HG12 := Aside0.mk hg; have HAT := Aside0.mk hat; clear ho hb hg hat))
        obtain ⟨A16, c16, e16⟩ := Kd.R_slice HO12.out
        subst e16
        have h14 : ∀ k_, v14.ownBlock = some k_ → w.heap.size < k_ := fun k_ e_ => Nat.lt_of_lt_of_le HZ.out (Kd.R_base HO11.out k_ e_)
        have h16 : some w.heap.size ≠ (.slice A16 l0.length c16 : Value).ownBlock := fun e_ => by
          rcases HAT.out with h_ | ⟨b_, h_, h2_⟩
          · have := h14 _ (h_.symm.trans e_.symm)
            omega
          · have h3_ := Option.some.inj (e_.trans h_)
            have h4_ : w2.heap.size ≤ b_ := Nat.le_trans HB11.out.size h2_
            have := HZ.out
            omega
        have hx12 : w12.cell? ⟨w.heap.size, 0, none⟩ = some (.int .i64 a1) := cell_grown HG12.out ((HB11.out.cell (p := ⟨w.heap.size, 0, none⟩) HZ.out).trans HX.out) (fun e_ => absurd (h14 _ e_.symm) (Nat.lt_irrefl _))
        have HDEL := Aside0.mk (cutMarks_del (fun x => decide (x.f1 ≥ a1)) l0 A16 c16 57 #[.pointer (some ⟨w.heap.size, 0, none⟩)] (fun args w => by first | rfl | kernel_rfl) w w12 (fun _ => True) HB12.out HO12.out
          (fun W x hk => cutMarks_lit x a1 w.heap.size W (cell_kept hx12 hk (fun h_ => h16 h_)) (Nat.lt_of_lt_of_le (World.block_lt_of_cell? _ _ hx12) hk.1)))
        clear h14 h16 hx12 HO11 HB11 HG12 HAT
        go_wp2_with fail
        refine HDEL.out.mono ?_
        clear HDEL
        rintro e w4 ⟨rfl, ho4, hb4, _⟩
        have HO4 := Aside0.mk ho4
        have HB4 := Aside0.mk hb4
        clear ho4 hb4
        go_wp2_with fail
        go_ret2
        obtain rfl := E1.out
        obtain rfl := E2.out
        exact ⟨_, rfl, HO4.out, HB4.out⟩
      · rw [if_neg hn] at g2
        cases g2



/-- A state of type 73 at block g of W; what its slices lead to came in by w0. -/
def IsS73 (w0 W : World) (g : Nat) (f0 : List Int) (f1 : Int) (f2 : Int) : Prop := ∃ A0 c0, W.heap[g]? = some (.cells #[.slice A0 f0.length c0, .int .i64 f1, .int .u64 f2] 73 (0, 0)) ∧ w0.heap.size ≤ g ∧ Kd.C (Kd.int .u8) w0 A0 f0.length f0
theorem IsS73.grown {w0 W : World} {g : Nat} {f0 : List Int} {f1 : Int} {f2 : Int} {W1 : World} {row : Option Nat} (h : IsS73 w0 W g f0 f1 f2) (hw : W.grownBy W1 row) (hne : some g ≠ row) : IsS73 w0 W1 g f0 f1 f2 := by
  obtain ⟨A0, c0, hb, hg, hr0⟩ := h
  exact ⟨A0, c0, blk_grown hb hw hne, hg, hr0⟩
theorem IsS73.own_neN {w0 W : World} {g : Nat} {f0 : List Int} {f1 : Int} {f2 : Int} {α : Type} {d : Kd α} {e : Nat} {base : Nat} {ok : Nat → Prop} {v : Value} {xs : List α} (h : IsS73 w0 W g f0 f1 f2) (ho : Kd.N d e W base ok v xs) (ht : e ≠ 73) : some g ≠ v.ownBlock := by
  obtain ⟨A0, c0, hb, hg, hr0⟩ := h
  exact Kd.N_ne ho hb ht
theorem IsS73.fresh {w0 W : World} {g : Nat} {f0 : List Int} {f1 : Int} {f2 : Int} (h : IsS73 w0 W g f0 f1 f2) : ∀ k, W.heap.size ≤ k → k ≠ g := by
  obtain ⟨A0, c0, hb, hg, hr0⟩ := h
  exact Kd.freshB hb
theorem IsS73.kept {w0 W : World} {g : Nat} {f0 : List Int} {f1 : Int} {f2 : Int} {W1 : World} {S : Nat → Prop} (h : IsS73 w0 W g f0 f1 f2) (hk : Kept W W1 S) (hne : ¬ S g) : IsS73 w0 W1 g f0 f1 f2 := by
  obtain ⟨A0, c0, hb, hg, hr0⟩ := h
  exact ⟨A0, c0, blk_kept hb hk hne, hg, hr0⟩
theorem IsS73.below {w0 W : World} {g : Nat} {f0 : List Int} {f1 : Int} {f2 : Int} {W1 : World} (h : IsS73 w0 W g f0 f1 f2) (hw : Below W.heap.size W W1) : IsS73 w0 W1 g f0 f1 f2 := h.grown (grown_of_below hw none) (by simp)
theorem IsS73.alloc {w0 W : World} {g : Nat} {f0 : List Int} {f1 : Int} {f2 : Int} (h : IsS73 w0 W g f0 f1 f2) (o : Obj) : IsS73 w0 (W.alloc o) g f0 f1 f2 := h.below (below_alloc (Below.refl _ _) o)
theorem IsS73.drewN {w0 W : World} {g : Nat} {f0 : List Int} {f1 : Int} {f2 : Int} (h : IsS73 w0 W g f0 f1 f2) (m : Nat) : IsS73 w0 (W.drewN m) g f0 f1 f2 := h
theorem IsS73.drew {w0 W : World} {g : Nat} {f0 : List Int} {f1 : Int} {f2 : Int} (h : IsS73 w0 W g f0 f1 f2) : IsS73 w0 W.drew g f0 f1 f2 := h
theorem IsS73.at_ {w0 W : World} {g : Nat} {f0 : List Int} {f1 : Int} {f2 : Int} {w' : World} {m : Nat} (hq : W.drewN m = w') (h : IsS73 w0 W g f0 f1 f2) : IsS73 w0 w' g f0 f1 f2 := by subst hq; exact IsS73.drewN h m
theorem IsS73.apart {w0 W : World} {g : Nat} {f0 : List Int} {f1 : Int} {f2 : Int} {α : Type} {d : Kd α} {e : Nat} {base : Nat} {ok : Nat → Prop} {v : Value} {xs : List α} (h : IsS73 w0 W g f0 f1 f2) (ho : d.R e W base ok v xs) (ht : ∀ q, q ∈ e :: d.E → q ≠ 73) : d.R e W base (fun k => ok k ∧ k ≠ g) v xs := by
  obtain ⟨A0, c0, hb, hg, hr0⟩ := h
  exact Kd.R_types ho hb ht
theorem IsS73.own_ne {w0 W : World} {g : Nat} {f0 : List Int} {f1 : Int} {f2 : Int} {α : Type} {d : Kd α} {e : Nat} {base : Nat} {ok : Nat → Prop} {v : Value} {xs : List α} (h : IsS73 w0 W g f0 f1 f2) (ho : d.R e W base ok v xs) (ht : e ≠ 73) : some g ≠ v.ownBlock := by
  obtain ⟨A0, c0, hb, hg, hr0⟩ := h
  exact Kd.R_ne ho hb ht
theorem IsS73.apartQ {w0 W : World} {g : Nat} {f0 : List Int} {f1 : Int} {f2 : Int} {α : Type} {d : Kd α} {e : Nat} {base : Nat} {ok : Nat → Prop} {v : Value} {xs : List α} (h : IsS73 w0 W g f0 f1 f2) (ho : d.Q e W base ok v xs) (ht : ∀ q, q ∈ e :: d.E → q ≠ 73) : d.Q e W base (fun k => ok k ∧ k ≠ g) v xs := by
  obtain ⟨A0, c0, hb, hg, hr0⟩ := h
  exact Kd.Q_types ho hb ht
theorem IsS73.own_neQ {w0 W : World} {g : Nat} {f0 : List Int} {f1 : Int} {f2 : Int} {α : Type} {d : Kd α} {e : Nat} {base : Nat} {ok : Nat → Prop} {v : Value} {xs : List α} (h : IsS73 w0 W g f0 f1 f2) (ho : d.Q e W base ok v xs) (ht : e ≠ 73) : some g ≠ v.ownBlock := by
  obtain ⟨A0, c0, hb, hg, hr0⟩ := h
  exact Kd.Q_ne ho hb ht
theorem IsS73.apartS {w0 W : World} {g : Nat} {f0 : List Int} {f1 : Int} {f2 : Int} {α : Type} {d : Kd α} {e : Nat} {base : Nat} {ok : Nat → Prop} {v : Value} {xs : List α} (h : IsS73 w0 W g f0 f1 f2) (ho : d.S e W base ok v xs) (ht : ∀ q, q ∈ e :: d.E → q ≠ 73) : d.S e W base (fun k => ok k ∧ k ≠ g) v xs := by
  obtain ⟨A0, c0, hb, hg, hr0⟩ := h
  exact Kd.S_types ho hb ht
theorem IsS73.own_neS {w0 W : World} {g : Nat} {f0 : List Int} {f1 : Int} {f2 : Int} {α : Type} {d : Kd α} {e : Nat} {base : Nat} {ok : Nat → Prop} {v : Value} {xs : List α} (h : IsS73 w0 W g f0 f1 f2) (ho : d.S e W base ok v xs) (ht : e ≠ 73) : some g ≠ v.ownBlock := by
  obtain ⟨A0, c0, hb, hg, hr0⟩ := h
  exact Kd.S_ne ho hb ht
theorem IsS73.lt {w0 W : World} {g : Nat} {f0 : List Int} {f1 : Int} {f2 : Int} (h : IsS73 w0 W g f0 f1 f2) : g < W.heap.size := by
  obtain ⟨A0, c0, hb, hg, hr0⟩ := h
  exact blk_lt hb
theorem IsS73.ge {w0 W : World} {g : Nat} {f0 : List Int} {f1 : Int} {f2 : Int} (h : IsS73 w0 W g f0 f1 f2) : w0.heap.size ≤ g := by
  obtain ⟨A0, c0, hb, hg, hr0⟩ := h
  exact hg
theorem IsS73.ne_blk {w0 W : World} {g : Nat} {f0 : List Int} {f1 : Int} {f2 : Int} {a : Nat} {cs : Array Value} {t : TypeId} {fr : Nat × Nat} (h : IsS73 w0 W g f0 f1 f2) (hb2 : W.heap[a]? = some (.cells cs t fr)) (ht : t ≠ 73) : g ≠ a := by
  obtain ⟨A0, c0, hb, hg, hr0⟩ := h
  rintro rfl
  rw [hb] at hb2
  injection hb2 with hb2
  injection hb2 with _ ht2
  exact ht ht2.symm
theorem IsS73.far {w0 W : World} {g : Nat} {f0 : List Int} {f1 : Int} {f2 : Int} {p : Addr} (h : IsS73 w0 W g f0 f1 f2) (hne : g ≠ p.block) (u : Value) : IsS73 w0 (W.setCell p u) g f0 f1 f2 := by
  obtain ⟨A0, c0, hb, hg, hr0⟩ := h
  exact ⟨A0, c0, blk_far hb hne u, hg, hr0⟩
theorem cellS73_0 {W : World} {g : Nat} {A0 : Option Addr} {c0 : Nat} {f0 : List Int} {f1 : Int} {f2 : Int} (h : W.heap[g]? = some (.cells #[.slice A0 f0.length c0, .int .i64 f1, .int .u64 f2] 73 (0, 0))) : W.cell? ⟨g, 0, none⟩ = some (.slice A0 f0.length c0) := (blk_cell h 0).trans rfl
theorem cellS73_1 {W : World} {g : Nat} {A0 : Option Addr} {c0 : Nat} {f0 : List Int} {f1 : Int} {f2 : Int} (h : W.heap[g]? = some (.cells #[.slice A0 f0.length c0, .int .i64 f1, .int .u64 f2] 73 (0, 0))) : W.cell? ⟨g, 1, none⟩ = some (.int .i64 f1) := (blk_cell h 1).trans rfl
theorem IsS73.set_1 {w0 W : World} {g : Nat} {f0 : List Int} {f1 : Int} {f2 : Int} (h : IsS73 w0 W g f0 f1 f2) (x : Int) : IsS73 w0 (W.setCell ⟨g, 1, none⟩ (.int .i64 x)) g f0 x f2 := by
  obtain ⟨A0, c0, hb, hg, hr0⟩ := h
  exact ⟨A0, c0, by simpa using blk_set hb 1 (.int .i64 x), hg, hr0⟩
theorem cellS73_2 {W : World} {g : Nat} {A0 : Option Addr} {c0 : Nat} {f0 : List Int} {f1 : Int} {f2 : Int} (h : W.heap[g]? = some (.cells #[.slice A0 f0.length c0, .int .i64 f1, .int .u64 f2] 73 (0, 0))) : W.cell? ⟨g, 2, none⟩ = some (.int .u64 f2) := (blk_cell h 2).trans rfl
theorem IsS73.set_2 {w0 W : World} {g : Nat} {f0 : List Int} {f1 : Int} {f2 : Int} (h : IsS73 w0 W g f0 f1 f2) (x : Int) : IsS73 w0 (W.setCell ⟨g, 2, none⟩ (.int .u64 x)) g f0 f1 x := by
  obtain ⟨A0, c0, hb, hg, hr0⟩ := h
  exact ⟨A0, c0, by simpa using blk_set hb 2 (.int .u64 x), hg, hr0⟩
theorem IsS73.new (w0 W : World) (A0 : Option Addr) (c0 : Nat) (f0 : List Int) (f1 : Int) (f2 : Int) (hB : Below w0.heap.size w0 W) (hr0 : Kd.C (Kd.int .u8) w0 A0 f0.length f0) : IsS73 w0 (W.alloc (.cells #[.slice A0 f0.length c0, .int .i64 f1, .int .u64 f2] 73)) W.heap.size f0 f1 f2 := ⟨A0, c0, by simpa using heap_alloc_new W _, hB.size, hr0⟩

/-! ### spec_l1Cur_next: function 67 -/
def spec_l1Cur_next.f (s0_0 : List Int) (s0_1 : Int) (s0_2 : Int) : Option (Int × Int × Int) := if s0_1 < (s0_0.length : Int) then (if 0 ≤ s0_1 then (if (wrap64 (s0_1 + 1)) ≤ (s0_0.length : Int) then (some (wrap64 (rd s0_0 s0_1), wrap64 (s0_1 + 1), IntKind.u64.wrap ((IntKind.u64.wrap ((IntKind.u64.wrap (s0_2 * 6364136223846793005)) + (IntKind.u64.wrap (wrap64 (rd s0_0 s0_1))))) + 1442695040888963407))) else (some (wrap64 (Go.bits .and .u64 ((IntKind.u64.wrap ((IntKind.u64.wrap ((IntKind.u64.wrap (s0_2 * 6364136223846793005)) + (IntKind.u64.wrap (wrap64 (rd s0_0 s0_1))))) + 1442695040888963407)) / 1099511627776) 255), wrap64 (s0_1 + 1), IntKind.u64.wrap ((IntKind.u64.wrap ((IntKind.u64.wrap (s0_2 * 6364136223846793005)) + (IntKind.u64.wrap (wrap64 (rd s0_0 s0_1))))) + 1442695040888963407)))) else (none)) else (if (wrap64 (s0_1 + 1)) ≤ (s0_0.length : Int) then (some (0, wrap64 (s0_1 + 1), IntKind.u64.wrap ((IntKind.u64.wrap (IntKind.u64.wrap (s0_2 * 6364136223846793005))) + 1442695040888963407))) else (some (wrap64 (Go.bits .and .u64 ((IntKind.u64.wrap ((IntKind.u64.wrap (IntKind.u64.wrap (s0_2 * 6364136223846793005))) + 1442695040888963407)) / 1099511627776) 255), wrap64 (s0_1 + 1), IntKind.u64.wrap ((IntKind.u64.wrap (IntKind.u64.wrap (s0_2 * 6364136223846793005))) + 1442695040888963407))))
set_option maxHeartbeats 8000000 in
set_option maxRecDepth 100000 in
theorem spec_l1Cur_next.calls (g : Nat) (s0_0 : List Int) (s0_1 : Int) (s0_2 : Int) (r1 : Int) (r2 : Int) (r3 : Int) (w0 w : World) (hI : IsS73 w0 w g s0_0 s0_1 s0_2) (hB : Below w0.heap.size w0 w) (h : spec_l1Cur_next.f s0_0 s0_1 s0_2 = some (r1, r2, r3)) :
    Calls Try.prog 67 #[.pointer (some ⟨g, 0, none⟩)] w fun e w' => e = .returned (.int .i64 r1) ∧ IsS73 w0 w' g s0_0 r2 r3 ∧ Below w0.heap.size w0 w' ∧ KeepBut w w' g none := by
  have HI0 := Aside0.mk hI
  have HK := Aside0.mk (KeepBut.refl w g none)
  have HL := Aside0.mk hB.size
  clear hI
  have HW0 := Aside0.mk hB.size
  have HB := Aside0.mk hB
  clear hB
  have H : (if s0_1 < (s0_0.length : Int) then (if 0 ≤ s0_1 then (if (wrap64 (s0_1 + 1)) ≤ (s0_0.length : Int) then (some (wrap64 (rd s0_0 s0_1), wrap64 (s0_1 + 1), IntKind.u64.wrap ((IntKind.u64.wrap ((IntKind.u64.wrap (s0_2 * 6364136223846793005)) + (IntKind.u64.wrap (wrap64 (rd s0_0 s0_1))))) + 1442695040888963407))) else (some (wrap64 (Go.bits .and .u64 ((IntKind.u64.wrap ((IntKind.u64.wrap ((IntKind.u64.wrap (s0_2 * 6364136223846793005)) + (IntKind.u64.wrap (wrap64 (rd s0_0 s0_1))))) + 1442695040888963407)) / 1099511627776) 255), wrap64 (s0_1 + 1), IntKind.u64.wrap ((IntKind.u64.wrap ((IntKind.u64.wrap (s0_2 * 6364136223846793005)) + (IntKind.u64.wrap (wrap64 (rd s0_0 s0_1))))) + 1442695040888963407)))) else (none)) else (if (wrap64 (s0_1 + 1)) ≤ (s0_0.length : Int) then (some (0, wrap64 (s0_1 + 1), IntKind.u64.wrap ((IntKind.u64.wrap (IntKind.u64.wrap (s0_2 * 6364136223846793005))) + 1442695040888963407))) else (some (wrap64 (Go.bits .and .u64 ((IntKind.u64.wrap ((IntKind.u64.wrap (IntKind.u64.wrap (s0_2 * 6364136223846793005))) + 1442695040888963407)) / 1099511627776) 255), wrap64 (s0_1 + 1), IntKind.u64.wrap ((IntKind.u64.wrap (IntKind.u64.wrap (s0_2 * 6364136223846793005))) + 1442695040888963407))))) = some (r1, r2, r3) := h
  clear h
  by_cases c2 : s0_1 < (s0_0.length : Int)
  · rw [if_pos c2] at H
    have c2b0 : decide (s0_1 < (s0_0.length : Int)) = true := decide_eq_true c2
    clear c2
    by_cases c3 : 0 ≤ s0_1
    · rw [if_pos c3] at H
      have c3b0 : decide (0 ≤ s0_1) = true := decide_eq_true c3
      clear c3
      by_cases c4 : (wrap64 (s0_1 + 1)) ≤ (s0_0.length : Int)
      · rw [if_pos c4] at H
        have c4b0 : decide ((wrap64 (s0_1 + 1)) ≤ (s0_0.length : Int)) = true := decide_eq_true c4
        clear c4
        simp only [Option.some.injEq, Prod.mk.injEq] at H
        obtain ⟨rfl, rfl, rfl⟩ := H
        obtain ⟨ASz5_0, cSz5_0, HGz5, hgz5, HSz5_0⟩ := HI0.out
        have hcz5_0 := cellS73_0 HGz5
        have hcz5_1 := cellS73_1 HGz5
        have hcz5_2 := cellS73_2 HGz5
        have hfz5_1 := blk_frozen HGz5 1
        have hfz5_2 := blk_frozen HGz5 2
        clear HGz5 hgz5
        have p179 : 0 ≤ (s0_1 : Int) := of_decide_eq_true (by first | (with_reducible assumption) | assumption)
        have q179 : s0_1 < (s0_0.length : Int) := of_decide_eq_true (by first | (with_reducible assumption) | assumption)
        obtain ⟨ad179, e179, hx179_0⟩ := Kd.at_int HSz5_0 s0_1 p179 q179
        cases e179
        replace hx179_0 := pw_cell_below HB.out hx179_0
        replace p179 := eq_true p179
        replace q179 := eq_true q179
        go_enter Try.func67, Try.ntmps67
        go_wp2
        repeat (go_quiet (fail); try go_wp2)
        go_ret
        exact ⟨by first | rfl | (simp [errW_none, errW_some] <;> rfl) | (simp [*, errW_none, errW_some] <;> rfl), by repeat (first | (with_reducible first | exact HI0.out | apply IsS73.alloc | apply IsS73.drewN | apply IsS73.drew | apply IsS73.set_1 | apply IsS73.set_2) | exact HI0.out), by repeat (first | (with_reducible first | exact HB.out | apply below_alloc | apply pw_below_drewN | apply below_drew1 | refine below_set ?_ (IsS73.ge HI0.out)) | exact HB.out), by repeat (first | (with_reducible first | exact HK.out | apply KeepBut.set_ | apply keep_drewN | apply keep_drew | apply keep_alloc) | exact HK.out)⟩
      · rw [if_neg c4] at H
        have c4b0 : decide ((wrap64 (s0_1 + 1)) ≤ (s0_0.length : Int)) = false := decide_eq_false c4
        clear c4
        simp only [Option.some.injEq, Prod.mk.injEq] at H
        obtain ⟨rfl, rfl, rfl⟩ := H
        obtain ⟨ASz6_0, cSz6_0, HGz6, hgz6, HSz6_0⟩ := HI0.out
        have hcz6_0 := cellS73_0 HGz6
        have hcz6_1 := cellS73_1 HGz6
        have hcz6_2 := cellS73_2 HGz6
        have hfz6_1 := blk_frozen HGz6 1
        have hfz6_2 := blk_frozen HGz6 2
        clear HGz6 hgz6
        have p179 : 0 ≤ (s0_1 : Int) := of_decide_eq_true (by first | (with_reducible assumption) | assumption)
        have q179 : s0_1 < (s0_0.length : Int) := of_decide_eq_true (by first | (with_reducible assumption) | assumption)
        obtain ⟨ad179, e179, hx179_0⟩ := Kd.at_int HSz6_0 s0_1 p179 q179
        cases e179
        replace hx179_0 := pw_cell_below HB.out hx179_0
        replace p179 := eq_true p179
        replace q179 := eq_true q179
        go_enter Try.func67, Try.ntmps67
        go_wp2
        repeat (go_quiet (fail); try go_wp2)
        go_ret
        exact ⟨by first | rfl | (simp [errW_none, errW_some] <;> rfl) | (simp [*, errW_none, errW_some] <;> rfl), by repeat (first | (with_reducible first | exact HI0.out | apply IsS73.alloc | apply IsS73.drewN | apply IsS73.drew | apply IsS73.set_1 | apply IsS73.set_2) | exact HI0.out), by repeat (first | (with_reducible first | exact HB.out | apply below_alloc | apply pw_below_drewN | apply below_drew1 | refine below_set ?_ (IsS73.ge HI0.out)) | exact HB.out), by repeat (first | (with_reducible first | exact HK.out | apply KeepBut.set_ | apply keep_drewN | apply keep_drew | apply keep_alloc) | exact HK.out)⟩
    · rw [if_neg c3] at H
      exact absurd H (by simp)
  · rw [if_neg c2] at H
    have c2b0 : decide (s0_1 < (s0_0.length : Int)) = false := decide_eq_false c2
    clear c2
    by_cases c7 : (wrap64 (s0_1 + 1)) ≤ (s0_0.length : Int)
    · rw [if_pos c7] at H
      have c7b0 : decide ((wrap64 (s0_1 + 1)) ≤ (s0_0.length : Int)) = true := decide_eq_true c7
      clear c7
      simp only [Option.some.injEq, Prod.mk.injEq] at H
      obtain ⟨rfl, rfl, rfl⟩ := H
      obtain ⟨ASz8_0, cSz8_0, HGz8, hgz8, HSz8_0⟩ := HI0.out
      have hcz8_0 := cellS73_0 HGz8
      have hcz8_1 := cellS73_1 HGz8
      have hcz8_2 := cellS73_2 HGz8
      have hfz8_1 := blk_frozen HGz8 1
      have hfz8_2 := blk_frozen HGz8 2
      clear HGz8 hgz8
      go_enter Try.func67, Try.ntmps67
      go_wp2
      repeat (go_quiet (fail); try go_wp2)
      go_ret
      exact ⟨by first | rfl | (simp [errW_none, errW_some] <;> rfl) | (simp [*, errW_none, errW_some] <;> rfl), by repeat (first | (with_reducible first | exact HI0.out | apply IsS73.alloc | apply IsS73.drewN | apply IsS73.drew | apply IsS73.set_1 | apply IsS73.set_2) | exact HI0.out), by repeat (first | (with_reducible first | exact HB.out | apply below_alloc | apply pw_below_drewN | apply below_drew1 | refine below_set ?_ (IsS73.ge HI0.out)) | exact HB.out), by repeat (first | (with_reducible first | exact HK.out | apply KeepBut.set_ | apply keep_drewN | apply keep_drew | apply keep_alloc) | exact HK.out)⟩
    · rw [if_neg c7] at H
      have c7b0 : decide ((wrap64 (s0_1 + 1)) ≤ (s0_0.length : Int)) = false := decide_eq_false c7
      clear c7
      simp only [Option.some.injEq, Prod.mk.injEq] at H
      obtain ⟨rfl, rfl, rfl⟩ := H
      obtain ⟨ASz9_0, cSz9_0, HGz9, hgz9, HSz9_0⟩ := HI0.out
      have hcz9_0 := cellS73_0 HGz9
      have hcz9_1 := cellS73_1 HGz9
      have hcz9_2 := cellS73_2 HGz9
      have hfz9_1 := blk_frozen HGz9 1
      have hfz9_2 := blk_frozen HGz9 2
      clear HGz9 hgz9
      go_enter Try.func67, Try.ntmps67
      go_wp2
      repeat (go_quiet (fail); try go_wp2)
      go_ret
      exact ⟨by first | rfl | (simp [errW_none, errW_some] <;> rfl) | (simp [*, errW_none, errW_some] <;> rfl), by repeat (first | (with_reducible first | exact HI0.out | apply IsS73.alloc | apply IsS73.drewN | apply IsS73.drew | apply IsS73.set_1 | apply IsS73.set_2) | exact HI0.out), by repeat (first | (with_reducible first | exact HB.out | apply below_alloc | apply pw_below_drewN | apply below_drew1 | refine below_set ?_ (IsS73.ge HI0.out)) | exact HB.out), by repeat (first | (with_reducible first | exact HK.out | apply KeepBut.set_ | apply keep_drewN | apply keep_drew | apply keep_alloc) | exact HK.out)⟩

end Go.Proofs.Ytopddfiiglookaa.QFnMarks
