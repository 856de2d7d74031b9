/- For each Go function that one statement reaches: a plain function with the same answers, and the proof that the call comes to them. Conditions: those that each contract names. Written by a program of this repository. -/
import Derived.Test.YtffpeklekkpbjaaVDropBeforea
import Derived.Test.YtffpeklekkpbjaaQFnExactDropBeforex0
import Derived.Test.YtffpeklekkpbjaaQFnExactDropBeforex16
import Derived.Test.YtffpeklekkpbjaaQFnExactDropBeforex19
import Derived.Test.YtffpeklekkpbjaaQFnExactDropBeforex22
namespace Go.Proofs.Ytffpeklekkpbjaa.QFnExactDropBefore
open Go.RowKit Go.Proofs.YtffpeklekkpbjaaW.PrintWords Go.Proofs.YtffpeklekkpbjaaW.PrintLast Go.Proofs.YtffpeklekkpbjaaW.PrintMore
attribute [local go_sem] max2_int min2_int max_two min_two max_three min_three max_four min_four Go.Proofs.YtffpeklekkpbjaaW.PrintMore2.isSome_setCell   -- for this text's walks alone
set_option linter.unusedVariables false
set_option linter.unusedSimpArgs false

/-! ### impl_DropBefore: function 26 -/
def impl_DropBefore.l0 : Nat → Int → Int → List (S65) → Int → Option ((List (S65)) × Int × Bool)
 | 0, _, _, _, _ => none
 | k + 1, x1, x6, x447000, x447001 => if (wrap64 (x6 + 1)) < (x447000.length : Int) then (if 0 ≤ (wrap64 (x6 + 1)) then (if ((rd_T65 x447000 (wrap64 (x6 + 1))).f0) ≤ x1 then (impl_DropBefore.l0 k x1 (wrap64 (x6 + 1)) x447000 x447001) else ((impl_Store_logs.f k x447000 x447001).bind fun t450 => (if 0 ≤ x6 then (if x6 ≤ (t450.length : Int) then (if x6 < (x447000.length : Int) then ((impl_storeOf.f k (t450.drop (x6 : Int).toNat) ((rd_T65 x447000 x6).f0)).bind fun bt458 => (some (bt458.1, bt458.2, true))) else (none)) else (none)) else (none)))) else (none)) else ((impl_Store_logs.f k x447000 x447001).bind fun t462 => (if 0 ≤ x6 then (if x6 ≤ (t462.length : Int) then (if x6 < (x447000.length : Int) then ((impl_storeOf.f k (t462.drop (x6 : Int).toNat) ((rd_T65 x447000 x6).f0)).bind fun bt470 => (some (bt470.1, bt470.2, true))) else (none)) else (none)) else (none)))
def impl_DropBefore.f (k : Nat) (l0_0 : List (S65)) (a0_1 : Int) (a1 : Int) : Option ((List (S65)) × Int × Bool) := (impl_isStore.f k l0_0 a0_1).bind fun t448 => (if t448 = true then (impl_DropBefore.l0 k a1 0 l0_0 a0_1) else (some (([] : List (S65)), 0, false)))
theorem impl_DropBefore.mono_l : ∀ k, (∀ y0 y1 y2 y3, LeO (impl_DropBefore.l0 k y0 y1 y2 y3) (impl_DropBefore.l0 (k + 1) y0 y1 y2 y3))
 | 0 => fun _ _ _ _ r h => by simp [impl_DropBefore.l0] at h
 | k + 1 => by
  have ih0 := impl_DropBefore.mono_l k
  ·intro y0 y1 y2 y3
   unfold impl_DropBefore.l0
   repeat' first
   | (with_reducible first | exact ih0 _ _ _ _ | exact impl_Store_logs.mono _ _ _ | exact impl_isStore.mono _ _ _ | exact impl_storeOf.mono _ _ _ | exact LeO.refl _ | exact LeO.none _ | refine LeO.ite ?_ ?_ | refine LeO.bind ?_ (fun _ => ?_)) | exact ih0 _ _ _ _ | exact impl_Store_logs.mono _ _ _ | exact impl_isStore.mono _ _ _ | exact impl_storeOf.mono _ _ _ | exact LeO.none _ | refine LeO.ite ?_ ?_ | refine LeO.bind ?_ (fun _ => ?_)
theorem impl_DropBefore.mono : ∀ a0 a1 a2 k, LeO (impl_DropBefore.f k a0 a1 a2) (impl_DropBefore.f (k + 1) a0 a1 a2) := by
 intro a0 a1 a2 k
 have ih0 := impl_DropBefore.mono_l k
 unfold impl_DropBefore.f
 repeat' first
   | (with_reducible first | exact ih0 _ _ _ _ | exact impl_Store_logs.mono _ _ _ | exact impl_isStore.mono _ _ _ | exact impl_storeOf.mono _ _ _ | exact LeO.refl _ | exact LeO.none _ | refine LeO.ite ?_ ?_ | refine LeO.bind ?_ (fun _ => ?_)) | exact ih0 _ _ _ _ | exact impl_Store_logs.mono _ _ _ | exact impl_isStore.mono _ _ _ | exact impl_storeOf.mono _ _ _ | exact LeO.none _ | refine LeO.ite ?_ ?_ | refine LeO.bind ?_ (fun _ => ?_)
def impl_DropBefore.T6 : Bool × List (List Nat × List Nat) := (true, [([], []), ([0], [0]), ([], []), ([1, 2], [1, 2]), ([], []), ([4], [4]), ([], []), ([5, 6], [5, 6]), ([7], [7]), ([8], [8]), ([3, 9, 1], [3, 9]), ([10, 10, 0, 1, 2, 3, 4, 5, 6, 7, 8, 9, 10], [10]), ([11, 0, 1, 2, 3, 4, 5, 6, 7, 8, 9, 10, 11], [])])
def impl_DropBefore.B6 : List Nat := [0, 1, 0, 7, 0, 16, 0, 112, 240, 496, 1023, 2047, 4095]
theorem impl_DropBefore.tab6 : rtab .any (opsOf Try.f26 6) = impl_DropBefore.T6 := by kernel_rfl
theorem impl_DropBefore.bits6 : waitsOk impl_DropBefore.T6.2 impl_DropBefore.B6 = true := by kernel_rfl
set_option maxHeartbeats 8000000 in
set_option maxRecDepth 100000 in
theorem impl_DropBefore.calls (k : Nat) (A0_0 : Option Addr) (c0_0 : Nat) (l0_0 : List (S65)) (a0_1 : Int) (a1 : Int) (r1 : List (S65)) (r2 : Int) (r3 : Bool) (w : World) (hr0_0 : Kd.C k65 w A0_0 l0_0.length l0_0) (hc0_0 : l0_0.length ≤ c0_0) (h : impl_DropBefore.f k l0_0 a0_1 a1 = some (r1, r2, r3)) :
  Calls Try.prog 26 #[.agg #[.slice A0_0 l0_0.length c0_0, .int .i64 a0_1], .int .i64 a1] w fun e w' => ∃ v0_ : Value, e = .returned (.tuple #[.agg #[v0_, .int .i64 r2], .bool r3]) ∧ Kd.S k65 65 w' w.heap.size (fun _ => True) v0_ r1 ∧ Below w.heap.size w w' := by
 have hu24 := Try.underlying24
 have HR0_0 := Aside0.mk hr0_0
 have HC0_0 := Aside0.mk hc0_0
 clear hr0_0 hc0_0
 have HB := Aside0.mk (Below.refl w.heap.size w)
 have H : ((impl_isStore.f k l0_0 a0_1).bind fun t448 => (if t448 = true then (impl_DropBefore.l0 k a1 0 l0_0 a0_1) else (some (([] : List (S65)), 0, false)))) = some (r1, r2, r3) := h
 clear h
 replace H := bnd_ H
 obtain ⟨t448, A3, H⟩ := H
 replace H := ifb_ H
 obtain ⟨rfl, H⟩ | ⟨rfl, H⟩ := H
 rotate_left
 ·simp only [Option.some.injEq, Prod.mk.injEq] at H
  obtain ⟨rfl, rfl, rfl⟩ := H
  go_enter Try.func26, Try.ntmps26
  go_wp2_with (first | ((with_reducible refine gate_dst (N := 2) rfl ?_); refine be_ (N := 2) #[.slice A0_0 l0_0.length c0_0, .int .i64 a0_1] 24 ?_; intro gb446 hg w46 hbox hb; have BK446 := Aside0.mk (hbox); have GW446 := ge_ hg; have GE446 := ge_ hg; replace HB := nb_ hb; clear hb hbox hg) | ((with_reducible refine gate_dst (N := 4) rfl ?_); refine be_ (N := 4) #[.slice none 0 0, .int .i64 0] 24 ?_; intro gb447 hg w47 hbox hb; have BK447 := Aside0.mk (hbox); have GW447 := ge1_ hg GE446; have GE447 := ge1_ hg GE446; replace HB := nc_ GE446 hb; have NB446_447 := nl_ BK446 hg; have NB447_446 := ng_ BK446 hg; replace BK446 := bK_ BK446 hb; clear hb hbox hg; have hnb48 := NB446_447.out; have hnc48 := NB447_446.out; obtain ⟨hcz49_0, hcz49_1, hfz49_0, hfz49_1⟩ := cf2_ BK446.out) | ((with_reducible refine gate_callee (f := 67) rfl ?_); refine gl_ 8 Try.func67 #[.agg #[.slice A0_0 l0_0.length c0_0, .int .i64 a0_1]] rfl ma_ ?_; (with_reducible refine (impl_isStore.calls k _ _ l0_0 a0_1 false _ ?side1 ?side2 A3.out).mono ?_); (case side1 => exact cs_ ((Kd.C_below HR0_0.out HB.out))); (case side2 => exact HC0_0.out); rintro e w50 ⟨rfl, hb⟩; refine ⟨_, rfl, ?_⟩; replace BK446 := bK_ BK446 hb; replace BK447 := bK_ BK447 hb; replace HB := nc2_ GE446 GE447 hb; (try clear hb); (try clear hb2); (try clear hk); (try clear hi); obtain ⟨hcz51_0, hcz51_1, hfz51_0, hfz51_1⟩ := cf2_ BK447.out))
  refine bodyPost_ret (results_ct rfl _ _ gb447 24 #[.slice none 0 0, .int .i64 0] (0, 0) _ rfl (up_ BK447) Try.underlying24 rfl (by kernel_rfl)) rfl ?_
  exact ⟨_, er_, by first | exact Kd.S_nil _ _ _ _ _ | exact Kd.N_nil _ _ _ _ _ | exact Kd.V_nil _ _ _ _ _ | exact Kd.Q_nil _ _ _ _ _ | exact Kd.R_nil _ _ _ _ _, hs2_ GE446.out GE447.out⟩
 have H' := Aside0.mk H
 clear H
 go_enter Try.func26, Try.ntmps26
 go_wp2_with (first | ((with_reducible refine gate_dst (N := 2) rfl ?_); refine be_ (N := 2) #[.slice A0_0 l0_0.length c0_0, .int .i64 a0_1] 24 ?_; intro gb446 hg w5 hbox hb; have BK446 := Aside0.mk (hbox); have GW446 := ge_ hg; have GE446 := ge_ hg; replace HB := nb_ hb; clear hb hbox hg) | ((with_reducible refine gate_dst (N := 4) rfl ?_); refine be_ (N := 4) #[.slice none 0 0, .int .i64 0] 24 ?_; intro gb447 hg w6 hbox hb; have BK447 := Aside0.mk (hbox); have GW447 := ge1_ hg GE446; have GE447 := ge1_ hg GE446; replace HB := nc_ GE446 hb; have NB446_447 := nl_ BK446 hg; have NB447_446 := ng_ BK446 hg; replace BK446 := bK_ BK446 hb; clear hb hbox hg; have hnb7 := NB446_447.out; have hnc7 := NB447_446.out; obtain ⟨hcz8_0, hcz8_1, hfz8_0, hfz8_1⟩ := cf2_ BK446.out) | ((with_reducible refine gate_callee (f := 67) rfl ?_); refine gl_ 8 Try.func67 #[.agg #[.slice A0_0 l0_0.length c0_0, .int .i64 a0_1]] rfl ma_ ?_; (with_reducible refine (impl_isStore.calls k _ _ l0_0 a0_1 true _ ?side1 ?side2 A3.out).mono ?_); (case side1 => exact cs_ ((Kd.C_below HR0_0.out HB.out))); (case side2 => exact HC0_0.out); rintro e w9 ⟨rfl, hb⟩; refine ⟨_, rfl, ?_⟩; replace BK446 := bK_ BK446 hb; replace BK447 := bK_ BK447 hb; replace HB := nc2_ GE446 GE447 hb; (try clear hb); (try clear hb2); (try clear hk); (try clear hi)))
 go_loopg [6] k (fun kq v6 w' => ∃ (x6_1 : Int), v6 = .int .i64 x6_1 ∧ Aside0 (impl_DropBefore.l0 kq a1 x6_1 l0_0 a0_1 = some (r1, r2, r3)) ∧ Aside0 (kq ≤ k) ∧ Aside0 (w'.heap[gb446]? = some (.cells #[(.slice A0_0 l0_0.length c0_0), .int .i64 a0_1] 24 (0, 0))) ∧ Aside0 (w'.heap[gb447]? = some (.cells #[(.slice none 0 0), .int .i64 0] 24 (0, 0))) ∧ Aside0 (Below w.heap.size w w'))
 case atStart => exact ⟨(0), sr_, H', ⟨Nat.le_refl _⟩, ⟨kb_ BK446.out⟩, ⟨kb_ BK447.out⟩, ⟨hs2_ GE446.out GE447.out⟩⟩
 case round =>
  clear H'
  try clear c2
  try clear p2
  try clear c4
  try clear c6
  try clear c7
  try clear hcz8_0
  try clear hcz8_1
  try clear hfz8_0
  try clear hfz8_1
  obtain ⟨x6_1, rfl, HA, HK1, BK446, BK447, HB⟩ := hrel
  cases gk with
  | zero => exact absurd HA.out (by simp [impl_DropBefore.l0])
  | succ k1 =>
   have H := HA.out
   clear HA
   simp only [impl_DropBefore.l0] at H
   replace H := ite_ H
   obtain ⟨c10, H⟩ | ⟨c10, H⟩ := H
   rotate_left
   ·have c10b0 := decide_eq_false c10
    clear c10
    replace H := bnd_ H
    obtain ⟨t462, A31, H⟩ := H
    replace H := ifs_ H
    obtain ⟨c32, H⟩ := H
    have c32b0 := eq_true c32
    have c32b1 := decide_eq_true c32
    clear c32
    replace H := ifs_ H
    obtain ⟨c33, H⟩ := H
    have c33b0 := eq_true c33
    have c33b1 := decide_eq_true c33
    clear c33
    obtain ⟨y465, hy465⟩ : ∃ y_ : List (List (S43)), y_ = (t462.drop (x6_1 : Int).toNat) := ⟨_, rfl⟩
    replace H : (if x6_1 < (l0_0.length : Int) then ((impl_storeOf.f k1 y465 ((rd_T65 l0_0 x6_1).f0)).bind fun bt470 => (some (bt470.1, bt470.2, true))) else (none)) = some (r1, r2, r3) := by first | (rw [hy465]; with_reducible exact H) | (have H2_ := (Option.bind_some _ _).symm.trans H; rw [hy465]; with_reducible exact H2_) | (have H2_ := (Option.bind_some _ _).symm.trans H; with_reducible exact H2_) | with_reducible exact H | (rw [hy465]; exact H) | exact H
    have Ny465 := Aside0.mk hy465
    clear hy465
    replace H := ifs_ H
    obtain ⟨c34, H⟩ := H
    have c34b0 := decide_eq_true c34
    clear c34
    replace H := bnd_ H
    obtain ⟨⟨t470, t473⟩, A35, H⟩ := H
    replace H := red_ H
    simp only [Option.some.injEq, Prod.mk.injEq] at H
    obtain ⟨rfl, rfl, rfl⟩ := H
    have hnb36 := NB446_447.out
    have hnc36 := NB447_446.out
    obtain ⟨hcz37_0, hcz37_1, hfz37_0, hfz37_1⟩ := cf2_ BK446.out
    try go_wp2
    replace BK446 := qK_ BK446
    replace BK447 := qK_ BK447
    replace HB := qH_ HB
    have p469 : 0 ≤ (x6_1 : Int) := oa_
    have q469 : x6_1 < (l0_0.length : Int) := oa_
    obtain ⟨ad469, A469_2, c469_2, e469, hx469_0, hx469_1, hx469_2, hl469_2, hi469_2⟩ := at_T65 HR0_0.out x6_1 p469 q469
    have hw469_2 := hx469_2
    have hw469_1 := hx469_1
    have hw469_0 := hx469_0
    cases e469
    replace hx469_0 := pc_ HB.out hx469_0
    replace hx469_1 := pc_ HB.out hx469_1
    replace hx469_2 := pc_ HB.out hx469_2
    have HR469_2 := Aside0.mk hi469_2
    have HC469_2 := Aside0.mk hl469_2
    clear hi469_2 hl469_2
    replace p469 := eq_true p469
    replace q469 := eq_true q469
    refine start_ (n := 13) (S := fun w' => w'.cell? ⟨gb446, 0, none⟩ = some (.slice (some ad469) l0_0.length c0_0) ∧ w'.cell? ⟨gb446, 1, none⟩ = some (.int .i64 a0_1) ∧ w'.cell? (ad469.add ((x6_1).toNat * 3)) = some (.int .i64 ((rd_T65 l0_0 x6_1).f0)) ∧ w'.cell? ⟨(ad469.add ((x6_1).toNat * 3)).block, (ad469.add ((x6_1).toNat * 3)).off + 1, none⟩ = some (.string ((rd_T65 l0_0 x6_1).f1)) ∧ w'.cell? ⟨(ad469.add ((x6_1).toNat * 3)).block, (ad469.add ((x6_1).toNat * 3)).off + 2, none⟩ = some (.slice A469_2 ((rd_T65 l0_0 x6_1).f2).length c469_2)) (ds := []) #[false, false, false, false, false, false, false, false, false, false, false, false, false] (by kernel_rfl) rfl rfl ⟨bt_ BK446 0, bt_ BK446 1, (pc_ HB.out hw469_0), (pc_ HB.out hw469_1), (pc_ HB.out hw469_2)⟩ (fun hHeld => ?_); refine with_tabW impl_DropBefore.tab6 impl_DropBefore.bits6 (fun HT_ HW_ => ?_)
    generalize wr.drew = w38 at BK446 BK447 HB HR469_2 hx469_0 hx469_1 hx469_2 hHeld ⊢
    refine pv_ 2 32 ?_
    refine pv_ 4 34 ?_
    refine pv_ 6 36 ?_
    refine tk_ 0 30 ?_
    refine tk_ 5 35 ?_
    refine pv_ 7 37 ?_
    refine pv_ 8 38 ?_
    refine tk_ 9 39 ?_
    refine on_ 1 31 (fun K hK => ?_)
    refine gs_ Try.func73 #[.agg #[.slice (some ad469) l0_0.length c0_0, .int .i64 a0_1]] rfl ma_ ?_
    with_reducible refine (impl_Store_logs.calls k1 _ _ l0_0 a0_1 t462 _ ?side1 ?side2 A31.out).mono ?_
    (case side1 => exact cs_ ((Kd.C_below HR0_0.out HB.out)))
    (case side2 => exact HC0_0.out)
    rintro e w39 ⟨v463, rfl, ho0, hb⟩
    refine ⟨_, rfl, ?_⟩
    have HO464 := Aside0.mk (Kd.R_lower ho0 (below_size (hs2_ GE446.out GE447.out)))
    replace BK446 := bK_ BK446 hb
    replace BK447 := bK_ BK447 hb
    replace HB := nc2_ GE446 GE447 hb
    (try clear hb)
    (try clear hb2)
    (try clear hk)
    (try clear hi)
    (try clear ho0)
    obtain ⟨Ao41, co41, eo41⟩ := Kd.R_slice HO464.out
    (first | subst eo41 | (injection eo41 with f1_ f2_ f3_; have f4_ := f1_.symm; have f5_ := f3_.symm; clear f1_ f2_ f3_; subst f4_; subst f5_))
    have q40 : (x6_1 : Int) ≤ ((t462.length : Int) : Int) := oa_
    obtain ⟨i040, hi040, _, hsz40, _⟩ := info_parts info48
    have hroom40 : t462.length ≤ co41 := (Kd.R_reads' HO464.out).2.1
    have hC40 : Kd.C (Kd.slice 43 k43) _ Ao41 t462.length t462 := (Kd.R_reads' HO464.out).2.2
    have q040 : (0 : Int) ≤ (x6_1 : Int) := oa_
    have hcut40 := cut_from (P := Try.prog) 92 48 .i64 Try.underlying92 hi040 1 hsz40 Ao41 t462.length co41 x6_1 q040 q40
    have hr40 := Kd.C_drop (m := (x6_1 : Int).toNat) (c := co41) hC40 (by omega) hroom40
    obtain ⟨A40, hA40⟩ : ∃ A1, A1 = (if co41 = (x6_1 : Int).toNat then Ao41 else (Ao41 : Option Addr).map (·.add ((x6_1 : Int).toNat * 1))) := ⟨_, rfl⟩
    obtain ⟨c40, hc40⟩ : ∃ c1, c1 = co41 - (x6_1 : Int).toNat := ⟨_, rfl⟩
    have hy40 : y465.length = t462.length - (x6_1 : Int).toNat := (by rw [Ny465.out, List.length_drop] <;> omega)
    rw [show (t462).drop (x6_1 : Int).toNat = y465 from Ny465.out.symm] at hr40
    replace hr40 : Kd.C (Kd.slice 43 k43) _ A40 y465.length y465 := (by rw [hA40]; exact hr40)
    rw [← hy40, ← hA40, ← hc40] at hcut40
    have HR468 := Aside0.mk hr40
    have HC468 := Aside0.mk (show y465.length ≤ c40 from by rw [hy40, hc40]; exact Nat.sub_le_sub_right hroom40 _)
    clear hr40 hC40 hroom40 hi040 hsz40 hc40
    have KY40 := Aside0.mk hy40
    have KA40 := Aside0.mk hA40
    clear hy40 hA40
    have KL40 := Aside0.mk (show (x6_1 : Int).toNat ≤ t462.length from by omega)
    replace q40 := eq_true q40
    refine hK.out _ _ ⟨bt_ BK446 0, bt_ BK446 1, (pc_ HB.out hw469_0), (pc_ HB.out hw469_1), (pc_ HB.out hw469_2)⟩ (fun hHeld => ?_)
    clear hK K
    refine no_ ?_
    refine pv_ 3 33 ?_
    refine on_ 10 40 (fun K hK => ?_)
    refine gs_ Try.func72 #[.slice A40 y465.length c40, .int .i64 ((rd_T65 l0_0 x6_1).f0)] rfl ma_ ?_
    with_reducible refine (impl_storeOf.calls k1 _ _ y465 ((rd_T65 l0_0 x6_1).f0) t470 t473 _ ?side1 ?side2 A35.out).mono ?_
    (case side1 => repeat (first | exact (by repeat (first | (with_reducible exact HR468.out) | (with_reducible refine Kd.C_alloc ?_ _) | (with_reducible refine Kd.C_drewN ?_ _) | (with_reducible refine Kd.C_drew ?_) | exact HR468.out)) | (with_reducible refine Kd.C_alloc ?_ _) | (with_reducible refine Kd.C_drewN ?_ _) | (with_reducible refine Kd.C_drew ?_)))
    (case side2 => exact HC468.out)
    rintro e w42 ⟨v471, rfl, ho0, hb⟩
    refine ⟨_, rfl, ?_⟩
    replace HO464 := rB_ HO464 hb
    have HO472 := Aside0.mk (Kd.S_lower ho0 (below_size (hs2_ GE446.out GE447.out)))
    replace BK446 := bK_ BK446 hb
    replace BK447 := bK_ BK447 hb
    replace HR468 := Aside0.mk (Kd.C_below (by repeat (first | (with_reducible exact HR468.out) | (with_reducible refine Kd.C_alloc ?_ _) | (with_reducible refine Kd.C_drewN ?_ _) | (with_reducible refine Kd.C_drew ?_) | exact HR468.out)) hb)
    replace HB := nc2_ GE446 GE447 hb
    (try clear hb)
    (try clear hb2)
    (try clear hk)
    (try clear hi)
    (try clear ho0)
    obtain ⟨Ao43, co43, eo43⟩ := Kd.S_slice HO472.out
    (first | subst eo43 | (injection eo43 with f1_ f2_ f3_; have f4_ := f1_.symm; have f5_ := f3_.symm; clear f1_ f2_ f3_; subst f4_; subst f5_))
    refine hK.out _ _ ⟨bt_ BK446 0, bt_ BK446 1, (pc_ HB.out hw469_0), (pc_ HB.out hw469_1), (pc_ HB.out hw469_2)⟩ (fun hHeld => ?_)
    clear hK K
    refine no_ ?_
    refine one_ (i := 11) (N := none) #[true, true, true, true, true, true, true, true, true, true, true, true, false] rfl rfl (one_of HT_.out (by kernel_rfl)) (by decide) (fun K hK => ?_)
    obtain ⟨hs44, hfs44⟩ := cf1_ BK447.out
    have hns44_0 := NB446_447.out
    have hms44_0 := NB447_446.out
    have hs45 : w42.cell? ⟨gb447, 1, none⟩ = some (.int .i64 0) := bt_ BK447 1
    have hfs45 := blk_frozen BK447.out 1
    have hns45_0 := NB446_447.out
    have hms45_0 := NB447_446.out
    refine skip_ (w1 := ?_) (by rfl) rfl ?_ ?_
    rotate_left
    ·go_simp
     rfl
    refine hK.out _ _ ⟨((cell_far (p := ⟨gb447, _, none⟩) NB446_447.out _).trans (((cell_far (p := ⟨gb447, _, none⟩) NB446_447.out _).trans (hHeld.1)))), ((cell_far (p := ⟨gb447, _, none⟩) NB446_447.out _).trans (((cell_far (p := ⟨gb447, _, none⟩) NB446_447.out _).trans (hHeld.2.1)))), ((cell_far (p := ⟨gb447, _, none⟩) (by first | exact Nat.ne_of_lt (Nat.lt_of_lt_of_le (by have := World.block_lt_of_cell? _ _ hw469_0; first | rwa [add_block] at this | exact this) GW447.out) | (rw [add_block]; exact Nat.ne_of_lt (Nat.lt_of_lt_of_le (by have := World.block_lt_of_cell? _ _ hw469_0; first | rwa [add_block] at this | exact this) GW447.out)) | (show (Addr.add _ _).block ≠ _; rw [add_block]; exact Nat.ne_of_lt (Nat.lt_of_lt_of_le (by have := World.block_lt_of_cell? _ _ hw469_0; first | rwa [add_block] at this | exact this) GW447.out)) | (dsimp only; exact Nat.ne_of_lt (Nat.lt_of_lt_of_le (by have := World.block_lt_of_cell? _ _ hw469_0; first | rwa [add_block] at this | exact this) GW447.out))) _).trans (((cell_far (p := ⟨gb447, _, none⟩) (by first | exact Nat.ne_of_lt (Nat.lt_of_lt_of_le (by have := World.block_lt_of_cell? _ _ hw469_0; first | rwa [add_block] at this | exact this) GW447.out) | (rw [add_block]; exact Nat.ne_of_lt (Nat.lt_of_lt_of_le (by have := World.block_lt_of_cell? _ _ hw469_0; first | rwa [add_block] at this | exact this) GW447.out)) | (show (Addr.add _ _).block ≠ _; rw [add_block]; exact Nat.ne_of_lt (Nat.lt_of_lt_of_le (by have := World.block_lt_of_cell? _ _ hw469_0; first | rwa [add_block] at this | exact this) GW447.out)) | (dsimp only; exact Nat.ne_of_lt (Nat.lt_of_lt_of_le (by have := World.block_lt_of_cell? _ _ hw469_0; first | rwa [add_block] at this | exact this) GW447.out))) _).trans (hHeld.2.2.1)))), ((cell_far (p := ⟨gb447, _, none⟩) (by first | exact Nat.ne_of_lt (Nat.lt_of_lt_of_le (by have := World.block_lt_of_cell? _ _ hw469_1; first | rwa [add_block] at this | exact this) GW447.out) | (rw [add_block]; exact Nat.ne_of_lt (Nat.lt_of_lt_of_le (by have := World.block_lt_of_cell? _ _ hw469_1; first | rwa [add_block] at this | exact this) GW447.out)) | (show (Addr.add _ _).block ≠ _; rw [add_block]; exact Nat.ne_of_lt (Nat.lt_of_lt_of_le (by have := World.block_lt_of_cell? _ _ hw469_1; first | rwa [add_block] at this | exact this) GW447.out)) | (dsimp only; exact Nat.ne_of_lt (Nat.lt_of_lt_of_le (by have := World.block_lt_of_cell? _ _ hw469_1; first | rwa [add_block] at this | exact this) GW447.out))) _).trans (((cell_far (p := ⟨gb447, _, none⟩) (by first | exact Nat.ne_of_lt (Nat.lt_of_lt_of_le (by have := World.block_lt_of_cell? _ _ hw469_1; first | rwa [add_block] at this | exact this) GW447.out) | (rw [add_block]; exact Nat.ne_of_lt (Nat.lt_of_lt_of_le (by have := World.block_lt_of_cell? _ _ hw469_1; first | rwa [add_block] at this | exact this) GW447.out)) | (show (Addr.add _ _).block ≠ _; rw [add_block]; exact Nat.ne_of_lt (Nat.lt_of_lt_of_le (by have := World.block_lt_of_cell? _ _ hw469_1; first | rwa [add_block] at this | exact this) GW447.out)) | (dsimp only; exact Nat.ne_of_lt (Nat.lt_of_lt_of_le (by have := World.block_lt_of_cell? _ _ hw469_1; first | rwa [add_block] at this | exact this) GW447.out))) _).trans (hHeld.2.2.2.1)))), ((cell_far (p := ⟨gb447, _, none⟩) (by first | exact Nat.ne_of_lt (Nat.lt_of_lt_of_le (by have := World.block_lt_of_cell? _ _ hw469_2; first | rwa [add_block] at this | exact this) GW447.out) | (rw [add_block]; exact Nat.ne_of_lt (Nat.lt_of_lt_of_le (by have := World.block_lt_of_cell? _ _ hw469_2; first | rwa [add_block] at this | exact this) GW447.out)) | (show (Addr.add _ _).block ≠ _; rw [add_block]; exact Nat.ne_of_lt (Nat.lt_of_lt_of_le (by have := World.block_lt_of_cell? _ _ hw469_2; first | rwa [add_block] at this | exact this) GW447.out)) | (dsimp only; exact Nat.ne_of_lt (Nat.lt_of_lt_of_le (by have := World.block_lt_of_cell? _ _ hw469_2; first | rwa [add_block] at this | exact this) GW447.out))) _).trans (((cell_far (p := ⟨gb447, _, none⟩) (by first | exact Nat.ne_of_lt (Nat.lt_of_lt_of_le (by have := World.block_lt_of_cell? _ _ hw469_2; first | rwa [add_block] at this | exact this) GW447.out) | (rw [add_block]; exact Nat.ne_of_lt (Nat.lt_of_lt_of_le (by have := World.block_lt_of_cell? _ _ hw469_2; first | rwa [add_block] at this | exact this) GW447.out)) | (show (Addr.add _ _).block ≠ _; rw [add_block]; exact Nat.ne_of_lt (Nat.lt_of_lt_of_le (by have := World.block_lt_of_cell? _ _ hw469_2; first | rwa [add_block] at this | exact this) GW447.out)) | (dsimp only; exact Nat.ne_of_lt (Nat.lt_of_lt_of_le (by have := World.block_lt_of_cell? _ _ hw469_2; first | rwa [add_block] at this | exact this) GW447.out))) _).trans (hHeld.2.2.2.2))))⟩ (fun hHeld => ?_)
    clear hK K
    refine pv_ 12 5 ?_
    refine done_ (done_of HT_.out (by kernel_rfl)) ?_
    try go_wp2
    refine bodyPost_ret (results_ct rfl _ _ gb447 24 #[.slice Ao43 t470.length co43, .int .i64 t473] (0, 0) _ rfl (up_ BK447) Try.underlying24 rfl (by kernel_rfl)) rfl ?_
    exact ⟨_, er_, by (with_reducible repeat (first | apply Kd.S_alloc | apply Kd.S_drewN | apply Kd.S_drew)); exact Kd.S_mono (Kd.S_far (p := ⟨gb447, 1, none⟩) (Kd.S_far (p := ⟨gb447, 0, none⟩) (Kd.S_types HO472.out BK447.out (by decide)) (fun _ hk => hk.2) (.slice Ao43 t470.length co43)) (fun _ hk => hk.2) (.int .i64 t473)) (fun _ hk => trivial), hs2_ GE446.out GE447.out⟩
   have c10b0 := decide_eq_true c10
   clear c10
   obtain ⟨ji11, hji11⟩ : ∃ j_ : Int, (wrap64 (x6_1 + 1)) = j_ := ⟨_, rfl⟩
   first | rw [hji11] at H | simp only [hji11] at H
   (try rw [hji11] at c10b0)
   have hji11w : (IntKind.i64.wrap (x6_1 + 1)) = ji11 := (i64_w _).trans hji11
   replace H := ifs_ H
   obtain ⟨c12, H⟩ := H
   have c12b0 := decide_eq_true c12
   clear c12
   replace H := ite_ H
   obtain ⟨c13, H⟩ | ⟨c13, H⟩ := H
   ·have c13b0 := decide_eq_true c13
    clear c13
    have H' := Aside0.mk H
    clear H
    have hnb14 := NB446_447.out
    have hnc14 := NB447_446.out
    obtain ⟨hcz15_0, hcz15_1, hfz15_0, hfz15_1⟩ := cf2_ BK446.out
    have p449 : 0 ≤ ((ji11) : Int) := oa_
    have q449 : (ji11) < (l0_0.length : Int) := oa_
    obtain ⟨ad449, A449_2, c449_2, e449, hx449_0, hx449_1, hx449_2, hl449_2, hi449_2⟩ := at_T65 HR0_0.out (ji11) p449 q449
    cases e449
    replace hx449_0 := pc_ HB.out hx449_0
    replace hx449_1 := pc_ HB.out hx449_1
    replace hx449_2 := pc_ HB.out hx449_2
    have HR449_2 := Aside0.mk hi449_2
    have HC449_2 := Aside0.mk hl449_2
    clear hi449_2 hl449_2
    replace p449 := eq_true p449
    replace q449 := eq_true q449
    go_wp2
    go_roundg k1
    case measure => have := HK1.out; omega
    case rel => exact ⟨(ji11), (by first | rfl | (simp; done) | (simp only [← hji11] <;> (first | rfl | simp)) | (simp [*]; done)), H', ⟨by have := HK1.out; omega⟩, ⟨kb_ BK446.out⟩, ⟨kb_ BK447.out⟩, ⟨hs2_ GE446.out GE447.out⟩⟩
   have c13b0 := decide_eq_false c13
   clear c13
   replace H := bnd_ H
   obtain ⟨t450, A16, H⟩ := H
   replace H := ifs_ H
   obtain ⟨c17, H⟩ := H
   have c17b0 := eq_true c17
   have c17b1 := decide_eq_true c17
   clear c17
   replace H := ifs_ H
   obtain ⟨c18, H⟩ := H
   have c18b0 := eq_true c18
   have c18b1 := decide_eq_true c18
   clear c18
   obtain ⟨y453, hy453⟩ : ∃ y_ : List (List (S43)), y_ = (t450.drop (x6_1 : Int).toNat) := ⟨_, rfl⟩
   replace H : (if x6_1 < (l0_0.length : Int) then ((impl_storeOf.f k1 y453 ((rd_T65 l0_0 x6_1).f0)).bind fun bt458 => (some (bt458.1, bt458.2, true))) else (none)) = some (r1, r2, r3) := by first | (rw [hy453]; with_reducible exact H) | (have H2_ := (Option.bind_some _ _).symm.trans H; rw [hy453]; with_reducible exact H2_) | (have H2_ := (Option.bind_some _ _).symm.trans H; with_reducible exact H2_) | with_reducible exact H | (rw [hy453]; exact H) | exact H
   have Ny453 := Aside0.mk hy453
   clear hy453
   replace H := ifs_ H
   obtain ⟨c19, H⟩ := H
   have c19b0 := decide_eq_true c19
   clear c19
   replace H := bnd_ H
   obtain ⟨⟨t458, t461⟩, A20, H⟩ := H
   replace H := red_ H
   simp only [Option.some.injEq, Prod.mk.injEq] at H
   obtain ⟨rfl, rfl, rfl⟩ := H
   have hnb21 := NB446_447.out
   have hnc21 := NB447_446.out
   obtain ⟨hcz22_0, hcz22_1, hfz22_0, hfz22_1⟩ := cf2_ BK446.out
   have p449 : 0 ≤ ((ji11) : Int) := oa_
   have q449 : (ji11) < (l0_0.length : Int) := oa_
   obtain ⟨ad449, A449_2, c449_2, e449, hx449_0, hx449_1, hx449_2, hl449_2, hi449_2⟩ := at_T65 HR0_0.out (ji11) p449 q449
   cases e449
   replace hx449_0 := pc_ HB.out hx449_0
   replace hx449_1 := pc_ HB.out hx449_1
   replace hx449_2 := pc_ HB.out hx449_2
   have HR449_2 := Aside0.mk hi449_2
   have HC449_2 := Aside0.mk hl449_2
   clear hi449_2 hl449_2
   replace p449 := eq_true p449
   replace q449 := eq_true q449
   try go_wp2
   replace BK446 := qK_ BK446
   replace BK447 := qK_ BK447
   replace HB := qH_ HB
   have p457 : 0 ≤ (x6_1 : Int) := oa_
   have q457 : x6_1 < (l0_0.length : Int) := oa_
   obtain ⟨ad457, A457_2, c457_2, e457, hx457_0, hx457_1, hx457_2, hl457_2, hi457_2⟩ := at_T65 HR0_0.out x6_1 p457 q457
   have hw457_2 := hx457_2
   have hw457_1 := hx457_1
   have hw457_0 := hx457_0
   obtain rfl : ad449 = ad457 := (by injection e457)
   replace hx457_0 := pc_ HB.out hx457_0
   replace hx457_1 := pc_ HB.out hx457_1
   replace hx457_2 := pc_ HB.out hx457_2
   have HR457_2 := Aside0.mk hi457_2
   have HC457_2 := Aside0.mk hl457_2
   clear hi457_2 hl457_2
   replace p457 := eq_true p457
   replace q457 := eq_true q457
   refine start_ (n := 13) (S := fun w' => w'.cell? ⟨gb446, 0, none⟩ = some (.slice (some ad449) l0_0.length c0_0) ∧ w'.cell? ⟨gb446, 1, none⟩ = some (.int .i64 a0_1) ∧ w'.cell? (ad449.add ((x6_1).toNat * 3)) = some (.int .i64 ((rd_T65 l0_0 x6_1).f0)) ∧ w'.cell? ⟨(ad449.add ((x6_1).toNat * 3)).block, (ad449.add ((x6_1).toNat * 3)).off + 1, none⟩ = some (.string ((rd_T65 l0_0 x6_1).f1)) ∧ w'.cell? ⟨(ad449.add ((x6_1).toNat * 3)).block, (ad449.add ((x6_1).toNat * 3)).off + 2, none⟩ = some (.slice A457_2 ((rd_T65 l0_0 x6_1).f2).length c457_2)) (ds := []) #[false, false, false, false, false, false, false, false, false, false, false, false, false] (by kernel_rfl) rfl rfl ⟨bt_ BK446 0, bt_ BK446 1, (pc_ HB.out hw457_0), (pc_ HB.out hw457_1), (pc_ HB.out hw457_2)⟩ (fun hHeld => ?_); refine with_tabW impl_DropBefore.tab6 impl_DropBefore.bits6 (fun HT_ HW_ => ?_)
   generalize wr.drew = w23 at BK446 BK447 HB HR457_2 hx457_0 hx457_1 hx457_2 hHeld ⊢
   refine pv_ 2 32 ?_
   refine pv_ 4 34 ?_
   refine pv_ 6 36 ?_
   refine tk_ 0 30 ?_
   refine tk_ 5 35 ?_
   refine pv_ 7 37 ?_
   refine pv_ 8 38 ?_
   refine tk_ 9 39 ?_
   refine on_ 1 31 (fun K hK => ?_)
   refine gs_ Try.func73 #[.agg #[.slice (some ad449) l0_0.length c0_0, .int .i64 a0_1]] rfl ma_ ?_
   with_reducible refine (impl_Store_logs.calls k1 _ _ l0_0 a0_1 t450 _ ?side1 ?side2 A16.out).mono ?_
   (case side1 => exact cs_ ((Kd.C_below HR0_0.out HB.out)))
   (case side2 => exact HC0_0.out)
   rintro e w24 ⟨v451, rfl, ho0, hb⟩
   refine ⟨_, rfl, ?_⟩
   have HO452 := Aside0.mk (Kd.R_lower ho0 (below_size (hs2_ GE446.out GE447.out)))
   replace BK446 := bK_ BK446 hb
   replace BK447 := bK_ BK447 hb
   replace HB := nc2_ GE446 GE447 hb
   (try clear hb)
   (try clear hb2)
   (try clear hk)
   (try clear hi)
   (try clear ho0)
   obtain ⟨Ao26, co26, eo26⟩ := Kd.R_slice HO452.out
   (first | subst eo26 | (injection eo26 with f1_ f2_ f3_; have f4_ := f1_.symm; have f5_ := f3_.symm; clear f1_ f2_ f3_; subst f4_; subst f5_))
   have q25 : (x6_1 : Int) ≤ ((t450.length : Int) : Int) := oa_
   obtain ⟨i025, hi025, _, hsz25, _⟩ := info_parts info48
   have hroom25 : t450.length ≤ co26 := (Kd.R_reads' HO452.out).2.1
   have hC25 : Kd.C (Kd.slice 43 k43) _ Ao26 t450.length t450 := (Kd.R_reads' HO452.out).2.2
   have q025 : (0 : Int) ≤ (x6_1 : Int) := oa_
   have hcut25 := cut_from (P := Try.prog) 92 48 .i64 Try.underlying92 hi025 1 hsz25 Ao26 t450.length co26 x6_1 q025 q25
   have hr25 := Kd.C_drop (m := (x6_1 : Int).toNat) (c := co26) hC25 (by omega) hroom25
   obtain ⟨A25, hA25⟩ : ∃ A1, A1 = (if co26 = (x6_1 : Int).toNat then Ao26 else (Ao26 : Option Addr).map (·.add ((x6_1 : Int).toNat * 1))) := ⟨_, rfl⟩
   obtain ⟨c25, hc25⟩ : ∃ c1, c1 = co26 - (x6_1 : Int).toNat := ⟨_, rfl⟩
   have hy25 : y453.length = t450.length - (x6_1 : Int).toNat := (by rw [Ny453.out, List.length_drop] <;> omega)
   rw [show (t450).drop (x6_1 : Int).toNat = y453 from Ny453.out.symm] at hr25
   replace hr25 : Kd.C (Kd.slice 43 k43) _ A25 y453.length y453 := (by rw [hA25]; exact hr25)
   rw [← hy25, ← hA25, ← hc25] at hcut25
   have HR456 := Aside0.mk hr25
   have HC456 := Aside0.mk (show y453.length ≤ c25 from by rw [hy25, hc25]; exact Nat.sub_le_sub_right hroom25 _)
   clear hr25 hC25 hroom25 hi025 hsz25 hc25
   have KY25 := Aside0.mk hy25
   have KA25 := Aside0.mk hA25
   clear hy25 hA25
   have KL25 := Aside0.mk (show (x6_1 : Int).toNat ≤ t450.length from by omega)
   replace q25 := eq_true q25
   refine hK.out _ _ ⟨bt_ BK446 0, bt_ BK446 1, (pc_ HB.out hw457_0), (pc_ HB.out hw457_1), (pc_ HB.out hw457_2)⟩ (fun hHeld => ?_)
   clear hK K
   refine no_ ?_
   refine pv_ 3 33 ?_
   refine on_ 10 40 (fun K hK => ?_)
   refine gs_ Try.func72 #[.slice A25 y453.length c25, .int .i64 ((rd_T65 l0_0 x6_1).f0)] rfl ma_ ?_
   with_reducible refine (impl_storeOf.calls k1 _ _ y453 ((rd_T65 l0_0 x6_1).f0) t458 t461 _ ?side1 ?side2 A20.out).mono ?_
   (case side1 => repeat (first | exact (by repeat (first | (with_reducible exact HR456.out) | (with_reducible refine Kd.C_alloc ?_ _) | (with_reducible refine Kd.C_drewN ?_ _) | (with_reducible refine Kd.C_drew ?_) | exact HR456.out)) | (with_reducible refine Kd.C_alloc ?_ _) | (with_reducible refine Kd.C_drewN ?_ _) | (with_reducible refine Kd.C_drew ?_)))
   (case side2 => exact HC456.out)
   rintro e w27 ⟨v459, rfl, ho0, hb⟩
   refine ⟨_, rfl, ?_⟩
   replace HO452 := rB_ HO452 hb
   have HO460 := Aside0.mk (Kd.S_lower ho0 (below_size (hs2_ GE446.out GE447.out)))
   replace BK446 := bK_ BK446 hb
   replace BK447 := bK_ BK447 hb
   replace HR456 := Aside0.mk (Kd.C_below (by repeat (first | (with_reducible exact HR456.out) | (with_reducible refine Kd.C_alloc ?_ _) | (with_reducible refine Kd.C_drewN ?_ _) | (with_reducible refine Kd.C_drew ?_) | exact HR456.out)) hb)
   replace HB := nc2_ GE446 GE447 hb
   (try clear hb)
   (try clear hb2)
   (try clear hk)
   (try clear hi)
   (try clear ho0)
   obtain ⟨Ao28, co28, eo28⟩ := Kd.S_slice HO460.out
   (first | subst eo28 | (injection eo28 with f1_ f2_ f3_; have f4_ := f1_.symm; have f5_ := f3_.symm; clear f1_ f2_ f3_; subst f4_; subst f5_))
   refine hK.out _ _ ⟨bt_ BK446 0, bt_ BK446 1, (pc_ HB.out hw457_0), (pc_ HB.out hw457_1), (pc_ HB.out hw457_2)⟩ (fun hHeld => ?_)
   clear hK K
   refine no_ ?_
   refine one_ (i := 11) (N := none) #[true, true, true, true, true, true, true, true, true, true, true, true, false] rfl rfl (one_of HT_.out (by kernel_rfl)) (by decide) (fun K hK => ?_)
   obtain ⟨hs29, hfs29⟩ := cf1_ BK447.out
   have hns29_0 := NB446_447.out
   have hms29_0 := NB447_446.out
   have hs30 : w27.cell? ⟨gb447, 1, none⟩ = some (.int .i64 0) := bt_ BK447 1
   have hfs30 := blk_frozen BK447.out 1
   have hns30_0 := NB446_447.out
   have hms30_0 := NB447_446.out
   refine skip_ (w1 := ?_) (by rfl) rfl ?_ ?_
   rotate_left
   ·go_simp
    rfl
   refine hK.out _ _ ⟨((cell_far (p := ⟨gb447, _, none⟩) NB446_447.out _).trans (((cell_far (p := ⟨gb447, _, none⟩) NB446_447.out _).trans (hHeld.1)))), ((cell_far (p := ⟨gb447, _, none⟩) NB446_447.out _).trans (((cell_far (p := ⟨gb447, _, none⟩) NB446_447.out _).trans (hHeld.2.1)))), ((cell_far (p := ⟨gb447, _, none⟩) (by first | exact Nat.ne_of_lt (Nat.lt_of_lt_of_le (by have := World.block_lt_of_cell? _ _ hw457_0; first | rwa [add_block] at this | exact this) GW447.out) | (rw [add_block]; exact Nat.ne_of_lt (Nat.lt_of_lt_of_le (by have := World.block_lt_of_cell? _ _ hw457_0; first | rwa [add_block] at this | exact this) GW447.out)) | (show (Addr.add _ _).block ≠ _; rw [add_block]; exact Nat.ne_of_lt (Nat.lt_of_lt_of_le (by have := World.block_lt_of_cell? _ _ hw457_0; first | rwa [add_block] at this | exact this) GW447.out)) | (dsimp only; exact Nat.ne_of_lt (Nat.lt_of_lt_of_le (by have := World.block_lt_of_cell? _ _ hw457_0; first | rwa [add_block] at this | exact this) GW447.out))) _).trans (((cell_far (p := ⟨gb447, _, none⟩) (by first | exact Nat.ne_of_lt (Nat.lt_of_lt_of_le (by have := World.block_lt_of_cell? _ _ hw457_0; first | rwa [add_block] at this | exact this) GW447.out) | (rw [add_block]; exact Nat.ne_of_lt (Nat.lt_of_lt_of_le (by have := World.block_lt_of_cell? _ _ hw457_0; first | rwa [add_block] at this | exact this) GW447.out)) | (show (Addr.add _ _).block ≠ _; rw [add_block]; exact Nat.ne_of_lt (Nat.lt_of_lt_of_le (by have := World.block_lt_of_cell? _ _ hw457_0; first | rwa [add_block] at this | exact this) GW447.out)) | (dsimp only; exact Nat.ne_of_lt (Nat.lt_of_lt_of_le (by have := World.block_lt_of_cell? _ _ hw457_0; first | rwa [add_block] at this | exact this) GW447.out))) _).trans (hHeld.2.2.1)))), ((cell_far (p := ⟨gb447, _, none⟩) (by first | exact Nat.ne_of_lt (Nat.lt_of_lt_of_le (by have := World.block_lt_of_cell? _ _ hw457_1; first | rwa [add_block] at this | exact this) GW447.out) | (rw [add_block]; exact Nat.ne_of_lt (Nat.lt_of_lt_of_le (by have := World.block_lt_of_cell? _ _ hw457_1; first | rwa [add_block] at this | exact this) GW447.out)) | (show (Addr.add _ _).block ≠ _; rw [add_block]; exact Nat.ne_of_lt (Nat.lt_of_lt_of_le (by have := World.block_lt_of_cell? _ _ hw457_1; first | rwa [add_block] at this | exact this) GW447.out)) | (dsimp only; exact Nat.ne_of_lt (Nat.lt_of_lt_of_le (by have := World.block_lt_of_cell? _ _ hw457_1; first | rwa [add_block] at this | exact this) GW447.out))) _).trans (((cell_far (p := ⟨gb447, _, none⟩) (by first | exact Nat.ne_of_lt (Nat.lt_of_lt_of_le (by have := World.block_lt_of_cell? _ _ hw457_1; first | rwa [add_block] at this | exact this) GW447.out) | (rw [add_block]; exact Nat.ne_of_lt (Nat.lt_of_lt_of_le (by have := World.block_lt_of_cell? _ _ hw457_1; first | rwa [add_block] at this | exact this) GW447.out)) | (show (Addr.add _ _).block ≠ _; rw [add_block]; exact Nat.ne_of_lt (Nat.lt_of_lt_of_le (by have := World.block_lt_of_cell? _ _ hw457_1; first | rwa [add_block] at this | exact this) GW447.out)) | (dsimp only; exact Nat.ne_of_lt (Nat.lt_of_lt_of_le (by have := World.block_lt_of_cell? _ _ hw457_1; first | rwa [add_block] at this | exact this) GW447.out))) _).trans (hHeld.2.2.2.1)))), ((cell_far (p := ⟨gb447, _, none⟩) (by first | exact Nat.ne_of_lt (Nat.lt_of_lt_of_le (by have := World.block_lt_of_cell? _ _ hw457_2; first | rwa [add_block] at this | exact this) GW447.out) | (rw [add_block]; exact Nat.ne_of_lt (Nat.lt_of_lt_of_le (by have := World.block_lt_of_cell? _ _ hw457_2; first | rwa [add_block] at this | exact this) GW447.out)) | (show (Addr.add _ _).block ≠ _; rw [add_block]; exact Nat.ne_of_lt (Nat.lt_of_lt_of_le (by have := World.block_lt_of_cell? _ _ hw457_2; first | rwa [add_block] at this | exact this) GW447.out)) | (dsimp only; exact Nat.ne_of_lt (Nat.lt_of_lt_of_le (by have := World.block_lt_of_cell? _ _ hw457_2; first | rwa [add_block] at this | exact this) GW447.out))) _).trans (((cell_far (p := ⟨gb447, _, none⟩) (by first | exact Nat.ne_of_lt (Nat.lt_of_lt_of_le (by have := World.block_lt_of_cell? _ _ hw457_2; first | rwa [add_block] at this | exact this) GW447.out) | (rw [add_block]; exact Nat.ne_of_lt (Nat.lt_of_lt_of_le (by have := World.block_lt_of_cell? _ _ hw457_2; first | rwa [add_block] at this | exact this) GW447.out)) | (show (Addr.add _ _).block ≠ _; rw [add_block]; exact Nat.ne_of_lt (Nat.lt_of_lt_of_le (by have := World.block_lt_of_cell? _ _ hw457_2; first | rwa [add_block] at this | exact this) GW447.out)) | (dsimp only; exact Nat.ne_of_lt (Nat.lt_of_lt_of_le (by have := World.block_lt_of_cell? _ _ hw457_2; first | rwa [add_block] at this | exact this) GW447.out))) _).trans (hHeld.2.2.2.2))))⟩ (fun hHeld => ?_)
   clear hK K
   refine pv_ 12 5 ?_
   refine done_ (done_of HT_.out (by kernel_rfl)) ?_
   try go_wp2
   refine bodyPost_ret (results_ct rfl _ _ gb447 24 #[.slice Ao28 t458.length co28, .int .i64 t461] (0, 0) _ rfl (up_ BK447) Try.underlying24 rfl (by kernel_rfl)) rfl ?_
   exact ⟨_, by first | rfl | (simp [errW_none, errW_some] <;> rfl) | (simp only [← hji11]; first | rfl | (simp [errW_none, errW_some] <;> rfl)) | (simp [*, errW_none, errW_some] <;> rfl), by (with_reducible repeat (first | apply Kd.S_alloc | apply Kd.S_drewN | apply Kd.S_drew)); exact Kd.S_mono (Kd.S_far (p := ⟨gb447, 1, none⟩) (Kd.S_far (p := ⟨gb447, 0, none⟩) (Kd.S_types HO460.out BK447.out (by decide)) (fun _ hk => hk.2) (.slice Ao28 t458.length co28)) (fun _ hk => hk.2) (.int .i64 t461)) (fun _ hk => trivial), hs2_ GE446.out GE447.out⟩

end Go.Proofs.Ytffpeklekkpbjaa.QFnExactDropBefore
