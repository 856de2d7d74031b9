/- For each Go function that one statement reaches: a plain function with the same answers, and the proof that the call comes to them. Conditions: those that each contract names. Written by a program of this repository. -/
import Derived.Test.YtpdpipfkllfhmaaVWriteBatcha
import Derived.Test.YtpdpipfkllfhmaaQFnExactWriteBatchx0
namespace Go.Proofs.Ytpdpipfkllfhmaa.QFnExactWriteBatch
open Go.RowKit Go.Proofs.YtpdpipfkllfhmaaW.PrintWords Go.Proofs.YtpdpipfkllfhmaaW.PrintLast Go.Proofs.YtpdpipfkllfhmaaW.PrintMore
attribute [local go_sem] max2_int min2_int max_two min_two max_three min_three max_four min_four Go.Proofs.YtpdpipfkllfhmaaW.PrintMore2.isSome_setCell   -- for this text's walks alone
set_option linter.unusedVariables false
set_option linter.unusedSimpArgs false

/-! ### laws_toStringS: function 62 -/
def laws_toStringS.l0 : Nat → List ByteArray → List ByteArray → Int → Option (List ByteArray)
 | 0, _, _, _ => none
 | k + 1, x0, x3, x4 => if x4 < (x0.length : Int) then (if 0 ≤ x4 then (if x4 < (x3.length : Int) then (laws_toStringS.l0 k x0 (x3.set (x4 : Int).toNat (rdOf ByteArray.empty x0 x4)) (wrap64 (x4 + 1))) else (none)) else (none)) else (some x3)
def laws_toStringS.f (k : Nat) (l0 : List ByteArray) : Option (List ByteArray) := if 0 ≤ (l0.length : Int) then (if ((l0.length : Int) : Int).toNat ≤ 17592186044416 then (laws_toStringS.l0 k l0 (List.replicate ((l0.length : Int) : Int).toNat (⟨#[]⟩ : ByteArray)) 0) else (none)) else (none)
theorem laws_toStringS.mono_l : ∀ k, (∀ y0 y1 y2, LeO (laws_toStringS.l0 k y0 y1 y2) (laws_toStringS.l0 (k + 1) y0 y1 y2))
 | 0 => fun _ _ _ r h => by simp [laws_toStringS.l0] at h
 | k + 1 => by
  have ih0 := laws_toStringS.mono_l k
  ·intro y0 y1 y2
   unfold laws_toStringS.l0
   repeat' first
   | (with_reducible exact ih0 _ _ _)
   | (with_reducible exact LeO.refl _)
   | (with_reducible exact LeO.none _)
   | (with_reducible refine LeO.ite ?_ ?_)
   | (with_reducible refine LeO.bind ?_ (fun _ => ?_))
   | exact ih0 _ _ _
   | exact LeO.none _
   | refine LeO.ite ?_ ?_
   | refine LeO.bind ?_ (fun _ => ?_)
theorem laws_toStringS.mono : ∀ a0 k, LeO (laws_toStringS.f k a0) (laws_toStringS.f (k + 1) a0) := by
 intro a0 k
 have ih0 := laws_toStringS.mono_l k
 unfold laws_toStringS.f
 repeat' first
   | (with_reducible exact ih0 _ _ _)
   | (with_reducible exact LeO.refl _)
   | (with_reducible exact LeO.none _)
   | (with_reducible refine LeO.ite ?_ ?_)
   | (with_reducible refine LeO.bind ?_ (fun _ => ?_))
   | exact ih0 _ _ _
   | exact LeO.none _
   | refine LeO.ite ?_ ?_
   | refine LeO.bind ?_ (fun _ => ?_)
set_option maxHeartbeats 8000000 in
set_option maxRecDepth 100000 in
theorem laws_toStringS.calls (k : Nat) (A0 : Option Addr) (c0 : Nat) (l0 : List ByteArray) (r : List ByteArray) (w : World) (hr0 : Kd.C Kd.string w A0 l0.length l0) (hc0 : l0.length ≤ c0) (h : laws_toStringS.f k l0 = some r) :
  Calls Try.prog 62 #[.slice A0 l0.length c0] w fun e w' => ∃ v0_ : Value, e = .returned (v0_) ∧ Kd.R Kd.string 9 w' w.heap.size (fun _ => True) v0_ r ∧ Below w.heap.size w w' := by
 have HR0 := Aside0.mk hr0
 have HC0 := Aside0.mk hc0
 clear hr0 hc0
 have HB := Aside0.mk (Below.refl w.heap.size w)
 have H : (if 0 ≤ (l0.length : Int) then (if ((l0.length : Int) : Int).toNat ≤ 17592186044416 then (laws_toStringS.l0 k l0 (List.replicate ((l0.length : Int) : Int).toNat (⟨#[]⟩ : ByteArray)) 0) else (none)) else (none)) = some r := h
 clear h
 replace H := ifs_ H
 obtain ⟨c2, H⟩ := H
 have c2b0 := eq_true c2
 have c2b1 := decide_eq_true c2
 clear c2
 replace H := ifs_ H
 obtain ⟨c3, H⟩ := H
 have c3b0 := eq_true c3
 have c3b1 := decide_eq_true c3
 clear c3
 obtain ⟨y237, hy237⟩ : ∃ y_ : List ByteArray, y_ = (List.replicate ((l0.length : Int) : Int).toNat (⟨#[]⟩ : ByteArray)) := ⟨_, rfl⟩
 replace H : (laws_toStringS.l0 k l0 y237 0) = some r := by first | (rw [hy237]; with_reducible exact H) | (have H2_ := (Option.bind_some _ _).symm.trans H; rw [hy237]; with_reducible exact H2_) | (have H2_ := (Option.bind_some _ _).symm.trans H; with_reducible exact H2_) | with_reducible exact H | (rw [hy237]; exact H) | exact H
 have Ny237 := Aside0.mk hy237
 clear hy237
 have H' := Aside0.mk H
 clear H
 go_enter Try.func62, Try.ntmps62
 go_wp2_with (first | ((with_reducible refine gate_dst (N := 7) rfl ?_); refine Kd.R_make Kd.string _ 9 rfl (N := 7) rfl 38 _ _ rfl (l0.length : Int) rfl rfl Try.underlying38 (.string ⟨#[]⟩) 16 info9 rfl (by decide) (by omega) (⟨#[]⟩ : ByteArray) (ok := fun _ => True) (okp := fun _ => True) rfl (fun _ hk => hk) trivial (oa_) (Nat.le_trans (Nat.mul_le_mul_right _ (oa_ : (l0.length : Int).toNat ≤ 17592186044416)) (by omega)) (Below.refl _ _) (Nat.le_refl _) ?_; intro v238 w4 ho5 hb hg_ hnew_; clear hg_ hnew_; (first | rw [← Ny237.out] at ho5 | (simp only [Int.reduceToNat] at ho5; rw [← Ny237.out] at ho5)); have HO239 := Aside0.mk (Kd.R_lower ho5 (below_size (hb_))); replace HB := nb_ hb; clear hb ho5))
 go_loopg [4] k (fun kq v4 w' => ∃ (x3_1 : List ByteArray) (x4_1 : Int), v4 = .int .i64 x4_1 ∧ Aside0 (laws_toStringS.l0 kq l0 x3_1 x4_1 = some r) ∧ Aside0 (kq ≤ k) ∧ Aside0 (Kd.R Kd.string 9 w' w.heap.size (fun _ => True) v238 x3_1) ∧ Aside0 (Below w.heap.size w w'))
 case atStart => exact ⟨(y237), (0), sr_, H', ⟨Nat.le_refl _⟩, ⟨kr_ HO239.out⟩, ⟨hb_⟩⟩
 case round =>
  clear H'
  try clear c2
  try clear c2b0
  try clear c2b1
  try clear p2
  try clear c3
  try clear c3b0
  try clear c3b1
  obtain ⟨x3_1, x4_1, rfl, HA, HK1, HO_3, HB⟩ := hrel
  cases gk with
  | zero => exact absurd HA.out (by simp [laws_toStringS.l0])
  | succ k1 =>
   have H := HA.out
   clear HA
   simp only [laws_toStringS.l0] at H
   replace H := ite_ H
   obtain ⟨c6, H⟩ | ⟨c6, H⟩ := H
   rotate_left
   ·have c6b0 := decide_eq_false c6
    clear c6
    obtain rfl := Option.some.inj H
    go_wp2
    go_ret
    exact ⟨_, er_, kr_ HO_3.out, hb_⟩
   have c6b0 := decide_eq_true c6
   clear c6
   replace H := ifs_ H
   obtain ⟨c7, H⟩ := H
   have c7b0 := decide_eq_true c7
   clear c7
   replace H := ifs_ H
   obtain ⟨c8, H⟩ := H
   have c8b0 := decide_eq_true c8
   clear c8
   obtain ⟨y241, hy241⟩ : ∃ y_ : List ByteArray, y_ = (x3_1.set (x4_1 : Int).toNat (rdOf ByteArray.empty l0 x4_1)) := ⟨_, rfl⟩
   replace H : (laws_toStringS.l0 k1 l0 y241 (wrap64 (x4_1 + 1))) = some r := by first | (rw [hy241]; with_reducible exact H) | (have H2_ := (Option.bind_some _ _).symm.trans H; rw [hy241]; with_reducible exact H2_) | (have H2_ := (Option.bind_some _ _).symm.trans H; with_reducible exact H2_) | with_reducible exact H | (rw [hy241]; exact H) | exact H
   have Ny241 := Aside0.mk hy241
   clear hy241
   have H' := Aside0.mk H
   clear H
   have p240 : 0 ≤ (x4_1 : Int) := oa_
   have q240 : x4_1 < (l0.length : Int) := oa_
   obtain ⟨ad240, e240, hx240_0⟩ := Kd.at_string HR0.out x4_1 p240 q240
   cases e240
   replace hx240_0 := pc_ HB.out hx240_0
   replace p240 := eq_true p240
   replace q240 := eq_true q240
   have p9 : 0 ≤ (x4_1 : Int) := oa_
   have q9 : (x4_1 : Int) < ((x3_1.length : Int) : Int) := oa_
   obtain ⟨go9, co9, eo9, gb9, gl9, cl9, HG9⟩ := Kd.R_form HO_3.out (by omega)
   (first | cases eo9 | (injection eo9 with ea_ en_ ec_; (first | subst ea_ | (injection ea_ with ea_; subst ea_)); subst ec_; clear en_))
   have GB9 := Aside0.mk gb9
   have GG9 := Aside0.mk HG9
   clear gb9 gl9 HG9
   obtain ⟨hx9_0, hf9_0⟩ := Kd.R_celln (⟨#[]⟩ : ByteArray) HO_3.out (x4_1 : Int) p9 q9
   replace p9 := eq_true p9
   replace q9 := eq_true q9
   have HP10 := Kd.R_putg HO_3.out (x4_1 : Int) (rdOf ByteArray.empty l0 x4_1)
   go_wp2_with (first | ((with_reducible refine gate_store (t := 9) (p := 20) rfl ?_); refine store_event (t := 9) (p := 20) (v := ?vo_w11) (w1 := (wr.setCell ⟨go9, (x4_1 : Int).toNat, none⟩ (.string (rdOf ByteArray.empty l0 x4_1)))) ?hg ?ho ?hn ?hr ?_; (case ho => rfl); (case hg => rfl); (case hn => rfl); (case hr => first | (go_simp; done) | (go_simp; rfl)); intro w11 hw; have hg : wr.grownBy w11 (some go9) := (by rw [hw]; exact HP10.2); have hp_ : Kd.R Kd.string 9 w11 w.heap.size (fun _ => True) (.slice (some ⟨go9, 0, none⟩) x3_1.length co9) y241 := (by rw [hw, Ny241.out]; exact HP10.1); clear HP10; replace HO_3 := Aside0.mk (hp_); replace HB := Aside0.mk ((by rw [hw]; exact below_set (HB.out) GB9.out : Below w.heap.size w w11)); clear hg hw hp_))
   go_roundg k1
   case measure => have := HK1.out; omega
   case rel => exact ⟨(y241), (wrap64 (x4_1 + 1)), sr_, H', ⟨by have := HK1.out; omega⟩, ⟨kr_ HO_3.out⟩, ⟨hb_⟩⟩

/-! ### laws_toBatch: function 19 -/
def laws_toBatch.f (k : Nat) (a0_0 : Int) (a0_1 : Int) (a0_2 : Int) (a0_3 : Int) (l0_4 : List ByteArray) : Option (Int × Int × Int × Int × List ByteArray) := (laws_toStringS.f k l0_4).bind fun t245 => (some (a0_0, a0_1, a0_2, a0_3, t245))
theorem laws_toBatch.mono : ∀ a0 a1 a2 a3 a4 k, LeO (laws_toBatch.f k a0 a1 a2 a3 a4) (laws_toBatch.f (k + 1) a0 a1 a2 a3 a4) := by
 intro a0 a1 a2 a3 a4 k
 unfold laws_toBatch.f
 repeat' first
   | (with_reducible exact laws_toStringS.mono _ _)
   | (with_reducible exact LeO.refl _)
   | (with_reducible exact LeO.none _)
   | (with_reducible refine LeO.ite ?_ ?_)
   | (with_reducible refine LeO.bind ?_ (fun _ => ?_))
   | exact laws_toStringS.mono _ _
   | exact LeO.none _
   | refine LeO.ite ?_ ?_
   | refine LeO.bind ?_ (fun _ => ?_)
set_option maxHeartbeats 8000000 in
set_option maxRecDepth 100000 in
theorem laws_toBatch.calls (k : Nat) (a0_0 : Int) (a0_1 : Int) (a0_2 : Int) (a0_3 : Int) (A0_4 : Option Addr) (c0_4 : Nat) (l0_4 : List ByteArray) (r1 : Int) (r2 : Int) (r3 : Int) (r4 : Int) (r5 : List ByteArray) (w : World) (hr0_4 : Kd.C Kd.string w A0_4 l0_4.length l0_4) (hc0_4 : l0_4.length ≤ c0_4) (h : laws_toBatch.f k a0_0 a0_1 a0_2 a0_3 l0_4 = some (r1, r2, r3, r4, r5)) :
  Calls Try.prog 19 #[.agg #[.int .i64 a0_0, .int .i64 a0_1, .int .i64 a0_2, .int .i64 a0_3, .slice A0_4 l0_4.length c0_4]] w fun e w' => ∃ v4_ : Value, e = .returned (.agg #[.int .i64 r1, .int .i64 r2, .int .i64 r3, .int .i64 r4, v4_]) ∧ Kd.R Kd.string 9 w' w.heap.size (fun _ => True) v4_ r5 ∧ Below w.heap.size w w' := by
 have hu40 := Try.underlying40
 have hu44 := Try.underlying44
 have HR0_4 := Aside0.mk hr0_4
 have HC0_4 := Aside0.mk hc0_4
 clear hr0_4 hc0_4
 have HB := Aside0.mk (Below.refl w.heap.size w)
 have H : ((laws_toStringS.f k l0_4).bind fun t245 => (some (a0_0, a0_1, a0_2, a0_3, t245))) = some (r1, r2, r3, r4, r5) := h
 clear h
 replace H := bnd_ H
 obtain ⟨t245, A2, H⟩ := H
 simp only [Option.some.injEq, Prod.mk.injEq] at H
 obtain ⟨rfl, rfl, rfl, rfl, rfl⟩ := H
 go_enter Try.func19, Try.ntmps19
 go_wp2_with (first | ((with_reducible refine gate_dst (N := 1) rfl ?_); refine be_ (N := 1) #[.int .i64 a0_0, .int .i64 a0_1, .int .i64 a0_2, .int .i64 a0_3, .slice A0_4 l0_4.length c0_4] 40 ?_; intro gb242 hg w3 hbox hb; have BK242 := Aside0.mk (hbox); have GW242 := ge_ hg; have GE242 := ge_ hg; replace HB := nb_ hb; clear hb hbox hg) | ((with_reducible refine gate_dst (N := 2) rfl ?_); refine be_ (N := 2) #[.int .i64 0, .int .i64 0, .int .i64 0, .int .i64 0, .slice none 0 0] 44 ?_; intro gb243 hg w4 hbox hb; have BK243 := Aside0.mk (hbox); have GW243 := ge1_ hg GE242; have GE243 := ge1_ hg GE242; replace HB := nc_ GE242 hb; have NB242_243 := nl_ BK242 hg; have NB243_242 := ng_ BK242 hg; replace BK242 := bK_ BK242 hb; clear hb hbox hg) | ((with_reducible refine gate_dst (N := 3) rfl ?_); refine be_ (N := 3) #[.int .i64 0, .int .i64 0, .int .i64 0, .int .i64 0, .slice none 0 0] 44 ?_; intro gb244 hg w5 hbox hb; have BK244 := Aside0.mk (hbox); have GW244 := ge2_ hg GE242 GE243; have GE244 := ge2_ hg GE242 GE243; replace HB := nc2_ GE242 GE243 hb; have NB242_244 := nl_ BK242 hg; have NB244_242 := ng_ BK242 hg; replace BK242 := bK_ BK242 hb; have NB243_244 := nl_ BK243 hg; have NB244_243 := ng_ BK243 hg; replace BK243 := bK_ BK243 hb; clear hb hbox hg; have hnb6 := NB242_243.out; have hnc6 := NB243_242.out; have hnb7 := NB242_244.out; have hnc7 := NB244_242.out; obtain ⟨hcz8_0, hcz8_1, hcz8_2, hcz8_3, hcz8_4, hfz8_0, hfz8_1, hfz8_2, hfz8_3, hfz8_4⟩ := cf5_ BK242.out; have hnb9 := NB244_243.out; have hnc9 := NB243_244.out; obtain ⟨hcz10_0, hcz10_1, hcz10_2, hcz10_3, hcz10_4, hfz10_0, hfz10_1, hfz10_2, hfz10_3, hfz10_4⟩ := cf5_ BK244.out) | ((with_reducible refine gate_callee (f := 62) rfl ?_); refine gl_ 18 Try.func62 #[.slice A0_4 l0_4.length c0_4] rfl ma_ ?_; (with_reducible refine (laws_toStringS.calls k _ _ l0_4 t245 _ ?side1 ?side2 A2.out).mono ?_); (case side1 => exact Kd.C_below HR0_4.out (hs3_ GE242.out GE243.out GE244.out)); (case side2 => exact HC0_4.out); rintro e w11 ⟨v246, rfl, ho0, hb⟩; refine ⟨_, rfl, ?_⟩; have HO247 := Aside0.mk (Kd.R_lower ho0 (below_size (hs3_ GE242.out GE243.out GE244.out))); replace BK242 := Aside0.mk (blk_below (g := gb242) (o := .cells #[.int .i64 a0_0, .int .i64 a0_1, .int .i64 a0_2, .int .i64 a0_3, .slice A0_4 l0_4.length c0_4] 40 (0, 0)) (by (with_reducible repeat (first | refine blk_drewN ?_ _ | refine blk_drew ?_ | refine blk_alloc ?_ _)); refine blk_far ?_ NB242_244.out _; (with_reducible repeat (first | refine blk_drewN ?_ _ | refine blk_drew ?_ | refine blk_alloc ?_ _)); refine blk_far ?_ NB242_244.out _; (with_reducible repeat (first | refine blk_drewN ?_ _ | refine blk_drew ?_ | refine blk_alloc ?_ _)); refine blk_far ?_ NB242_244.out _; (with_reducible repeat (first | refine blk_drewN ?_ _ | refine blk_drew ?_ | refine blk_alloc ?_ _)); refine blk_far ?_ NB242_244.out _; (with_reducible repeat (first | refine blk_drewN ?_ _ | refine blk_drew ?_ | refine blk_alloc ?_ _)); exact BK242.out) hb); replace BK243 := Aside0.mk (blk_below (g := gb243) (o := .cells #[.int .i64 0, .int .i64 0, .int .i64 0, .int .i64 0, .slice none 0 0] 44 (0, 0)) (by (with_reducible repeat (first | refine blk_drewN ?_ _ | refine blk_drew ?_ | refine blk_alloc ?_ _)); refine blk_far ?_ NB243_244.out _; (with_reducible repeat (first | refine blk_drewN ?_ _ | refine blk_drew ?_ | refine blk_alloc ?_ _)); refine blk_far ?_ NB243_244.out _; (with_reducible repeat (first | refine blk_drewN ?_ _ | refine blk_drew ?_ | refine blk_alloc ?_ _)); refine blk_far ?_ NB243_244.out _; (with_reducible repeat (first | refine blk_drewN ?_ _ | refine blk_drew ?_ | refine blk_alloc ?_ _)); refine blk_far ?_ NB243_244.out _; (with_reducible repeat (first | refine blk_drewN ?_ _ | refine blk_drew ?_ | refine blk_alloc ?_ _)); exact BK243.out) hb); replace BK244 := Aside0.mk (blk_below (g := gb244) (o := .cells #[.int .i64 a0_0, .int .i64 a0_1, .int .i64 a0_2, .int .i64 a0_3, .slice none 0 0] 44 (0, 0)) (by (with_reducible repeat (first | refine blk_drewN ?_ _ | refine blk_drew ?_ | refine blk_alloc ?_ _)); refine blk_put (cs := #[.int .i64 a0_0, .int .i64 a0_1, .int .i64 a0_2, .int .i64 0, .slice none 0 0]) ?_ 3 _ rfl; (with_reducible repeat (first | refine blk_drewN ?_ _ | refine blk_drew ?_ | refine blk_alloc ?_ _)); refine blk_put (cs := #[.int .i64 a0_0, .int .i64 a0_1, .int .i64 0, .int .i64 0, .slice none 0 0]) ?_ 2 _ rfl; (with_reducible repeat (first | refine blk_drewN ?_ _ | refine blk_drew ?_ | refine blk_alloc ?_ _)); refine blk_put (cs := #[.int .i64 a0_0, .int .i64 0, .int .i64 0, .int .i64 0, .slice none 0 0]) ?_ 1 _ rfl; (with_reducible repeat (first | refine blk_drewN ?_ _ | refine blk_drew ?_ | refine blk_alloc ?_ _)); refine blk_put (cs := #[.int .i64 0, .int .i64 0, .int .i64 0, .int .i64 0, .slice none 0 0]) ?_ 0 _ rfl; (with_reducible repeat (first | refine blk_drewN ?_ _ | refine blk_drew ?_ | refine blk_alloc ?_ _)); exact BK244.out) hb); replace HB := nc3_ GE242 GE243 GE244 hb; (try clear hb); (try clear hb2); (try clear hk); (try clear hi); (try clear ho0); obtain ⟨Ao12, co12, eo12⟩ := Kd.R_slice HO247.out; subst eo12; obtain ⟨hcz13_0, hcz13_1, hcz13_2, hcz13_3, hcz13_4, hfz13_0, hfz13_1, hfz13_2, hfz13_3, hfz13_4⟩ := cf5_ BK244.out; obtain ⟨hcz14_0, hcz14_1, hcz14_2, hcz14_3, hcz14_4, hfz14_0, hfz14_1, hfz14_2, hfz14_3, hfz14_4⟩ := cf5_ BK243.out))
 refine bodyPost_ret (results_cell_row rfl _ _ gb243 44 #[.int .i64 a0_0, .int .i64 a0_1, .int .i64 a0_2, .int .i64 a0_3, .slice Ao12 t245.length co12] (0, 0) _ rfl (by (with_reducible repeat (first | refine blk_drewN ?_ _ | refine blk_drew ?_ | refine blk_alloc ?_ _)); refine blk_put (cs := #[.int .i64 a0_0, .int .i64 a0_1, .int .i64 a0_2, .int .i64 a0_3, .slice none 0 0]) ?_ 4 _ rfl; (with_reducible repeat (first | refine blk_drewN ?_ _ | refine blk_drew ?_ | refine blk_alloc ?_ _)); refine blk_put (cs := #[.int .i64 a0_0, .int .i64 a0_1, .int .i64 a0_2, .int .i64 0, .slice none 0 0]) ?_ 3 _ rfl; (with_reducible repeat (first | refine blk_drewN ?_ _ | refine blk_drew ?_ | refine blk_alloc ?_ _)); refine blk_put (cs := #[.int .i64 a0_0, .int .i64 a0_1, .int .i64 0, .int .i64 0, .slice none 0 0]) ?_ 2 _ rfl; (with_reducible repeat (first | refine blk_drewN ?_ _ | refine blk_drew ?_ | refine blk_alloc ?_ _)); refine blk_put (cs := #[.int .i64 a0_0, .int .i64 0, .int .i64 0, .int .i64 0, .slice none 0 0]) ?_ 1 _ rfl; (with_reducible repeat (first | refine blk_drewN ?_ _ | refine blk_drew ?_ | refine blk_alloc ?_ _)); refine blk_put (cs := #[.int .i64 0, .int .i64 0, .int .i64 0, .int .i64 0, .slice none 0 0]) ?_ 0 _ rfl; (with_reducible repeat (first | refine blk_drewN ?_ _ | refine blk_drew ?_ | refine blk_alloc ?_ _)); refine blk_far ?_ NB243_244.out _; (with_reducible repeat (first | refine blk_drewN ?_ _ | refine blk_drew ?_ | refine blk_alloc ?_ _)); exact BK243.out) Try.underlying44 rfl (by kernel_rfl)) rfl ?_
 exact ⟨_, er_, by (with_reducible repeat (first | apply Kd.R_alloc | apply Kd.R_drewN | apply Kd.R_drew)); exact Kd.R_mono (Kd.R_far (p := ⟨gb243, 4, none⟩) (Kd.R_far (p := ⟨gb243, 3, none⟩) (Kd.R_far (p := ⟨gb243, 2, none⟩) (Kd.R_far (p := ⟨gb243, 1, none⟩) (Kd.R_far (p := ⟨gb243, 0, none⟩) (Kd.R_far (p := ⟨gb244, 4, none⟩) (Kd.R_types (Kd.R_types HO247.out BK244.out (by decide)) BK243.out (by decide)) (fun _ hk => hk.1.2) (.slice Ao12 t245.length co12)) (fun _ hk => hk.2) (.int .i64 a0_0)) (fun _ hk => hk.2) (.int .i64 a0_1)) (fun _ hk => hk.2) (.int .i64 a0_2)) (fun _ hk => hk.2) (.int .i64 a0_3)) (fun _ hk => hk.2) (.slice Ao12 t245.length co12)) (fun _ hk => trivial), hs3_ GE242.out GE243.out GE244.out⟩

/-! ### impl_in: function 77 -/
def impl_in.f (a0 : Int) (a1 : Int) (a2 : Int) : Option (Bool) := if a0 ≥ a1 then (some (decide (a0 ≤ a2))) else (some false)
set_option maxHeartbeats 8000000 in
set_option maxRecDepth 100000 in
theorem impl_in.calls (a0 : Int) (a1 : Int) (a2 : Int) (r : Bool) (w : World) (h : impl_in.f a0 a1 a2 = some r) :
  Calls Try.prog 77 #[.int .i64 a0, .int .i64 a1, .int .i64 a2] w fun e w' => e = .returned (.bool r) ∧ Drawn0 w w' := by
 have H : (if a0 ≥ a1 then (some (decide (a0 ≤ a2))) else (some false)) = some r := h
 clear h
 replace H := ite_ H
 obtain ⟨c4, H⟩ | ⟨c4, H⟩ := H
 rotate_left
 ·have c4b0 := dne_ c4
  clear c4
  obtain rfl := Option.some.inj H
  go_enter Try.func77, Try.ntmps77
  go_wp2
  go_ret
  exact ⟨by first | rfl | (simp; done) | (simp [*]; done), dr_⟩
 have c4b0 := dge_ c4
 clear c4
 obtain rfl := Option.some.inj H
 go_enter Try.func77, Try.ntmps77
 go_wp2
 go_ret
 exact ⟨by first | rfl | (simp; done) | (simp [*]; done), dr_⟩

-- NOT PRINTED: function 102 (impl_File_102)

-- NOT PRINTED: function 95 (impl_File_95)

/-! ### impl_isDisk: function 79 -/
/-- The first place, from i on, of d places, where q holds. -/
def isDisk_ix (q : Nat → Bool) : Nat → Nat → Int
 | _, 0 => -1
 | i, d + 1 => if q i = true then (i : Int) else isDisk_ix q (i + 1) d
set_option maxHeartbeats 8000000 in
set_option maxRecDepth 100000 in
theorem isDisk_idx (q : Nat → Bool) (l : List S56) (A : Option Addr) (c : Nat) (g : Nat) (lb : Array Value) (eg : ∀ args w, (callFunc g args).run Try.prog w = .ok (.enter g args) w) (w : World)
  (hr : Kd.C k56 w A l.length l)
  (hp : ∀ (W : World) (i : Nat), Below w.heap.size w W → i < l.length → Calls Try.prog g (#[.agg #[.string (rd_T56 l (i : Int)).f0, .int .i64 (rd_T56 l (i : Int)).f1]] ++ lb) W fun e w' => e = .returned (.bool (q i)) ∧ Below w.heap.size w w') :
  Calls Try.prog 102 #[.slice A l.length c, .func (.func g) #[] lb] w fun e w' => e = .returned (.int .i64 (isDisk_ix q 0 l.length)) ∧ Below w.heap.size w w' := by
 have hbig : l.length ≤ 9223372036854775807 := hr.2.1
 have hu_ := Try.underlying56
 have HR := Aside0.mk hr
 have HP := Aside0.mk hp
 clear hr hp
 go_enter Try.func102, Try.ntmps102
 go_wp2
 go_loopg [5, 8] l.length (fun gg _ s8 wr => ∃ kk : Nat, kk ≤ l.length ∧ l.length - kk ≤ gg ∧ s8 = .int .i64 kk ∧ Aside (Below w.heap.size w wr) ∧ Aside (isDisk_ix q 0 l.length = isDisk_ix q kk (l.length - kk)))
 case atStart => exact ⟨0, Nat.zero_le _, by omega, rfl, Below.refl _ w, rfl⟩
 case round =>
  obtain ⟨kk, hkk, hg, rfl, BW, AA⟩ := hrel
  by_cases hlt : kk < l.length
  ·have hltz : (kk : Int) < (l.length : Int) := by omega
   have CW := Kd.C_below HR.out (BW.out)
   obtain ⟨ad, rfl, hcell0, hcell1⟩ := at_T56 CW (kk : Int) (by omega) hltz
   have hcall := HP.out wr kk BW.out hlt
   clear CW
   generalize rd_T56 l (kk : Int) = y at hcell0 hcell1 hcall
   rw [Int.toNat_natCast] at hcell0 hcell1
   have e1 : isDisk_ix q kk (l.length - kk) = if q kk = true then (kk : Int) else isDisk_ix q (kk + 1) (l.length - (kk + 1)) := by
    rw [show l.length - kk = (l.length - (kk + 1)) + 1 by omega]
    rfl
   have E1 := Aside0.mk e1
   clear e1
   have HC := Aside0.mk hcall
   clear hcall
   cases hq : q kk with
   | true =>
    have HQ := Aside0.mk hq
    clear hq
    go_wp2_with fail
    refine HC.out.mono ?_
    rw [HQ.out]
    clear HC
    rintro e w2 ⟨rfl, hb2⟩
    have HB2 := Aside0.mk hb2
    clear hb2
    go_wp2_with fail
    go_ret
    refine ⟨?_, HB2.out⟩
    rw [AA.out, E1.out, if_pos HQ.out]
    rfl
   | false =>
    have HQ := Aside0.mk hq
    clear hq
    go_wp2_with fail
    refine HC.out.mono ?_
    rw [HQ.out]
    clear HC
    rintro e w2 ⟨rfl, hb2⟩
    have HB2 := Aside0.mk hb2
    clear hb2
    go_wp2_with fail
    go_roundg (l.length - (kk + 1))
    case measure => omega
    case rel => exact ⟨kk + 1, by omega, by omega, by go_num, HB2.out, (show Aside _ from by rw [AA.out, E1.out, if_neg (by rw [HQ.out]; decide)]; exact rfl)⟩
  ·have hltz : ¬ (kk : Int) < (l.length : Int) := by omega
   have hkl : kk = l.length := by omega
   subst hkl
   go_wp2
   go_ret
   refine ⟨?_, BW.out⟩
   rw [AA.out, Nat.sub_self]
   rfl
set_option maxHeartbeats 8000000 in
set_option maxRecDepth 100000 in
theorem isDisk_cont (q : Nat → Bool) (l : List S56) (A : Option Addr) (c : Nat) (g : Nat) (lb : Array Value) (eg : ∀ args w, (callFunc g args).run Try.prog w = .ok (.enter g args) w) (w : World)
  (hr : Kd.C k56 w A l.length l)
  (hp : ∀ (W : World) (i : Nat), Below w.heap.size w W → i < l.length → Calls Try.prog g (#[.agg #[.string (rd_T56 l (i : Int)).f0, .int .i64 (rd_T56 l (i : Int)).f1]] ++ lb) W fun e w' => e = .returned (.bool (q i)) ∧ Below w.heap.size w w') :
  Calls Try.prog 95 #[.slice A l.length c, .func (.func g) #[] lb] w fun e w' => e = .returned (.bool (decide (0 ≤ isDisk_ix q 0 l.length))) ∧ Below w.heap.size w w' := by
 have HC := Aside0.mk (isDisk_idx q l A c g lb eg w hr hp)
 clear hr hp
 go_enter Try.func95, Try.ntmps95
 go_wp2_with fail
 refine HC.out.mono ?_
 clear HC
 rintro e w2 ⟨rfl, hb2⟩
 have HB2 := Aside0.mk hb2
 clear hb2
 go_wp2_with fail
 go_ret
 exact ⟨rfl, HB2.out⟩

theorem isDisk_in (a b c : Int) : impl_in.f a b c = some (decide (b ≤ a ∧ a ≤ c)) := by
 unfold impl_in.f
 by_cases h : a ≥ b
 ·rw [if_pos h]
  have e : (b ≤ a ∧ a ≤ c) ↔ a ≤ c := ⟨fun h => h.2, fun h' => ⟨h, h'⟩⟩
  simp only [e]
 ·rw [if_neg h, decide_eq_false]
  intro h'
  exact h h'.1
def impl_isDisk.q1 (s : ByteArray) (n : Int) : Bool := if (s.size : Int) > 400 then true else !(decide (0 ≤ n ∧ n ≤ (s.size : Int)))
def impl_isDisk.q (l : List S56) (i : Nat) : Bool := impl_isDisk.q1 (rd_T56 l (i : Int)).f0 (rd_T56 l (i : Int)).f1
set_option maxHeartbeats 8000000 in
set_option maxRecDepth 100000 in
theorem isDisk_lit (s : ByteArray) (n : Int) (w : World) : Calls Try.prog 96 #[.agg #[.string s, .int .i64 n]] w fun e w' => e = .returned (.bool (impl_isDisk.q1 s n)) ∧ Below w.heap.size w w' := by
 have hu_ := Try.underlying56
 have HI := Aside0.mk (isDisk_in n 0 (s.size : Int))
 by_cases h1 : (s.size : Int) > 400
 ·have HQ := Aside0.mk (show impl_isDisk.q1 s n = true from by unfold impl_isDisk.q1; rw [if_pos h1])
  have h1b : decide ((400 : Int) < (s.size : Int)) = true := decide_eq_true h1
  have h1c : decide (400 < s.size) = true := decide_eq_true (by omega)
  clear h1
  go_enter Try.func96, Try.ntmps96
  go_wp2_with fail
  go_ret
  exact ⟨by rw [HQ.out]; rfl, by repeat (first | exact Below.refl _ _ | apply below_alloc | apply pw_below_drewN)⟩
 ·have HQ := Aside0.mk (show impl_isDisk.q1 s n = !(decide (0 ≤ n ∧ n ≤ (s.size : Int))) from by unfold impl_isDisk.q1; rw [if_neg h1])
  have h1b : decide ((400 : Int) < (s.size : Int)) = false := decide_eq_false h1
  have h1c : decide (400 < s.size) = false := decide_eq_false (by omega)
  clear h1
  go_enter Try.func96, Try.ntmps96
  go_wp2_with fail
  refine (impl_in.calls _ _ _ _ _ HI.out).mono ?_
  clear HI
  rintro e w1 ⟨rfl, ⟨n1, rfl⟩⟩
  generalize decide (0 ≤ n ∧ n ≤ (s.size : Int)) = b at HQ
  go_wp2_with fail
  go_ret
  exact ⟨by rw [HQ.out]; rfl, by repeat (first | exact Below.refl _ _ | apply below_alloc | apply pw_below_drewN)⟩
def impl_isDisk.f (l0_0 : List S56) : Option (Bool) := (impl_in.f (l0_0.length : Int) 1 4).bind fun t => if t = true then some (!(decide (0 ≤ isDisk_ix (impl_isDisk.q l0_0) 0 l0_0.length))) else some false
set_option maxHeartbeats 8000000 in
set_option maxRecDepth 100000 in
theorem impl_isDisk.calls (A0_0 : Option Addr) (c0_0 : Nat) (l0_0 : List S56) (r : Bool) (w : World) (hr0_0 : Kd.C k56 w A0_0 l0_0.length l0_0) (_hc0_0 : l0_0.length ≤ c0_0) (h : impl_isDisk.f l0_0 = some r) :
  Calls Try.prog 79 #[.agg #[.slice A0_0 l0_0.length c0_0]] w fun e w' => e = .returned (.bool r) ∧ Below w.heap.size w w' := by
 have hu_ := Try.underlying31
 have HR := Aside0.mk hr0_0
 clear hr0_0
 unfold impl_isDisk.f at h
 obtain ⟨t, h1, h2⟩ := Option.bind_eq_some_iff.1 h
 have H1 := Aside0.mk h1
 clear h h1
 cases t with
 | true =>
  rw [if_pos rfl] at h2
  have H4 := Aside0.mk (Option.some.inj h2)
  clear h2
  go_enter Try.func79, Try.ntmps79
  go_wp2_with fail
  refine (impl_in.calls _ _ _ _ _ H1.out).mono ?_
  rintro e w1 ⟨rfl, ⟨n1, rfl⟩⟩
  go_wp2_with fail
  refine (isDisk_cont (impl_isDisk.q l0_0) l0_0 A0_0 c0_0 96 #[] (fun args w => by first | rfl | kernel_rfl) _ (Kd.C_below HR.out (by repeat (first | exact Below.refl _ _ | apply below_alloc | apply pw_below_drewN))) (fun W i hd hi => (isDisk_lit _ _ W).mono fun e w' he => ⟨he.1, hd.trans (he.2.mono hd.size)⟩)).mono ?_
  rintro e w2 ⟨rfl, hb⟩
  have HB := Aside0.mk hb
  clear hb
  go_wp2_with fail
  go_ret
  exact ⟨by rw [H4.out]; rfl, below_step (by repeat (first | exact Below.refl _ _ | apply below_alloc | apply pw_below_drewN)) HB.out⟩
 | false =>
  rw [if_neg (by decide)] at h2
  have H2 := Aside0.mk (Option.some.inj h2)
  clear h2
  go_enter Try.func79, Try.ntmps79
  go_wp2_with fail
  refine (impl_in.calls _ _ _ _ _ H1.out).mono ?_
  rintro e w1 ⟨rfl, ⟨n1, rfl⟩⟩
  go_wp2_with fail
  go_ret
  exact ⟨by rw [H2.out]; rfl, by repeat (first | exact Below.refl _ _ | apply below_alloc | apply pw_below_drewN)⟩



/-! ### impl_Disk_has: function 52 -/
def impl_Disk_has.f (l0_0 : List (S56)) (a1 : Int) : Option (Bool) := (impl_isDisk.f l0_0).bind fun t249 => (if t249 = true then ((impl_in.f a1 0 (wrap64 ((l0_0.length : Int) - 1))).bind fun t250 => (some t250)) else (some false))
set_option maxHeartbeats 8000000 in
set_option maxRecDepth 100000 in
theorem impl_Disk_has.calls (A0_0 : Option Addr) (c0_0 : Nat) (l0_0 : List (S56)) (a1 : Int) (r : Bool) (w : World) (hr0_0 : Kd.C k56 w A0_0 l0_0.length l0_0) (hc0_0 : l0_0.length ≤ c0_0) (h : impl_Disk_has.f l0_0 a1 = some r) :
  Calls Try.prog 52 #[.agg #[.slice A0_0 l0_0.length c0_0], .int .i64 a1] w fun e w' => e = .returned (.bool r) ∧ Below w.heap.size w w' := by
 have hu31 := Try.underlying31
 have HR0_0 := Aside0.mk hr0_0
 have HC0_0 := Aside0.mk hc0_0
 clear hr0_0 hc0_0
 have HB := Aside0.mk (Below.refl w.heap.size w)
 have H : ((impl_isDisk.f l0_0).bind fun t249 => (if t249 = true then ((impl_in.f a1 0 (wrap64 ((l0_0.length : Int) - 1))).bind fun t250 => (some t250)) else (some false))) = some r := h
 clear h
 replace H := bnd_ H
 obtain ⟨t249, A3, H⟩ := H
 replace H := ifb_ H
 obtain ⟨rfl, H⟩ | ⟨rfl, H⟩ := H
 rotate_left
 ·obtain rfl := Option.some.inj H
  go_enter Try.func52, Try.ntmps52
  go_wp2_with (first | ((with_reducible refine gate_dst (N := 2) rfl ?_); (try (refine gate_guard (by rfl) ?_; dsimp only)); refine be_ (N := 2) #[.slice A0_0 l0_0.length c0_0] 31 ?_; intro gb248 hg w10 hbox hb; have BK248 := Aside0.mk (hbox); have GW248 := ge_ hg; have GE248 := ge_ hg; replace HB := nb_ hb; clear hb hbox hg; obtain ⟨hcz11_0, hfz11_0⟩ := cf1_ BK248.out) | ((with_reducible refine gate_callee (f := 79) rfl ?_); refine gl_ 6 Try.func79 #[.agg #[.slice A0_0 l0_0.length c0_0]] rfl ma_ ?_; (with_reducible refine (impl_isDisk.calls _ _ l0_0 false _ ?side1 ?side2 A3.out).mono ?_); (case side1 => exact cs_ ((Kd.C_below HR0_0.out HB.out))); (case side2 => exact HC0_0.out); rintro e w12 ⟨rfl, hb⟩; refine ⟨_, rfl, ?_⟩; replace BK248 := bK_ BK248 hb; replace HB := nc_ GE248 hb; (try clear hb); (try clear hb2); (try clear hk); (try clear hi)))
  go_ret
  exact ⟨er_, hs_ GE248.out⟩
 replace H := bnd_ H
 obtain ⟨t250, A5, H⟩ := H
 obtain rfl := Option.some.inj H
 go_enter Try.func52, Try.ntmps52
 go_wp2_with (first | ((with_reducible refine gate_dst (N := 2) rfl ?_); (try (refine gate_guard (by rfl) ?_; dsimp only)); refine be_ (N := 2) #[.slice A0_0 l0_0.length c0_0] 31 ?_; intro gb248 hg w6 hbox hb; have BK248 := Aside0.mk (hbox); have GW248 := ge_ hg; have GE248 := ge_ hg; replace HB := nb_ hb; clear hb hbox hg; obtain ⟨hcz7_0, hfz7_0⟩ := cf1_ BK248.out) | ((with_reducible refine gate_callee (f := 79) rfl ?_); refine gl_ 6 Try.func79 #[.agg #[.slice A0_0 l0_0.length c0_0]] rfl ma_ ?_; (with_reducible refine (impl_isDisk.calls _ _ l0_0 true _ ?side1 ?side2 A3.out).mono ?_); (case side1 => exact cs_ ((Kd.C_below HR0_0.out HB.out))); (case side2 => exact HC0_0.out); rintro e w8 ⟨rfl, hb⟩; refine ⟨_, rfl, ?_⟩; replace BK248 := bK_ BK248 hb; replace HB := nc_ GE248 hb; (try clear hb); (try clear hb2); (try clear hk); (try clear hi); obtain ⟨hcz9_0, hfz9_0⟩ := cf1_ BK248.out) | (go_at_call 77; (with_reducible refine (impl_in.calls a1 0 (wrap64 ((l0_0.length : Int) - 1)) t250 _ A5.out).mono ?_); rintro e w' ⟨rfl, ⟨nd, rfl⟩⟩))
 go_ret
 exact ⟨er_, hs_ GE248.out⟩

/-! ### impl_Batch_end: function 91 -/
def impl_Batch_end.f (a0_0 : Int) (a0_1 : Int) (a0_2 : Int) (a0_3 : Int) (l0_4 : List ByteArray) : Option (Int) := some (wrap64 (a0_0 + (l0_4.length : Int)))
set_option maxHeartbeats 8000000 in
set_option maxRecDepth 100000 in
theorem impl_Batch_end.calls (a0_0 : Int) (a0_1 : Int) (a0_2 : Int) (a0_3 : Int) (A0_4 : Option Addr) (c0_4 : Nat) (l0_4 : List ByteArray) (r : Int) (w : World) (hr0_4 : Kd.C Kd.string w A0_4 l0_4.length l0_4) (hc0_4 : l0_4.length ≤ c0_4) (h : impl_Batch_end.f a0_0 a0_1 a0_2 a0_3 l0_4 = some r) :
  Calls Try.prog 91 #[.agg #[.int .i64 a0_0, .int .i64 a0_1, .int .i64 a0_2, .int .i64 a0_3, .slice A0_4 l0_4.length c0_4]] w fun e w' => e = .returned (.int .i64 r) ∧ Below w.heap.size w w' := by
 have hu44 := Try.underlying44
 have HR0_4 := Aside0.mk hr0_4
 have HC0_4 := Aside0.mk hc0_4
 clear hr0_4 hc0_4
 have HB := Aside0.mk (Below.refl w.heap.size w)
 have H : (some (wrap64 (a0_0 + (l0_4.length : Int)))) = some r := h
 clear h
 obtain rfl := Option.some.inj H
 go_enter Try.func91, Try.ntmps91
 go_wp2_with (first | ((with_reducible refine gate_dst (N := 1) rfl ?_); refine be_ (N := 1) #[.int .i64 a0_0, .int .i64 a0_1, .int .i64 a0_2, .int .i64 a0_3, .slice A0_4 l0_4.length c0_4] 44 ?_; intro gb251 hg w2 hbox hb; have BK251 := Aside0.mk (hbox); have GW251 := ge_ hg; have GE251 := ge_ hg; replace HB := nb_ hb; clear hb hbox hg; obtain ⟨hcz3_0, hcz3_1, hcz3_2, hcz3_3, hcz3_4, hfz3_0, hfz3_1, hfz3_2, hfz3_3, hfz3_4⟩ := cf5_ BK251.out))
 go_ret
 exact ⟨er_, hs_ GE251.out⟩

/-! ### impl_follows: function 65 -/
def impl_follows.f (l0 : List (S44)) (a1_0 : Int) (a1_1 : Int) (a1_2 : Int) (a1_3 : Int) (l1_4 : List ByteArray) : Option (Bool) := if (l0.length : Int) = 0 then (some true) else (if 0 ≤ (wrap64 ((l0.length : Int) - 1)) then (if (wrap64 ((l0.length : Int) - 1)) < (l0.length : Int) then ((impl_Batch_end.f ((rd_T44 l0 (wrap64 ((l0.length : Int) - 1))).f0) ((rd_T44 l0 (wrap64 ((l0.length : Int) - 1))).f1) ((rd_T44 l0 (wrap64 ((l0.length : Int) - 1))).f2) ((rd_T44 l0 (wrap64 ((l0.length : Int) - 1))).f3) ((rd_T44 l0 (wrap64 ((l0.length : Int) - 1))).f4)).bind fun t255 => (if a1_0 = t255 then (some (decide (a1_1 ≥ ((rd_T44 l0 (wrap64 ((l0.length : Int) - 1))).f1)))) else (some false))) else (none)) else (none))
def impl_follows.T4 : Bool × List (List Nat × List Nat) := (true, [([], []), ([0], [0]), ([], []), ([2], [2]), ([1, 3], [1, 3]), ([4, 3], [4]), ([5], [5]), ([6, 5], [5, 6]), ([5], [5]), ([8, 5], [5, 8]), ([7, 9, 5], [5, 7, 9]), ([5, 10], [5, 10]), ([11, 5, 0, 1, 2, 3, 4, 5, 6, 7, 8, 9, 10, 11], [11])])
def impl_follows.B4 : List Nat := [0, 1, 0, 4, 15, 31, 63, 127, 63, 319, 1023, 2047, 4095]
theorem impl_follows.tab4 : rtab .any (opsOf Try.f65 4) = impl_follows.T4 := by kernel_rfl
theorem impl_follows.bits4 : waitsOk impl_follows.T4.2 impl_follows.B4 = true := by kernel_rfl
set_option maxHeartbeats 8000000 in
set_option maxRecDepth 100000 in
theorem impl_follows.calls (A0 : Option Addr) (c0 : Nat) (l0 : List (S44)) (a1_0 : Int) (a1_1 : Int) (a1_2 : Int) (a1_3 : Int) (A1_4 : Option Addr) (c1_4 : Nat) (l1_4 : List ByteArray) (r : Bool) (w : World) (hr0 : Kd.C k44 w A0 l0.length l0) (hc0 : l0.length ≤ c0) (hr1_4 : Kd.C Kd.string w A1_4 l1_4.length l1_4) (hc1_4 : l1_4.length ≤ c1_4) (h : impl_follows.f l0 a1_0 a1_1 a1_2 a1_3 l1_4 = some r) :
  Calls Try.prog 65 #[.slice A0 l0.length c0, .agg #[.int .i64 a1_0, .int .i64 a1_1, .int .i64 a1_2, .int .i64 a1_3, .slice A1_4 l1_4.length c1_4]] w fun e w' => e = .returned (.bool r) ∧ Below w.heap.size w w' := by
 have hu44 := Try.underlying44
 have HR0 := Aside0.mk hr0
 have HC0 := Aside0.mk hc0
 clear hr0 hc0
 have HR1_4 := Aside0.mk hr1_4
 have HC1_4 := Aside0.mk hc1_4
 clear hr1_4 hc1_4
 have HB := Aside0.mk (Below.refl w.heap.size w)
 have H : (if (l0.length : Int) = 0 then (some true) else (if 0 ≤ (wrap64 ((l0.length : Int) - 1)) then (if (wrap64 ((l0.length : Int) - 1)) < (l0.length : Int) then ((impl_Batch_end.f ((rd_T44 l0 (wrap64 ((l0.length : Int) - 1))).f0) ((rd_T44 l0 (wrap64 ((l0.length : Int) - 1))).f1) ((rd_T44 l0 (wrap64 ((l0.length : Int) - 1))).f2) ((rd_T44 l0 (wrap64 ((l0.length : Int) - 1))).f3) ((rd_T44 l0 (wrap64 ((l0.length : Int) - 1))).f4)).bind fun t255 => (if a1_0 = t255 then (some (decide (a1_1 ≥ ((rd_T44 l0 (wrap64 ((l0.length : Int) - 1))).f1)))) else (some false))) else (none)) else (none))) = some r := h
 clear h
 replace H := ite_ H
 obtain ⟨c3, H⟩ | ⟨c3, H⟩ := H
 ·have c3b0 : ((l0.length : Int) == 0) = true := beq_iff_eq.mpr c3
  have c3b1 : ((l0.length : Int) != 0) = false := bne_eq_false_iff_eq.mpr c3
  clear c3
  obtain rfl := Option.some.inj H
  go_enter Try.func65, Try.ntmps65
  go_wp2_with (first | ((with_reducible refine gate_dst (N := 3) rfl ?_); refine be_ (N := 3) #[.int .i64 a1_0, .int .i64 a1_1, .int .i64 a1_2, .int .i64 a1_3, .slice A1_4 l1_4.length c1_4] 44 ?_; intro gb252 hg w4 hbox hb; have BK252 := Aside0.mk (hbox); have GW252 := ge_ hg; have GE252 := ge_ hg; replace HB := nb_ hb; clear hb hbox hg))
  go_ret
  exact ⟨er_, hs_ GE252.out⟩
 have c3b0 : ((l0.length : Int) == 0) = false := beq_eq_false_iff_ne.mpr c3
 have c3b1 : ((l0.length : Int) != 0) = true := bne_iff_ne.mpr c3
 have c3b2 : ¬ (l0 = []) := fun h_ => c3 (by rw [h_]; rfl)
 obtain ⟨ji5, hji5⟩ : ∃ j_ : Int, (wrap64 ((l0.length : Int) - 1)) = j_ := ⟨_, rfl⟩
 first | rw [hji5] at H | simp only [hji5] at H
 have hji5w : (IntKind.i64.wrap ((l0.length : Int) - 1)) = ji5 := (i64_w _).trans hji5
 replace H := ifs_ H
 obtain ⟨c6, H⟩ := H
 have c6b0 := decide_eq_true c6
 clear c6
 replace H := ifs_ H
 obtain ⟨c7, H⟩ := H
 have c7b0 := decide_eq_true c7
 clear c7
 replace H := bnd_ H
 obtain ⟨t255, A8, H⟩ := H
 replace H := ite_ H
 obtain ⟨c9, H⟩ | ⟨c9, H⟩ := H
 ·have c9b0 : (a1_0 == t255) = true := beq_iff_eq.mpr c9
  have c9b1 : (a1_0 != t255) = false := bne_eq_false_iff_eq.mpr c9
  clear c9
  obtain rfl := Option.some.inj H
  go_enter Try.func65, Try.ntmps65
  try go_wp2_with (first | ((with_reducible refine gate_dst (N := 3) rfl ?_); refine be_ (N := 3) #[.int .i64 a1_0, .int .i64 a1_1, .int .i64 a1_2, .int .i64 a1_3, .slice A1_4 l1_4.length c1_4] 44 ?_; intro gb252 hg w10 hbox hb; have BK252 := Aside0.mk (hbox); have GW252 := ge_ hg; have GE252 := ge_ hg; replace HB := nb_ hb; clear hb hbox hg; have p253 : 0 ≤ ((ji5) : Int) := oa_; have q253 : (ji5) < (l0.length : Int) := oa_; obtain ⟨ad253, A253_4, c253_4, e253, hx253_0, hx253_1, hx253_2, hx253_3, hx253_4, hl253_4, hi253_4⟩ := at_T44 HR0.out (ji5) p253 q253; cases e253; replace hx253_0 := pc_ HB.out hx253_0; replace hx253_1 := pc_ HB.out hx253_1; replace hx253_2 := pc_ HB.out hx253_2; replace hx253_3 := pc_ HB.out hx253_3; replace hx253_4 := pc_ HB.out hx253_4; have HR253_4 := Aside0.mk hi253_4; have HC253_4 := Aside0.mk hl253_4; clear hi253_4 hl253_4; replace p253 := eq_true p253; replace q253 := eq_true q253) | ((with_reducible refine gate_dst (N := 5) rfl ?_); refine be_ (N := 5) #[.int .i64 0, .int .i64 0, .int .i64 0, .int .i64 0, .slice none 0 0] 44 ?_; intro gb254 hg w11 hbox hb; have BK254 := Aside0.mk (hbox); have GW254 := ge1_ hg GE252; have GE254 := ge1_ hg GE252; replace HB := nc_ GE252 hb; have NB252_254 := nl_ BK252 hg; have NB254_252 := ng_ BK252 hg; replace BK252 := bK_ BK252 hb; clear hb hbox hg; have hnb12 := NB254_252.out; have hnc12 := NB252_254.out; obtain ⟨hcz13_0, hcz13_1, hcz13_2, hcz13_3, hcz13_4, hfz13_0, hfz13_1, hfz13_2, hfz13_3, hfz13_4⟩ := cf5_ BK254.out))
  have n0_ : Aside0 ((((((w11.setCell ⟨gb254, 0, none⟩ (.int .i64 ((rd_T44 l0 (ji5)).f0))).setCell ⟨gb254, 1, none⟩ (.int .i64 ((rd_T44 l0 (ji5)).f1))).setCell ⟨gb254, 2, none⟩ (.int .i64 ((rd_T44 l0 (ji5)).f2))).setCell ⟨gb254, 3, none⟩ (.int .i64 ((rd_T44 l0 (ji5)).f3))).setCell ⟨gb254, 4, none⟩ (.slice A253_4 ((rd_T44 l0 (ji5)).f4).length c253_4)).heap[gb252]? = some (.cells #[.int .i64 a1_0, .int .i64 a1_1, .int .i64 a1_2, .int .i64 a1_3, .slice A1_4 l1_4.length c1_4] 44 (0, 0))) := ⟨by (with_reducible repeat (first | refine blk_drewN ?_ _ | refine blk_drew ?_ | refine blk_alloc ?_ _)); refine blk_far ?_ NB252_254.out _; (with_reducible repeat (first | refine blk_drewN ?_ _ | refine blk_drew ?_ | refine blk_alloc ?_ _)); refine blk_far ?_ NB252_254.out _; (with_reducible repeat (first | refine blk_drewN ?_ _ | refine blk_drew ?_ | refine blk_alloc ?_ _)); refine blk_far ?_ NB252_254.out _; (with_reducible repeat (first | refine blk_drewN ?_ _ | refine blk_drew ?_ | refine blk_alloc ?_ _)); refine blk_far ?_ NB252_254.out _; (with_reducible repeat (first | refine blk_drewN ?_ _ | refine blk_drew ?_ | refine blk_alloc ?_ _)); refine blk_far ?_ NB252_254.out _; (with_reducible repeat (first | refine blk_drewN ?_ _ | refine blk_drew ?_ | refine blk_alloc ?_ _)); exact BK252.out⟩
  have n1_ : Aside0 ((((((w11.setCell ⟨gb254, 0, none⟩ (.int .i64 ((rd_T44 l0 (ji5)).f0))).setCell ⟨gb254, 1, none⟩ (.int .i64 ((rd_T44 l0 (ji5)).f1))).setCell ⟨gb254, 2, none⟩ (.int .i64 ((rd_T44 l0 (ji5)).f2))).setCell ⟨gb254, 3, none⟩ (.int .i64 ((rd_T44 l0 (ji5)).f3))).setCell ⟨gb254, 4, none⟩ (.slice A253_4 ((rd_T44 l0 (ji5)).f4).length c253_4)).heap[gb254]? = some (.cells #[.int .i64 ((rd_T44 l0 (ji5)).f0), .int .i64 ((rd_T44 l0 (ji5)).f1), .int .i64 ((rd_T44 l0 (ji5)).f2), .int .i64 ((rd_T44 l0 (ji5)).f3), .slice A253_4 ((rd_T44 l0 (ji5)).f4).length c253_4] 44 (0, 0))) := ⟨by (with_reducible repeat (first | refine blk_drewN ?_ _ | refine blk_drew ?_ | refine blk_alloc ?_ _)); refine blk_put (cs := #[.int .i64 ((rd_T44 l0 (ji5)).f0), .int .i64 ((rd_T44 l0 (ji5)).f1), .int .i64 ((rd_T44 l0 (ji5)).f2), .int .i64 ((rd_T44 l0 (ji5)).f3), .slice none 0 0]) ?_ 4 _ rfl; (with_reducible repeat (first | refine blk_drewN ?_ _ | refine blk_drew ?_ | refine blk_alloc ?_ _)); refine blk_put (cs := #[.int .i64 ((rd_T44 l0 (ji5)).f0), .int .i64 ((rd_T44 l0 (ji5)).f1), .int .i64 ((rd_T44 l0 (ji5)).f2), .int .i64 0, .slice none 0 0]) ?_ 3 _ rfl; (with_reducible repeat (first | refine blk_drewN ?_ _ | refine blk_drew ?_ | refine blk_alloc ?_ _)); refine blk_put (cs := #[.int .i64 ((rd_T44 l0 (ji5)).f0), .int .i64 ((rd_T44 l0 (ji5)).f1), .int .i64 0, .int .i64 0, .slice none 0 0]) ?_ 2 _ rfl; (with_reducible repeat (first | refine blk_drewN ?_ _ | refine blk_drew ?_ | refine blk_alloc ?_ _)); refine blk_put (cs := #[.int .i64 ((rd_T44 l0 (ji5)).f0), .int .i64 0, .int .i64 0, .int .i64 0, .slice none 0 0]) ?_ 1 _ rfl; (with_reducible repeat (first | refine blk_drewN ?_ _ | refine blk_drew ?_ | refine blk_alloc ?_ _)); refine blk_put (cs := #[.int .i64 0, .int .i64 0, .int .i64 0, .int .i64 0, .slice none 0 0]) ?_ 0 _ rfl; (with_reducible repeat (first | refine blk_drewN ?_ _ | refine blk_drew ?_ | refine blk_alloc ?_ _)); exact BK254.out⟩
  have n2_ : Aside0 (Below w.heap.size w (((((w11.setCell ⟨gb254, 0, none⟩ (.int .i64 ((rd_T44 l0 (ji5)).f0))).setCell ⟨gb254, 1, none⟩ (.int .i64 ((rd_T44 l0 (ji5)).f1))).setCell ⟨gb254, 2, none⟩ (.int .i64 ((rd_T44 l0 (ji5)).f2))).setCell ⟨gb254, 3, none⟩ (.int .i64 ((rd_T44 l0 (ji5)).f3))).setCell ⟨gb254, 4, none⟩ (.slice A253_4 ((rd_T44 l0 (ji5)).f4).length c253_4))) := ⟨hs2_ GE252.out GE254.out⟩
  (try clear BK252)
  (try clear BK254)
  (try clear HB)
  generalize (((((w11.setCell ⟨gb254, 0, none⟩ (.int .i64 ((rd_T44 l0 (ji5)).f0))).setCell ⟨gb254, 1, none⟩ (.int .i64 ((rd_T44 l0 (ji5)).f1))).setCell ⟨gb254, 2, none⟩ (.int .i64 ((rd_T44 l0 (ji5)).f2))).setCell ⟨gb254, 3, none⟩ (.int .i64 ((rd_T44 l0 (ji5)).f3))).setCell ⟨gb254, 4, none⟩ (.slice A253_4 ((rd_T44 l0 (ji5)).f4).length c253_4)) = w14 at n0_ n1_ n2_ ⊢
  have BK252 := n0_
  have BK254 := n1_
  have HB := n2_
  clear n0_ n1_ n2_
  replace BK252 := qK_ BK252
  replace BK254 := qK_ BK254
  replace HB := qH_ HB
  refine start_ (n := 13) (S := fun w' => w'.cell? ⟨gb252, 0, none⟩ = some (.int .i64 a1_0) ∧ w'.cell? ⟨gb252, 1, none⟩ = some (.int .i64 a1_1) ∧ w'.cell? ⟨gb252, 2, none⟩ = some (.int .i64 a1_2) ∧ w'.cell? ⟨gb252, 3, none⟩ = some (.int .i64 a1_3) ∧ w'.cell? ⟨gb252, 4, none⟩ = some (.slice A1_4 l1_4.length c1_4) ∧ w'.cell? ⟨gb254, 0, none⟩ = some (.int .i64 ((rd_T44 l0 (ji5)).f0)) ∧ w'.cell? ⟨gb254, 1, none⟩ = some (.int .i64 ((rd_T44 l0 (ji5)).f1)) ∧ w'.cell? ⟨gb254, 2, none⟩ = some (.int .i64 ((rd_T44 l0 (ji5)).f2)) ∧ w'.cell? ⟨gb254, 3, none⟩ = some (.int .i64 ((rd_T44 l0 (ji5)).f3)) ∧ w'.cell? ⟨gb254, 4, none⟩ = some (.slice A253_4 ((rd_T44 l0 (ji5)).f4).length c253_4)) (ds := []) #[false, false, false, false, false, false, false, false, false, false, false, false, false] (by kernel_rfl) rfl rfl ⟨(blk_cell BK252.out 0).trans rfl, (blk_cell BK252.out 1).trans rfl, (blk_cell BK252.out 2).trans rfl, (blk_cell BK252.out 3).trans rfl, (blk_cell BK252.out 4).trans rfl, (blk_cell BK254.out 0).trans rfl, (blk_cell BK254.out 1).trans rfl, (blk_cell BK254.out 2).trans rfl, (blk_cell BK254.out 3).trans rfl, (blk_cell BK254.out 4).trans rfl⟩ (fun hHeld => ?_); refine with_tabW impl_follows.tab4 impl_follows.bits4 (fun HT_ HW_ => ?_)
  generalize w14.drew = w15 at BK252 BK254 HB hHeld ⊢
  refine pv_ 0 15 ?_
  refine take_ (i := 1) (N := some 16) (v := ?_) (a' := ?_) #[true, true, false, false, false, false, false, false, false, false, false, false, false] rfl rfl (take_ofW HT_.out HW_.out (by kernel_rfl)) (fun _ _ _ h => h) (Or.inl ⟨by rfl, ?_⟩) hHeld ?_ ?_
  rotate_left
  ·rintro w' ⟨s0, s1, s2, s3, s4, s5, s6, s7, s8, s9⟩
   go_simp
   with_reducible rfl
  rotate_left
  ·simp only [Act.put, List.setIfInBounds_toArray, List.set_cons_zero, List.set_cons_succ, i64_w, i32_w]
   rfl
  refine take_ (i := 2) (N := some 17) (v := ?_) (a' := ?_) #[true, true, true, false, false, false, false, false, false, false, false, false, false] rfl rfl (take_ofW HT_.out HW_.out (by kernel_rfl)) (fun _ _ _ h => h) (Or.inl ⟨by rfl, ?_⟩) hHeld ?_ ?_
  rotate_left
  ·rintro w' ⟨s0, s1, s2, s3, s4, s5, s6, s7, s8, s9⟩
   go_simp
   with_reducible rfl
  rotate_left
  ·simp only [Act.put, List.setIfInBounds_toArray, List.set_cons_zero, List.set_cons_succ, i64_w, i32_w]
   rfl
  refine one_ (i := 3) (N := some 18) #[true, true, true, true, false, false, false, false, false, false, false, false, false] rfl rfl (one_of HT_.out (by kernel_rfl)) (by decide) (fun K hK => ?_)
  refine gs_ Try.func91 #[.agg #[.int .i64 ((rd_T44 l0 (ji5)).f0), .int .i64 ((rd_T44 l0 (ji5)).f1), .int .i64 ((rd_T44 l0 (ji5)).f2), .int .i64 ((rd_T44 l0 (ji5)).f3), .slice A253_4 ((rd_T44 l0 (ji5)).f4).length c253_4]] rfl (mb_ hji5) ?_
  with_reducible refine (impl_Batch_end.calls ((rd_T44 l0 (ji5)).f0) ((rd_T44 l0 (ji5)).f1) ((rd_T44 l0 (ji5)).f2) ((rd_T44 l0 (ji5)).f3) _ _ ((rd_T44 l0 (ji5)).f4) t255 _ ?side1 ?side2 A8.out).mono ?_
  (case side1 => exact cs_ ((Kd.C_below HR253_4.out HB.out)))
  (case side2 => exact HC253_4.out)
  rintro e w16 ⟨rfl, hb⟩
  refine ⟨_, rfl, ?_⟩
  replace BK252 := bK_ BK252 hb
  replace BK254 := bK_ BK254 hb
  replace HB := nc2_ GE252 GE254 hb
  (try clear hb)
  (try clear hb2)
  (try clear hk)
  (try clear hi)
  refine hK.out _ _ ⟨(blk_cell BK252.out 0).trans rfl, (blk_cell BK252.out 1).trans rfl, (blk_cell BK252.out 2).trans rfl, (blk_cell BK252.out 3).trans rfl, (blk_cell BK252.out 4).trans rfl, (blk_cell BK254.out 0).trans rfl, (blk_cell BK254.out 1).trans rfl, (blk_cell BK254.out 2).trans rfl, (blk_cell BK254.out 3).trans rfl, (blk_cell BK254.out 4).trans rfl⟩ (fun hHeld => ?_)
  clear hK K
  refine no_ ?_
  refine pv_ 4 19 ?_
  refine pv_ 5 20 ?_
  refine pv_ 6 21 ?_
  refine pv_ 8 23 ?_
  refine take_ (i := 7) (N := some 22) (v := ?_) (a' := ?_) #[true, true, true, true, true, true, true, true, true, false, false, false, false] rfl rfl (take_ofW HT_.out HW_.out (by kernel_rfl)) (fun _ _ _ h => h) (Or.inl ⟨by rfl, ?_⟩) hHeld ?_ ?_
  rotate_left
  ·rintro w' ⟨s0, s1, s2, s3, s4, s5, s6, s7, s8, s9⟩
   go_simp
   with_reducible rfl
  rotate_left
  ·simp only [Act.put, List.setIfInBounds_toArray, List.set_cons_zero, List.set_cons_succ, i64_w, i32_w]
   rfl
  refine take_ (i := 9) (N := some 24) (v := ?_) (a' := ?_) #[true, true, true, true, true, true, true, true, true, true, false, false, false] rfl rfl (take_ofW HT_.out HW_.out (by kernel_rfl)) (fun _ _ _ h => h) (Or.inl ⟨by rfl, ?_⟩) hHeld ?_ ?_
  rotate_left
  ·rintro w' ⟨s0, s1, s2, s3, s4, s5, s6, s7, s8, s9⟩
   go_simp
   with_reducible rfl
  rotate_left
  ·simp only [Act.put, List.setIfInBounds_toArray, List.set_cons_zero, List.set_cons_succ, i64_w, i32_w]
   rfl
  refine pv_ 10 25 ?_
  refine pv_ 11 26 ?_
  refine pv_ 12 4 ?_
  refine done_ (done_of HT_.out (by kernel_rfl)) ?_
  try go_wp2
  go_ret
  exact ⟨by first | rfl | (simp [errW_none, errW_some] <;> rfl) | (simp only [← hji5]; first | rfl | (simp [errW_none, errW_some] <;> rfl)) | (simp [*, errW_none, errW_some] <;> rfl), hs2_ GE252.out GE254.out⟩
 have c9b0 : (a1_0 == t255) = false := beq_eq_false_iff_ne.mpr c9
 have c9b1 : (a1_0 != t255) = true := bne_iff_ne.mpr c9
 obtain rfl := Option.some.inj H
 go_enter Try.func65, Try.ntmps65
 try go_wp2_with (first | ((with_reducible refine gate_dst (N := 3) rfl ?_); refine be_ (N := 3) #[.int .i64 a1_0, .int .i64 a1_1, .int .i64 a1_2, .int .i64 a1_3, .slice A1_4 l1_4.length c1_4] 44 ?_; intro gb252 hg w17 hbox hb; have BK252 := Aside0.mk (hbox); have GW252 := ge_ hg; have GE252 := ge_ hg; replace HB := nb_ hb; clear hb hbox hg; have p253 : 0 ≤ ((ji5) : Int) := oa_; have q253 : (ji5) < (l0.length : Int) := oa_; obtain ⟨ad253, A253_4, c253_4, e253, hx253_0, hx253_1, hx253_2, hx253_3, hx253_4, hl253_4, hi253_4⟩ := at_T44 HR0.out (ji5) p253 q253; cases e253; replace hx253_0 := pc_ HB.out hx253_0; replace hx253_1 := pc_ HB.out hx253_1; replace hx253_2 := pc_ HB.out hx253_2; replace hx253_3 := pc_ HB.out hx253_3; replace hx253_4 := pc_ HB.out hx253_4; have HR253_4 := Aside0.mk hi253_4; have HC253_4 := Aside0.mk hl253_4; clear hi253_4 hl253_4; replace p253 := eq_true p253; replace q253 := eq_true q253) | ((with_reducible refine gate_dst (N := 5) rfl ?_); refine be_ (N := 5) #[.int .i64 0, .int .i64 0, .int .i64 0, .int .i64 0, .slice none 0 0] 44 ?_; intro gb254 hg w18 hbox hb; have BK254 := Aside0.mk (hbox); have GW254 := ge1_ hg GE252; have GE254 := ge1_ hg GE252; replace HB := nc_ GE252 hb; have NB252_254 := nl_ BK252 hg; have NB254_252 := ng_ BK252 hg; replace BK252 := bK_ BK252 hb; clear hb hbox hg; have hnb19 := NB254_252.out; have hnc19 := NB252_254.out; obtain ⟨hcz20_0, hcz20_1, hcz20_2, hcz20_3, hcz20_4, hfz20_0, hfz20_1, hfz20_2, hfz20_3, hfz20_4⟩ := cf5_ BK254.out))
 have n0_ : Aside0 ((((((w18.setCell ⟨gb254, 0, none⟩ (.int .i64 ((rd_T44 l0 (ji5)).f0))).setCell ⟨gb254, 1, none⟩ (.int .i64 ((rd_T44 l0 (ji5)).f1))).setCell ⟨gb254, 2, none⟩ (.int .i64 ((rd_T44 l0 (ji5)).f2))).setCell ⟨gb254, 3, none⟩ (.int .i64 ((rd_T44 l0 (ji5)).f3))).setCell ⟨gb254, 4, none⟩ (.slice A253_4 ((rd_T44 l0 (ji5)).f4).length c253_4)).heap[gb252]? = some (.cells #[.int .i64 a1_0, .int .i64 a1_1, .int .i64 a1_2, .int .i64 a1_3, .slice A1_4 l1_4.length c1_4] 44 (0, 0))) := ⟨by (with_reducible repeat (first | refine blk_drewN ?_ _ | refine blk_drew ?_ | refine blk_alloc ?_ _)); refine blk_far ?_ NB252_254.out _; (with_reducible repeat (first | refine blk_drewN ?_ _ | refine blk_drew ?_ | refine blk_alloc ?_ _)); refine blk_far ?_ NB252_254.out _; (with_reducible repeat (first | refine blk_drewN ?_ _ | refine blk_drew ?_ | refine blk_alloc ?_ _)); refine blk_far ?_ NB252_254.out _; (with_reducible repeat (first | refine blk_drewN ?_ _ | refine blk_drew ?_ | refine blk_alloc ?_ _)); refine blk_far ?_ NB252_254.out _; (with_reducible repeat (first | refine blk_drewN ?_ _ | refine blk_drew ?_ | refine blk_alloc ?_ _)); refine blk_far ?_ NB252_254.out _; (with_reducible repeat (first | refine blk_drewN ?_ _ | refine blk_drew ?_ | refine blk_alloc ?_ _)); exact BK252.out⟩
 have n1_ : Aside0 ((((((w18.setCell ⟨gb254, 0, none⟩ (.int .i64 ((rd_T44 l0 (ji5)).f0))).setCell ⟨gb254, 1, none⟩ (.int .i64 ((rd_T44 l0 (ji5)).f1))).setCell ⟨gb254, 2, none⟩ (.int .i64 ((rd_T44 l0 (ji5)).f2))).setCell ⟨gb254, 3, none⟩ (.int .i64 ((rd_T44 l0 (ji5)).f3))).setCell ⟨gb254, 4, none⟩ (.slice A253_4 ((rd_T44 l0 (ji5)).f4).length c253_4)).heap[gb254]? = some (.cells #[.int .i64 ((rd_T44 l0 (ji5)).f0), .int .i64 ((rd_T44 l0 (ji5)).f1), .int .i64 ((rd_T44 l0 (ji5)).f2), .int .i64 ((rd_T44 l0 (ji5)).f3), .slice A253_4 ((rd_T44 l0 (ji5)).f4).length c253_4] 44 (0, 0))) := ⟨by (with_reducible repeat (first | refine blk_drewN ?_ _ | refine blk_drew ?_ | refine blk_alloc ?_ _)); refine blk_put (cs := #[.int .i64 ((rd_T44 l0 (ji5)).f0), .int .i64 ((rd_T44 l0 (ji5)).f1), .int .i64 ((rd_T44 l0 (ji5)).f2), .int .i64 ((rd_T44 l0 (ji5)).f3), .slice none 0 0]) ?_ 4 _ rfl; (with_reducible repeat (first | refine blk_drewN ?_ _ | refine blk_drew ?_ | refine blk_alloc ?_ _)); refine blk_put (cs := #[.int .i64 ((rd_T44 l0 (ji5)).f0), .int .i64 ((rd_T44 l0 (ji5)).f1), .int .i64 ((rd_T44 l0 (ji5)).f2), .int .i64 0, .slice none 0 0]) ?_ 3 _ rfl; (with_reducible repeat (first | refine blk_drewN ?_ _ | refine blk_drew ?_ | refine blk_alloc ?_ _)); refine blk_put (cs := #[.int .i64 ((rd_T44 l0 (ji5)).f0), .int .i64 ((rd_T44 l0 (ji5)).f1), .int .i64 0, .int .i64 0, .slice none 0 0]) ?_ 2 _ rfl; (with_reducible repeat (first | refine blk_drewN ?_ _ | refine blk_drew ?_ | refine blk_alloc ?_ _)); refine blk_put (cs := #[.int .i64 ((rd_T44 l0 (ji5)).f0), .int .i64 0, .int .i64 0, .int .i64 0, .slice none 0 0]) ?_ 1 _ rfl; (with_reducible repeat (first | refine blk_drewN ?_ _ | refine blk_drew ?_ | refine blk_alloc ?_ _)); refine blk_put (cs := #[.int .i64 0, .int .i64 0, .int .i64 0, .int .i64 0, .slice none 0 0]) ?_ 0 _ rfl; (with_reducible repeat (first | refine blk_drewN ?_ _ | refine blk_drew ?_ | refine blk_alloc ?_ _)); exact BK254.out⟩
 have n2_ : Aside0 (Below w.heap.size w (((((w18.setCell ⟨gb254, 0, none⟩ (.int .i64 ((rd_T44 l0 (ji5)).f0))).setCell ⟨gb254, 1, none⟩ (.int .i64 ((rd_T44 l0 (ji5)).f1))).setCell ⟨gb254, 2, none⟩ (.int .i64 ((rd_T44 l0 (ji5)).f2))).setCell ⟨gb254, 3, none⟩ (.int .i64 ((rd_T44 l0 (ji5)).f3))).setCell ⟨gb254, 4, none⟩ (.slice A253_4 ((rd_T44 l0 (ji5)).f4).length c253_4))) := ⟨hs2_ GE252.out GE254.out⟩
 (try clear BK252)
 (try clear BK254)
 (try clear HB)
 generalize (((((w18.setCell ⟨gb254, 0, none⟩ (.int .i64 ((rd_T44 l0 (ji5)).f0))).setCell ⟨gb254, 1, none⟩ (.int .i64 ((rd_T44 l0 (ji5)).f1))).setCell ⟨gb254, 2, none⟩ (.int .i64 ((rd_T44 l0 (ji5)).f2))).setCell ⟨gb254, 3, none⟩ (.int .i64 ((rd_T44 l0 (ji5)).f3))).setCell ⟨gb254, 4, none⟩ (.slice A253_4 ((rd_T44 l0 (ji5)).f4).length c253_4)) = w21 at n0_ n1_ n2_ ⊢
 have BK252 := n0_
 have BK254 := n1_
 have HB := n2_
 clear n0_ n1_ n2_
 replace BK252 := qK_ BK252
 replace BK254 := qK_ BK254
 replace HB := qH_ HB
 refine start_ (n := 13) (S := fun w' => w'.cell? ⟨gb252, 0, none⟩ = some (.int .i64 a1_0) ∧ w'.cell? ⟨gb252, 1, none⟩ = some (.int .i64 a1_1) ∧ w'.cell? ⟨gb252, 2, none⟩ = some (.int .i64 a1_2) ∧ w'.cell? ⟨gb252, 3, none⟩ = some (.int .i64 a1_3) ∧ w'.cell? ⟨gb252, 4, none⟩ = some (.slice A1_4 l1_4.length c1_4) ∧ w'.cell? ⟨gb254, 0, none⟩ = some (.int .i64 ((rd_T44 l0 (ji5)).f0)) ∧ w'.cell? ⟨gb254, 1, none⟩ = some (.int .i64 ((rd_T44 l0 (ji5)).f1)) ∧ w'.cell? ⟨gb254, 2, none⟩ = some (.int .i64 ((rd_T44 l0 (ji5)).f2)) ∧ w'.cell? ⟨gb254, 3, none⟩ = some (.int .i64 ((rd_T44 l0 (ji5)).f3)) ∧ w'.cell? ⟨gb254, 4, none⟩ = some (.slice A253_4 ((rd_T44 l0 (ji5)).f4).length c253_4)) (ds := []) #[false, false, false, false, false, false, false, false, false, false, false, false, false] (by kernel_rfl) rfl rfl ⟨(blk_cell BK252.out 0).trans rfl, (blk_cell BK252.out 1).trans rfl, (blk_cell BK252.out 2).trans rfl, (blk_cell BK252.out 3).trans rfl, (blk_cell BK252.out 4).trans rfl, (blk_cell BK254.out 0).trans rfl, (blk_cell BK254.out 1).trans rfl, (blk_cell BK254.out 2).trans rfl, (blk_cell BK254.out 3).trans rfl, (blk_cell BK254.out 4).trans rfl⟩ (fun hHeld => ?_); refine with_tabW impl_follows.tab4 impl_follows.bits4 (fun HT_ HW_ => ?_)
 generalize w21.drew = w22 at BK252 BK254 HB hHeld ⊢
 refine pv_ 0 15 ?_
 refine take_ (i := 1) (N := some 16) (v := ?_) (a' := ?_) #[true, true, false, false, false, false, false, false, false, false, false, false, false] rfl rfl (take_ofW HT_.out HW_.out (by kernel_rfl)) (fun _ _ _ h => h) (Or.inl ⟨by rfl, ?_⟩) hHeld ?_ ?_
 rotate_left
 ·rintro w' ⟨s0, s1, s2, s3, s4, s5, s6, s7, s8, s9⟩
  go_simp
  with_reducible rfl
 rotate_left
 ·simp only [Act.put, List.setIfInBounds_toArray, List.set_cons_zero, List.set_cons_succ, i64_w, i32_w]
  rfl
 refine take_ (i := 2) (N := some 17) (v := ?_) (a' := ?_) #[true, true, true, false, false, false, false, false, false, false, false, false, false] rfl rfl (take_ofW HT_.out HW_.out (by kernel_rfl)) (fun _ _ _ h => h) (Or.inl ⟨by rfl, ?_⟩) hHeld ?_ ?_
 rotate_left
 ·rintro w' ⟨s0, s1, s2, s3, s4, s5, s6, s7, s8, s9⟩
  go_simp
  with_reducible rfl
 rotate_left
 ·simp only [Act.put, List.setIfInBounds_toArray, List.set_cons_zero, List.set_cons_succ, i64_w, i32_w]
  rfl
 refine one_ (i := 3) (N := some 18) #[true, true, true, true, false, false, false, false, false, false, false, false, false] rfl rfl (one_of HT_.out (by kernel_rfl)) (by decide) (fun K hK => ?_)
 refine gs_ Try.func91 #[.agg #[.int .i64 ((rd_T44 l0 (ji5)).f0), .int .i64 ((rd_T44 l0 (ji5)).f1), .int .i64 ((rd_T44 l0 (ji5)).f2), .int .i64 ((rd_T44 l0 (ji5)).f3), .slice A253_4 ((rd_T44 l0 (ji5)).f4).length c253_4]] rfl (mb_ hji5) ?_
 with_reducible refine (impl_Batch_end.calls ((rd_T44 l0 (ji5)).f0) ((rd_T44 l0 (ji5)).f1) ((rd_T44 l0 (ji5)).f2) ((rd_T44 l0 (ji5)).f3) _ _ ((rd_T44 l0 (ji5)).f4) t255 _ ?side1 ?side2 A8.out).mono ?_
 (case side1 => exact cs_ ((Kd.C_below HR253_4.out HB.out)))
 (case side2 => exact HC253_4.out)
 rintro e w23 ⟨rfl, hb⟩
 refine ⟨_, rfl, ?_⟩
 replace BK252 := bK_ BK252 hb
 replace BK254 := bK_ BK254 hb
 replace HB := nc2_ GE252 GE254 hb
 (try clear hb)
 (try clear hb2)
 (try clear hk)
 (try clear hi)
 refine hK.out _ _ ⟨(blk_cell BK252.out 0).trans rfl, (blk_cell BK252.out 1).trans rfl, (blk_cell BK252.out 2).trans rfl, (blk_cell BK252.out 3).trans rfl, (blk_cell BK252.out 4).trans rfl, (blk_cell BK254.out 0).trans rfl, (blk_cell BK254.out 1).trans rfl, (blk_cell BK254.out 2).trans rfl, (blk_cell BK254.out 3).trans rfl, (blk_cell BK254.out 4).trans rfl⟩ (fun hHeld => ?_)
 clear hK K
 refine no_ ?_
 refine pv_ 4 19 ?_
 refine pv_ 5 20 ?_
 refine pure_ (i := 6) (N := some 21) (v := undef) (a' := ?_) #[true, true, true, true, true, true, true, false, false, false, false, false, false] rfl rfl (any_of HT_.out (by kernel_rfl)) (fun _ _ _ h => h) (Or.inr ⟨by rfl, rfl⟩) ?_ ?_
 rotate_left
 ·simp only [Act.put, List.setIfInBounds_toArray, List.set_cons_zero, List.set_cons_succ, i64_w, i32_w]
  rfl
 refine pure_ (i := 7) (N := some 22) (v := undef) (a' := ?_) #[true, true, true, true, true, true, true, true, false, false, false, false, false] rfl rfl (any_of HT_.out (by kernel_rfl)) (fun _ _ _ h => h) (Or.inr ⟨by rfl, rfl⟩) ?_ ?_
 rotate_left
 ·simp only [Act.put, List.setIfInBounds_toArray, List.set_cons_zero, List.set_cons_succ, i64_w, i32_w]
  rfl
 refine pure_ (i := 8) (N := some 23) (v := undef) (a' := ?_) #[true, true, true, true, true, true, true, true, true, false, false, false, false] rfl rfl (any_of HT_.out (by kernel_rfl)) (fun _ _ _ h => h) (Or.inr ⟨by rfl, rfl⟩) ?_ ?_
 rotate_left
 ·simp only [Act.put, List.setIfInBounds_toArray, List.set_cons_zero, List.set_cons_succ, i64_w, i32_w]
  rfl
 refine pure_ (i := 9) (N := some 24) (v := undef) (a' := ?_) #[true, true, true, true, true, true, true, true, true, true, false, false, false] rfl rfl (any_of HT_.out (by kernel_rfl)) (fun _ _ _ h => h) (Or.inr ⟨by rfl, rfl⟩) ?_ ?_
 rotate_left
 ·simp only [Act.put, List.setIfInBounds_toArray, List.set_cons_zero, List.set_cons_succ, i64_w, i32_w]
  rfl
 refine pure_ (i := 10) (N := some 25) (v := undef) (a' := ?_) #[true, true, true, true, true, true, true, true, true, true, true, false, false] rfl rfl (any_of HT_.out (by kernel_rfl)) (fun _ _ _ h => h) (Or.inr ⟨by rfl, rfl⟩) ?_ ?_
 rotate_left
 ·simp only [Act.put, List.setIfInBounds_toArray, List.set_cons_zero, List.set_cons_succ, i64_w, i32_w]
  rfl
 refine pv_ 11 26 ?_
 refine pv_ 12 4 ?_
 refine done_ (done_of HT_.out (by kernel_rfl)) ?_
 try go_wp2
 go_ret
 exact ⟨by first | rfl | (simp [errW_none, errW_some] <;> rfl) | (simp only [← hji5]; first | rfl | (simp [errW_none, errW_some] <;> rfl)) | (simp [*, errW_none, errW_some] <;> rfl), hs2_ GE252.out GE254.out⟩

-- NOT PRINTED: function 104 (slices_IndexFunc_string_string)

-- NOT PRINTED: function 100 (slices_ContainsFunc_string_string)

end Go.Proofs.Ytpdpipfkllfhmaa.QFnExactWriteBatch
