/- For each Go function that one statement reaches: a plain function with the same answers, and the proof that the call comes to them. Conditions: those that each contract names. Written by a program of this repository. -/
import Derived.Test.YtpdpipfkllfhmaaVWriteBatcha
import Derived.Test.YtpdpipfkllfhmaaQFnExactWriteBatchx0
namespace Go.Proofs.Ytpdpipfkllfhmaa.QFnExactWriteBatch
open Go.RowKit Go.Proofs.YtpdpipfkllfhmaaW.PrintWords Go.Proofs.YtpdpipfkllfhmaaW.PrintLast Go.Proofs.YtpdpipfkllfhmaaW.PrintMore
attribute [local go_sem] max2_int min2_int max_two min_two max_three min_three max_four min_four Go.Proofs.YtpdpipfkllfhmaaW.PrintMore2.isSome_setCell   -- for this text's walks alone
set_option linter.unusedVariables false
set_option linter.unusedSimpArgs false

/-! ### laws_markText: function 85 -/
def laws_markText.l0 : Nat → Int → ByteArray → Option (ByteArray)
 | 0, _, _ => none
 | k + 1, x0, x3 => if x0 > 0 then ((some (([(wrap64 (48 + (Int.tmod x0 10))) % 256] : List Int) : List Int)).bind fun y130 => (if (strOfNums y130).size + x3.size ≤ 9223372036854775807 then (laws_markText.l0 k (wrap64 (Int.tdiv x0 10)) ((strOfNums y130) ++ x3)) else (none))) else (if 1 + x3.size ≤ 9223372036854775807 then (some ((⟨#[109]⟩ : ByteArray) ++ x3)) else (none))
def laws_markText.f (k : Nat) (a0 : Int) : Option (ByteArray) := if a0 ≤ 0 then (some (⟨#[109, 48]⟩ : ByteArray)) else (laws_markText.l0 k a0 (⟨#[]⟩ : ByteArray))
theorem laws_markText.mono_l : ∀ k, (∀ y0 y1, LeO (laws_markText.l0 k y0 y1) (laws_markText.l0 (k + 1) y0 y1))
 | 0 => fun _ _ r h => by simp [laws_markText.l0] at h
 | k + 1 => by
  have ih0 := laws_markText.mono_l k
  ·intro y0 y1
   unfold laws_markText.l0
   repeat' first
   | (with_reducible exact ih0 _ _)
   | (with_reducible exact LeO.refl _)
   | (with_reducible exact LeO.none _)
   | (with_reducible refine LeO.ite ?_ ?_)
   | (with_reducible refine LeO.bind ?_ (fun _ => ?_))
   | exact ih0 _ _
   | exact LeO.none _
   | refine LeO.ite ?_ ?_
   | refine LeO.bind ?_ (fun _ => ?_)
theorem laws_markText.mono : ∀ a0 k, LeO (laws_markText.f k a0) (laws_markText.f (k + 1) a0) := by
 intro a0 k
 have ih0 := laws_markText.mono_l k
 unfold laws_markText.f
 repeat' first
   | (with_reducible exact ih0 _ _)
   | (with_reducible exact LeO.refl _)
   | (with_reducible exact LeO.none _)
   | (with_reducible refine LeO.ite ?_ ?_)
   | (with_reducible refine LeO.bind ?_ (fun _ => ?_))
   | exact ih0 _ _
   | exact LeO.none _
   | refine LeO.ite ?_ ?_
   | refine LeO.bind ?_ (fun _ => ?_)
set_option maxHeartbeats 8000000 in
set_option maxRecDepth 100000 in
theorem laws_markText.calls (k : Nat) (a0 : Int) (r : ByteArray) (w : World) (h : laws_markText.f k a0 = some r) :
  Calls Try.prog 85 #[.int .i64 a0] w fun e w' => e = .returned (.string r) ∧ Below w.heap.size w w' := by
 have HB := Aside0.mk (Below.refl w.heap.size w)
 have H : (if a0 ≤ 0 then (some (⟨#[109, 48]⟩ : ByteArray)) else (laws_markText.l0 k a0 (⟨#[]⟩ : ByteArray))) = some r := h
 clear h
 replace H := ite_ H
 obtain ⟨c2, H⟩ | ⟨c2, H⟩ := H
 ·have c2b0 := decide_eq_true c2
  clear c2
  obtain rfl := Option.some.inj H
  go_enter Try.func85, Try.ntmps85
  go_wp2
  go_ret
  exact ⟨er_, hb_⟩
 have c2b0 := decide_eq_false c2
 clear c2
 have H' := Aside0.mk H
 clear H
 go_enter Try.func85, Try.ntmps85
 go_wp2
 go_loopg [0, 3] k (fun kq v0 v3 w' => ∃ (x0_1 : Int) (x3_1 : ByteArray), v0 = .int .i64 x0_1 ∧ v3 = .string x3_1 ∧ Aside0 (laws_markText.l0 kq x0_1 x3_1 = some r) ∧ Aside0 (kq ≤ k) ∧ Aside0 (Below w.heap.size w w'))
 case atStart => exact ⟨(a0), ((⟨#[]⟩ : ByteArray)), sr_, sr_, H', ⟨Nat.le_refl _⟩, ⟨hb_⟩⟩
 case round =>
  clear H'
  try clear c2
  try clear c2b0
  try clear p2
  obtain ⟨x0_1, x3_1, rfl, rfl, HA, HK1, HB⟩ := hrel
  cases gk with
  | zero => exact absurd HA.out (by simp [laws_markText.l0])
  | succ k1 =>
   have H := HA.out
   clear HA
   simp only [laws_markText.l0] at H
   replace H := ite_ H
   obtain ⟨c3, H⟩ | ⟨c3, H⟩ := H
   rotate_left
   ·have c3b0 := dgf_ c3
    clear c3
    replace H := ifs_ H
    obtain ⟨c8, H⟩ := H
    have c8b0 := eq_true c8
    have c8b1 := decide_eq_true c8
    try have c8b2 : (9223372036854775807 < 1 + x3_1.size) = False := eq_false (Nat.not_lt.2 c8)
    obtain rfl := Option.some.inj H
    go_wp2
    go_ret
    exact ⟨er_, hb_⟩
   have c3b0 := dgt_ c3
   clear c3
   obtain ⟨y130, hy130⟩ : ∃ y_ : List Int, y_ = (([(wrap64 (48 + (Int.tmod x0_1 10))) % 256] : List Int)) := ⟨_, rfl⟩
   replace H : (if (strOfNums y130).size + x3_1.size ≤ 9223372036854775807 then (laws_markText.l0 k1 (wrap64 (Int.tdiv x0_1 10)) ((strOfNums y130) ++ x3_1)) else (none)) = some r := by first | (rw [hy130]; with_reducible exact H) | (have H2_ := (Option.bind_some _ _).symm.trans H; rw [hy130]; with_reducible exact H2_) | (have H2_ := (Option.bind_some _ _).symm.trans H; with_reducible exact H2_) | with_reducible exact H | (rw [hy130]; exact H) | exact H
   have Ny130 := Aside0.mk hy130
   clear hy130
   replace H := ifs_ H
   obtain ⟨c4, H⟩ := H
   have c4b0 := eq_true c4
   have c4b1 := decide_eq_true c4
   try have c4b2 : (9223372036854775807 < (strOfNums y130).size + x3_1.size) = False := eq_false (Nat.not_lt.2 c4)
   try have c4w := cw_ c4
   (try rw [c4w] at c2b0)
   (try rw [c4w] at c3b0)
   have H' := Aside0.mk H
   clear H
   go_wp2_with (first | ((with_reducible refine gate_dst (N := 12) rfl ?_); refine Kd.R_lit (Kd.int .u8) _ 5 ?hg (N := 12) ?hd (xs := ([(wrap64 (48 + (Int.tmod x0_1 10))) % 256] : List Int)) (inner := [.int .u8 ((wrap64 (48 + (Int.tmod x0_1 10))) % 256)]) (ok := fun _ => True) (okp := fun _ => True) ?hr ?hp (fun _ hk => hk) trivial (Below.refl _ _) (Nat.le_refl _) (by simp) ?_; (case hd => rfl); (case hg => rfl); (case hr => first | (go_simp; done) | (go_simp; rfl)); (case hp => exact (Reps.one (show Kd.M (Kd.int .u8) _ _ _ ((wrap64 (48 + (Int.tmod x0_1 10))) % 256) [.int .u8 ((wrap64 (48 + (Int.tmod x0_1 10))) % 256)] from rfl) (Reps.none _ _))); intro v131 w5 ho6 hb hg_ hnew_; clear hg_ hnew_; (first | rw [← Ny130.out] at ho6 | (simp only [Int.reduceToNat] at ho6; rw [← Ny130.out] at ho6)); have HO132 := Aside0.mk (Kd.R_lower ho6 (below_size (hb_))); replace HB := nb_ hb; clear hb ho6; have hcv7 := own_string (P := Try.prog) Try.underlying51 Try.underlying5 Try.underlying9 (Kd.own_of_R HO132.out)))
   go_roundg k1
   case measure => have := HK1.out; omega
   case rel => exact ⟨(wrap64 (Int.tdiv x0_1 10)), ((strOfNums y130) ++ x3_1), sr_, sr_, H', ⟨by have := HK1.out; omega⟩, ⟨hb_⟩⟩

/-! ### laws_markFileS: function 55 -/
def laws_markFileS.l0 : Nat → List (S56) → Int → Int → Option (Int × (List (S56)))
 | 0, _, _, _ => none
 | k + 1, x0, x1, x5 => if x5 < (x0.length : Int) then ((laws_markText.f k x1).bind fun t133 => (if 0 ≤ x5 then ((some (x0.set (x5 : Int).toNat (⟨t133, (rd_T56 x0 x5).f1⟩ : S56) : List (S56))).bind fun y134 => (laws_markFileS.l0 k (y134.set (x5 : Int).toNat (⟨(rd_T56 y134 x5).f0, wrap64 (x1 + 1)⟩ : S56)) (wrap64 ((wrap64 (x1 + 1)) + 1)) (wrap64 (x5 + 1)))) else (none))) else (some (x1, x0))
def laws_markFileS.f (k : Nat) (l0 : List (S56)) (a1 : Int) : Option (Int × (List (S56))) := laws_markFileS.l0 k l0 a1 0
theorem laws_markFileS.mono_l : ∀ k, (∀ y0 y1 y2, LeO (laws_markFileS.l0 k y0 y1 y2) (laws_markFileS.l0 (k + 1) y0 y1 y2))
 | 0 => fun _ _ _ r h => by simp [laws_markFileS.l0] at h
 | k + 1 => by
  have ih0 := laws_markFileS.mono_l k
  ·intro y0 y1 y2
   unfold laws_markFileS.l0
   repeat' first
   | (with_reducible exact ih0 _ _ _)
   | (with_reducible exact laws_markText.mono _ _)
   | (with_reducible exact LeO.refl _)
   | (with_reducible exact LeO.none _)
   | (with_reducible refine LeO.ite ?_ ?_)
   | (with_reducible refine LeO.bind ?_ (fun _ => ?_))
   | exact ih0 _ _ _
   | exact laws_markText.mono _ _
   | exact LeO.none _
   | refine LeO.ite ?_ ?_
   | refine LeO.bind ?_ (fun _ => ?_)
theorem laws_markFileS.mono : ∀ a0 a1 k, LeO (laws_markFileS.f k a0 a1) (laws_markFileS.f (k + 1) a0 a1) := by
 intro a0 a1 k
 have ih0 := laws_markFileS.mono_l k
 unfold laws_markFileS.f
 repeat' first
   | (with_reducible exact ih0 _ _ _)
   | (with_reducible exact laws_markText.mono _ _)
   | (with_reducible exact LeO.refl _)
   | (with_reducible exact LeO.none _)
   | (with_reducible refine LeO.ite ?_ ?_)
   | (with_reducible refine LeO.bind ?_ (fun _ => ?_))
   | exact ih0 _ _ _
   | exact laws_markText.mono _ _
   | exact LeO.none _
   | refine LeO.ite ?_ ?_
   | refine LeO.bind ?_ (fun _ => ?_)
set_option maxHeartbeats 8000000 in
set_option maxRecDepth 100000 in
theorem laws_markFileS.calls (k : Nat) (P0_ : Nat → Prop) (u9000_ : Value) (l0 : List (S56)) (a1 : Int) (r1 : Int) (r2 : List (S56)) (w0 w : World) (hB : Below w0.heap.size w0 w) (ho0 : Kd.R k56 56 w w0.heap.size P0_ u9000_ l0) (h : laws_markFileS.f k l0 a1 = some (r1, r2)) :
  Calls Try.prog 55 #[u9000_, .int .i64 a1] w fun e w' => e = .returned (.int .i64 r1) ∧ Kd.R k56 56 w' w0.heap.size (fun k_ => (P0_ k_ ∨ w.heap.size ≤ k_)) u9000_ r2 ∧ Below w0.heap.size w0 w' ∧ Kept w w' (fun k_ => P0_ k_) := by
 have HO0 := Aside0.mk (show Kd.R k56 56 w w0.heap.size (fun k_ => (P0_ k_ ∨ w.heap.size ≤ k_)) u9000_ l0 from Kd.R_mono ho0 (fun k_ hk => (.inl hk)))
 have HK := Aside0.mk (Kept.refl w (fun k_ => P0_ k_))
 have HW0 := Aside0.mk hB.size
 have HB := Aside0.mk hB
 clear hB
 have H : (laws_markFileS.l0 k l0 a1 0) = some (r1, r2) := h
 clear h
 have H' := Aside0.mk H
 clear H
 go_enter Try.func55, Try.ntmps55
 go_wp2
 go_loopg [1, 5] k (fun kq v1 v5 w' => ∃ (x0_1 : List (S56)) (x1_1 : Int) (x5_1 : Int), v1 = .int .i64 x1_1 ∧ v5 = .int .i64 x5_1 ∧ Aside0 (laws_markFileS.l0 kq x0_1 x1_1 x5_1 = some (r1, r2)) ∧ Aside0 (kq ≤ k) ∧ Aside0 (Kd.R k56 56 w' w0.heap.size (fun k_ => (P0_ k_ ∨ w.heap.size ≤ k_)) u9000_ x0_1) ∧ Aside0 (Kept w w' (fun k_ => P0_ k_)) ∧ Aside0 (Below w0.heap.size w0 w'))
 case atStart => exact ⟨(l0), (a1), (0), sr_, sr_, H', ⟨Nat.le_refl _⟩, ⟨kr_ HO0.out⟩, ⟨by repeat (first | (with_reducible first | exact HK.out | apply Kept.alloc | apply Kept.drewN | apply Kept.drew) | exact HK.out)⟩, ⟨hb_⟩⟩
 case round =>
  clear H'
  try clear p2
  obtain ⟨x0_1, x1_1, x5_1, rfl, rfl, HA, HK1, HO_0, HK, HB⟩ := hrel
  cases gk with
  | zero => exact absurd HA.out (by simp [laws_markFileS.l0])
  | succ k1 =>
   have H := HA.out
   clear HA
   simp only [laws_markFileS.l0] at H
   replace H := ite_ H
   obtain ⟨c3, H⟩ | ⟨c3, H⟩ := H
   rotate_left
   ·have c3b0 := decide_eq_false c3
    clear c3
    simp only [Option.some.injEq, Prod.mk.injEq] at H
    obtain ⟨rfl, rfl⟩ := H
    obtain ⟨Ao14, co14, eo14⟩ := Kd.R_slice HO_0.out
    subst eo14
    go_wp2
    go_ret
    exact ⟨er_, kr_ HO_0.out, hb_, by repeat (first | (with_reducible first | exact HK.out | apply Kept.alloc | apply Kept.drewN | apply Kept.drew) | exact HK.out)⟩
   have c3b0 := decide_eq_true c3
   clear c3
   replace H := bnd_ H
   obtain ⟨t133, A4, H⟩ := H
   replace H := ifs_ H
   obtain ⟨c5, H⟩ := H
   have c5b0 := decide_eq_true c5
   clear c5
   obtain ⟨y134, hy134⟩ : ∃ y_ : List (S56), y_ = (x0_1.set (x5_1 : Int).toNat (⟨t133, (rd_T56 x0_1 x5_1).f1⟩ : S56)) := ⟨_, rfl⟩
   replace H : (laws_markFileS.l0 k1 (y134.set (x5_1 : Int).toNat (⟨(rd_T56 y134 x5_1).f0, wrap64 (x1_1 + 1)⟩ : S56)) (wrap64 ((wrap64 (x1_1 + 1)) + 1)) (wrap64 (x5_1 + 1))) = some (r1, r2) := by first | (rw [hy134]; with_reducible exact H) | (have H2_ := (Option.bind_some _ _).symm.trans H; rw [hy134]; with_reducible exact H2_) | (have H2_ := (Option.bind_some _ _).symm.trans H; with_reducible exact H2_) | with_reducible exact H | (rw [hy134]; exact H) | exact H
   have Ny134 := Aside0.mk hy134
   clear hy134
   obtain ⟨y135, hy135⟩ : ∃ y_ : List (S56), y_ = (y134.set (x5_1 : Int).toNat (⟨(rd_T56 y134 x5_1).f0, wrap64 (x1_1 + 1)⟩ : S56)) := ⟨_, rfl⟩
   replace H : (laws_markFileS.l0 k1 y135 (wrap64 ((wrap64 (x1_1 + 1)) + 1)) (wrap64 (x5_1 + 1))) = some (r1, r2) := by first | (rw [hy135]; with_reducible exact H) | (have H2_ := (Option.bind_some _ _).symm.trans H; rw [hy135]; with_reducible exact H2_) | (have H2_ := (Option.bind_some _ _).symm.trans H; with_reducible exact H2_) | with_reducible exact H | (rw [hy135]; exact H) | exact H
   have Ny135 := Aside0.mk hy135
   clear hy135
   have H' := Aside0.mk H
   clear H
   obtain ⟨Ao8, co8, eo8⟩ := Kd.R_slice HO_0.out
   subst eo8
   go_wp2_with (first | ((with_reducible refine gate_callee (f := 85) rfl ?_); refine gl_ 15 Try.func85 #[.int .i64 x1_1] rfl ma_ ?_; (with_reducible refine (laws_markText.calls k1 x1_1 t133 _ A4.out).mono ?_); rintro e w9 ⟨rfl, hb⟩; refine ⟨_, rfl, ?_⟩; replace HO_0 := rB_ HO_0 hb; replace HK := Aside0.mk (Kept.below (S := (fun k_ => P0_ k_)) (by repeat (first | (with_reducible first | exact HK.out | apply Kept.alloc | apply Kept.drewN | apply Kept.drew) | exact HK.out)) hb); replace HB := nb_ hb; (try clear hb); (try clear hb2); (try clear hk); (try clear hi); have p6 : 0 ≤ (x5_1 : Int) := oa_; have q6 : (x5_1 : Int) < ((x0_1.length : Int) : Int) := oa_; obtain ⟨go6, co6, eo6, gb6, gl6, cl6, HG6⟩ := Kd.R_form HO_0.out (by omega); (first | cases eo6 | (injection eo6 with ea_ en_ ec_; (first | subst ea_ | (injection ea_ with ea_; subst ea_)); subst ec_; clear en_)); have GB6 := Aside0.mk gb6; have GG6 := Aside0.mk HG6; clear gb6 gl6 HG6; have HMgo6 := Aside0.mk (show (P0_ go6 ∨ w.heap.size ≤ go6) from (HO_0.out.1 _ rfl)); obtain ⟨ce6, hcl6, hM6, hcc6, hfr6⟩ := Kd.R_elem HO_0.out z56 (x5_1 : Int) p6 q6; obtain rfl := k56_openM hM6; have hx6_0 : w9.cell? ⟨go6, (x5_1 : Int).toNat * 2, none⟩ = some (.string ((rd_T56 x0_1 x5_1).f0)) := hcc6 0 _ rfl; have hx6_1 : w9.cell? ⟨go6, (x5_1 : Int).toNat * 2 + 1, none⟩ = some (.int .i64 ((rd_T56 x0_1 x5_1).f1)) := hcc6 1 _ rfl; have hf6_0 : w9.frozen? ⟨go6, (x5_1 : Int).toNat * 2, none⟩ = false := hfr6 0; have hf6_1 : w9.frozen? ⟨go6, (x5_1 : Int).toNat * 2 + 1, none⟩ = false := hfr6 1; clear hcl6 hcc6 hfr6; (try clear hM6); replace p6 := eq_true p6; replace q6 := eq_true q6; have HX10 := Aside0.mk (show Kd.R k56 56 w9 w0.heap.size (fun k_ => (P0_ k_ ∨ w.heap.size ≤ k_)) (.slice (some ⟨go6, 0, none⟩) x0_1.length co8) x0_1 from (kr_ HO_0.out)); obtain ⟨ce10, hcl10, hM10, hcc10, hfr10⟩ := Kd.R_elem HX10.out z56 (x5_1 : Int) (oa_) (by have h_ : (x5_1 : Int) < ((x0_1.length : Int) : Int) := oa_; first | exact h_ | (have e_ := (Kd.R_reads' HO_0.out).1; omega) | simpa using h_); obtain rfl := k56_openM hM10; have HP10 := Kd.R_seg HX10.out (x5_1 : Int) (oa_) (by have h_ : (x5_1 : Int) < ((x0_1.length : Int) : Int) := oa_; first | exact h_ | (have e_ := (Kd.R_reads' HO_0.out).1; omega) | simpa using h_) (seg := [.string t133]) (j := 0) hcl10 hcc10 (show 1 ≤ 2 from by decide) (x' := (⟨t133, (rd_T56 x0_1 x5_1).f1⟩ : S56)) (k56_mkM _ _ _ (⟨t133, (rd_T56 x0_1 x5_1).f1⟩ : S56) ) (fun _ hk => hk); have hx10_0 := hcc10 0 _ rfl; (try simp only [show (k56).sz = 2 from rfl, Nat.mul_one, Nat.add_zero] at hx10_0); have hf10_0 := hfr10 0; (try simp only [show (k56).sz = 2 from rfl, Nat.mul_one, Nat.add_zero] at hf10_0); clear hcl10 hcc10 hfr10; (try clear hM10)) | ((with_reducible refine gate_store (t := 9) (p := 17) rfl ?_); refine store_event (t := 9) (p := 17) (v := ?vo_w11) (w1 := (w9.setCell ⟨go6, (x5_1 : Int).toNat * 2, none⟩ (.string t133))) ?hg ?ho ?hn ?hr ?_; (case ho => rfl); (case hg => rfl); (case hn => rfl); (case hr => first | (go_simp; done) | (go_simp; rfl)); intro w11 hw; have hg : w9.grownBy w11 (some go6) := (by rw [hw]; exact HP10.2); have hp_ : Kd.R k56 56 w11 w0.heap.size (fun k_ => (P0_ k_ ∨ w.heap.size ≤ k_)) (.slice (some ⟨go6, 0, none⟩) x0_1.length co8) y134 := (by rw [hw, Ny134.out]; exact HP10.1); clear HP10; replace HB := Aside0.mk ((by rw [hw]; exact below_set (HB.out) GB6.out : Below w0.heap.size w0 w11)); replace HK := Aside0.mk (Kept.of_grown (S := (fun k_ => P0_ k_)) hg (by repeat (first | (with_reducible first | exact HK.out | apply Kept.alloc | apply Kept.drewN | apply Kept.drew) | exact HK.out)) (fun k_ e_ => (HO_0.out.1 k_ e_))); replace HO_0 := Aside0.mk (hp_); clear hg hw hp_; have p7 : 0 ≤ (x5_1 : Int) := oa_; have q7 : (x5_1 : Int) < ((x0_1.length : Int) : Int) := oa_; obtain ⟨ce7, hcl7, hM7, hcc7, hfr7⟩ := Kd.R_elem HO_0.out z56 (x5_1 : Int) p7 q7; obtain rfl := k56_openM hM7; have hx7_0 : w11.cell? ⟨go6, (x5_1 : Int).toNat * 2, none⟩ = some (.string ((rd_T56 y134 x5_1).f0)) := hcc7 0 _ rfl; have hx7_1 : w11.cell? ⟨go6, (x5_1 : Int).toNat * 2 + 1, none⟩ = some (.int .i64 ((rd_T56 y134 x5_1).f1)) := hcc7 1 _ rfl; have hf7_0 : w11.frozen? ⟨go6, (x5_1 : Int).toNat * 2, none⟩ = false := hfr7 0; have hf7_1 : w11.frozen? ⟨go6, (x5_1 : Int).toNat * 2 + 1, none⟩ = false := hfr7 1; clear hcl7 hcc7 hfr7; (try clear hM7); replace p7 := eq_true p7; replace q7 := eq_true q7; have HX12 := Aside0.mk (show Kd.R k56 56 w11 w0.heap.size (fun k_ => (P0_ k_ ∨ w.heap.size ≤ k_)) (.slice (some ⟨go6, 0, none⟩) x0_1.length co8) y134 from (kr_ HO_0.out)); obtain ⟨ce12, hcl12, hM12, hcc12, hfr12⟩ := Kd.R_elem HX12.out z56 (x5_1 : Int) (oa_) (by have h_ : (x5_1 : Int) < ((x0_1.length : Int) : Int) := oa_; first | exact h_ | (have e_ := (Kd.R_reads' HO_0.out).1; omega) | simpa using h_); obtain rfl := k56_openM hM12; have HP12 := Kd.R_seg HX12.out (x5_1 : Int) (oa_) (by have h_ : (x5_1 : Int) < ((x0_1.length : Int) : Int) := oa_; first | exact h_ | (have e_ := (Kd.R_reads' HO_0.out).1; omega) | simpa using h_) (seg := [.int .i64 (wrap64 (x1_1 + 1))]) (j := 1) hcl12 hcc12 (show 2 ≤ 2 from by decide) (x' := (⟨(rd_T56 y134 x5_1).f0, wrap64 (x1_1 + 1)⟩ : S56)) (k56_mkM _ _ _ (⟨(rd_T56 y134 x5_1).f0, wrap64 (x1_1 + 1)⟩ : S56) ) (fun _ hk => hk); have hx12_1 := hcc12 1 _ rfl; (try simp only [show (k56).sz = 2 from rfl, Nat.mul_one, Nat.add_zero] at hx12_1); have hf12_1 := hfr12 1; (try simp only [show (k56).sz = 2 from rfl, Nat.mul_one, Nat.add_zero] at hf12_1); clear hcl12 hcc12 hfr12; (try clear hM12)) | ((with_reducible refine gate_store (t := 3) (p := 24) rfl ?_); refine store_event (t := 3) (p := 24) (v := ?vo_w13) (w1 := (w11.setCell ⟨go6, (x5_1 : Int).toNat * 2 + 1, none⟩ (.int .i64 (wrap64 (x1_1 + 1))))) ?hg ?ho ?hn ?hr ?_; (case ho => rfl); (case hg => rfl); (case hn => rfl); (case hr => first | (go_simp; done) | (go_simp; rfl)); intro w13 hw; have hg : w11.grownBy w13 (some go6) := (by rw [hw]; exact HP12.2); have hp_ : Kd.R k56 56 w13 w0.heap.size (fun k_ => (P0_ k_ ∨ w.heap.size ≤ k_)) (.slice (some ⟨go6, 0, none⟩) x0_1.length co8) y135 := (by rw [hw, Ny135.out]; exact HP12.1); clear HP12; replace HB := Aside0.mk ((by rw [hw]; exact below_set (HB.out) GB6.out : Below w0.heap.size w0 w13)); replace HK := Aside0.mk (Kept.of_grown (S := (fun k_ => P0_ k_)) hg (by repeat (first | (with_reducible first | exact HK.out | apply Kept.alloc | apply Kept.drewN | apply Kept.drew) | exact HK.out)) (fun k_ e_ => (HO_0.out.1 k_ e_))); replace HO_0 := Aside0.mk (hp_); clear hg hw hp_))
   go_roundg k1
   case measure => have := HK1.out; omega
   case rel => exact ⟨(y135), (wrap64 ((wrap64 (x1_1 + 1)) + 1)), (wrap64 (x5_1 + 1)), sr_, sr_, H', ⟨by have := HK1.out; omega⟩, ⟨kr_ HO_0.out⟩, ⟨by repeat (first | (with_reducible first | exact HK.out | apply Kept.alloc | apply Kept.drewN | apply Kept.drew) | exact HK.out)⟩, ⟨hb_⟩⟩

/-! ### laws_markDisk: function 14 -/
def laws_markDisk.f (k : Nat) (l0_0 : List (S56)) (a1 : Int) : Option (Int × (List (S56))) := (laws_markFileS.f k l0_0 a1).bind fun bt137 => (some (bt137.1, bt137.2))
theorem laws_markDisk.mono : ∀ a0 a1 k, LeO (laws_markDisk.f k a0 a1) (laws_markDisk.f (k + 1) a0 a1) := by
 intro a0 a1 k
 unfold laws_markDisk.f
 repeat' first
   | (with_reducible exact laws_markFileS.mono _ _ _)
   | (with_reducible exact LeO.refl _)
   | (with_reducible exact LeO.none _)
   | (with_reducible refine LeO.ite ?_ ?_)
   | (with_reducible refine LeO.bind ?_ (fun _ => ?_))
   | exact laws_markFileS.mono _ _ _
   | exact LeO.none _
   | refine LeO.ite ?_ ?_
   | refine LeO.bind ?_ (fun _ => ?_)
set_option maxHeartbeats 8000000 in
set_option maxRecDepth 100000 in
theorem laws_markDisk.calls (k : Nat) (P0_0_ : Nat → Prop) (u9000_ : Value) (l0_0 : List (S56)) (a1 : Int) (r1 : Int) (r2 : List (S56)) (w0 w : World) (hB : Below w0.heap.size w0 w) (ho0_0 : Kd.R k56 56 w w0.heap.size P0_0_ u9000_ l0_0) (h : laws_markDisk.f k l0_0 a1 = some (r1, r2)) :
  Calls Try.prog 14 #[.agg #[u9000_], .int .i64 a1] w fun e w' => e = .returned (.int .i64 r1) ∧ Kd.R k56 56 w' w0.heap.size (fun k_ => (P0_0_ k_ ∨ w.heap.size ≤ k_)) u9000_ r2 ∧ Below w0.heap.size w0 w' ∧ Kept w w' (fun k_ => P0_0_ k_) := by
 have hu31 := Try.underlying31
 have HO0_0 := Aside0.mk (show Kd.R k56 56 w w0.heap.size (fun k_ => (P0_0_ k_ ∨ w.heap.size ≤ k_)) u9000_ l0_0 from Kd.R_mono ho0_0 (fun k_ hk => (.inl hk)))
 have HK := Aside0.mk (Kept.refl w (fun k_ => P0_0_ k_))
 have HW0 := Aside0.mk hB.size
 have HB := Aside0.mk hB
 clear hB
 have H : ((laws_markFileS.f k l0_0 a1).bind fun bt137 => (some (bt137.1, bt137.2))) = some (r1, r2) := h
 clear h
 replace H := bnd_ H
 obtain ⟨⟨t137, t138⟩, A3, H⟩ := H
 replace H := red_ H
 simp only [Option.some.injEq, Prod.mk.injEq] at H
 obtain ⟨rfl, rfl⟩ := H
 obtain ⟨Ao4, co4, eo4⟩ := Kd.R_slice HO0_0.out
 subst eo4
 go_enter Try.func14, Try.ntmps14
 go_wp2_with (first | ((with_reducible refine gate_dst (N := 2) rfl ?_); refine be_ (N := 2) #[.slice Ao4 l0_0.length co4] 31 ?_; intro gb136 hg w5 hbox hb; replace HO0_0 := rB_ HO0_0 hb; have BK136 := Aside0.mk (hbox); have GW136 := Aside0.mk ((by rw [hg]; exact (by first | exact HK.out.1 | exact (show Kept w _ (fun k_ => P0_0_ k_) from by repeat (first | (with_reducible first | exact HK.out | apply Kept.alloc | apply Kept.drewN | apply Kept.drew) | exact HK.out)).1) : w.heap.size ≤ gb136)); replace HK := Aside0.mk (Kept.below (S := (fun k_ => P0_0_ k_)) (by repeat (first | (with_reducible first | exact HK.out | apply Kept.alloc | apply Kept.drewN | apply Kept.drew) | exact HK.out)) hb); have GE136 := Aside0.mk ((by rw [hg]; exact (below_size (hb_)) : w0.heap.size ≤ gb136)); replace HB := nb_ hb; clear hb hbox hg; obtain ⟨hcz6_0, hfz6_0⟩ := cf1_ BK136.out) | ((with_reducible refine gate_callee (f := 55) rfl ?_); refine gl_ 8 Try.func55 #[.slice Ao4 l0_0.length co4, .int .i64 a1] rfl ma_ ?_; (with_reducible refine (laws_markFileS.calls k (fun k_ => some k_ = (.slice Ao4 l0_0.length co4 : Value).ownBlock) (.slice Ao4 l0_0.length co4) l0_0 a1 t137 t138 w0 _ ?side1 ?side2 A3.out).mono ?_); (case side1 => repeat (first | (with_reducible first | exact HB.out | apply below_alloc | apply pw_below_drewN | apply below_drew1 | refine below_set ?_ GE136.out) | exact HB.out)); (case side2 => exact Kd.R_tight rfl HO0_0.out); rintro e w7 ⟨rfl, hy0, hb, hkp⟩; refine ⟨_, rfl, ?_⟩; replace BK136 := Aside0.mk (blk_kept (kb_ BK136.out) hkp (fun hs_ => (fun e_ => (Kd.R_ne HO0_0.out BK136.out (by decide)) e_) hs_)); replace HK := Aside0.mk (Kept.then_ (S := (fun k_ => P0_0_ k_)) (by repeat (first | (with_reducible first | exact HK.out | apply Kept.alloc | apply Kept.drewN | apply Kept.drew | refine Kept.setCell ?_ (.inr GW136.out) _) | exact HK.out)) hkp (fun k_ hs_ => (fun e_ => (HO0_0.out.1 k_ e_.symm)) hs_)); replace HO0_0 := Aside0.mk (Kd.R_reok rfl hy0 (fun k_ e_ => HO0_0.out.1 k_ e_)); replace HB := Aside0.mk (hb); (try clear hb); (try clear hkp); (try clear hy0)))
 go_ret
 exact ⟨er_, kr_ HO0_0.out, hs_ GE136.out, by repeat (first | (with_reducible first | exact HK.out | apply Kept.alloc | apply Kept.drewN | apply Kept.drew | refine Kept.setCell ?_ (.inr GW136.out) _) | exact HK.out)⟩

/-! ### laws_szStringS: function 58 -/
def laws_szStringS.l0 : Nat → List ByteArray → Int → Int → Option (Int)
 | 0, _, _, _ => none
 | k + 1, x0, x1, x5 => if x5 < (x0.length : Int) then (if 0 ≤ x5 then (if (wrap64 (x1 - ((rdOf ByteArray.empty x0 x5).size : Int))) < 0 then (some (-1)) else (laws_szStringS.l0 k x0 (wrap64 (x1 - ((rdOf ByteArray.empty x0 x5).size : Int))) (wrap64 (x5 + 1)))) else (none)) else (some x1)
def laws_szStringS.f (k : Nat) (l0 : List ByteArray) (a1 : Int) : Option (Int) := if (wrap64 (a1 - (l0.length : Int))) < 0 then (some (-1)) else (laws_szStringS.l0 k l0 (wrap64 (a1 - (l0.length : Int))) 0)
theorem laws_szStringS.mono_l : ∀ k, (∀ y0 y1 y2, LeO (laws_szStringS.l0 k y0 y1 y2) (laws_szStringS.l0 (k + 1) y0 y1 y2))
 | 0 => fun _ _ _ r h => by simp [laws_szStringS.l0] at h
 | k + 1 => by
  have ih0 := laws_szStringS.mono_l k
  ·intro y0 y1 y2
   unfold laws_szStringS.l0
   repeat' first
   | (with_reducible exact ih0 _ _ _)
   | (with_reducible exact LeO.refl _)
   | (with_reducible exact LeO.none _)
   | (with_reducible refine LeO.ite ?_ ?_)
   | (with_reducible refine LeO.bind ?_ (fun _ => ?_))
   | exact ih0 _ _ _
   | exact LeO.none _
   | refine LeO.ite ?_ ?_
   | refine LeO.bind ?_ (fun _ => ?_)
theorem laws_szStringS.mono : ∀ a0 a1 k, LeO (laws_szStringS.f k a0 a1) (laws_szStringS.f (k + 1) a0 a1) := by
 intro a0 a1 k
 have ih0 := laws_szStringS.mono_l k
 unfold laws_szStringS.f
 repeat' first
   | (with_reducible exact ih0 _ _ _)
   | (with_reducible exact LeO.refl _)
   | (with_reducible exact LeO.none _)
   | (with_reducible refine LeO.ite ?_ ?_)
   | (with_reducible refine LeO.bind ?_ (fun _ => ?_))
   | exact ih0 _ _ _
   | exact LeO.none _
   | refine LeO.ite ?_ ?_
   | refine LeO.bind ?_ (fun _ => ?_)
set_option maxHeartbeats 8000000 in
set_option maxRecDepth 100000 in
theorem laws_szStringS.calls (k : Nat) (A0 : Option Addr) (c0 : Nat) (l0 : List ByteArray) (a1 : Int) (r : Int) (w : World) (hr0 : Kd.C Kd.string w A0 l0.length l0) (hc0 : l0.length ≤ c0) (h : laws_szStringS.f k l0 a1 = some r) :
  Calls Try.prog 58 #[.slice A0 l0.length c0, .int .i64 a1] w fun e w' => e = .returned (.int .i64 r) ∧ Drawn0 w w' := by
 have HR0 := Aside0.mk hr0
 have HC0 := Aside0.mk hc0
 clear hr0 hc0
 have H : (if (wrap64 (a1 - (l0.length : Int))) < 0 then (some (-1)) else (laws_szStringS.l0 k l0 (wrap64 (a1 - (l0.length : Int))) 0)) = some r := h
 clear h
 replace H := ite_ H
 obtain ⟨c3, H⟩ | ⟨c3, H⟩ := H
 ·have c3b0 := decide_eq_true c3
  clear c3
  obtain rfl := Option.some.inj H
  go_enter Try.func58, Try.ntmps58
  go_wp2
  go_ret
  exact ⟨by first | rfl | (simp; done) | (simp [*]; done), dr_⟩
 have c3b0 := decide_eq_false c3
 clear c3
 have H' := Aside0.mk H
 clear H
 go_enter Try.func58, Try.ntmps58
 go_wp2
 go_loopg [1, 5] k (fun kq v1 v5 w' => ∃ (x1_1 : Int) (x5_1 : Int), v1 = .int .i64 x1_1 ∧ v5 = .int .i64 x5_1 ∧ Aside0 (laws_szStringS.l0 kq l0 x1_1 x5_1 = some r) ∧ Aside0 (kq ≤ k) ∧ Drawn0 w w')
 case atStart => exact ⟨(wrap64 (a1 - (l0.length : Int))), (0), sr_, sr_, H', ⟨Nat.le_refl _⟩, dr_⟩
 case round =>
  clear H'
  try clear p2
  try clear c3
  try clear c3b0
  obtain ⟨x1_1, x5_1, rfl, rfl, HA, HK1, ⟨m1, rfl⟩⟩ := hrel
  cases gk with
  | zero => exact absurd HA.out (by simp [laws_szStringS.l0])
  | succ k1 =>
   have H := HA.out
   clear HA
   simp only [laws_szStringS.l0] at H
   replace H := ite_ H
   obtain ⟨c4, H⟩ | ⟨c4, H⟩ := H
   rotate_left
   ·have c4b0 := decide_eq_false c4
    clear c4
    obtain rfl := Option.some.inj H
    go_wp2
    go_ret
    exact ⟨by first | rfl | (simp; done) | (simp [*]; done), dr_⟩
   have c4b0 := decide_eq_true c4
   clear c4
   replace H := ifs_ H
   obtain ⟨c5, H⟩ := H
   have c5b0 := decide_eq_true c5
   clear c5
   replace H := ite_ H
   obtain ⟨c6, H⟩ | ⟨c6, H⟩ := H
   ·have c6b0 := decide_eq_true c6
    clear c6
    obtain rfl := Option.some.inj H
    have p139 : 0 ≤ (x5_1 : Int) := oa_
    have q139 : x5_1 < (l0.length : Int) := oa_
    obtain ⟨ad139, e139, hx139_0⟩ := Kd.at_string HR0.out x5_1 p139 q139
    cases e139
    replace p139 := eq_true p139
    replace q139 := eq_true q139
    go_wp2
    go_ret
    exact ⟨by first | rfl | (simp; done) | (simp [*]; done), dr_⟩
   have c6b0 := decide_eq_false c6
   clear c6
   have H' := Aside0.mk H
   clear H
   have p139 : 0 ≤ (x5_1 : Int) := oa_
   have q139 : x5_1 < (l0.length : Int) := oa_
   obtain ⟨ad139, e139, hx139_0⟩ := Kd.at_string HR0.out x5_1 p139 q139
   cases e139
   replace p139 := eq_true p139
   replace q139 := eq_true q139
   go_wp2
   go_roundg k1
   case measure => have := HK1.out; omega
   case rel => exact ⟨(wrap64 (x1_1 - ((rdOf ByteArray.empty l0 x5_1).size : Int))), (wrap64 (x5_1 + 1)), sr_, sr_, H', ⟨by have := HK1.out; omega⟩, dr_⟩

/-! ### laws_szBatch: function 17 -/
def laws_szBatch.f (k : Nat) (a0_0 : Int) (a0_1 : Int) (a0_2 : Int) (a0_3 : Int) (l0_4 : List ByteArray) (a1 : Int) : Option (Int) := (laws_szStringS.f k l0_4 a1).bind fun t141 => (if t141 < 0 then (some (-1)) else (some t141))
theorem laws_szBatch.mono : ∀ a0 a1 a2 a3 a4 a5 k, LeO (laws_szBatch.f k a0 a1 a2 a3 a4 a5) (laws_szBatch.f (k + 1) a0 a1 a2 a3 a4 a5) := by
 intro a0 a1 a2 a3 a4 a5 k
 unfold laws_szBatch.f
 repeat' first
   | (with_reducible exact laws_szStringS.mono _ _ _)
   | (with_reducible exact LeO.refl _)
   | (with_reducible exact LeO.none _)
   | (with_reducible refine LeO.ite ?_ ?_)
   | (with_reducible refine LeO.bind ?_ (fun _ => ?_))
   | exact laws_szStringS.mono _ _ _
   | exact LeO.none _
   | refine LeO.ite ?_ ?_
   | refine LeO.bind ?_ (fun _ => ?_)
set_option maxHeartbeats 8000000 in
set_option maxRecDepth 100000 in
theorem laws_szBatch.calls (k : Nat) (a0_0 : Int) (a0_1 : Int) (a0_2 : Int) (a0_3 : Int) (A0_4 : Option Addr) (c0_4 : Nat) (l0_4 : List ByteArray) (a1 : Int) (r : Int) (w : World) (hr0_4 : Kd.C Kd.string w A0_4 l0_4.length l0_4) (hc0_4 : l0_4.length ≤ c0_4) (h : laws_szBatch.f k a0_0 a0_1 a0_2 a0_3 l0_4 a1 = some r) :
  Calls Try.prog 17 #[.agg #[.int .i64 a0_0, .int .i64 a0_1, .int .i64 a0_2, .int .i64 a0_3, .slice A0_4 l0_4.length c0_4], .int .i64 a1] w fun e w' => e = .returned (.int .i64 r) ∧ Below w.heap.size w w' := by
 have hu40 := Try.underlying40
 have HR0_4 := Aside0.mk hr0_4
 have HC0_4 := Aside0.mk hc0_4
 clear hr0_4 hc0_4
 have HB := Aside0.mk (Below.refl w.heap.size w)
 have H : ((laws_szStringS.f k l0_4 a1).bind fun t141 => (if t141 < 0 then (some (-1)) else (some t141))) = some r := h
 clear h
 replace H := bnd_ H
 obtain ⟨t141, A3, H⟩ := H
 replace H := ite_ H
 obtain ⟨c4, H⟩ | ⟨c4, H⟩ := H
 ·have c4b0 := decide_eq_true c4
  clear c4
  obtain rfl := Option.some.inj H
  go_enter Try.func17, Try.ntmps17
  go_wp2_with (first | ((with_reducible refine gate_dst (N := 2) rfl ?_); refine be_ (N := 2) #[.int .i64 a0_0, .int .i64 a0_1, .int .i64 a0_2, .int .i64 a0_3, .slice A0_4 l0_4.length c0_4] 40 ?_; intro gb140 hg w5 hbox hb; have BK140 := Aside0.mk (hbox); have GW140 := ge_ hg; have GE140 := ge_ hg; replace HB := nb_ hb; clear hb hbox hg; obtain ⟨hcz6_0, hcz6_1, hcz6_2, hcz6_3, hcz6_4, hfz6_0, hfz6_1, hfz6_2, hfz6_3, hfz6_4⟩ := cf5_ BK140.out) | ((with_reducible refine gate_callee (f := 58) rfl ?_); refine gl_ 8 Try.func58 #[.slice A0_4 l0_4.length c0_4, .int .i64 a1] rfl ma_ ?_; (with_reducible refine (laws_szStringS.calls k _ _ l0_4 a1 t141 _ ?side1 ?side2 A3.out).mono ?_); (case side1 => exact cs_ ((Kd.C_below HR0_4.out HB.out))); (case side2 => exact HC0_4.out); rintro e w' ⟨rfl, ⟨nd, rfl⟩⟩; refine ⟨_, rfl, ?_⟩))
  go_ret
  exact ⟨er_, hs_ GE140.out⟩
 have c4b0 := decide_eq_false c4
 clear c4
 obtain rfl := Option.some.inj H
 go_enter Try.func17, Try.ntmps17
 go_wp2_with (first | ((with_reducible refine gate_dst (N := 2) rfl ?_); refine be_ (N := 2) #[.int .i64 a0_0, .int .i64 a0_1, .int .i64 a0_2, .int .i64 a0_3, .slice A0_4 l0_4.length c0_4] 40 ?_; intro gb140 hg w7 hbox hb; have BK140 := Aside0.mk (hbox); have GW140 := ge_ hg; have GE140 := ge_ hg; replace HB := nb_ hb; clear hb hbox hg; obtain ⟨hcz8_0, hcz8_1, hcz8_2, hcz8_3, hcz8_4, hfz8_0, hfz8_1, hfz8_2, hfz8_3, hfz8_4⟩ := cf5_ BK140.out) | ((with_reducible refine gate_callee (f := 58) rfl ?_); refine gl_ 8 Try.func58 #[.slice A0_4 l0_4.length c0_4, .int .i64 a1] rfl ma_ ?_; (with_reducible refine (laws_szStringS.calls k _ _ l0_4 a1 t141 _ ?side1 ?side2 A3.out).mono ?_); (case side1 => exact cs_ ((Kd.C_below HR0_4.out HB.out))); (case side2 => exact HC0_4.out); rintro e w' ⟨rfl, ⟨nd, rfl⟩⟩; refine ⟨_, rfl, ?_⟩))
 go_ret
 exact ⟨er_, hs_ GE140.out⟩

/-! ### spec_l1In: function 78 -/
def spec_l1In.f (a0 : Int) (a1 : Int) (a2 : Int) : Option (Bool) := if a0 ≥ a1 then (some (decide (a0 ≤ a2))) else (some false)
set_option maxHeartbeats 8000000 in
set_option maxRecDepth 100000 in
theorem spec_l1In.calls (a0 : Int) (a1 : Int) (a2 : Int) (r : Bool) (w : World) (h : spec_l1In.f a0 a1 a2 = some r) :
  Calls Try.prog 78 #[.int .i64 a0, .int .i64 a1, .int .i64 a2] w fun e w' => e = .returned (.bool r) ∧ Drawn0 w w' := by
 have H : (if a0 ≥ a1 then (some (decide (a0 ≤ a2))) else (some false)) = some r := h
 clear h
 replace H := ite_ H
 obtain ⟨c4, H⟩ | ⟨c4, H⟩ := H
 rotate_left
 ·have c4b0 := dne_ c4
  clear c4
  obtain rfl := Option.some.inj H
  go_enter Try.func78, Try.ntmps78
  go_wp2
  go_ret
  exact ⟨by first | rfl | (simp; done) | (simp [*]; done), dr_⟩
 have c4b0 := dge_ c4
 clear c4
 obtain rfl := Option.some.inj H
 go_enter Try.func78, Try.ntmps78
 go_wp2
 go_ret
 exact ⟨by first | rfl | (simp; done) | (simp [*]; done), dr_⟩

/-! ### spec_GoodDisk: function 45 -/
def spec_GoodDisk.l0 : Nat → List (S56) → Int → Int → List (S56) → Option (Bool)
 | 0, _, _, _, _ => none
 | k + 1, x6, x7, x8, x143000 => if x8 < x7 then (if 0 ≤ x8 then (if x8 < (x6.length : Int) then (if (((rd_T56 x6 x8).f0).size : Int) > 400 then (some false) else (if ((rd_T56 x6 x8).f1) < 0 then (some false) else (if ((rd_T56 x6 x8).f1) > (((rd_T56 x6 x8).f0).size : Int) then (some false) else (spec_GoodDisk.l0 k x6 x7 (wrap64 (x8 + 1)) x143000)))) else (none)) else (none)) else ((spec_l1In.f (x143000.length : Int) 1 4).bind fun t145 => (some t145))
def spec_GoodDisk.f (k : Nat) (l0_0 : List (S56)) : Option (Bool) := spec_GoodDisk.l0 k l0_0 (l0_0.length : Int) 0 l0_0
theorem spec_GoodDisk.mono_l : ∀ k, (∀ y0 y1 y2 y3, LeO (spec_GoodDisk.l0 k y0 y1 y2 y3) (spec_GoodDisk.l0 (k + 1) y0 y1 y2 y3))
 | 0 => fun _ _ _ _ r h => by simp [spec_GoodDisk.l0] at h
 | k + 1 => by
  have ih0 := spec_GoodDisk.mono_l k
  ·intro y0 y1 y2 y3
   unfold spec_GoodDisk.l0
   repeat' first
   | (with_reducible exact ih0 _ _ _ _)
   | (with_reducible exact LeO.refl _)
   | (with_reducible exact LeO.none _)
   | (with_reducible refine LeO.ite ?_ ?_)
   | (with_reducible refine LeO.bind ?_ (fun _ => ?_))
   | exact ih0 _ _ _ _
   | exact LeO.none _
   | refine LeO.ite ?_ ?_
   | refine LeO.bind ?_ (fun _ => ?_)
theorem spec_GoodDisk.mono : ∀ a0 k, LeO (spec_GoodDisk.f k a0) (spec_GoodDisk.f (k + 1) a0) := by
 intro a0 k
 have ih0 := spec_GoodDisk.mono_l k
 unfold spec_GoodDisk.f
 repeat' first
   | (with_reducible exact ih0 _ _ _ _)
   | (with_reducible exact LeO.refl _)
   | (with_reducible exact LeO.none _)
   | (with_reducible refine LeO.ite ?_ ?_)
   | (with_reducible refine LeO.bind ?_ (fun _ => ?_))
   | exact ih0 _ _ _ _
   | exact LeO.none _
   | refine LeO.ite ?_ ?_
   | refine LeO.bind ?_ (fun _ => ?_)
set_option maxHeartbeats 8000000 in
set_option maxRecDepth 100000 in
theorem spec_GoodDisk.calls (k : Nat) (A0_0 : Option Addr) (c0_0 : Nat) (l0_0 : List (S56)) (r : Bool) (w : World) (hr0_0 : Kd.C k56 w A0_0 l0_0.length l0_0) (hc0_0 : l0_0.length ≤ c0_0) (h : spec_GoodDisk.f k l0_0 = some r) :
  Calls Try.prog 45 #[.agg #[.slice A0_0 l0_0.length c0_0]] w fun e w' => e = .returned (.bool r) ∧ Below w.heap.size w w' := by
 have hu31 := Try.underlying31
 have hu56 := Try.underlying56
 have HR0_0 := Aside0.mk hr0_0
 have HC0_0 := Aside0.mk hc0_0
 clear hr0_0 hc0_0
 have HB := Aside0.mk (Below.refl w.heap.size w)
 have H : (spec_GoodDisk.l0 k l0_0 (l0_0.length : Int) 0 l0_0) = some r := h
 clear h
 have H' := Aside0.mk H
 clear H
 go_enter Try.func45, Try.ntmps45
 go_wp2_with (first | ((with_reducible refine gate_dst (N := 1) rfl ?_); (try (refine gate_guard (by rfl) ?_; dsimp only)); refine be_ (N := 1) #[.slice A0_0 l0_0.length c0_0] 31 ?_; intro gb142 hg w2 hbox hb; have BK142 := Aside0.mk (hbox); have GW142 := ge_ hg; have GE142 := ge_ hg; replace HB := nb_ hb; clear hb hbox hg; obtain ⟨hcz3_0, hfz3_0⟩ := cf1_ BK142.out))
 go_loopg [8] k (fun kq v8 w' => ∃ (x8_1 : Int), v8 = .int .i64 x8_1 ∧ Aside0 (spec_GoodDisk.l0 kq l0_0 (l0_0.length : Int) x8_1 l0_0 = some r) ∧ Aside0 (kq ≤ k) ∧ Aside0 (w'.heap[gb142]? = some (.cells #[(.slice A0_0 l0_0.length c0_0)] 31 (0, 0))) ∧ Aside0 (Below w.heap.size w w'))
 case atStart => exact ⟨(0), sr_, H', ⟨Nat.le_refl _⟩, ⟨kb_ BK142.out⟩, ⟨hs_ GE142.out⟩⟩
 case round =>
  clear H'
  try clear p2
  try clear hcz3_0
  try clear hfz3_0
  obtain ⟨x8_1, rfl, HA, HK1, BK142, HB⟩ := hrel
  cases gk with
  | zero => exact absurd HA.out (by simp [spec_GoodDisk.l0])
  | succ k1 =>
   have H := HA.out
   clear HA
   simp only [spec_GoodDisk.l0] at H
   replace H := ite_ H
   obtain ⟨c4, H⟩ | ⟨c4, H⟩ := H
   rotate_left
   ·have c4b0 := decide_eq_false c4
    clear c4
    replace H := bnd_ H
    obtain ⟨t145, A22, H⟩ := H
    obtain rfl := Option.some.inj H
    obtain ⟨hcz23_0, hfz23_0⟩ := cf1_ BK142.out
    go_wp2_with (first | ((with_reducible refine gate_callee (f := 78) rfl ?_); refine gl_ 33 Try.func78 #[.int .i64 (l0_0.length : Int), .int .i64 1, .int .i64 4] rfl ma_ ?_; (with_reducible refine (spec_l1In.calls (l0_0.length : Int) 1 4 t145 _ A22.out).mono ?_); rintro e w' ⟨rfl, ⟨nd, rfl⟩⟩; refine ⟨_, rfl, ?_⟩))
    go_ret
    exact ⟨er_, hs_ GE142.out⟩
   have c4b0 := decide_eq_true c4
   clear c4
   replace H := ifs_ H
   obtain ⟨c5, H⟩ := H
   have c5b0 := decide_eq_true c5
   clear c5
   replace H := ifs_ H
   obtain ⟨c6, H⟩ := H
   have c6b0 := decide_eq_true c6
   clear c6
   replace H := ite_ H
   obtain ⟨c7, H⟩ | ⟨c7, H⟩ := H
   ·have c7b0 := dgt_ c7
    have c7b1 : decide (400 < ((rd_T56 l0_0 x8_1).f0).size) = true := decide_eq_true (by omega)
    clear c7
    obtain rfl := Option.some.inj H
    have p143 : 0 ≤ (x8_1 : Int) := oa_
    have q143 : x8_1 < (l0_0.length : Int) := oa_
    obtain ⟨ad143, e143, hx143_0, hx143_1⟩ := at_T56 HR0_0.out x8_1 p143 q143
    cases e143
    replace hx143_0 := pc_ HB.out hx143_0
    replace hx143_1 := pc_ HB.out hx143_1
    replace p143 := eq_true p143
    replace q143 := eq_true q143
    go_wp2_with (first | ((with_reducible refine gate_dst (N := 4) rfl ?_); (try (refine gate_guard (by rfl) ?_; dsimp only)); refine box_event ?hg (N := 4) ?hd (cs := #[.string (⟨#[]⟩ : ByteArray), .int .i64 0]) (t := 56) ?hr ?_; (case hd => rfl); (case hg => rfl); (case hr => first | (go_simp; done) | (go_simp; rfl)); intro gb144 hg w8 hbox hb; have BK144 := Aside0.mk (hbox); have GW144 := ge1_ hg GE142; have GE144 := ge1_ hg GE142; replace HB := nc_ GE142 hb; have NB142_144 := nl_ BK142 hg; have NB144_142 := ng_ BK142 hg; replace BK142 := bK_ BK142 hb; clear hb hbox hg; have hnb9 := NB144_142.out; have hnc9 := NB142_144.out; obtain ⟨hcz10_0, hcz10_1, hfz10_0, hfz10_1⟩ := cf2_ BK144.out))
    go_ret
    exact ⟨er_, hs2_ GE142.out GE144.out⟩
   have c7b0 := dgf_ c7
   have c7b1 : decide (400 < ((rd_T56 l0_0 x8_1).f0).size) = false := decide_eq_false (by omega)
   clear c7
   replace H := ite_ H
   obtain ⟨c11, H⟩ | ⟨c11, H⟩ := H
   ·have c11b0 := decide_eq_true c11
    clear c11
    obtain rfl := Option.some.inj H
    have p143 : 0 ≤ (x8_1 : Int) := oa_
    have q143 : x8_1 < (l0_0.length : Int) := oa_
    obtain ⟨ad143, e143, hx143_0, hx143_1⟩ := at_T56 HR0_0.out x8_1 p143 q143
    cases e143
    replace hx143_0 := pc_ HB.out hx143_0
    replace hx143_1 := pc_ HB.out hx143_1
    replace p143 := eq_true p143
    replace q143 := eq_true q143
    go_wp2_with (first | ((with_reducible refine gate_dst (N := 4) rfl ?_); (try (refine gate_guard (by rfl) ?_; dsimp only)); refine box_event ?hg (N := 4) ?hd (cs := #[.string (⟨#[]⟩ : ByteArray), .int .i64 0]) (t := 56) ?hr ?_; (case hd => rfl); (case hg => rfl); (case hr => first | (go_simp; done) | (go_simp; rfl)); intro gb144 hg w12 hbox hb; have BK144 := Aside0.mk (hbox); have GW144 := ge1_ hg GE142; have GE144 := ge1_ hg GE142; replace HB := nc_ GE142 hb; have NB142_144 := nl_ BK142 hg; have NB144_142 := ng_ BK142 hg; replace BK142 := bK_ BK142 hb; clear hb hbox hg; have hnb13 := NB144_142.out; have hnc13 := NB142_144.out; obtain ⟨hcz14_0, hcz14_1, hfz14_0, hfz14_1⟩ := cf2_ BK144.out))
    go_ret
    exact ⟨er_, hs2_ GE142.out GE144.out⟩
   have c11b0 := decide_eq_false c11
   clear c11
   replace H := ite_ H
   obtain ⟨c15, H⟩ | ⟨c15, H⟩ := H
   ·have c15b0 := dgt_ c15
    clear c15
    obtain rfl := Option.some.inj H
    have p143 : 0 ≤ (x8_1 : Int) := oa_
    have q143 : x8_1 < (l0_0.length : Int) := oa_
    obtain ⟨ad143, e143, hx143_0, hx143_1⟩ := at_T56 HR0_0.out x8_1 p143 q143
    cases e143
    replace hx143_0 := pc_ HB.out hx143_0
    replace hx143_1 := pc_ HB.out hx143_1
    replace p143 := eq_true p143
    replace q143 := eq_true q143
    go_wp2_with (first | ((with_reducible refine gate_dst (N := 4) rfl ?_); (try (refine gate_guard (by rfl) ?_; dsimp only)); refine box_event ?hg (N := 4) ?hd (cs := #[.string (⟨#[]⟩ : ByteArray), .int .i64 0]) (t := 56) ?hr ?_; (case hd => rfl); (case hg => rfl); (case hr => first | (go_simp; done) | (go_simp; rfl)); intro gb144 hg w16 hbox hb; have BK144 := Aside0.mk (hbox); have GW144 := ge1_ hg GE142; have GE144 := ge1_ hg GE142; replace HB := nc_ GE142 hb; have NB142_144 := nl_ BK142 hg; have NB144_142 := ng_ BK142 hg; replace BK142 := bK_ BK142 hb; clear hb hbox hg; have hnb17 := NB144_142.out; have hnc17 := NB142_144.out; obtain ⟨hcz18_0, hcz18_1, hfz18_0, hfz18_1⟩ := cf2_ BK144.out))
    go_ret
    exact ⟨er_, hs2_ GE142.out GE144.out⟩
   have c15b0 := dgf_ c15
   clear c15
   have H' := Aside0.mk H
   clear H
   have p143 : 0 ≤ (x8_1 : Int) := oa_
   have q143 : x8_1 < (l0_0.length : Int) := oa_
   obtain ⟨ad143, e143, hx143_0, hx143_1⟩ := at_T56 HR0_0.out x8_1 p143 q143
   cases e143
   replace hx143_0 := pc_ HB.out hx143_0
   replace hx143_1 := pc_ HB.out hx143_1
   replace p143 := eq_true p143
   replace q143 := eq_true q143
   go_wp2_with (first | ((with_reducible refine gate_dst (N := 4) rfl ?_); (try (refine gate_guard (by rfl) ?_; dsimp only)); refine box_event ?hg (N := 4) ?hd (cs := #[.string (⟨#[]⟩ : ByteArray), .int .i64 0]) (t := 56) ?hr ?_; (case hd => rfl); (case hg => rfl); (case hr => first | (go_simp; done) | (go_simp; rfl)); intro gb144 hg w19 hbox hb; have BK144 := Aside0.mk (hbox); have GW144 := ge1_ hg GE142; have GE144 := ge1_ hg GE142; replace HB := nc_ GE142 hb; have NB142_144 := nl_ BK142 hg; have NB144_142 := ng_ BK142 hg; replace BK142 := bK_ BK142 hb; clear hb hbox hg; have hnb20 := NB144_142.out; have hnc20 := NB142_144.out; obtain ⟨hcz21_0, hcz21_1, hfz21_0, hfz21_1⟩ := cf2_ BK144.out))
   go_roundg k1
   case measure => have := HK1.out; omega
   case rel => exact ⟨(wrap64 (x8_1 + 1)), sr_, H', ⟨by have := HK1.out; omega⟩, ⟨by (with_reducible repeat (first | refine blk_drewN ?_ _ | refine blk_drew ?_ | refine blk_alloc ?_ _)); refine blk_far ?_ NB142_144.out _; (with_reducible repeat (first | refine blk_drewN ?_ _ | refine blk_drew ?_ | refine blk_alloc ?_ _)); refine blk_far ?_ NB142_144.out _; (with_reducible repeat (first | refine blk_drewN ?_ _ | refine blk_drew ?_ | refine blk_alloc ?_ _)); exact BK142.out⟩, ⟨hs2_ GE142.out GE144.out⟩⟩

/-! ### spec_l3File: function 49 -/
def spec_l3File.f (k : Nat) (l0_0 : List (S56)) (a1 : Int) : Option (Bool) := (spec_GoodDisk.f k l0_0).bind fun t147 => (if t147 = true then (if a1 ≥ 0 then (some (decide (a1 < (l0_0.length : Int)))) else (some false)) else (some false))
theorem spec_l3File.mono : ∀ a0 a1 k, LeO (spec_l3File.f k a0 a1) (spec_l3File.f (k + 1) a0 a1) := by
 intro a0 a1 k
 unfold spec_l3File.f
 repeat' first
   | (with_reducible exact spec_GoodDisk.mono _ _)
   | (with_reducible exact LeO.refl _)
   | (with_reducible exact LeO.none _)
   | (with_reducible refine LeO.ite ?_ ?_)
   | (with_reducible refine LeO.bind ?_ (fun _ => ?_))
   | exact spec_GoodDisk.mono _ _
   | exact LeO.none _
   | refine LeO.ite ?_ ?_
   | refine LeO.bind ?_ (fun _ => ?_)
set_option maxHeartbeats 8000000 in
set_option maxRecDepth 100000 in
theorem spec_l3File.calls (k : Nat) (A0_0 : Option Addr) (c0_0 : Nat) (l0_0 : List (S56)) (a1 : Int) (r : Bool) (w : World) (hr0_0 : Kd.C k56 w A0_0 l0_0.length l0_0) (hc0_0 : l0_0.length ≤ c0_0) (h : spec_l3File.f k l0_0 a1 = some r) :
  Calls Try.prog 49 #[.agg #[.slice A0_0 l0_0.length c0_0], .int .i64 a1] w fun e w' => e = .returned (.bool r) ∧ Below w.heap.size w w' := by
 have hu31 := Try.underlying31
 have HR0_0 := Aside0.mk hr0_0
 have HC0_0 := Aside0.mk hc0_0
 clear hr0_0 hc0_0
 have HB := Aside0.mk (Below.refl w.heap.size w)
 have H : ((spec_GoodDisk.f k l0_0).bind fun t147 => (if t147 = true then (if a1 ≥ 0 then (some (decide (a1 < (l0_0.length : Int)))) else (some false)) else (some false))) = some r := h
 clear h
 replace H := bnd_ H
 obtain ⟨t147, A3, H⟩ := H
 replace H := ifb_ H
 obtain ⟨rfl, H⟩ | ⟨rfl, H⟩ := H
 rotate_left
 ·obtain rfl := Option.some.inj H
  go_enter Try.func49, Try.ntmps49
  go_wp2_with (first | ((with_reducible refine gate_dst (N := 2) rfl ?_); (try (refine gate_guard (by rfl) ?_; dsimp only)); refine be_ (N := 2) #[.slice A0_0 l0_0.length c0_0] 31 ?_; intro gb146 hg w13 hbox hb; have BK146 := Aside0.mk (hbox); have GW146 := ge_ hg; have GE146 := ge_ hg; replace HB := nb_ hb; clear hb hbox hg; obtain ⟨hcz14_0, hfz14_0⟩ := cf1_ BK146.out) | ((with_reducible refine gate_callee (f := 45) rfl ?_); refine gl_ 6 Try.func45 #[.agg #[.slice A0_0 l0_0.length c0_0]] rfl ma_ ?_; (with_reducible refine (spec_GoodDisk.calls k _ _ l0_0 false _ ?side1 ?side2 A3.out).mono ?_); (case side1 => exact cs_ ((Kd.C_below HR0_0.out HB.out))); (case side2 => exact HC0_0.out); rintro e w15 ⟨rfl, hb⟩; refine ⟨_, rfl, ?_⟩; replace BK146 := bK_ BK146 hb; replace HB := nc_ GE146 hb; (try clear hb); (try clear hb2); (try clear hk); (try clear hi)))
  go_ret
  exact ⟨er_, hs_ GE146.out⟩
 replace H := ite_ H
 obtain ⟨c5, H⟩ | ⟨c5, H⟩ := H
 rotate_left
 ·have c5b0 := dne_ c5
  clear c5
  obtain rfl := Option.some.inj H
  go_enter Try.func49, Try.ntmps49
  go_wp2_with (first | ((with_reducible refine gate_dst (N := 2) rfl ?_); (try (refine gate_guard (by rfl) ?_; dsimp only)); refine be_ (N := 2) #[.slice A0_0 l0_0.length c0_0] 31 ?_; intro gb146 hg w10 hbox hb; have BK146 := Aside0.mk (hbox); have GW146 := ge_ hg; have GE146 := ge_ hg; replace HB := nb_ hb; clear hb hbox hg; obtain ⟨hcz11_0, hfz11_0⟩ := cf1_ BK146.out) | ((with_reducible refine gate_callee (f := 45) rfl ?_); refine gl_ 6 Try.func45 #[.agg #[.slice A0_0 l0_0.length c0_0]] rfl ma_ ?_; (with_reducible refine (spec_GoodDisk.calls k _ _ l0_0 true _ ?side1 ?side2 A3.out).mono ?_); (case side1 => exact cs_ ((Kd.C_below HR0_0.out HB.out))); (case side2 => exact HC0_0.out); rintro e w12 ⟨rfl, hb⟩; refine ⟨_, rfl, ?_⟩; replace BK146 := bK_ BK146 hb; replace HB := nc_ GE146 hb; (try clear hb); (try clear hb2); (try clear hk); (try clear hi)))
  go_ret
  exact ⟨er_, hs_ GE146.out⟩
 have c5b0 := dge_ c5
 clear c5
 obtain rfl := Option.some.inj H
 go_enter Try.func49, Try.ntmps49
 go_wp2_with (first | ((with_reducible refine gate_dst (N := 2) rfl ?_); (try (refine gate_guard (by rfl) ?_; dsimp only)); refine be_ (N := 2) #[.slice A0_0 l0_0.length c0_0] 31 ?_; intro gb146 hg w6 hbox hb; have BK146 := Aside0.mk (hbox); have GW146 := ge_ hg; have GE146 := ge_ hg; replace HB := nb_ hb; clear hb hbox hg; obtain ⟨hcz7_0, hfz7_0⟩ := cf1_ BK146.out) | ((with_reducible refine gate_callee (f := 45) rfl ?_); refine gl_ 6 Try.func45 #[.agg #[.slice A0_0 l0_0.length c0_0]] rfl ma_ ?_; (with_reducible refine (spec_GoodDisk.calls k _ _ l0_0 true _ ?side1 ?side2 A3.out).mono ?_); (case side1 => exact cs_ ((Kd.C_below HR0_0.out HB.out))); (case side2 => exact HC0_0.out); rintro e w8 ⟨rfl, hb⟩; refine ⟨_, rfl, ?_⟩; replace BK146 := bK_ BK146 hb; replace HB := nc_ GE146 hb; (try clear hb); (try clear hb2); (try clear hk); (try clear hi); obtain ⟨hcz9_0, hfz9_0⟩ := cf1_ BK146.out))
 go_ret
 exact ⟨er_, hs_ GE146.out⟩

/-! ### spec_l3Own: function 76 -/
def spec_l3Own.f (l0_0 : List (S56)) : Option ((List (S56))) := (some (([] : List (S56)) : List (S56))).bind fun y150 => (if y150.length + l0_0.length < 5864062014805 then (some (y150 ++ l0_0)) else (none))
set_option maxHeartbeats 8000000 in
set_option maxRecDepth 100000 in
theorem spec_l3Own.calls (A0_0 : Option Addr) (c0_0 : Nat) (l0_0 : List (S56)) (r : List (S56)) (w : World) (hr0_0 : Kd.C k56 w A0_0 l0_0.length l0_0) (hc0_0 : l0_0.length ≤ c0_0) (h : spec_l3Own.f l0_0 = some r) :
  Calls Try.prog 76 #[.agg #[.slice A0_0 l0_0.length c0_0]] w fun e w' => ∃ v0_ : Value, e = .returned (.agg #[v0_]) ∧ Kd.R k56 56 w' w.heap.size (fun _ => True) v0_ r ∧ Below w.heap.size w w' := by
 have hu31 := Try.underlying31
 have HR0_0 := Aside0.mk hr0_0
 have HC0_0 := Aside0.mk hc0_0
 clear hr0_0 hc0_0
 have HB := Aside0.mk (Below.refl w.heap.size w)
 have H : ((some (([] : List (S56)) : List (S56))).bind fun y150 => (if y150.length + l0_0.length < 5864062014805 then (some (y150 ++ l0_0)) else (none))) = some r := h
 clear h
 obtain ⟨y150, hy150⟩ : ∃ y_ : List (S56), y_ = (([] : List (S56))) := ⟨_, rfl⟩
 replace H : (if y150.length + l0_0.length < 5864062014805 then (some (y150 ++ l0_0)) else (none)) = some r := by first | (rw [hy150]; with_reducible exact H) | (have H2_ := (Option.bind_some _ _).symm.trans H; rw [hy150]; with_reducible exact H2_) | (have H2_ := (Option.bind_some _ _).symm.trans H; with_reducible exact H2_) | with_reducible exact H | (rw [hy150]; exact H) | exact H
 have Ny150 := Aside0.mk hy150
 clear hy150
 replace H := ifs_ H
 obtain ⟨c2, H⟩ := H
 have LMc2 := Aside0.mk c2
 clear c2
 obtain ⟨y153, hy153⟩ : ∃ y_ : List (S56), y_ = (y150 ++ l0_0) := ⟨_, rfl⟩
 replace H : (some y153) = some r := by first | (rw [hy153]; with_reducible exact H) | (have H2_ := (Option.bind_some _ _).symm.trans H; rw [hy153]; with_reducible exact H2_) | (have H2_ := (Option.bind_some _ _).symm.trans H; with_reducible exact H2_) | with_reducible exact H | (rw [hy153]; exact H) | exact H
 have Ny153 := Aside0.mk hy153
 clear hy153
 obtain rfl := Option.some.inj H
 go_enter Try.func76, Try.ntmps76
 go_wp2_with (first | ((with_reducible refine gate_dst (N := 1) rfl ?_); refine be_ (N := 1) #[.slice A0_0 l0_0.length c0_0] 31 ?_; intro gb148 hg w3 hbox hb; have BK148 := Aside0.mk (hbox); have GW148 := ge_ hg; have GE148 := ge_ hg; replace HB := nb_ hb; clear hb hbox hg) | ((with_reducible refine gate_dst (N := 2) rfl ?_); refine be_ (N := 2) #[.slice none 0 0] 31 ?_; intro gb149 hg w4 hbox hb; have BK149 := Aside0.mk (hbox); have GW149 := ge1_ hg GE148; have GE149 := ge1_ hg GE148; replace HB := nc_ GE148 hb; have NB148_149 := nl_ BK148 hg; have NB149_148 := ng_ BK148 hg; replace BK148 := bK_ BK148 hb; clear hb hbox hg) | ((with_reducible refine gate_dst (N := 3) rfl ?_); refine Kd.R_lit k56 _ 56 ?hg (N := 3) ?hd (xs := ([] : List (S56))) (inner := []) (ok := fun _ => True) (okp := fun _ => True) ?hr ?hp (fun _ hk => hk) trivial (Below.refl _ _) (Nat.le_refl _) (by simp) ?_; (case hd => rfl); (case hg => rfl); (case hr => first | (go_simp; done) | (go_simp; rfl)); (case hp => exact (Reps.none _ _)); intro v151 w5 ho6 hb hg_ hnew_; clear hg_ hnew_; (first | rw [← Ny150.out] at ho6 | (simp only [Int.reduceToNat] at ho6; rw [← Ny150.out] at ho6)); have HO152 := Aside0.mk (Kd.R_lower ho6 (below_size (hs2_ GE148.out GE149.out))); replace BK148 := bK_ BK148 hb; replace BK149 := bK_ BK149 hb; replace HB := nc2_ GE148 GE149 hb; clear hb ho6; have hnb7 := NB148_149.out; have hnc7 := NB149_148.out; obtain ⟨hcz8_0, hfz8_0⟩ := cf1_ BK148.out) | ((with_reducible refine gate_builtin (b := .append) (xs := #[.tmp 3, .tmp 5]) rfl ?_); at_builtin; refine Kd.R_append_rows k56 (w0 := w) w.heap.size rfl (.tmp 3) (.tmp 5) 29 56 (.agg #[(.string ⟨#[]⟩), (.int .i64 0)]) 24 rfl Try.underlying29 info56 rfl (by decide) (by omega) v151 y150 l0_0 _ _ _ (fun _ => True) (fun _ => False) rfl rfl ?aO ?aR (fun _ _ h => h) (fun _ h => h.elim) ?aF ?aB ?aS ?aL ?_; (case aR => exact cs_ ((Kd.C_below HR0_0.out HB.out))); (case aB => exact (hs2_ GE148.out GE149.out)); (case aF => exact (fun _ _ => trivial)); (case aO => exact (kr_ HO152.out)); (case aS => exact (below_size (hs2_ GE148.out GE149.out))); (case aL => have := LMc2.out; omega); intro v154 w9 ho hb hg hat; rw [← Ny153.out] at ho; replace BK148 := Aside0.mk (blk_grown (g := gb148) (o := .cells #[.slice A0_0 l0_0.length c0_0] 31 (0, 0)) (kb_ BK148.out) hg (Kd.R_ne HO152.out BK148.out (by decide))); replace BK149 := Aside0.mk (blk_grown (g := gb149) (o := .cells #[.slice none 0 0] 31 (0, 0)) (kb_ BK149.out) hg (Kd.R_ne HO152.out BK149.out (by decide))); replace HB := Aside0.mk (hb); have HO155 := Aside0.mk (ho); clear HO152; clear ho hb hg hat; obtain ⟨Ao10, co10, eo10⟩ := Kd.R_slice HO155.out; subst eo10; obtain ⟨hcz11_0, hfz11_0⟩ := cf1_ BK149.out))
 refine bodyPost_ret (results_cell_row rfl _ _ gb149 31 #[.slice Ao10 y153.length co10] (0, 0) _ rfl (by (with_reducible repeat (first | refine blk_drewN ?_ _ | refine blk_drew ?_ | refine blk_alloc ?_ _)); refine blk_put (cs := #[.slice none 0 0]) ?_ 0 _ rfl; (with_reducible repeat (first | refine blk_drewN ?_ _ | refine blk_drew ?_ | refine blk_alloc ?_ _)); exact BK149.out) Try.underlying31 rfl (by kernel_rfl)) rfl ?_
 exact ⟨_, er_, by (with_reducible repeat (first | apply Kd.R_alloc | apply Kd.R_drewN | apply Kd.R_drew)); exact Kd.R_mono (Kd.R_far (p := ⟨gb149, 0, none⟩) (Kd.R_types HO155.out BK149.out (by decide)) (fun _ hk => hk.2) (.slice Ao10 y153.length co10)) (fun _ hk => trivial), hs2_ GE148.out GE149.out⟩

/-! ### spec_AppendTo: function 32 -/
def spec_AppendTo.f (k : Nat) (l0_0 : List (S56)) (a1 : Int) (a2 : ByteArray) : Option ((List (S56)) × Bool) := (spec_l3File.f k l0_0 a1).bind fun t158 => (if t158 = true then (if 0 ≤ a1 then (if a1 < (l0_0.length : Int) then (if (a2.size : Int) > (wrap64 (400 - (((rd_T56 l0_0 a1).f0).size : Int))) then (some (([] : List (S56)), false)) else ((spec_l3Own.f l0_0).bind fun t160 => (if a1 < (t160.length : Int) then (if ((rd_T56 t160 a1).f0).size + a2.size ≤ 9223372036854775807 then (some ((t160.set (a1 : Int).toNat (⟨((rd_T56 t160 a1).f0) ++ a2, (rd_T56 t160 a1).f1⟩ : S56)), true)) else (none)) else (none)))) else (none)) else (none)) else (some (([] : List (S56)), false)))
theorem spec_AppendTo.mono : ∀ a0 a1 a2 k, LeO (spec_AppendTo.f k a0 a1 a2) (spec_AppendTo.f (k + 1) a0 a1 a2) := by
 intro a0 a1 a2 k
 unfold spec_AppendTo.f
 repeat' first
   | (with_reducible exact spec_l3File.mono _ _ _)
   | (with_reducible exact LeO.refl _)
   | (with_reducible exact LeO.none _)
   | (with_reducible refine LeO.ite ?_ ?_)
   | (with_reducible refine LeO.bind ?_ (fun _ => ?_))
   | exact spec_l3File.mono _ _ _
   | exact LeO.none _
   | refine LeO.ite ?_ ?_
   | refine LeO.bind ?_ (fun _ => ?_)
set_option maxHeartbeats 8000000 in
set_option maxRecDepth 100000 in
theorem spec_AppendTo.calls (k : Nat) (A0_0 : Option Addr) (c0_0 : Nat) (l0_0 : List (S56)) (a1 : Int) (a2 : ByteArray) (r1 : List (S56)) (r2 : Bool) (w : World) (hr0_0 : Kd.C k56 w A0_0 l0_0.length l0_0) (hc0_0 : l0_0.length ≤ c0_0) (h : spec_AppendTo.f k l0_0 a1 a2 = some (r1, r2)) :
  Calls Try.prog 32 #[.agg #[.slice A0_0 l0_0.length c0_0], .int .i64 a1, .string a2] w fun e w' => ∃ v0_ : Value, e = .returned (.tuple #[.agg #[v0_], .bool r2]) ∧ Kd.R k56 56 w' w.heap.size (fun _ => True) v0_ r1 ∧ Below w.heap.size w w' := by
 have hu31 := Try.underlying31
 have HR0_0 := Aside0.mk hr0_0
 have HC0_0 := Aside0.mk hc0_0
 clear hr0_0 hc0_0
 have HB := Aside0.mk (Below.refl w.heap.size w)
 have H : ((spec_l3File.f k l0_0 a1).bind fun t158 => (if t158 = true then (if 0 ≤ a1 then (if a1 < (l0_0.length : Int) then (if (a2.size : Int) > (wrap64 (400 - (((rd_T56 l0_0 a1).f0).size : Int))) then (some (([] : List (S56)), false)) else ((spec_l3Own.f l0_0).bind fun t160 => (if a1 < (t160.length : Int) then (if ((rd_T56 t160 a1).f0).size + a2.size ≤ 9223372036854775807 then (some ((t160.set (a1 : Int).toNat (⟨((rd_T56 t160 a1).f0) ++ a2, (rd_T56 t160 a1).f1⟩ : S56)), true)) else (none)) else (none)))) else (none)) else (none)) else (some (([] : List (S56)), false)))) = some (r1, r2) := h
 clear h
 replace H := bnd_ H
 obtain ⟨t158, A4, H⟩ := H
 replace H := ifb_ H
 obtain ⟨rfl, H⟩ | ⟨rfl, H⟩ := H
 rotate_left
 ·simp only [Option.some.injEq, Prod.mk.injEq] at H
  obtain ⟨rfl, rfl⟩ := H
  go_enter Try.func32, Try.ntmps32
  go_wp2_with (first | ((with_reducible refine gate_dst (N := 3) rfl ?_); (try (refine gate_guard (by rfl) ?_; dsimp only)); refine be_ (N := 3) #[.slice A0_0 l0_0.length c0_0] 31 ?_; intro gb156 hg w38 hbox hb; have BK156 := Aside0.mk (hbox); have GW156 := ge_ hg; have GE156 := ge_ hg; replace HB := nb_ hb; clear hb hbox hg) | ((with_reducible refine gate_dst (N := 6) rfl ?_); (try (refine gate_guard (by rfl) ?_; dsimp only)); refine be_ (N := 6) #[.slice none 0 0] 31 ?_; intro gb157 hg w39 hbox hb; have BK157 := Aside0.mk (hbox); have GW157 := ge1_ hg GE156; have GE157 := ge1_ hg GE156; replace HB := nc_ GE156 hb; have NB156_157 := nl_ BK156 hg; have NB157_156 := ng_ BK156 hg; replace BK156 := bK_ BK156 hb; clear hb hbox hg; have hnb40 := NB156_157.out; have hnc40 := NB157_156.out; obtain ⟨hcz41_0, hfz41_0⟩ := cf1_ BK156.out) | ((with_reducible refine gate_callee (f := 49) rfl ?_); refine gl_ 11 Try.func49 #[.agg #[.slice A0_0 l0_0.length c0_0], .int .i64 a1] rfl ma_ ?_; (with_reducible refine (spec_l3File.calls k _ _ l0_0 a1 false _ ?side1 ?side2 A4.out).mono ?_); (case side1 => exact cs_ ((Kd.C_below HR0_0.out HB.out))); (case side2 => exact HC0_0.out); rintro e w42 ⟨rfl, hb⟩; refine ⟨_, rfl, ?_⟩; replace BK156 := bK_ BK156 hb; replace BK157 := bK_ BK157 hb; replace HB := nc2_ GE156 GE157 hb; (try clear hb); (try clear hb2); (try clear hk); (try clear hi); obtain ⟨hcz43_0, hfz43_0⟩ := cf1_ BK157.out))
  refine bodyPost_ret (results_ct rfl _ _ gb157 31 #[.slice none 0 0] (0, 0) _ rfl (by (with_reducible repeat (first | refine blk_drewN ?_ _ | refine blk_drew ?_ | refine blk_alloc ?_ _)); refine blk_put (cs := #[.slice none 0 0]) ?_ 0 _ rfl; (with_reducible repeat (first | refine blk_drewN ?_ _ | refine blk_drew ?_ | refine blk_alloc ?_ _)); exact BK157.out) Try.underlying31 rfl (by kernel_rfl)) rfl ?_
  exact ⟨_, er_, ni_, hs2_ GE156.out GE157.out⟩
 replace H := ifs_ H
 obtain ⟨c6, H⟩ := H
 have c6b0 := decide_eq_true c6
 clear c6
 replace H := ifs_ H
 obtain ⟨c7, H⟩ := H
 have c7b0 := decide_eq_true c7
 clear c7
 replace H := ite_ H
 obtain ⟨c8, H⟩ | ⟨c8, H⟩ := H
 ·have c8b0 := dgt_ c8
  clear c8
  simp only [Option.some.injEq, Prod.mk.injEq] at H
  obtain ⟨rfl, rfl⟩ := H
  go_enter Try.func32, Try.ntmps32
  go_wp2_with (first | ((with_reducible refine gate_dst (N := 3) rfl ?_); (try (refine gate_guard (by rfl) ?_; dsimp only)); refine be_ (N := 3) #[.slice A0_0 l0_0.length c0_0] 31 ?_; intro gb156 hg w9 hbox hb; have BK156 := Aside0.mk (hbox); have GW156 := ge_ hg; have GE156 := ge_ hg; replace HB := nb_ hb; clear hb hbox hg) | ((with_reducible refine gate_dst (N := 6) rfl ?_); (try (refine gate_guard (by rfl) ?_; dsimp only)); refine be_ (N := 6) #[.slice none 0 0] 31 ?_; intro gb157 hg w10 hbox hb; have BK157 := Aside0.mk (hbox); have GW157 := ge1_ hg GE156; have GE157 := ge1_ hg GE156; replace HB := nc_ GE156 hb; have NB156_157 := nl_ BK156 hg; have NB157_156 := ng_ BK156 hg; replace BK156 := bK_ BK156 hb; clear hb hbox hg; have hnb11 := NB156_157.out; have hnc11 := NB157_156.out; obtain ⟨hcz12_0, hfz12_0⟩ := cf1_ BK156.out) | ((with_reducible refine gate_callee (f := 49) rfl ?_); refine gl_ 11 Try.func49 #[.agg #[.slice A0_0 l0_0.length c0_0], .int .i64 a1] rfl ma_ ?_; (with_reducible refine (spec_l3File.calls k _ _ l0_0 a1 true _ ?side1 ?side2 A4.out).mono ?_); (case side1 => exact cs_ ((Kd.C_below HR0_0.out HB.out))); (case side2 => exact HC0_0.out); rintro e w13 ⟨rfl, hb⟩; refine ⟨_, rfl, ?_⟩; replace BK156 := bK_ BK156 hb; replace BK157 := bK_ BK157 hb; replace HB := nc2_ GE156 GE157 hb; (try clear hb); (try clear hb2); (try clear hk); (try clear hi); obtain ⟨hcz14_0, hfz14_0⟩ := cf1_ BK156.out; have p159 : 0 ≤ (a1 : Int) := oa_; have q159 : a1 < (l0_0.length : Int) := oa_; obtain ⟨ad159, e159, hx159_0, hx159_1⟩ := at_T56 HR0_0.out a1 p159 q159; cases e159; replace hx159_0 := pc_ HB.out hx159_0; replace hx159_1 := pc_ HB.out hx159_1; replace p159 := eq_true p159; replace q159 := eq_true q159; obtain ⟨hcz15_0, hfz15_0⟩ := cf1_ BK157.out))
  refine bodyPost_ret (results_ct rfl _ _ gb157 31 #[.slice none 0 0] (0, 0) _ rfl (by (with_reducible repeat (first | refine blk_drewN ?_ _ | refine blk_drew ?_ | refine blk_alloc ?_ _)); refine blk_put (cs := #[.slice none 0 0]) ?_ 0 _ rfl; (with_reducible repeat (first | refine blk_drewN ?_ _ | refine blk_drew ?_ | refine blk_alloc ?_ _)); exact BK157.out) Try.underlying31 rfl (by kernel_rfl)) rfl ?_
  exact ⟨_, er_, ni_, hs2_ GE156.out GE157.out⟩
 have c8b0 := dgf_ c8
 clear c8
 replace H := bnd_ H
 obtain ⟨t160, A16, H⟩ := H
 replace H := ifs_ H
 obtain ⟨c17, H⟩ := H
 have c17b0 := decide_eq_true c17
 clear c17
 replace H := ifs_ H
 obtain ⟨c18, H⟩ := H
 have c18b0 := eq_true c18
 have c18b1 := decide_eq_true c18
 try have c18b2 : (9223372036854775807 < ((rd_T56 t160 a1).f0).size + a2.size) = False := eq_false (Nat.not_lt.2 c18)
 try have c18w := cw_ c18
 (try rw [c18w] at c6b0)
 (try rw [c18w] at c7b0)
 (try rw [c18w] at c8b0)
 (try rw [c18w] at c17b0)
 obtain ⟨y165, hy165⟩ : ∃ y_ : List (S56), y_ = (t160.set (a1 : Int).toNat (⟨((rd_T56 t160 a1).f0) ++ a2, (rd_T56 t160 a1).f1⟩ : S56)) := ⟨_, rfl⟩
 replace H : (some (y165, true)) = some (r1, r2) := by first | (rw [hy165]; with_reducible exact H) | (have H2_ := (Option.bind_some _ _).symm.trans H; rw [hy165]; with_reducible exact H2_) | (have H2_ := (Option.bind_some _ _).symm.trans H; with_reducible exact H2_) | with_reducible exact H | (rw [hy165]; exact H) | exact H
 have Ny165 := Aside0.mk hy165
 clear hy165
 simp only [Option.some.injEq, Prod.mk.injEq] at H
 obtain ⟨rfl, rfl⟩ := H
 go_enter Try.func32, Try.ntmps32
 go_wp2_with (first | ((with_reducible refine gate_dst (N := 3) rfl ?_); (try (refine gate_guard (by rfl) ?_; dsimp only)); refine be_ (N := 3) #[.slice A0_0 l0_0.length c0_0] 31 ?_; intro gb156 hg w20 hbox hb; have BK156 := Aside0.mk (hbox); have GW156 := ge_ hg; have GE156 := ge_ hg; replace HB := nb_ hb; clear hb hbox hg) | ((with_reducible refine gate_dst (N := 6) rfl ?_); (try (refine gate_guard (by rfl) ?_; dsimp only)); refine be_ (N := 6) #[.slice none 0 0] 31 ?_; intro gb157 hg w21 hbox hb; have BK157 := Aside0.mk (hbox); have GW157 := ge1_ hg GE156; have GE157 := ge1_ hg GE156; replace HB := nc_ GE156 hb; have NB156_157 := nl_ BK156 hg; have NB157_156 := ng_ BK156 hg; replace BK156 := bK_ BK156 hb; clear hb hbox hg; have hnb22 := NB156_157.out; have hnc22 := NB157_156.out; obtain ⟨hcz23_0, hfz23_0⟩ := cf1_ BK156.out) | ((with_reducible refine gate_callee (f := 49) rfl ?_); refine gl_ 11 Try.func49 #[.agg #[.slice A0_0 l0_0.length c0_0], .int .i64 a1] rfl ma_ ?_; (with_reducible refine (spec_l3File.calls k _ _ l0_0 a1 true _ ?side1 ?side2 A4.out).mono ?_); (case side1 => exact cs_ ((Kd.C_below HR0_0.out HB.out))); (case side2 => exact HC0_0.out); rintro e w24 ⟨rfl, hb⟩; refine ⟨_, rfl, ?_⟩; replace BK156 := bK_ BK156 hb; replace BK157 := bK_ BK157 hb; replace HB := nc2_ GE156 GE157 hb; (try clear hb); (try clear hb2); (try clear hk); (try clear hi); obtain ⟨hcz25_0, hfz25_0⟩ := cf1_ BK156.out; have p159 : 0 ≤ (a1 : Int) := oa_; have q159 : a1 < (l0_0.length : Int) := oa_; obtain ⟨ad159, e159, hx159_0, hx159_1⟩ := at_T56 HR0_0.out a1 p159 q159; cases e159; replace hx159_0 := pc_ HB.out hx159_0; replace hx159_1 := pc_ HB.out hx159_1; replace p159 := eq_true p159; replace q159 := eq_true q159) | ((with_reducible refine gate_callee (f := 76) rfl ?_); refine gl_ 28 Try.func76 #[.agg #[.slice (some ad159) l0_0.length c0_0]] rfl ma_ ?_; (with_reducible refine (spec_l3Own.calls _ _ l0_0 t160 _ ?side1 ?side2 A16.out).mono ?_); (case side1 => exact cs_ ((Kd.C_below HR0_0.out HB.out))); (case side2 => exact HC0_0.out); rintro e w26 ⟨v161, rfl, ho0, hb⟩; refine ⟨_, rfl, ?_⟩; have HO162 := Aside0.mk (Kd.R_lower ho0 (below_size (hs2_ GE156.out GE157.out))); replace BK156 := bK_ BK156 hb; replace BK157 := bK_ BK157 hb; replace HB := nc2_ GE156 GE157 hb; (try clear hb); (try clear hb2); (try clear hk); (try clear hi); (try clear ho0)) | ((with_reducible refine gate_dst (N := 8) rfl ?_); (try (refine gate_guard (by rfl) ?_; dsimp only)); refine be_ (N := 8) #[.slice none 0 0] 31 ?_; intro gb163 hg w27 hbox hb; replace HO162 := rB_ HO162 hb; have BK163 := Aside0.mk (hbox); have GW163 := ge2_ hg GE156 GE157; have GE163 := ge2_ hg GE156 GE157; replace HB := nc2_ GE156 GE157 hb; have NB156_163 := nl_ BK156 hg; have NB163_156 := ng_ BK156 hg; replace BK156 := bK_ BK156 hb; have NB157_163 := nl_ BK157 hg; have NB163_157 := ng_ BK157 hg; replace BK157 := bK_ BK157 hb; clear hb hbox hg; obtain ⟨Ao28, co28, eo28⟩ := Kd.R_slice HO162.out; subst eo28; have hnb29 := NB163_156.out; have hnc29 := NB156_163.out; have hnb30 := NB163_157.out; have hnc30 := NB157_163.out; obtain ⟨hcz31_0, hfz31_0⟩ := cf1_ BK163.out) | ((with_reducible refine gate_store (t := 31) (p := 8) rfl ?_); refine store_event (t := 31) (p := 8) (v := ?vo_w32) (w1 := (w27.setCell ⟨gb163, 0, none⟩ (.slice Ao28 t160.length co28))) ?hg ?ho ?hn ?hr ?_; (case ho => rfl); (case hg => rfl); (case hn => rfl); (case hr => first | (go_simp; done) | (go_simp; rfl)); intro w32 hw; have n0_ : Aside0 (Kd.R k56 56 w32 w.heap.size (fun _ => True) (.slice Ao28 t160.length co28) t160) := ⟨(by rw [hw]; exact (by (with_reducible repeat (first | apply Kd.R_alloc | apply Kd.R_drewN | apply Kd.R_drew)); exact Kd.R_mono (Kd.R_far (p := ⟨gb163, 0, none⟩) (Kd.R_types HO162.out BK163.out (by decide)) (fun _ hk => hk.2) (.slice Ao28 t160.length co28)) (fun _ hk => trivial)))⟩; have n1_ : Aside0 (w32.heap[gb156]? = some (.cells #[.slice (some ad159) l0_0.length c0_0] 31 (0, 0))) := ⟨(by rw [hw]; exact (by (with_reducible repeat (first | refine blk_drewN ?_ _ | refine blk_drew ?_ | refine blk_alloc ?_ _)); refine blk_far ?_ NB156_163.out _; (with_reducible repeat (first | refine blk_drewN ?_ _ | refine blk_drew ?_ | refine blk_alloc ?_ _)); exact BK156.out))⟩; have n2_ : Aside0 (w32.heap[gb157]? = some (.cells #[.slice none 0 0] 31 (0, 0))) := ⟨(by rw [hw]; exact (by (with_reducible repeat (first | refine blk_drewN ?_ _ | refine blk_drew ?_ | refine blk_alloc ?_ _)); refine blk_far ?_ NB157_163.out _; (with_reducible repeat (first | refine blk_drewN ?_ _ | refine blk_drew ?_ | refine blk_alloc ?_ _)); exact BK157.out))⟩; have n3_ : Aside0 (w32.heap[gb163]? = some (.cells #[.slice Ao28 t160.length co28] 31 (0, 0))) := ⟨(by rw [hw]; exact (by (with_reducible repeat (first | refine blk_drewN ?_ _ | refine blk_drew ?_ | refine blk_alloc ?_ _)); refine blk_put (cs := #[.slice none 0 0]) ?_ 0 _ rfl; (with_reducible repeat (first | refine blk_drewN ?_ _ | refine blk_drew ?_ | refine blk_alloc ?_ _)); exact BK163.out))⟩; have n4_ : Aside0 (Below w.heap.size w w32) := ⟨(by rw [hw]; exact (hs3_ GE156.out GE157.out GE163.out))⟩; clear hw; clear HO162; clear BK156; clear BK157; clear BK163; clear HB; have HO162 := n0_; have BK156 := n1_; have BK157 := n2_; have BK163 := n3_; have HB := n4_; clear n0_ n1_ n2_ n3_ n4_; obtain ⟨hcz33_0, hfz33_0⟩ := cf1_ BK163.out; have p164 : 0 ≤ (a1 : Int) := oa_; have q164 : a1 < (t160.length : Int) := oa_; obtain ⟨ad164, e164, hx164_0, hx164_1⟩ := at_T56 (Kd.R_reads' HO162.out).2.2 a1 p164 q164; cases e164; replace p164 := eq_true p164; replace q164 := eq_true q164; have p19 : 0 ≤ (a1 : Int) := oa_; have q19 : (a1 : Int) < ((t160.length : Int) : Int) := oa_; obtain ⟨go19, co19, eo19, gb19, gl19, cl19, HG19⟩ := Kd.R_form HO162.out (by omega); (first | cases eo19 | (injection eo19 with ea_ en_ ec_; (first | subst ea_ | (injection ea_ with ea_; subst ea_)); subst ec_; clear en_)); have GB19 := Aside0.mk gb19; have GG19 := Aside0.mk HG19; clear gb19 gl19 HG19; (first | simp only [add_plain] at hx164_0 | skip); (first | simp only [add_plain] at hx164_1 | skip); obtain ⟨ce19, hcl19, hM19, hcc19, hfr19⟩ := Kd.R_elem HO162.out z56 (a1 : Int) p19 q19; obtain rfl := k56_openM hM19; have hx19_0 : w32.cell? ⟨go19, (a1 : Int).toNat * 2, none⟩ = some (.string ((rd_T56 t160 a1).f0)) := hcc19 0 _ rfl; have hx19_1 : w32.cell? ⟨go19, (a1 : Int).toNat * 2 + 1, none⟩ = some (.int .i64 ((rd_T56 t160 a1).f1)) := hcc19 1 _ rfl; have hf19_0 : w32.frozen? ⟨go19, (a1 : Int).toNat * 2, none⟩ = false := hfr19 0; have hf19_1 : w32.frozen? ⟨go19, (a1 : Int).toNat * 2 + 1, none⟩ = false := hfr19 1; clear hcl19 hcc19 hfr19; (try clear hM19); replace p19 := eq_true p19; replace q19 := eq_true q19; have HX34 := Aside0.mk (show Kd.R k56 56 w32 w.heap.size (fun _ => True) (.slice (some ⟨go19, 0, none⟩) t160.length co28) t160 from (kr_ HO162.out)); obtain ⟨ce34, hcl34, hM34, hcc34, hfr34⟩ := Kd.R_elem HX34.out z56 (a1 : Int) (oa_) (by have h_ : (a1 : Int) < ((t160.length : Int) : Int) := oa_; first | exact h_ | (have e_ := (Kd.R_reads' HO162.out).1; omega) | simpa using h_); obtain rfl := k56_openM hM34; have HP34 := Kd.R_seg HX34.out (a1 : Int) (oa_) (by have h_ : (a1 : Int) < ((t160.length : Int) : Int) := oa_; first | exact h_ | (have e_ := (Kd.R_reads' HO162.out).1; omega) | simpa using h_) (seg := [.string (((rd_T56 t160 a1).f0) ++ a2)]) (j := 0) hcl34 hcc34 (show 1 ≤ 2 from by decide) (x' := (⟨((rd_T56 t160 a1).f0) ++ a2, (rd_T56 t160 a1).f1⟩ : S56)) (k56_mkM _ _ _ (⟨((rd_T56 t160 a1).f0) ++ a2, (rd_T56 t160 a1).f1⟩ : S56) ) (fun _ hk => hk); have hx34_0 := hcc34 0 _ rfl; (try simp only [show (k56).sz = 2 from rfl, Nat.mul_one, Nat.add_zero] at hx34_0); have hf34_0 := hfr34 0; (try simp only [show (k56).sz = 2 from rfl, Nat.mul_one, Nat.add_zero] at hf34_0); clear hcl34 hcc34 hfr34; (try clear hM34)) | ((with_reducible refine gate_store (t := 9) (p := 38) rfl ?_); refine store_event (t := 9) (p := 38) (v := ?vo_w35) (w1 := (w32.setCell ⟨go19, (a1 : Int).toNat * 2, none⟩ (.string (((rd_T56 t160 a1).f0) ++ a2)))) ?hg ?ho ?hn ?hr ?_; (case ho => rfl); (case hg => rfl); (case hn => rfl); (case hr => first | (go_simp; done) | (go_simp; rfl)); intro w35 hw; have hg : w32.grownBy w35 (some go19) := (by rw [hw]; exact HP34.2); have hp_ : Kd.R k56 56 w35 w.heap.size (fun _ => True) (.slice (some ⟨go19, 0, none⟩) t160.length co28) y165 := (by rw [hw, Ny165.out]; exact HP34.1); clear HP34; replace BK156 := Aside0.mk (blk_grown (g := gb156) (o := .cells #[.slice (some ad159) l0_0.length c0_0] 31 (0, 0)) (kb_ BK156.out) hg (Kd.R_ne HO162.out BK156.out (by decide))); replace BK157 := Aside0.mk (blk_grown (g := gb157) (o := .cells #[.slice none 0 0] 31 (0, 0)) (kb_ BK157.out) hg (Kd.R_ne HO162.out BK157.out (by decide))); replace BK163 := Aside0.mk (blk_grown (g := gb163) (o := .cells #[.slice (some ⟨go19, 0, none⟩) t160.length co28] 31 (0, 0)) (kb_ BK163.out) hg (Kd.R_ne HO162.out BK163.out (by decide))); replace HO162 := Aside0.mk (hp_); replace HB := Aside0.mk ((by rw [hw]; exact below_set (HB.out) GB19.out : Below w.heap.size w w35)); clear hg hw hp_; obtain ⟨hcz36_0, hfz36_0⟩ := cf1_ BK163.out; obtain ⟨hcz37_0, hfz37_0⟩ := cf1_ BK157.out))
 refine bodyPost_ret (results_ct rfl _ _ gb157 31 #[.slice (some ⟨go19, 0, none⟩) t160.length co28] (0, 0) _ rfl (by (with_reducible repeat (first | refine blk_drewN ?_ _ | refine blk_drew ?_ | refine blk_alloc ?_ _)); refine blk_put (cs := #[.slice none 0 0]) ?_ 0 _ rfl; (with_reducible repeat (first | refine blk_drewN ?_ _ | refine blk_drew ?_ | refine blk_alloc ?_ _)); exact BK157.out) Try.underlying31 rfl (by kernel_rfl)) rfl ?_
 exact ⟨_, er_, by (with_reducible repeat (first | apply Kd.R_alloc | apply Kd.R_drewN | apply Kd.R_drew)); exact Kd.R_mono (Kd.R_far (p := ⟨gb157, 0, none⟩) (Kd.R_types HO162.out BK157.out (by decide)) (fun _ hk => hk.2) (.slice (some ⟨go19, 0, none⟩) t160.length co28)) (fun _ hk => trivial), hs3_ GE156.out GE157.out GE163.out⟩

/-! ### spec_l1Next: function 60 -/
def spec_l1Next.f (a0_0 : Int) (a0_1 : Int) (a0_2 : Int) (a0_3 : Int) (l0_4 : List ByteArray) (a1_0 : Int) (a1_1 : Int) (a1_2 : Int) (a1_3 : Int) (l1_4 : List ByteArray) : Option (Bool) := if a1_0 = (wrap64 (a0_0 + (l0_4.length : Int))) then (some (decide (a1_1 ≥ a0_1))) else (some false)
set_option maxHeartbeats 8000000 in
set_option maxRecDepth 100000 in
theorem spec_l1Next.calls (a0_0 : Int) (a0_1 : Int) (a0_2 : Int) (a0_3 : Int) (A0_4 : Option Addr) (c0_4 : Nat) (l0_4 : List ByteArray) (a1_0 : Int) (a1_1 : Int) (a1_2 : Int) (a1_3 : Int) (A1_4 : Option Addr) (c1_4 : Nat) (l1_4 : List ByteArray) (r : Bool) (w : World) (hr0_4 : Kd.C Kd.string w A0_4 l0_4.length l0_4) (hc0_4 : l0_4.length ≤ c0_4) (hr1_4 : Kd.C Kd.string w A1_4 l1_4.length l1_4) (hc1_4 : l1_4.length ≤ c1_4) (h : spec_l1Next.f a0_0 a0_1 a0_2 a0_3 l0_4 a1_0 a1_1 a1_2 a1_3 l1_4 = some r) :
  Calls Try.prog 60 #[.agg #[.int .i64 a0_0, .int .i64 a0_1, .int .i64 a0_2, .int .i64 a0_3, .slice A0_4 l0_4.length c0_4], .agg #[.int .i64 a1_0, .int .i64 a1_1, .int .i64 a1_2, .int .i64 a1_3, .slice A1_4 l1_4.length c1_4]] w fun e w' => e = .returned (.bool r) ∧ Below w.heap.size w w' := by
 have hu44 := Try.underlying44
 have HR0_4 := Aside0.mk hr0_4
 have HC0_4 := Aside0.mk hc0_4
 clear hr0_4 hc0_4
 have HR1_4 := Aside0.mk hr1_4
 have HC1_4 := Aside0.mk hc1_4
 clear hr1_4 hc1_4
 have HB := Aside0.mk (Below.refl w.heap.size w)
 have H : (if a1_0 = (wrap64 (a0_0 + (l0_4.length : Int))) then (some (decide (a1_1 ≥ a0_1))) else (some false)) = some r := h
 clear h
 replace H := ite_ H
 obtain ⟨c3, H⟩ | ⟨c3, H⟩ := H
 ·have c3b0 : (a1_0 == (wrap64 (a0_0 + (l0_4.length : Int)))) = true := beq_iff_eq.mpr c3
  have c3b1 : (a1_0 != (wrap64 (a0_0 + (l0_4.length : Int)))) = false := bne_eq_false_iff_eq.mpr c3
  clear c3
  obtain rfl := Option.some.inj H
  go_enter Try.func60, Try.ntmps60
  go_wp2_with (first | ((with_reducible refine gate_dst (N := 2) rfl ?_); refine be_ (N := 2) #[.int .i64 a0_0, .int .i64 a0_1, .int .i64 a0_2, .int .i64 a0_3, .slice A0_4 l0_4.length c0_4] 44 ?_; intro gb166 hg w4 hbox hb; have BK166 := Aside0.mk (hbox); have GW166 := ge_ hg; have GE166 := ge_ hg; replace HB := nb_ hb; clear hb hbox hg) | ((with_reducible refine gate_dst (N := 3) rfl ?_); refine be_ (N := 3) #[.int .i64 a1_0, .int .i64 a1_1, .int .i64 a1_2, .int .i64 a1_3, .slice A1_4 l1_4.length c1_4] 44 ?_; intro gb167 hg w5 hbox hb; have BK167 := Aside0.mk (hbox); have GW167 := ge1_ hg GE166; have GE167 := ge1_ hg GE166; replace HB := nc_ GE166 hb; have NB166_167 := nl_ BK166 hg; have NB167_166 := ng_ BK166 hg; replace BK166 := bK_ BK166 hb; clear hb hbox hg; have hnb6 := NB167_166.out; have hnc6 := NB166_167.out; obtain ⟨hcz7_0, hcz7_1, hcz7_2, hcz7_3, hcz7_4, hfz7_0, hfz7_1, hfz7_2, hfz7_3, hfz7_4⟩ := cf5_ BK167.out; obtain ⟨hcz8_0, hcz8_1, hcz8_2, hcz8_3, hcz8_4, hfz8_0, hfz8_1, hfz8_2, hfz8_3, hfz8_4⟩ := cf5_ BK166.out))
  go_ret
  exact ⟨er_, hs2_ GE166.out GE167.out⟩
 have c3b0 : (a1_0 == (wrap64 (a0_0 + (l0_4.length : Int)))) = false := beq_eq_false_iff_ne.mpr c3
 have c3b1 : (a1_0 != (wrap64 (a0_0 + (l0_4.length : Int)))) = true := bne_iff_ne.mpr c3
 obtain rfl := Option.some.inj H
 go_enter Try.func60, Try.ntmps60
 go_wp2_with (first | ((with_reducible refine gate_dst (N := 2) rfl ?_); refine be_ (N := 2) #[.int .i64 a0_0, .int .i64 a0_1, .int .i64 a0_2, .int .i64 a0_3, .slice A0_4 l0_4.length c0_4] 44 ?_; intro gb166 hg w9 hbox hb; have BK166 := Aside0.mk (hbox); have GW166 := ge_ hg; have GE166 := ge_ hg; replace HB := nb_ hb; clear hb hbox hg) | ((with_reducible refine gate_dst (N := 3) rfl ?_); refine be_ (N := 3) #[.int .i64 a1_0, .int .i64 a1_1, .int .i64 a1_2, .int .i64 a1_3, .slice A1_4 l1_4.length c1_4] 44 ?_; intro gb167 hg w10 hbox hb; have BK167 := Aside0.mk (hbox); have GW167 := ge1_ hg GE166; have GE167 := ge1_ hg GE166; replace HB := nc_ GE166 hb; have NB166_167 := nl_ BK166 hg; have NB167_166 := ng_ BK166 hg; replace BK166 := bK_ BK166 hb; clear hb hbox hg; have hnb11 := NB167_166.out; have hnc11 := NB166_167.out; obtain ⟨hcz12_0, hcz12_1, hcz12_2, hcz12_3, hcz12_4, hfz12_0, hfz12_1, hfz12_2, hfz12_3, hfz12_4⟩ := cf5_ BK167.out; obtain ⟨hcz13_0, hcz13_1, hcz13_2, hcz13_3, hcz13_4, hfz13_0, hfz13_1, hfz13_2, hfz13_3, hfz13_4⟩ := cf5_ BK166.out))
 go_ret
 exact ⟨er_, hs2_ GE166.out GE167.out⟩

end Go.Proofs.Ytpdpipfkllfhmaa.QFnExactWriteBatch
