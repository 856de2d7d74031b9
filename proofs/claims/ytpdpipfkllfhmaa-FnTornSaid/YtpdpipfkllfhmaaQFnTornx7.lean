/- Functions that one statement reaches: of each a plain function, and the proof that calls come to it. Conditions: those that each contract names. Written by a program of this repository. -/
import Derived.Test.YtpdpipfkllfhmaaVFnTorna
import Derived.Test.YtpdpipfkllfhmaaQFnTornx2
import Derived.Test.YtpdpipfkllfhmaaQFnTornx5
namespace Go.Proofs.Ytpdpipfkllfhmaa.QFnTorn
open Go.RowKit Go.Proofs.YtpdpipfkllfhmaaW.PrintWords Go.Proofs.YtpdpipfkllfhmaaW.PrintLast Go.Proofs.YtpdpipfkllfhmaaW.PrintMore
attribute [local go_sem] max2_int min2_int max_two min_two max_three min_three max_four min_four Go.Proofs.YtpdpipfkllfhmaaW.PrintMore2.isSome_setCell   -- for this text's walks alone
set_option linter.unusedVariables false
set_option linter.unusedSimpArgs false

/-! ### spec_SurvivesIn: function 9 -/
def spec_SurvivesIn.f (k : Nat) (l0_0 : List (S56)) (a1 : Int) : Option ((List (S44)) × Bool) := (spec_l3File.f k l0_0 a1).bind fun t161 => (if t161 = true then (if 0 ≤ a1 then (if a1 < (l0_0.length : Int) then (if 0 ≤ ((rd_T56 l0_0 a1).f1) then (if ((rd_T56 l0_0 a1).f1) ≤ (((rd_T56 l0_0 a1).f0).size : Int) then ((spec_l1Read.f k (((rd_T56 l0_0 a1).f0).extract 0 (((rd_T56 l0_0 a1).f1) : Int).toNat)).bind fun bt164 => (some (bt164.1, true))) else (none)) else (none)) else (none)) else (none)) else (some (([] : List (S44)), false)))
theorem spec_SurvivesIn.mono : ∀ a0 a1 k, LeO (spec_SurvivesIn.f k a0 a1) (spec_SurvivesIn.f (k + 1) a0 a1) := by
 intro a0 a1 k
 unfold spec_SurvivesIn.f
 repeat' first
   | (with_reducible first | apply spec_l1Read.mono | apply spec_l3File.mono | exact LeO.refl _ | exact LeO.none _ | refine LeO.ite ?_ ?_ | refine LeO.bind ?_ (fun _ => ?_))
set_option maxHeartbeats 8000000 in
set_option maxRecDepth 100000 in
theorem spec_SurvivesIn.calls (k : Nat) (A0_0 : Option Addr) (c0_0 : Nat) (l0_0 : List (S56)) (a1 : Int) (r1 : List (S44)) (r2 : Bool) (w : World) (hr0_0 : Kd.C k56 w A0_0 l0_0.length l0_0) (hc0_0 : l0_0.length ≤ c0_0) (h : spec_SurvivesIn.f k l0_0 a1 = some (r1, r2)) :
  Calls Try.prog 9 #[.agg #[.slice A0_0 l0_0.length c0_0], .int .i64 a1] w fun e w' => ∃ v0_ : Value, e = .returned (.tuple #[v0_, .bool r2]) ∧ Kd.S k44 44 w' w.heap.size (fun _ => True) v0_ r1 ∧ Below w.heap.size w w' := by
 have hu31 := Try.underlying31
 have hu56 := Try.underlying56
 have HR0_0 := Aside0.mk hr0_0
 have HC0_0 := Aside0.mk hc0_0
 clear hr0_0 hc0_0
 have HB := Aside0.mk (Below.refl w.heap.size w)
 have H : ((spec_l3File.f k l0_0 a1).bind fun t161 => (if t161 = true then (if 0 ≤ a1 then (if a1 < (l0_0.length : Int) then (if 0 ≤ ((rd_T56 l0_0 a1).f1) then (if ((rd_T56 l0_0 a1).f1) ≤ (((rd_T56 l0_0 a1).f0).size : Int) then ((spec_l1Read.f k (((rd_T56 l0_0 a1).f0).extract 0 (((rd_T56 l0_0 a1).f1) : Int).toNat)).bind fun bt164 => (some (bt164.1, true))) else (none)) else (none)) else (none)) else (none)) else (some (([] : List (S44)), false)))) = some (r1, r2) := h
 clear h
 replace H := bnd_ H
 obtain ⟨t161, A3, H⟩ := H
 replace H := ifb_ H
 obtain ⟨rfl, H⟩ | ⟨rfl, H⟩ := H
 rotate_left
 ·simp only [Option.some.injEq, Prod.mk.injEq] at H
  obtain ⟨rfl, rfl⟩ := H
  go_enter Try.func9, Try.ntmps9
  go_wp2_with (first | ((with_reducible refine gate_dst (N := 2) rfl ?_); refine bq_ (N := 2) #[.slice A0_0 l0_0.length c0_0] 31 ?_; intro gb160 hg w18 BK160 hb; have GE160 := ge_ hg; replace HB := nb_ hb; clear hb hg; obtain ⟨hcz19_0, hfz19_0⟩ := cf1_ BK160.out) | ((with_reducible refine gate_callee (f := 49) rfl ?_); refine gl_ 11 Try.func49 #[.agg #[.slice A0_0 l0_0.length c0_0], .int .i64 a1] rfl ma_ ?_; (with_reducible refine (spec_l3File.calls k _ _ l0_0 a1 false _ ?side1 ?side2 A3.out).mono ?_); (case side1 => exact cs_ ((Kd.C_below HR0_0.out HB.out))); (case side2 => exact HC0_0.out); rintro e w20 ⟨rfl, hb⟩; refine ⟨_, rfl, ?_⟩; replace BK160 := bK_ BK160 hb; replace HB := nc_ GE160 hb; (try clear hb); (try clear hb2); (try clear hk); (try clear hi)))
  go_ret2
  exact ⟨_, er_, by first | exact Kd.S_nil _ _ _ _ _ | exact Kd.N_nil _ _ _ _ _ | exact Kd.V_nil _ _ _ _ _ | exact Kd.Q_nil _ _ _ _ _ | exact Kd.R_nil _ _ _ _ _, hs_ GE160.out⟩
 replace H := ifs_ H
 obtain ⟨c5, H⟩ := H
 have c5b0 := decide_eq_true c5
 clear c5
 replace H := ifs_ H
 obtain ⟨c6, H⟩ := H
 have c6b0 := decide_eq_true c6
 clear c6
 replace H := ifs_ H
 obtain ⟨c7, H⟩ := H
 have c7b0 := eq_true c7
 have c7b1 := decide_eq_true c7
 clear c7
 replace H := ifs_ H
 obtain ⟨c8, H⟩ := H
 have c8b0 := eq_true c8
 have c8b1 := decide_eq_true c8
 clear c8
 replace H := bnd_ H
 obtain ⟨⟨t164, t165⟩, A9, H⟩ := H
 replace H := red_ H
 simp only [Option.some.injEq, Prod.mk.injEq] at H
 obtain ⟨rfl, rfl⟩ := H
 go_enter Try.func9, Try.ntmps9
 go_wp2_with (first | ((with_reducible refine gate_dst (N := 2) rfl ?_); refine bq_ (N := 2) #[.slice A0_0 l0_0.length c0_0] 31 ?_; intro gb160 hg w10 BK160 hb; have GE160 := ge_ hg; replace HB := nb_ hb; clear hb hg; obtain ⟨hcz11_0, hfz11_0⟩ := cf1_ BK160.out) | ((with_reducible refine gate_callee (f := 49) rfl ?_); refine gl_ 11 Try.func49 #[.agg #[.slice A0_0 l0_0.length c0_0], .int .i64 a1] rfl ma_ ?_; (with_reducible refine (spec_l3File.calls k _ _ l0_0 a1 true _ ?side1 ?side2 A3.out).mono ?_); (case side1 => exact cs_ ((Kd.C_below HR0_0.out HB.out))); (case side2 => exact HC0_0.out); rintro e w12 ⟨rfl, hb⟩; refine ⟨_, rfl, ?_⟩; replace BK160 := bK_ BK160 hb; replace HB := nc_ GE160 hb; (try clear hb); (try clear hb2); (try clear hk); (try clear hi); obtain ⟨hcz13_0, hfz13_0⟩ := cf1_ BK160.out; have p162 : 0 ≤ (a1 : Int) := oa_; have q162 : a1 < (l0_0.length : Int) := oa_; obtain ⟨ad162, e162, hx162_0, hx162_1⟩ := at_T56 HR0_0.out a1 p162 q162; cases e162; replace hx162_0 := pc_ HB.out hx162_0; replace hx162_1 := pc_ HB.out hx162_1; replace p162 := eq_true p162; replace q162 := eq_true q162) | ((with_reducible refine gate_dst (N := 6) rfl ?_); refine box_event ?hg (N := 6) ?hd (cs := #[.string (⟨#[]⟩ : ByteArray), .int .i64 0]) (t := 56) ?hr ?_; (case hd => rfl); (case hg => rfl); (case hr => first | (go_simp; done) | (go_simp; rfl)); intro gb163 hg w14 hbox hb; have BK163 := Aside0.mk (hbox); have GE163 := ge1_ hg GE160; replace HB := nc_ GE160 hb; have NB160_163 := nl_ BK160 hg; have NB163_160 := ng_ BK160 hg; replace BK160 := bK_ BK160 hb; clear hb hbox hg; have hnb15 := NB163_160.out; have hnc15 := NB160_163.out; obtain ⟨hcz16_0, hcz16_1, hfz16_0, hfz16_1⟩ := cf2_ BK163.out) | ((with_reducible refine gate_callee (f := 50) rfl ?_); refine gl_ 24 Try.func50 #[.string (((rd_T56 l0_0 a1).f0).extract 0 (((rd_T56 l0_0 a1).f1) : Int).toNat)] rfl ma_ ?_; (with_reducible refine (spec_l1Read.calls k (((rd_T56 l0_0 a1).f0).extract 0 (((rd_T56 l0_0 a1).f1) : Int).toNat) t164 t165 _ A9.out).mono ?_); rintro e w17 ⟨v166, rfl, ho0, hb⟩; refine ⟨_, rfl, ?_⟩; have HO167 := Aside0.mk (Kd.S_lower ho0 (below_size (hs2_ GE160.out GE163.out))); replace BK160 := Aside0.mk (blk_below (g := gb160) (o := .cells #[.slice (some ad162) l0_0.length c0_0] 31 (0, 0)) (uf_ BK160 NB160_163.out) hb); replace BK163 := Aside0.mk (blk_below (g := gb163) (o := .cells #[.string ((rd_T56 l0_0 a1).f0), .int .i64 ((rd_T56 l0_0 a1).f1)] 56 (0, 0)) (up_ BK163) hb); replace HB := nc2_ GE160 GE163 hb; (try clear hb); (try clear hb2); (try clear hk); (try clear hi); (try clear ho0)))
 go_ret2
 exact ⟨_, er_, ks_ HO167.out, hs2_ GE160.out GE163.out⟩

/-! ### impl_in: function 77 -/
def impl_in.f (a0 : Int) (a1 : Int) (a2 : Int) : Option (Bool) := if a0 ≥ a1 then (some (decide (a0 ≤ a2))) else (some false)
set_option maxHeartbeats 8000000 in
set_option maxRecDepth 100000 in
theorem impl_in.calls (a0 : Int) (a1 : Int) (a2 : Int) (r : Bool) (w : World) (h : impl_in.f a0 a1 a2 = some r) :
  Calls Try.prog 77 #[.int .i64 a0, .int .i64 a1, .int .i64 a2] w fun e w' => e = .returned (.bool r) ∧ Drawn0 w w' := by
 have H : (if a0 ≥ a1 then (some (decide (a0 ≤ a2))) else (some false)) = some r := h
 clear h
 replace H := ite_ H
 obtain ⟨c4, H⟩ | ⟨c4, H⟩ := H
 rotate_left
 ·have c4b0 := dne_ c4
  clear c4
  obtain rfl := Option.some.inj H
  go_enter Try.func77, Try.ntmps77
  go_wp2
  go_ret
  exact ⟨by first | rfl | (simp; done) | (simp [*]; done), dr_⟩
 have c4b0 := dge_ c4
 clear c4
 obtain rfl := Option.some.inj H
 go_enter Try.func77, Try.ntmps77
 go_wp2
 go_ret
 exact ⟨by first | rfl | (simp; done) | (simp [*]; done), dr_⟩

-- NOT PRINTED: function 102 (slices_IndexFunc_File)

-- NOT PRINTED: function 95 (slices_ContainsFunc_File)

/-! ### impl_isDisk: function 79 -/
/-- The first place, from i on, of d places, where q holds. -/
def isDisk_ix (q : Nat → Bool) : Nat → Nat → Int
 | _, 0 => -1
 | i, d + 1 => if q i = true then (i : Int) else isDisk_ix q (i + 1) d
set_option maxHeartbeats 8000000 in
set_option maxRecDepth 100000 in
theorem isDisk_idx (q : Nat → Bool) (l : List S56) (A : Option Addr) (c : Nat) (g : Nat) (lb : Array Value) (eg : ∀ args w, (callFunc g args).run Try.prog w = .ok (.enter g args) w) (w : World)
  (hr : Kd.C k56 w A l.length l)
  (hp : ∀ (W : World) (i : Nat), Below w.heap.size w W → i < l.length → Calls Try.prog g (#[.agg #[.string (rd_T56 l (i : Int)).f0, .int .i64 (rd_T56 l (i : Int)).f1]] ++ lb) W fun e w' => e = .returned (.bool (q i)) ∧ Below w.heap.size w w') :
  Calls Try.prog 102 #[.slice A l.length c, .func (.func g) #[] lb] w fun e w' => e = .returned (.int .i64 (isDisk_ix q 0 l.length)) ∧ Below w.heap.size w w' := by
 have hbig : l.length ≤ 9223372036854775807 := hr.2.1
 have hu_ := Try.underlying56
 have HR := Aside0.mk hr
 have HP := Aside0.mk hp
 clear hr hp
 go_enter Try.func102, Try.ntmps102
 go_wp2
 go_loopg [5, 8] l.length (fun gg _ s8 wr => ∃ kk : Nat, kk ≤ l.length ∧ l.length - kk ≤ gg ∧ s8 = .int .i64 kk ∧ Aside (Below w.heap.size w wr) ∧ Aside (isDisk_ix q 0 l.length = isDisk_ix q kk (l.length - kk)))
 case atStart => exact ⟨0, Nat.zero_le _, by omega, rfl, Below.refl _ w, rfl⟩
 case round =>
  obtain ⟨kk, hkk, hg, rfl, BW, AA⟩ := hrel
  by_cases hlt : kk < l.length
  ·have hltz : (kk : Int) < (l.length : Int) := by omega
   have CW := Kd.C_below HR.out (BW.out)
   obtain ⟨ad, rfl, hcell0, hcell1⟩ := at_T56 CW (kk : Int) (by omega) hltz
   have hcall := HP.out wr kk BW.out hlt
   clear CW
   generalize rd_T56 l (kk : Int) = y at hcell0 hcell1 hcall
   rw [Int.toNat_natCast] at hcell0 hcell1
   have e1 : isDisk_ix q kk (l.length - kk) = if q kk = true then (kk : Int) else isDisk_ix q (kk + 1) (l.length - (kk + 1)) := by
    rw [show l.length - kk = (l.length - (kk + 1)) + 1 by omega]
    rfl
   have E1 := Aside0.mk e1
   clear e1
   have HC := Aside0.mk hcall
   clear hcall
   cases hq : q kk with
   | true =>
    have HQ := Aside0.mk hq
    clear hq
    go_wp2_with fail
    refine HC.out.mono ?_
    rw [HQ.out]
    clear HC
    rintro e w2 ⟨rfl, hb2⟩
    have HB2 := Aside0.mk hb2
    clear hb2
    go_wp2_with fail
    go_ret
    refine ⟨?_, HB2.out⟩
    rw [AA.out, E1.out, if_pos HQ.out]
    rfl
   | false =>
    have HQ := Aside0.mk hq
    clear hq
    go_wp2_with fail
    refine HC.out.mono ?_
    rw [HQ.out]
    clear HC
    rintro e w2 ⟨rfl, hb2⟩
    have HB2 := Aside0.mk hb2
    clear hb2
    go_wp2_with fail
    go_roundg (l.length - (kk + 1))
    case measure => omega
    case rel => exact ⟨kk + 1, by omega, by omega, by go_num, HB2.out, (show Aside _ from by rw [AA.out, E1.out, if_neg (by rw [HQ.out]; decide)]; exact rfl)⟩
  ·have hltz : ¬ (kk : Int) < (l.length : Int) := by omega
   have hkl : kk = l.length := by omega
   subst hkl
   go_wp2
   go_ret
   refine ⟨?_, BW.out⟩
   rw [AA.out, Nat.sub_self]
   rfl
set_option maxHeartbeats 8000000 in
set_option maxRecDepth 100000 in
theorem isDisk_cont (q : Nat → Bool) (l : List S56) (A : Option Addr) (c : Nat) (g : Nat) (lb : Array Value) (eg : ∀ args w, (callFunc g args).run Try.prog w = .ok (.enter g args) w) (w : World)
  (hr : Kd.C k56 w A l.length l)
  (hp : ∀ (W : World) (i : Nat), Below w.heap.size w W → i < l.length → Calls Try.prog g (#[.agg #[.string (rd_T56 l (i : Int)).f0, .int .i64 (rd_T56 l (i : Int)).f1]] ++ lb) W fun e w' => e = .returned (.bool (q i)) ∧ Below w.heap.size w w') :
  Calls Try.prog 95 #[.slice A l.length c, .func (.func g) #[] lb] w fun e w' => e = .returned (.bool (decide (0 ≤ isDisk_ix q 0 l.length))) ∧ Below w.heap.size w w' := by
 have HC := Aside0.mk (isDisk_idx q l A c g lb eg w hr hp)
 clear hr hp
 go_enter Try.func95, Try.ntmps95
 go_wp2_with fail
 refine HC.out.mono ?_
 clear HC
 rintro e w2 ⟨rfl, hb2⟩
 have HB2 := Aside0.mk hb2
 clear hb2
 go_wp2_with fail
 go_ret
 exact ⟨rfl, HB2.out⟩

theorem isDisk_in (a b c : Int) : impl_in.f a b c = some (decide (b ≤ a ∧ a ≤ c)) := by
 unfold impl_in.f
 by_cases h : a ≥ b
 ·rw [if_pos h]
  have e : (b ≤ a ∧ a ≤ c) ↔ a ≤ c := ⟨fun h => h.2, fun h' => ⟨h, h'⟩⟩
  simp only [e]
 ·rw [if_neg h, decide_eq_false]
  intro h'
  exact h h'.1
def impl_isDisk.q1 (s : ByteArray) (n : Int) : Bool := if (s.size : Int) > 400 then true else !(decide (0 ≤ n ∧ n ≤ (s.size : Int)))
def impl_isDisk.q (l : List S56) (i : Nat) : Bool := impl_isDisk.q1 (rd_T56 l (i : Int)).f0 (rd_T56 l (i : Int)).f1
set_option maxHeartbeats 8000000 in
set_option maxRecDepth 100000 in
theorem isDisk_lit (s : ByteArray) (n : Int) (w : World) : Calls Try.prog 96 #[.agg #[.string s, .int .i64 n]] w fun e w' => e = .returned (.bool (impl_isDisk.q1 s n)) ∧ Below w.heap.size w w' := by
 have hu_ := Try.underlying56
 have HI := Aside0.mk (isDisk_in n 0 (s.size : Int))
 by_cases h1 : (s.size : Int) > 400
 ·have HQ := Aside0.mk (show impl_isDisk.q1 s n = true from by unfold impl_isDisk.q1; rw [if_pos h1])
  have h1b : decide ((400 : Int) < (s.size : Int)) = true := decide_eq_true h1
  have h1c : decide (400 < s.size) = true := decide_eq_true (by omega)
  clear h1
  go_enter Try.func96, Try.ntmps96
  go_wp2_with fail
  go_ret
  exact ⟨by rw [HQ.out]; rfl, by repeat (first | exact Below.refl _ _ | apply below_alloc | apply pw_below_drewN)⟩
 ·have HQ := Aside0.mk (show impl_isDisk.q1 s n = !(decide (0 ≤ n ∧ n ≤ (s.size : Int))) from by unfold impl_isDisk.q1; rw [if_neg h1])
  have h1b : decide ((400 : Int) < (s.size : Int)) = false := decide_eq_false h1
  have h1c : decide (400 < s.size) = false := decide_eq_false (by omega)
  clear h1
  go_enter Try.func96, Try.ntmps96
  go_wp2_with fail
  refine (impl_in.calls _ _ _ _ _ HI.out).mono ?_
  clear HI
  rintro e w1 ⟨rfl, ⟨n1, rfl⟩⟩
  generalize decide (0 ≤ n ∧ n ≤ (s.size : Int)) = b at HQ
  go_wp2_with fail
  go_ret
  exact ⟨by rw [HQ.out]; rfl, by repeat (first | exact Below.refl _ _ | apply below_alloc | apply pw_below_drewN)⟩
def impl_isDisk.f (l0_0 : List S56) : Option (Bool) := (impl_in.f (l0_0.length : Int) 1 4).bind fun t => if t = true then some (!(decide (0 ≤ isDisk_ix (impl_isDisk.q l0_0) 0 l0_0.length))) else some false
set_option maxHeartbeats 8000000 in
set_option maxRecDepth 100000 in
theorem impl_isDisk.calls (A0_0 : Option Addr) (c0_0 : Nat) (l0_0 : List S56) (r : Bool) (w : World) (hr0_0 : Kd.C k56 w A0_0 l0_0.length l0_0) (_hc0_0 : l0_0.length ≤ c0_0) (h : impl_isDisk.f l0_0 = some r) :
  Calls Try.prog 79 #[.agg #[.slice A0_0 l0_0.length c0_0]] w fun e w' => e = .returned (.bool r) ∧ Below w.heap.size w w' := by
 have hu_ := Try.underlying31
 have HR := Aside0.mk hr0_0
 clear hr0_0
 unfold impl_isDisk.f at h
 obtain ⟨t, h1, h2⟩ := Option.bind_eq_some_iff.1 h
 have H1 := Aside0.mk h1
 clear h h1
 cases t with
 | true =>
  rw [if_pos rfl] at h2
  have H4 := Aside0.mk (Option.some.inj h2)
  clear h2
  go_enter Try.func79, Try.ntmps79
  go_wp2_with fail
  refine (impl_in.calls _ _ _ _ _ H1.out).mono ?_
  rintro e w1 ⟨rfl, ⟨n1, rfl⟩⟩
  go_wp2_with fail
  refine (isDisk_cont (impl_isDisk.q l0_0) l0_0 A0_0 c0_0 96 #[] (fun args w => by first | rfl | kernel_rfl) _ (Kd.C_below HR.out (by repeat (first | exact Below.refl _ _ | apply below_alloc | apply pw_below_drewN))) (fun W i hd hi => (isDisk_lit _ _ W).mono fun e w' he => ⟨he.1, hd.trans (he.2.mono hd.size)⟩)).mono ?_
  rintro e w2 ⟨rfl, hb⟩
  have HB := Aside0.mk hb
  clear hb
  go_wp2_with fail
  go_ret
  exact ⟨by rw [H4.out]; rfl, below_step (by repeat (first | exact Below.refl _ _ | apply below_alloc | apply pw_below_drewN)) HB.out⟩
 | false =>
  rw [if_neg (by decide)] at h2
  have H2 := Aside0.mk (Option.some.inj h2)
  clear h2
  go_enter Try.func79, Try.ntmps79
  go_wp2_with fail
  refine (impl_in.calls _ _ _ _ _ H1.out).mono ?_
  rintro e w1 ⟨rfl, ⟨n1, rfl⟩⟩
  go_wp2_with fail
  go_ret
  exact ⟨by rw [H2.out]; rfl, by repeat (first | exact Below.refl _ _ | apply below_alloc | apply pw_below_drewN)⟩



/-! ### impl_Disk_has: function 52 -/
def impl_Disk_has.f (l0_0 : List (S56)) (a1 : Int) : Option (Bool) := (impl_isDisk.f l0_0).bind fun t169 => (if t169 = true then ((impl_in.f a1 0 (wrap64 ((l0_0.length : Int) - 1))).bind fun t170 => (some t170)) else (some false))
set_option maxHeartbeats 8000000 in
set_option maxRecDepth 100000 in
theorem impl_Disk_has.calls (A0_0 : Option Addr) (c0_0 : Nat) (l0_0 : List (S56)) (a1 : Int) (r : Bool) (w : World) (hr0_0 : Kd.C k56 w A0_0 l0_0.length l0_0) (hc0_0 : l0_0.length ≤ c0_0) (h : impl_Disk_has.f l0_0 a1 = some r) :
  Calls Try.prog 52 #[.agg #[.slice A0_0 l0_0.length c0_0], .int .i64 a1] w fun e w' => e = .returned (.bool r) ∧ Below w.heap.size w w' := by
 have hu31 := Try.underlying31
 have HR0_0 := Aside0.mk hr0_0
 have HC0_0 := Aside0.mk hc0_0
 clear hr0_0 hc0_0
 have HB := Aside0.mk (Below.refl w.heap.size w)
 have H : ((impl_isDisk.f l0_0).bind fun t169 => (if t169 = true then ((impl_in.f a1 0 (wrap64 ((l0_0.length : Int) - 1))).bind fun t170 => (some t170)) else (some false))) = some r := h
 clear h
 replace H := bnd_ H
 obtain ⟨t169, A3, H⟩ := H
 replace H := ifb_ H
 obtain ⟨rfl, H⟩ | ⟨rfl, H⟩ := H
 rotate_left
 ·obtain rfl := Option.some.inj H
  go_enter Try.func52, Try.ntmps52
  go_wp2_with (first | ((with_reducible refine gate_dst (N := 2) rfl ?_); (try (refine gate_guard (by rfl) ?_; dsimp only)); refine bq_ (N := 2) #[.slice A0_0 l0_0.length c0_0] 31 ?_; intro gb168 hg w10 BK168 hb; have GE168 := ge_ hg; replace HB := nb_ hb; clear hb hg; obtain ⟨hcz11_0, hfz11_0⟩ := cf1_ BK168.out) | ((with_reducible refine gate_callee (f := 79) rfl ?_); refine gl_ 6 Try.func79 #[.agg #[.slice A0_0 l0_0.length c0_0]] rfl ma_ ?_; (with_reducible refine (impl_isDisk.calls _ _ l0_0 false _ ?side1 ?side2 A3.out).mono ?_); (case side1 => exact cs_ ((Kd.C_below HR0_0.out HB.out))); (case side2 => exact HC0_0.out); rintro e w12 ⟨rfl, hb⟩; refine ⟨_, rfl, ?_⟩; replace BK168 := bK_ BK168 hb; replace HB := nc_ GE168 hb; (try clear hb); (try clear hb2); (try clear hk); (try clear hi)))
  go_ret
  exact ⟨er_, hs_ GE168.out⟩
 replace H := bnd_ H
 obtain ⟨t170, A5, H⟩ := H
 obtain rfl := Option.some.inj H
 go_enter Try.func52, Try.ntmps52
 go_wp2_with (first | ((with_reducible refine gate_dst (N := 2) rfl ?_); (try (refine gate_guard (by rfl) ?_; dsimp only)); refine bq_ (N := 2) #[.slice A0_0 l0_0.length c0_0] 31 ?_; intro gb168 hg w6 BK168 hb; have GE168 := ge_ hg; replace HB := nb_ hb; clear hb hg; obtain ⟨hcz7_0, hfz7_0⟩ := cf1_ BK168.out) | ((with_reducible refine gate_callee (f := 79) rfl ?_); refine gl_ 6 Try.func79 #[.agg #[.slice A0_0 l0_0.length c0_0]] rfl ma_ ?_; (with_reducible refine (impl_isDisk.calls _ _ l0_0 true _ ?side1 ?side2 A3.out).mono ?_); (case side1 => exact cs_ ((Kd.C_below HR0_0.out HB.out))); (case side2 => exact HC0_0.out); rintro e w8 ⟨rfl, hb⟩; refine ⟨_, rfl, ?_⟩; replace BK168 := bK_ BK168 hb; replace HB := nc_ GE168 hb; (try clear hb); (try clear hb2); (try clear hk); (try clear hi); obtain ⟨hcz9_0, hfz9_0⟩ := cf1_ BK168.out) | (go_at_call 77; (with_reducible refine (impl_in.calls a1 0 (wrap64 ((l0_0.length : Int) - 1)) t170 _ A5.out).mono ?_); rintro e w' ⟨rfl, ⟨nd, rfl⟩⟩))
 go_ret
 exact ⟨er_, hs_ GE168.out⟩

/-! ### impl_Batch_end: function 91 -/
def impl_Batch_end.f (a0_0 : Int) (a0_1 : Int) (a0_2 : Int) (a0_3 : Int) (l0_4 : List ByteArray) : Option (Int) := some (wrap64 (a0_0 + (l0_4.length : Int)))
set_option maxHeartbeats 8000000 in
set_option maxRecDepth 100000 in
theorem impl_Batch_end.calls (a0_0 : Int) (a0_1 : Int) (a0_2 : Int) (a0_3 : Int) (A0_4 : Option Addr) (c0_4 : Nat) (l0_4 : List ByteArray) (r : Int) (w : World) (hr0_4 : Kd.C Kd.string w A0_4 l0_4.length l0_4) (hc0_4 : l0_4.length ≤ c0_4) (h : impl_Batch_end.f a0_0 a0_1 a0_2 a0_3 l0_4 = some r) :
  Calls Try.prog 91 #[.agg #[.int .i64 a0_0, .int .i64 a0_1, .int .i64 a0_2, .int .i64 a0_3, .slice A0_4 l0_4.length c0_4]] w fun e w' => e = .returned (.int .i64 r) ∧ Below w.heap.size w w' := by
 have hu44 := Try.underlying44
 have HR0_4 := Aside0.mk hr0_4
 have HC0_4 := Aside0.mk hc0_4
 clear hr0_4 hc0_4
 have HB := Aside0.mk (Below.refl w.heap.size w)
 have H : (some (wrap64 (a0_0 + (l0_4.length : Int)))) = some r := h
 clear h
 obtain rfl := Option.some.inj H
 go_enter Try.func91, Try.ntmps91
 go_wp2_with (first | ((with_reducible refine gate_dst (N := 1) rfl ?_); refine bq_ (N := 1) #[.int .i64 a0_0, .int .i64 a0_1, .int .i64 a0_2, .int .i64 a0_3, .slice A0_4 l0_4.length c0_4] 44 ?_; intro gb171 hg w2 BK171 hb; have GE171 := ge_ hg; replace HB := nb_ hb; clear hb hg; obtain ⟨hcz3_0, hcz3_1, hcz3_2, hcz3_3, hcz3_4, hfz3_0, hfz3_1, hfz3_2, hfz3_3, hfz3_4⟩ := cf5_ BK171.out))
 go_ret
 exact ⟨er_, hs_ GE171.out⟩

/-! ### impl_follows: function 65 -/
def impl_follows.f (l0 : List (S44)) (a1_0 : Int) (a1_1 : Int) (a1_2 : Int) (a1_3 : Int) (l1_4 : List ByteArray) : Option (Bool) := if (l0.length : Int) = 0 then (some true) else (if 0 ≤ (wrap64 ((l0.length : Int) - 1)) then (if (wrap64 ((l0.length : Int) - 1)) < (l0.length : Int) then ((impl_Batch_end.f ((rd_T44 l0 (wrap64 ((l0.length : Int) - 1))).f0) ((rd_T44 l0 (wrap64 ((l0.length : Int) - 1))).f1) ((rd_T44 l0 (wrap64 ((l0.length : Int) - 1))).f2) ((rd_T44 l0 (wrap64 ((l0.length : Int) - 1))).f3) ((rd_T44 l0 (wrap64 ((l0.length : Int) - 1))).f4)).bind fun t175 => (if a1_0 = t175 then (some (decide (a1_1 ≥ ((rd_T44 l0 (wrap64 ((l0.length : Int) - 1))).f1)))) else (some false))) else (none)) else (none))
def impl_follows.T4 : Bool × List (List Nat × List Nat) := (true, [([], []), ([0], [0]), ([], []), ([2], [2]), ([1, 3], [1, 3]), ([4, 3], [4]), ([5], [5]), ([6, 5], [5, 6]), ([5], [5]), ([8, 5], [5, 8]), ([7, 9, 5], [5, 7, 9]), ([5, 10], [5, 10]), ([11, 5, 0, 1, 2, 3, 4, 5, 6, 7, 8, 9, 10, 11], [11])])
def impl_follows.B4 : List Nat := [0, 1, 0, 4, 15, 31, 63, 127, 63, 319, 1023, 2047, 4095]
theorem impl_follows.tab4 : rtab .any (opsOf Try.f65 4) = impl_follows.T4 := by kernel_rfl
theorem impl_follows.bits4 : waitsOk impl_follows.T4.2 impl_follows.B4 = true := by kernel_rfl
set_option maxHeartbeats 8000000 in
set_option maxRecDepth 100000 in
theorem impl_follows.calls (A0 : Option Addr) (c0 : Nat) (l0 : List (S44)) (a1_0 : Int) (a1_1 : Int) (a1_2 : Int) (a1_3 : Int) (A1_4 : Option Addr) (c1_4 : Nat) (l1_4 : List ByteArray) (r : Bool) (w : World) (hr0 : Kd.C k44 w A0 l0.length l0) (hc0 : l0.length ≤ c0) (hr1_4 : Kd.C Kd.string w A1_4 l1_4.length l1_4) (hc1_4 : l1_4.length ≤ c1_4) (h : impl_follows.f l0 a1_0 a1_1 a1_2 a1_3 l1_4 = some r) :
  Calls Try.prog 65 #[.slice A0 l0.length c0, .agg #[.int .i64 a1_0, .int .i64 a1_1, .int .i64 a1_2, .int .i64 a1_3, .slice A1_4 l1_4.length c1_4]] w fun e w' => e = .returned (.bool r) ∧ Below w.heap.size w w' := by
 have hu44 := Try.underlying44
 have HR0 := Aside0.mk hr0
 have HC0 := Aside0.mk hc0
 clear hr0 hc0
 have HR1_4 := Aside0.mk hr1_4
 have HC1_4 := Aside0.mk hc1_4
 clear hr1_4 hc1_4
 have HB := Aside0.mk (Below.refl w.heap.size w)
 have H : (if (l0.length : Int) = 0 then (some true) else (if 0 ≤ (wrap64 ((l0.length : Int) - 1)) then (if (wrap64 ((l0.length : Int) - 1)) < (l0.length : Int) then ((impl_Batch_end.f ((rd_T44 l0 (wrap64 ((l0.length : Int) - 1))).f0) ((rd_T44 l0 (wrap64 ((l0.length : Int) - 1))).f1) ((rd_T44 l0 (wrap64 ((l0.length : Int) - 1))).f2) ((rd_T44 l0 (wrap64 ((l0.length : Int) - 1))).f3) ((rd_T44 l0 (wrap64 ((l0.length : Int) - 1))).f4)).bind fun t175 => (if a1_0 = t175 then (some (decide (a1_1 ≥ ((rd_T44 l0 (wrap64 ((l0.length : Int) - 1))).f1)))) else (some false))) else (none)) else (none))) = some r := h
 clear h
 replace H := ite_ H
 obtain ⟨c3, H⟩ | ⟨c3, H⟩ := H
 ·have c3b0 : ((l0.length : Int) == 0) = true := beq_iff_eq.mpr c3
  have c3b1 : ((l0.length : Int) != 0) = false := bne_eq_false_iff_eq.mpr c3
  clear c3
  obtain rfl := Option.some.inj H
  go_enter Try.func65, Try.ntmps65
  go_wp2_with (first | ((with_reducible refine gate_dst (N := 3) rfl ?_); refine bq_ (N := 3) #[.int .i64 a1_0, .int .i64 a1_1, .int .i64 a1_2, .int .i64 a1_3, .slice A1_4 l1_4.length c1_4] 44 ?_; intro gb172 hg w4 BK172 hb; have GE172 := ge_ hg; replace HB := nb_ hb; clear hb hg))
  go_ret
  exact ⟨er_, hs_ GE172.out⟩
 have c3b0 : ((l0.length : Int) == 0) = false := beq_eq_false_iff_ne.mpr c3
 have c3b1 : ((l0.length : Int) != 0) = true := bne_iff_ne.mpr c3
 have c3b2 : ¬ (l0 = []) := fun h_ => c3 (by rw [h_]; rfl)
 obtain ⟨ji5, hji5⟩ : ∃ j_ : Int, (wrap64 ((l0.length : Int) - 1)) = j_ := ⟨_, rfl⟩
 first | rw [hji5] at H | simp only [hji5] at H
 have hji5w : (IntKind.i64.wrap ((l0.length : Int) - 1)) = ji5 := (i64_w _).trans hji5
 replace H := ifs_ H
 obtain ⟨c6, H⟩ := H
 have c6b0 := decide_eq_true c6
 clear c6
 replace H := ifs_ H
 obtain ⟨c7, H⟩ := H
 have c7b0 := decide_eq_true c7
 clear c7
 replace H := bnd_ H
 obtain ⟨t175, A8, H⟩ := H
 replace H := ite_ H
 obtain ⟨c9, H⟩ | ⟨c9, H⟩ := H
 ·have c9b0 : (a1_0 == t175) = true := beq_iff_eq.mpr c9
  have c9b1 : (a1_0 != t175) = false := bne_eq_false_iff_eq.mpr c9
  clear c9
  obtain rfl := Option.some.inj H
  go_enter Try.func65, Try.ntmps65
  try go_wp2_with (first | ((with_reducible refine gate_dst (N := 3) rfl ?_); refine bq_ (N := 3) #[.int .i64 a1_0, .int .i64 a1_1, .int .i64 a1_2, .int .i64 a1_3, .slice A1_4 l1_4.length c1_4] 44 ?_; intro gb172 hg w10 BK172 hb; have GE172 := ge_ hg; replace HB := nb_ hb; clear hb hg; have p173 : 0 ≤ ((ji5) : Int) := oa_; have q173 : (ji5) < (l0.length : Int) := oa_; obtain ⟨ad173, A173_4, c173_4, e173, hx173_0, hx173_1, hx173_2, hx173_3, hx173_4, hl173_4, hi173_4⟩ := at_T44 HR0.out (ji5) p173 q173; cases e173; replace hx173_0 := pc_ HB.out hx173_0; replace hx173_1 := pc_ HB.out hx173_1; replace hx173_2 := pc_ HB.out hx173_2; replace hx173_3 := pc_ HB.out hx173_3; replace hx173_4 := pc_ HB.out hx173_4; have HR173_4 := Aside0.mk hi173_4; have HC173_4 := Aside0.mk hl173_4; clear hi173_4 hl173_4; replace p173 := eq_true p173; replace q173 := eq_true q173) | ((with_reducible refine gate_dst (N := 5) rfl ?_); refine bq_ (N := 5) #[.int .i64 0, .int .i64 0, .int .i64 0, .int .i64 0, .slice none 0 0] 44 ?_; intro gb174 hg w11 BK174 hb; have GE174 := ge1_ hg GE172; replace HB := nc_ GE172 hb; have NB172_174 := nl_ BK172 hg; have NB174_172 := ng_ BK172 hg; replace BK172 := bK_ BK172 hb; clear hb hg; have hnb12 := NB174_172.out; have hnc12 := NB172_174.out; obtain ⟨hcz13_0, hcz13_1, hcz13_2, hcz13_3, hcz13_4, hfz13_0, hfz13_1, hfz13_2, hfz13_3, hfz13_4⟩ := cf5_ BK174.out))
  have n0_ : Aside0 ((((((w11.setCell ⟨gb174, 0, none⟩ (.int .i64 ((rd_T44 l0 (ji5)).f0))).setCell ⟨gb174, 1, none⟩ (.int .i64 ((rd_T44 l0 (ji5)).f1))).setCell ⟨gb174, 2, none⟩ (.int .i64 ((rd_T44 l0 (ji5)).f2))).setCell ⟨gb174, 3, none⟩ (.int .i64 ((rd_T44 l0 (ji5)).f3))).setCell ⟨gb174, 4, none⟩ (.slice A173_4 ((rd_T44 l0 (ji5)).f4).length c173_4)).heap[gb172]? = some (.cells #[.int .i64 a1_0, .int .i64 a1_1, .int .i64 a1_2, .int .i64 a1_3, .slice A1_4 l1_4.length c1_4] 44 (0, 0))) := ⟨uf_ BK172 NB172_174.out⟩
  have n1_ : Aside0 ((((((w11.setCell ⟨gb174, 0, none⟩ (.int .i64 ((rd_T44 l0 (ji5)).f0))).setCell ⟨gb174, 1, none⟩ (.int .i64 ((rd_T44 l0 (ji5)).f1))).setCell ⟨gb174, 2, none⟩ (.int .i64 ((rd_T44 l0 (ji5)).f2))).setCell ⟨gb174, 3, none⟩ (.int .i64 ((rd_T44 l0 (ji5)).f3))).setCell ⟨gb174, 4, none⟩ (.slice A173_4 ((rd_T44 l0 (ji5)).f4).length c173_4)).heap[gb174]? = some (.cells #[.int .i64 ((rd_T44 l0 (ji5)).f0), .int .i64 ((rd_T44 l0 (ji5)).f1), .int .i64 ((rd_T44 l0 (ji5)).f2), .int .i64 ((rd_T44 l0 (ji5)).f3), .slice A173_4 ((rd_T44 l0 (ji5)).f4).length c173_4] 44 (0, 0))) := ⟨up_ BK174⟩
  have n2_ : Aside0 (Below w.heap.size w (((((w11.setCell ⟨gb174, 0, none⟩ (.int .i64 ((rd_T44 l0 (ji5)).f0))).setCell ⟨gb174, 1, none⟩ (.int .i64 ((rd_T44 l0 (ji5)).f1))).setCell ⟨gb174, 2, none⟩ (.int .i64 ((rd_T44 l0 (ji5)).f2))).setCell ⟨gb174, 3, none⟩ (.int .i64 ((rd_T44 l0 (ji5)).f3))).setCell ⟨gb174, 4, none⟩ (.slice A173_4 ((rd_T44 l0 (ji5)).f4).length c173_4))) := ⟨hs2_ GE172.out GE174.out⟩
  (try clear BK172)
  (try clear BK174)
  (try clear HB)
  generalize (((((w11.setCell ⟨gb174, 0, none⟩ (.int .i64 ((rd_T44 l0 (ji5)).f0))).setCell ⟨gb174, 1, none⟩ (.int .i64 ((rd_T44 l0 (ji5)).f1))).setCell ⟨gb174, 2, none⟩ (.int .i64 ((rd_T44 l0 (ji5)).f2))).setCell ⟨gb174, 3, none⟩ (.int .i64 ((rd_T44 l0 (ji5)).f3))).setCell ⟨gb174, 4, none⟩ (.slice A173_4 ((rd_T44 l0 (ji5)).f4).length c173_4)) = w14 at n0_ n1_ n2_ ⊢
  have BK172 := n0_
  have BK174 := n1_
  have HB := n2_
  clear n0_ n1_ n2_
  replace BK172 := qK_ BK172
  replace BK174 := qK_ BK174
  replace HB := qH_ HB
  refine start_ (n := 13) (S := fun w' => w'.cell? ⟨gb172, 0, none⟩ = some (.int .i64 a1_0) ∧ w'.cell? ⟨gb172, 1, none⟩ = some (.int .i64 a1_1) ∧ w'.cell? ⟨gb172, 2, none⟩ = some (.int .i64 a1_2) ∧ w'.cell? ⟨gb172, 3, none⟩ = some (.int .i64 a1_3) ∧ w'.cell? ⟨gb172, 4, none⟩ = some (.slice A1_4 l1_4.length c1_4) ∧ w'.cell? ⟨gb174, 0, none⟩ = some (.int .i64 ((rd_T44 l0 (ji5)).f0)) ∧ w'.cell? ⟨gb174, 1, none⟩ = some (.int .i64 ((rd_T44 l0 (ji5)).f1)) ∧ w'.cell? ⟨gb174, 2, none⟩ = some (.int .i64 ((rd_T44 l0 (ji5)).f2)) ∧ w'.cell? ⟨gb174, 3, none⟩ = some (.int .i64 ((rd_T44 l0 (ji5)).f3)) ∧ w'.cell? ⟨gb174, 4, none⟩ = some (.slice A173_4 ((rd_T44 l0 (ji5)).f4).length c173_4)) (ds := []) (List.replicate 13 false).toArray (by kernel_rfl) rfl rfl ⟨bt_ BK172 0, bt_ BK172 1, bt_ BK172 2, bt_ BK172 3, bt_ BK172 4, bt_ BK174 0, bt_ BK174 1, bt_ BK174 2, bt_ BK174 3, bt_ BK174 4⟩ (fun hHeld => ?_); refine with_tabW impl_follows.tab4 impl_follows.bits4 (fun HT_ HW_ => ?_)
  generalize w14.drew = w15 at BK172 BK174 HB hHeld ⊢
  refine pv_ 0 15 ?_
  refine tk_ 1 16 ?_
  refine tk_ 2 17 ?_
  refine on_ 3 18 (fun K hK => ?_)
  refine gs_ Try.func91 #[.agg #[.int .i64 ((rd_T44 l0 (ji5)).f0), .int .i64 ((rd_T44 l0 (ji5)).f1), .int .i64 ((rd_T44 l0 (ji5)).f2), .int .i64 ((rd_T44 l0 (ji5)).f3), .slice A173_4 ((rd_T44 l0 (ji5)).f4).length c173_4]] rfl (mb_ hji5) ?_
  with_reducible refine (impl_Batch_end.calls ((rd_T44 l0 (ji5)).f0) ((rd_T44 l0 (ji5)).f1) ((rd_T44 l0 (ji5)).f2) ((rd_T44 l0 (ji5)).f3) _ _ ((rd_T44 l0 (ji5)).f4) t175 _ ?side1 ?side2 A8.out).mono ?_
  (case side1 => exact cs_ ((Kd.C_below HR173_4.out HB.out)))
  (case side2 => exact HC173_4.out)
  rintro e w16 ⟨rfl, hb⟩
  refine ⟨_, rfl, ?_⟩
  replace BK172 := bK_ BK172 hb
  replace BK174 := bK_ BK174 hb
  replace HB := nc2_ GE172 GE174 hb
  (try clear hb)
  (try clear hb2)
  (try clear hk)
  (try clear hi)
  refine hK.out _ _ ⟨bt_ BK172 0, bt_ BK172 1, bt_ BK172 2, bt_ BK172 3, bt_ BK172 4, bt_ BK174 0, bt_ BK174 1, bt_ BK174 2, bt_ BK174 3, bt_ BK174 4⟩ (fun hHeld => ?_)
  clear hK K
  refine no_ ?_
  refine pv_ 4 19 ?_
  refine pv_ 5 20 ?_
  refine pv_ 6 21 ?_
  refine pv_ 8 23 ?_
  refine tk_ 7 22 ?_
  refine tk_ 9 24 ?_
  refine pv_ 10 25 ?_
  refine pv_ 11 26 ?_
  refine pv_ 12 4 ?_
  refine done_ (done_of HT_.out (by kernel_rfl)) ?_
  try go_wp2
  go_ret
  exact ⟨by first | rfl | (simp [errW_none, errW_some] <;> rfl) | (simp only [← hji5]; first | rfl | (simp [errW_none, errW_some] <;> rfl)) | (simp [*, errW_none, errW_some] <;> rfl), hs2_ GE172.out GE174.out⟩
 have c9b0 : (a1_0 == t175) = false := beq_eq_false_iff_ne.mpr c9
 have c9b1 : (a1_0 != t175) = true := bne_iff_ne.mpr c9
 obtain rfl := Option.some.inj H
 go_enter Try.func65, Try.ntmps65
 try go_wp2_with (first | ((with_reducible refine gate_dst (N := 3) rfl ?_); refine bq_ (N := 3) #[.int .i64 a1_0, .int .i64 a1_1, .int .i64 a1_2, .int .i64 a1_3, .slice A1_4 l1_4.length c1_4] 44 ?_; intro gb172 hg w17 BK172 hb; have GE172 := ge_ hg; replace HB := nb_ hb; clear hb hg; have p173 : 0 ≤ ((ji5) : Int) := oa_; have q173 : (ji5) < (l0.length : Int) := oa_; obtain ⟨ad173, A173_4, c173_4, e173, hx173_0, hx173_1, hx173_2, hx173_3, hx173_4, hl173_4, hi173_4⟩ := at_T44 HR0.out (ji5) p173 q173; cases e173; replace hx173_0 := pc_ HB.out hx173_0; replace hx173_1 := pc_ HB.out hx173_1; replace hx173_2 := pc_ HB.out hx173_2; replace hx173_3 := pc_ HB.out hx173_3; replace hx173_4 := pc_ HB.out hx173_4; have HR173_4 := Aside0.mk hi173_4; have HC173_4 := Aside0.mk hl173_4; clear hi173_4 hl173_4; replace p173 := eq_true p173; replace q173 := eq_true q173) | ((with_reducible refine gate_dst (N := 5) rfl ?_); refine bq_ (N := 5) #[.int .i64 0, .int .i64 0, .int .i64 0, .int .i64 0, .slice none 0 0] 44 ?_; intro gb174 hg w18 BK174 hb; have GE174 := ge1_ hg GE172; replace HB := nc_ GE172 hb; have NB172_174 := nl_ BK172 hg; have NB174_172 := ng_ BK172 hg; replace BK172 := bK_ BK172 hb; clear hb hg; have hnb19 := NB174_172.out; have hnc19 := NB172_174.out; obtain ⟨hcz20_0, hcz20_1, hcz20_2, hcz20_3, hcz20_4, hfz20_0, hfz20_1, hfz20_2, hfz20_3, hfz20_4⟩ := cf5_ BK174.out))
 have n0_ : Aside0 ((((((w18.setCell ⟨gb174, 0, none⟩ (.int .i64 ((rd_T44 l0 (ji5)).f0))).setCell ⟨gb174, 1, none⟩ (.int .i64 ((rd_T44 l0 (ji5)).f1))).setCell ⟨gb174, 2, none⟩ (.int .i64 ((rd_T44 l0 (ji5)).f2))).setCell ⟨gb174, 3, none⟩ (.int .i64 ((rd_T44 l0 (ji5)).f3))).setCell ⟨gb174, 4, none⟩ (.slice A173_4 ((rd_T44 l0 (ji5)).f4).length c173_4)).heap[gb172]? = some (.cells #[.int .i64 a1_0, .int .i64 a1_1, .int .i64 a1_2, .int .i64 a1_3, .slice A1_4 l1_4.length c1_4] 44 (0, 0))) := ⟨uf_ BK172 NB172_174.out⟩
 have n1_ : Aside0 ((((((w18.setCell ⟨gb174, 0, none⟩ (.int .i64 ((rd_T44 l0 (ji5)).f0))).setCell ⟨gb174, 1, none⟩ (.int .i64 ((rd_T44 l0 (ji5)).f1))).setCell ⟨gb174, 2, none⟩ (.int .i64 ((rd_T44 l0 (ji5)).f2))).setCell ⟨gb174, 3, none⟩ (.int .i64 ((rd_T44 l0 (ji5)).f3))).setCell ⟨gb174, 4, none⟩ (.slice A173_4 ((rd_T44 l0 (ji5)).f4).length c173_4)).heap[gb174]? = some (.cells #[.int .i64 ((rd_T44 l0 (ji5)).f0), .int .i64 ((rd_T44 l0 (ji5)).f1), .int .i64 ((rd_T44 l0 (ji5)).f2), .int .i64 ((rd_T44 l0 (ji5)).f3), .slice A173_4 ((rd_T44 l0 (ji5)).f4).length c173_4] 44 (0, 0))) := ⟨up_ BK174⟩
 have n2_ : Aside0 (Below w.heap.size w (((((w18.setCell ⟨gb174, 0, none⟩ (.int .i64 ((rd_T44 l0 (ji5)).f0))).setCell ⟨gb174, 1, none⟩ (.int .i64 ((rd_T44 l0 (ji5)).f1))).setCell ⟨gb174, 2, none⟩ (.int .i64 ((rd_T44 l0 (ji5)).f2))).setCell ⟨gb174, 3, none⟩ (.int .i64 ((rd_T44 l0 (ji5)).f3))).setCell ⟨gb174, 4, none⟩ (.slice A173_4 ((rd_T44 l0 (ji5)).f4).length c173_4))) := ⟨hs2_ GE172.out GE174.out⟩
 (try clear BK172)
 (try clear BK174)
 (try clear HB)
 generalize (((((w18.setCell ⟨gb174, 0, none⟩ (.int .i64 ((rd_T44 l0 (ji5)).f0))).setCell ⟨gb174, 1, none⟩ (.int .i64 ((rd_T44 l0 (ji5)).f1))).setCell ⟨gb174, 2, none⟩ (.int .i64 ((rd_T44 l0 (ji5)).f2))).setCell ⟨gb174, 3, none⟩ (.int .i64 ((rd_T44 l0 (ji5)).f3))).setCell ⟨gb174, 4, none⟩ (.slice A173_4 ((rd_T44 l0 (ji5)).f4).length c173_4)) = w21 at n0_ n1_ n2_ ⊢
 have BK172 := n0_
 have BK174 := n1_
 have HB := n2_
 clear n0_ n1_ n2_
 replace BK172 := qK_ BK172
 replace BK174 := qK_ BK174
 replace HB := qH_ HB
 refine start_ (n := 13) (S := fun w' => w'.cell? ⟨gb172, 0, none⟩ = some (.int .i64 a1_0) ∧ w'.cell? ⟨gb172, 1, none⟩ = some (.int .i64 a1_1) ∧ w'.cell? ⟨gb172, 2, none⟩ = some (.int .i64 a1_2) ∧ w'.cell? ⟨gb172, 3, none⟩ = some (.int .i64 a1_3) ∧ w'.cell? ⟨gb172, 4, none⟩ = some (.slice A1_4 l1_4.length c1_4) ∧ w'.cell? ⟨gb174, 0, none⟩ = some (.int .i64 ((rd_T44 l0 (ji5)).f0)) ∧ w'.cell? ⟨gb174, 1, none⟩ = some (.int .i64 ((rd_T44 l0 (ji5)).f1)) ∧ w'.cell? ⟨gb174, 2, none⟩ = some (.int .i64 ((rd_T44 l0 (ji5)).f2)) ∧ w'.cell? ⟨gb174, 3, none⟩ = some (.int .i64 ((rd_T44 l0 (ji5)).f3)) ∧ w'.cell? ⟨gb174, 4, none⟩ = some (.slice A173_4 ((rd_T44 l0 (ji5)).f4).length c173_4)) (ds := []) (List.replicate 13 false).toArray (by kernel_rfl) rfl rfl ⟨bt_ BK172 0, bt_ BK172 1, bt_ BK172 2, bt_ BK172 3, bt_ BK172 4, bt_ BK174 0, bt_ BK174 1, bt_ BK174 2, bt_ BK174 3, bt_ BK174 4⟩ (fun hHeld => ?_); refine with_tabW impl_follows.tab4 impl_follows.bits4 (fun HT_ HW_ => ?_)
 generalize w21.drew = w22 at BK172 BK174 HB hHeld ⊢
 refine pv_ 0 15 ?_
 refine tk_ 1 16 ?_
 refine tk_ 2 17 ?_
 refine on_ 3 18 (fun K hK => ?_)
 refine gs_ Try.func91 #[.agg #[.int .i64 ((rd_T44 l0 (ji5)).f0), .int .i64 ((rd_T44 l0 (ji5)).f1), .int .i64 ((rd_T44 l0 (ji5)).f2), .int .i64 ((rd_T44 l0 (ji5)).f3), .slice A173_4 ((rd_T44 l0 (ji5)).f4).length c173_4]] rfl (mb_ hji5) ?_
 with_reducible refine (impl_Batch_end.calls ((rd_T44 l0 (ji5)).f0) ((rd_T44 l0 (ji5)).f1) ((rd_T44 l0 (ji5)).f2) ((rd_T44 l0 (ji5)).f3) _ _ ((rd_T44 l0 (ji5)).f4) t175 _ ?side1 ?side2 A8.out).mono ?_
 (case side1 => exact cs_ ((Kd.C_below HR173_4.out HB.out)))
 (case side2 => exact HC173_4.out)
 rintro e w23 ⟨rfl, hb⟩
 refine ⟨_, rfl, ?_⟩
 replace BK172 := bK_ BK172 hb
 replace BK174 := bK_ BK174 hb
 replace HB := nc2_ GE172 GE174 hb
 (try clear hb)
 (try clear hb2)
 (try clear hk)
 (try clear hi)
 refine hK.out _ _ ⟨bt_ BK172 0, bt_ BK172 1, bt_ BK172 2, bt_ BK172 3, bt_ BK172 4, bt_ BK174 0, bt_ BK174 1, bt_ BK174 2, bt_ BK174 3, bt_ BK174 4⟩ (fun hHeld => ?_)
 clear hK K
 refine no_ ?_
 refine pv_ 4 19 ?_
 refine pv_ 5 20 ?_
 refine po_ 6 21 ?_
 refine po_ 7 22 ?_
 refine po_ 8 23 ?_
 refine po_ 9 24 ?_
 refine po_ 10 25 ?_
 refine pv_ 11 26 ?_
 refine pv_ 12 4 ?_
 refine done_ (done_of HT_.out (by kernel_rfl)) ?_
 try go_wp2
 go_ret
 exact ⟨by first | rfl | (simp [errW_none, errW_some] <;> rfl) | (simp only [← hji5]; first | rfl | (simp [errW_none, errW_some] <;> rfl)) | (simp [*, errW_none, errW_some] <;> rfl), hs2_ GE172.out GE174.out⟩

-- NOT PRINTED: function 104 (slices_IndexFunc_string)

-- NOT PRINTED: function 100 (slices_ContainsFunc_string)

/-! ### impl_areRecords: function 88 -/
/-- The first place, from i on, of d places, where q holds. -/
def ixS (q : Nat → Bool) : Nat → Nat → Int
 | _, 0 => -1
 | i, d + 1 => if q i = true then (i : Int) else ixS q (i + 1) d
theorem areRecords_lit (s : ByteArray) (w : World) : Calls Try.prog 101 #[.string s] w fun e w' => e = .returned (.bool (decide ((20 : Int) < (s.size : Int)))) ∧ w = w' := by
 go_enter Try.func101, Try.ntmps101
 go_wp2
 go_ret
 exact ⟨rfl, rfl⟩
set_option maxHeartbeats 8000000 in
set_option maxRecDepth 100000 in
theorem areRecords_idx (q : Nat → Bool) (l : List ByteArray) (A : Option Addr) (c : Nat) (g : Nat) (lb : Array Value) (eg : ∀ args w, (callFunc g args).run Try.prog w = .ok (.enter g args) w) (w : World)
  (hr : Kd.C Kd.string w A l.length l)
  (hp : ∀ (W : World) (i : Nat), Drawn0 w W → i < l.length → Calls Try.prog g (#[.string (rdOf ByteArray.empty l (i : Int))] ++ lb) W fun e w' => e = .returned (.bool (q i)) ∧ Drawn0 w w') :
  Calls Try.prog 104 #[.slice A l.length c, .func (.func g) #[] lb] w fun e w' => e = .returned (.int .i64 (ixS q 0 l.length)) ∧ Drawn0 w w' := by
 have hbig : l.length ≤ 9223372036854775807 := hr.2.1
 have HR := Aside0.mk hr
 have HP := Aside0.mk hp
 clear hr hp
 go_enter Try.func104, Try.ntmps104
 go_wp2
 go_loopg [5, 8] l.length (fun gg _ s8 wr => ∃ kk : Nat, kk ≤ l.length ∧ l.length - kk ≤ gg ∧ s8 = .int .i64 kk ∧ Aside (Drawn0 w wr) ∧ Aside (ixS q 0 l.length = ixS q kk (l.length - kk)))
 case atStart => exact ⟨0, Nat.zero_le _, by omega, rfl, Drawn0.refl w, rfl⟩
 case round =>
  obtain ⟨kk, hkk, hg, rfl, BW, AA⟩ := hrel
  by_cases hlt : kk < l.length
  ·have hltz : (kk : Int) < (l.length : Int) := by omega
   obtain ⟨ad, rfl, hcell⟩ := Kd.at_string (Kd.C_below HR.out BW.out.below) (kk : Int) (by omega) hltz
   have hcall := HP.out wr kk BW.out hlt
   generalize rdOf ByteArray.empty l (kk : Int) = y at hcell hcall
   rw [Int.toNat_natCast] at hcell
   have e1 : ixS q kk (l.length - kk) = if q kk = true then (kk : Int) else ixS q (kk + 1) (l.length - (kk + 1)) := by
    rw [show l.length - kk = (l.length - (kk + 1)) + 1 by omega]
    rfl
   have E1 := Aside0.mk e1
   clear e1
   have HC := Aside0.mk hcall
   clear hcall
   cases hq : q kk with
   | true =>
    have HQ := Aside0.mk hq
    clear hq
    go_wp2_with fail
    refine HC.out.mono ?_
    rw [HQ.out]
    clear HC
    rintro e w2 ⟨rfl, hb2⟩
    have HB2 := Aside0.mk hb2
    clear hb2
    go_wp2_with fail
    go_ret
    refine ⟨?_, HB2.out⟩
    rw [AA.out, E1.out, if_pos HQ.out]
    rfl
   | false =>
    have HQ := Aside0.mk hq
    clear hq
    go_wp2_with fail
    refine HC.out.mono ?_
    rw [HQ.out]
    clear HC
    rintro e w2 ⟨rfl, hb2⟩
    have HB2 := Aside0.mk hb2
    clear hb2
    go_wp2_with fail
    go_roundg (l.length - (kk + 1))
    case measure => omega
    case rel => exact ⟨kk + 1, by omega, by omega, by go_num, HB2.out, (show Aside _ from by rw [AA.out, E1.out, if_neg (by rw [HQ.out]; decide)]; exact rfl)⟩
  ·have hltz : ¬ (kk : Int) < (l.length : Int) := by omega
   have hkl : kk = l.length := by omega
   subst hkl
   go_wp2
   go_ret
   refine ⟨?_, BW.out⟩
   rw [AA.out, Nat.sub_self]
   rfl
set_option maxHeartbeats 8000000 in
set_option maxRecDepth 100000 in
theorem areRecords_cont (q : Nat → Bool) (l : List ByteArray) (A : Option Addr) (c : Nat) (g : Nat) (lb : Array Value) (eg : ∀ args w, (callFunc g args).run Try.prog w = .ok (.enter g args) w) (w : World)
  (hr : Kd.C Kd.string w A l.length l)
  (hp : ∀ (W : World) (i : Nat), Drawn0 w W → i < l.length → Calls Try.prog g (#[.string (rdOf ByteArray.empty l (i : Int))] ++ lb) W fun e w' => e = .returned (.bool (q i)) ∧ Drawn0 w w') :
  Calls Try.prog 100 #[.slice A l.length c, .func (.func g) #[] lb] w fun e w' => e = .returned (.bool (decide (0 ≤ ixS q 0 l.length))) ∧ Drawn0 w w' := by
 have HC := Aside0.mk (areRecords_idx q l A c g lb eg w hr hp)
 clear hr hp
 go_enter Try.func100, Try.ntmps100
 go_wp2_with fail
 refine HC.out.mono ?_
 clear HC
 rintro e w2 ⟨rfl, hb2⟩
 have HB2 := Aside0.mk hb2
 clear hb2
 go_wp2_with fail
 go_ret
 exact ⟨rfl, HB2.out⟩
def impl_areRecords.q (l : List ByteArray) (i : Nat) : Bool := decide ((20 : Int) < ((rdOf ByteArray.empty l (i : Int)).size : Int))
def impl_areRecords.f (l0 : List ByteArray) : Option (Bool) := (impl_in.f (l0.length : Int) 1 8).bind fun t => if t = true then some (!(decide (0 ≤ ixS (impl_areRecords.q l0) 0 l0.length))) else some false
set_option maxHeartbeats 8000000 in
set_option maxRecDepth 100000 in
theorem impl_areRecords.calls (A0 : Option Addr) (c0 : Nat) (l0 : List ByteArray) (r : Bool) (w : World) (hr0 : Kd.C Kd.string w A0 l0.length l0) (_hc0 : l0.length ≤ c0) (h : impl_areRecords.f l0 = some r) :
  Calls Try.prog 88 #[.slice A0 l0.length c0] w fun e w' => e = .returned (.bool r) ∧ Drawn0 w w' := by
 have HR := Aside0.mk hr0
 clear hr0
 unfold impl_areRecords.f at h
 obtain ⟨t, h1, h2⟩ := Option.bind_eq_some_iff.1 h
 have H1 := Aside0.mk h1
 clear h h1
 cases t with
 | true =>
  rw [if_pos rfl] at h2
  have H2 := Aside0.mk (Option.some.inj h2)
  clear h2
  go_enter Try.func88, Try.ntmps88
  go_wp2_with fail
  refine (impl_in.calls _ _ _ _ _ H1.out).mono ?_
  rintro e w1 ⟨rfl, hd1⟩
  have HD1 := Aside0.mk hd1
  clear hd1
  go_wp2_with fail
  refine (areRecords_cont (impl_areRecords.q l0) l0 A0 c0 101 #[] (fun args w => by first | rfl | kernel_rfl) w1 (Kd.C_below HR.out HD1.out.below) (fun W i hd hi => (areRecords_lit _ W).mono fun e w' he => ⟨he.1, he.2 ▸ hd⟩)).mono ?_
  rintro e w2 ⟨rfl, hd2⟩
  have HD2 := Aside0.mk hd2
  clear hd2
  go_wp2_with fail
  go_ret
  refine ⟨by rw [H2.out]; rfl, ?_⟩
  obtain ⟨n2, e2⟩ := HD2.out.out
  rw [e2]
  exact HD1.out.step n2
 | false =>
  rw [if_neg (by decide)] at h2
  have H2 := Aside0.mk (Option.some.inj h2)
  clear h2
  go_enter Try.func88, Try.ntmps88
  go_wp2_with fail
  refine (impl_in.calls _ _ _ _ _ H1.out).mono ?_
  rintro e w1 ⟨rfl, hd1⟩
  have HD1 := Aside0.mk hd1
  clear hd1
  go_wp2_with fail
  go_ret
  exact ⟨by rw [H2.out]; rfl, HD1.out⟩
/-! ### impl_isBatch: function 63 -/
def impl_isBatch.f (a0_0 : Int) (a0_1 : Int) (a0_2 : Int) (a0_3 : Int) (l0_4 : List ByteArray) : Option (Bool) := (impl_in.f a0_0 0 100000).bind fun t177 => (if t177 = true then ((impl_in.f a0_1 0 1000).bind fun t178 => (if t178 = true then ((impl_in.f a0_2 0 65535).bind fun t179 => (if t179 = true then ((impl_in.f a0_3 0 65535).bind fun t180 => (if t180 = true then ((impl_areRecords.f l0_4).bind fun t181 => (some t181)) else (some false))) else (some false))) else (some false))) else (some false))
set_option maxHeartbeats 8000000 in
set_option maxRecDepth 100000 in
theorem impl_isBatch.calls (a0_0 : Int) (a0_1 : Int) (a0_2 : Int) (a0_3 : Int) (A0_4 : Option Addr) (c0_4 : Nat) (l0_4 : List ByteArray) (r : Bool) (w : World) (hr0_4 : Kd.C Kd.string w A0_4 l0_4.length l0_4) (hc0_4 : l0_4.length ≤ c0_4) (h : impl_isBatch.f a0_0 a0_1 a0_2 a0_3 l0_4 = some r) :
  Calls Try.prog 63 #[.agg #[.int .i64 a0_0, .int .i64 a0_1, .int .i64 a0_2, .int .i64 a0_3, .slice A0_4 l0_4.length c0_4]] w fun e w' => e = .returned (.bool r) ∧ Below w.heap.size w w' := by
 have hu44 := Try.underlying44
 have HR0_4 := Aside0.mk hr0_4
 have HC0_4 := Aside0.mk hc0_4
 clear hr0_4 hc0_4
 have HB := Aside0.mk (Below.refl w.heap.size w)
 have H : ((impl_in.f a0_0 0 100000).bind fun t177 => (if t177 = true then ((impl_in.f a0_1 0 1000).bind fun t178 => (if t178 = true then ((impl_in.f a0_2 0 65535).bind fun t179 => (if t179 = true then ((impl_in.f a0_3 0 65535).bind fun t180 => (if t180 = true then ((impl_areRecords.f l0_4).bind fun t181 => (some t181)) else (some false))) else (some false))) else (some false))) else (some false))) = some r := h
 clear h
 replace H := bnd_ H
 obtain ⟨t177, A2, H⟩ := H
 replace H := ifb_ H
 obtain ⟨rfl, H⟩ | ⟨rfl, H⟩ := H
 rotate_left
 ·obtain rfl := Option.some.inj H
  go_enter Try.func63, Try.ntmps63
  go_wp2_with (first | ((with_reducible refine gate_dst (N := 1) rfl ?_); refine bq_ (N := 1) #[.int .i64 a0_0, .int .i64 a0_1, .int .i64 a0_2, .int .i64 a0_3, .slice A0_4 l0_4.length c0_4] 44 ?_; intro gb176 hg w19 BK176 hb; have GE176 := ge_ hg; replace HB := nb_ hb; clear hb hg; obtain ⟨hcz20_0, hcz20_1, hcz20_2, hcz20_3, hcz20_4, hfz20_0, hfz20_1, hfz20_2, hfz20_3, hfz20_4⟩ := cf5_ BK176.out) | ((with_reducible refine gate_callee (f := 77) rfl ?_); refine gl_ 5 Try.func77 #[.int .i64 a0_0, .int .i64 0, .int .i64 100000] rfl ma_ ?_; (with_reducible refine (impl_in.calls a0_0 0 100000 false _ A2.out).mono ?_); rintro e w' ⟨rfl, ⟨nd, rfl⟩⟩; refine ⟨_, rfl, ?_⟩))
  go_ret
  exact ⟨er_, hs_ GE176.out⟩
 replace H := bnd_ H
 obtain ⟨t178, A4, H⟩ := H
 replace H := ifb_ H
 obtain ⟨rfl, H⟩ | ⟨rfl, H⟩ := H
 rotate_left
 ·obtain rfl := Option.some.inj H
  go_enter Try.func63, Try.ntmps63
  go_wp2_with (first | ((with_reducible refine gate_dst (N := 1) rfl ?_); refine bq_ (N := 1) #[.int .i64 a0_0, .int .i64 a0_1, .int .i64 a0_2, .int .i64 a0_3, .slice A0_4 l0_4.length c0_4] 44 ?_; intro gb176 hg w17 BK176 hb; have GE176 := ge_ hg; replace HB := nb_ hb; clear hb hg; obtain ⟨hcz18_0, hcz18_1, hcz18_2, hcz18_3, hcz18_4, hfz18_0, hfz18_1, hfz18_2, hfz18_3, hfz18_4⟩ := cf5_ BK176.out) | ((with_reducible refine gate_callee (f := 77) rfl ?_); refine gl_ 5 Try.func77 #[.int .i64 a0_0, .int .i64 0, .int .i64 100000] rfl ma_ ?_; (with_reducible refine (impl_in.calls a0_0 0 100000 true _ A2.out).mono ?_); rintro e w' ⟨rfl, ⟨nd, rfl⟩⟩; refine ⟨_, rfl, ?_⟩) | (go_at_call 77; (with_reducible refine (impl_in.calls a0_1 0 1000 false _ A4.out).mono ?_); rintro e w' ⟨rfl, ⟨nd, rfl⟩⟩))
  go_ret
  exact ⟨er_, hs_ GE176.out⟩
 replace H := bnd_ H
 obtain ⟨t179, A6, H⟩ := H
 replace H := ifb_ H
 obtain ⟨rfl, H⟩ | ⟨rfl, H⟩ := H
 rotate_left
 ·obtain rfl := Option.some.inj H
  go_enter Try.func63, Try.ntmps63
  go_wp2_with (first | ((with_reducible refine gate_dst (N := 1) rfl ?_); refine bq_ (N := 1) #[.int .i64 a0_0, .int .i64 a0_1, .int .i64 a0_2, .int .i64 a0_3, .slice A0_4 l0_4.length c0_4] 44 ?_; intro gb176 hg w15 BK176 hb; have GE176 := ge_ hg; replace HB := nb_ hb; clear hb hg; obtain ⟨hcz16_0, hcz16_1, hcz16_2, hcz16_3, hcz16_4, hfz16_0, hfz16_1, hfz16_2, hfz16_3, hfz16_4⟩ := cf5_ BK176.out) | ((with_reducible refine gate_callee (f := 77) rfl ?_); refine gl_ 5 Try.func77 #[.int .i64 a0_0, .int .i64 0, .int .i64 100000] rfl ma_ ?_; (with_reducible refine (impl_in.calls a0_0 0 100000 true _ A2.out).mono ?_); rintro e w' ⟨rfl, ⟨nd, rfl⟩⟩; refine ⟨_, rfl, ?_⟩) | (go_at_call 77; (with_reducible refine (impl_in.calls a0_1 0 1000 true _ A4.out).mono ?_); rintro e w' ⟨rfl, ⟨nd, rfl⟩⟩) | (go_at_call 77; (with_reducible refine (impl_in.calls a0_2 0 65535 false _ A6.out).mono ?_); rintro e w' ⟨rfl, ⟨nd, rfl⟩⟩))
  go_ret
  exact ⟨er_, hs_ GE176.out⟩
 replace H := bnd_ H
 obtain ⟨t180, A8, H⟩ := H
 replace H := ifb_ H
 obtain ⟨rfl, H⟩ | ⟨rfl, H⟩ := H
 rotate_left
 ·obtain rfl := Option.some.inj H
  go_enter Try.func63, Try.ntmps63
  go_wp2_with (first | ((with_reducible refine gate_dst (N := 1) rfl ?_); refine bq_ (N := 1) #[.int .i64 a0_0, .int .i64 a0_1, .int .i64 a0_2, .int .i64 a0_3, .slice A0_4 l0_4.length c0_4] 44 ?_; intro gb176 hg w13 BK176 hb; have GE176 := ge_ hg; replace HB := nb_ hb; clear hb hg; obtain ⟨hcz14_0, hcz14_1, hcz14_2, hcz14_3, hcz14_4, hfz14_0, hfz14_1, hfz14_2, hfz14_3, hfz14_4⟩ := cf5_ BK176.out) | ((with_reducible refine gate_callee (f := 77) rfl ?_); refine gl_ 5 Try.func77 #[.int .i64 a0_0, .int .i64 0, .int .i64 100000] rfl ma_ ?_; (with_reducible refine (impl_in.calls a0_0 0 100000 true _ A2.out).mono ?_); rintro e w' ⟨rfl, ⟨nd, rfl⟩⟩; refine ⟨_, rfl, ?_⟩) | (go_at_call 77; (with_reducible refine (impl_in.calls a0_1 0 1000 true _ A4.out).mono ?_); rintro e w' ⟨rfl, ⟨nd, rfl⟩⟩) | (go_at_call 77; (with_reducible refine (impl_in.calls a0_2 0 65535 true _ A6.out).mono ?_); rintro e w' ⟨rfl, ⟨nd, rfl⟩⟩) | (go_at_call 77; (with_reducible refine (impl_in.calls a0_3 0 65535 false _ A8.out).mono ?_); rintro e w' ⟨rfl, ⟨nd, rfl⟩⟩))
  go_ret
  exact ⟨er_, hs_ GE176.out⟩
 replace H := bnd_ H
 obtain ⟨t181, A10, H⟩ := H
 obtain rfl := Option.some.inj H
 go_enter Try.func63, Try.ntmps63
 go_wp2_with (first | ((with_reducible refine gate_dst (N := 1) rfl ?_); refine bq_ (N := 1) #[.int .i64 a0_0, .int .i64 a0_1, .int .i64 a0_2, .int .i64 a0_3, .slice A0_4 l0_4.length c0_4] 44 ?_; intro gb176 hg w11 BK176 hb; have GE176 := ge_ hg; replace HB := nb_ hb; clear hb hg; obtain ⟨hcz12_0, hcz12_1, hcz12_2, hcz12_3, hcz12_4, hfz12_0, hfz12_1, hfz12_2, hfz12_3, hfz12_4⟩ := cf5_ BK176.out) | ((with_reducible refine gate_callee (f := 77) rfl ?_); refine gl_ 5 Try.func77 #[.int .i64 a0_0, .int .i64 0, .int .i64 100000] rfl ma_ ?_; (with_reducible refine (impl_in.calls a0_0 0 100000 true _ A2.out).mono ?_); rintro e w' ⟨rfl, ⟨nd, rfl⟩⟩; refine ⟨_, rfl, ?_⟩) | (go_at_call 77; (with_reducible refine (impl_in.calls a0_1 0 1000 true _ A4.out).mono ?_); rintro e w' ⟨rfl, ⟨nd, rfl⟩⟩) | (go_at_call 77; (with_reducible refine (impl_in.calls a0_2 0 65535 true _ A6.out).mono ?_); rintro e w' ⟨rfl, ⟨nd, rfl⟩⟩) | (go_at_call 77; (with_reducible refine (impl_in.calls a0_3 0 65535 true _ A8.out).mono ?_); rintro e w' ⟨rfl, ⟨nd, rfl⟩⟩) | (go_at_call 88; (with_reducible refine (impl_areRecords.calls _ _ l0_4 t181 _ ?side1 ?side2 A10.out).mono ?_); (case side1 => exact cs_ ((Kd.C_below HR0_4.out (hs_ GE176.out)))); (case side2 => exact HC0_4.out); rintro e w' ⟨rfl, ⟨nd, rfl⟩⟩))
 go_ret
 exact ⟨er_, hs_ GE176.out⟩

/-! ### impl_put: function 89 -/
def impl_put.l0 : Nat → Int → List Int → Int → Option (ByteArray)
 | 0, _, _, _ => none
 | k + 1, x0, x5, x6 => if x6 ≥ 0 then (if 0 ≤ x6 then (if x6 < (x5.length : Int) then (impl_put.l0 k (x0 / 256) (x5.set (x6 : Int).toNat ((x0) % 256)) (wrap64 (x6 - 1))) else (none)) else (none)) else (some (strOfNums x5))
def impl_put.f (k : Nat) (a0 : Int) (a1 : Int) : Option (ByteArray) := if 0 ≤ a1 then (if (a1 : Int).toNat ≤ 281474976710656 then (impl_put.l0 k a0 (List.replicate (a1 : Int).toNat 0) (wrap64 (a1 - 1))) else (none)) else (none)
theorem impl_put.mono_l : ∀ k, (∀ y0 y1 y2, LeO (impl_put.l0 k y0 y1 y2) (impl_put.l0 (k + 1) y0 y1 y2))
 | 0 => fun _ _ _ r h => by simp [impl_put.l0] at h
 | k + 1 => by
  have ih0 := impl_put.mono_l k
  ·intro y0 y1 y2
   unfold impl_put.l0
   repeat' first
   | (with_reducible first | apply ih0 | exact LeO.refl _ | exact LeO.none _ | refine LeO.ite ?_ ?_ | refine LeO.bind ?_ (fun _ => ?_))
theorem impl_put.mono : ∀ a0 a1 k, LeO (impl_put.f k a0 a1) (impl_put.f (k + 1) a0 a1) := by
 intro a0 a1 k
 have ih0 := impl_put.mono_l k
 unfold impl_put.f
 repeat' first
   | (with_reducible first | apply ih0 | exact LeO.refl _ | exact LeO.none _ | refine LeO.ite ?_ ?_ | refine LeO.bind ?_ (fun _ => ?_))
set_option maxHeartbeats 8000000 in
set_option maxRecDepth 100000 in
theorem impl_put.calls (k : Nat) (a0 : Int) (a1 : Int) (r : ByteArray) (w : World) (h : impl_put.f k a0 a1 = some r) :
  Calls Try.prog 89 #[.int .i64 a0, .int .i64 a1] w fun e w' => e = .returned (.string r) ∧ Below w.heap.size w w' := by
 have HB := Aside0.mk (Below.refl w.heap.size w)
 have H : (if 0 ≤ a1 then (if (a1 : Int).toNat ≤ 281474976710656 then (impl_put.l0 k a0 (List.replicate (a1 : Int).toNat 0) (wrap64 (a1 - 1))) else (none)) else (none)) = some r := h
 clear h
 replace H := ifs_ H
 obtain ⟨c3, H⟩ := H
 have c3b0 := eq_true c3
 have c3b1 := decide_eq_true c3
 clear c3
 replace H := ifs_ H
 obtain ⟨c4, H⟩ := H
 have c4b0 := eq_true c4
 have c4b1 := decide_eq_true c4
 clear c4
 obtain ⟨y182, hy182⟩ : ∃ y_ : List Int, y_ = (List.replicate (a1 : Int).toNat 0) := ⟨_, rfl⟩
 replace H : (impl_put.l0 k a0 y182 (wrap64 (a1 - 1))) = some r := by first | (rw [hy182]; with_reducible exact H) | (have H2_ := (Option.bind_some _ _).symm.trans H; rw [hy182]; with_reducible exact H2_) | (have H2_ := (Option.bind_some _ _).symm.trans H; with_reducible exact H2_) | with_reducible exact H | (rw [hy182]; exact H) | exact H
 have Ny182 := Aside0.mk hy182
 clear hy182
 have H' := Aside0.mk H
 clear H
 go_enter Try.func89, Try.ntmps89
 go_wp2_with (first | ((with_reducible refine gate_dst (N := 8) rfl ?_); refine Kd.R_make (Kd.int .u8) _ 5 rfl (N := 8) rfl 51 _ _ rfl a1 rfl rfl Try.underlying51 (.int .u8 0) 1 info5 rfl (by decide) (by omega) 0 (ok := fun _ => True) (okp := fun _ => True) rfl (fun _ hk => hk) trivial (oa_) (Nat.le_trans (Nat.mul_le_mul_right _ (oa_ : a1.toNat ≤ 281474976710656)) (by omega)) (Below.refl _ _) (Nat.le_refl _) ?_; intro v183 w5 ho6 hb hg_ hnew_; clear hg_ hnew_; (first | rw [← Ny182.out] at ho6 | (simp only [Int.reduceToNat] at ho6; rw [← Ny182.out] at ho6)); have HO184 := Aside0.mk (Kd.R_lower ho6 (below_size (hb_))); replace HB := nb_ hb; clear hb ho6))
 go_loopg [0, 6] k (fun kq v0 v6 w' => ∃ (x0_1 : Int) (x5_1 : List Int) (x6_1 : Int), v0 = .int .i64 x0_1 ∧ v6 = .int .i64 x6_1 ∧ Aside0 (impl_put.l0 kq x0_1 x5_1 x6_1 = some r) ∧ Aside0 (kq ≤ k) ∧ Aside0 (Kd.R (Kd.int .u8) 5 w' w.heap.size (fun _ => True) v183 x5_1) ∧ Aside0 (Below w.heap.size w w'))
 case atStart => exact ⟨(a0), (y182), (wrap64 (a1 - 1)), sr_, sr_, H', ⟨Nat.le_refl _⟩, ⟨kr_ HO184.out⟩, ⟨hb_⟩⟩
 case round =>
  clear H'
  try clear c3
  try clear c3b0
  try clear c3b1
  try clear c4
  try clear c4b0
  try clear c4b1
  obtain ⟨x0_1, x5_1, x6_1, rfl, rfl, HA, HK1, HO_5, HB⟩ := hrel
  cases gk with
  | zero => exact absurd HA.out (by simp [impl_put.l0])
  | succ k1 =>
   have H := HA.out
   clear HA
   simp only [impl_put.l0] at H
   replace H := ite_ H
   obtain ⟨c7, H⟩ | ⟨c7, H⟩ := H
   rotate_left
   ·have c7b0 := dne_ c7
    clear c7
    obtain rfl := Option.some.inj H
    have hcv13 := own_string (P := Try.prog) Try.underlying51 Try.underlying5 Try.underlying9 (Kd.own_of_R HO_5.out)
    go_wp2
    go_ret
    exact ⟨er_, hb_⟩
   have c7b0 := dge_ c7
   clear c7
   replace H := ifs_ H
   obtain ⟨c8, H⟩ := H
   have c8b0 := decide_eq_true c8
   clear c8
   replace H := ifs_ H
   obtain ⟨c9, H⟩ := H
   have c9b0 := decide_eq_true c9
   clear c9
   obtain ⟨y185, hy185⟩ : ∃ y_ : List Int, y_ = (x5_1.set (x6_1 : Int).toNat ((x0_1) % 256)) := ⟨_, rfl⟩
   replace H : (impl_put.l0 k1 (x0_1 / 256) y185 (wrap64 (x6_1 - 1))) = some r := by first | (rw [hy185]; with_reducible exact H) | (have H2_ := (Option.bind_some _ _).symm.trans H; rw [hy185]; with_reducible exact H2_) | (have H2_ := (Option.bind_some _ _).symm.trans H; with_reducible exact H2_) | with_reducible exact H | (rw [hy185]; exact H) | exact H
   have Ny185 := Aside0.mk hy185
   clear hy185
   have H' := Aside0.mk H
   clear H
   have p10 : 0 ≤ (x6_1 : Int) := oa_
   have q10 : (x6_1 : Int) < ((x5_1.length : Int) : Int) := oa_
   obtain ⟨go10, co10, eo10, gb10, gl10, cl10, HG10⟩ := Kd.R_form HO_5.out (by omega)
   (first | cases eo10 | (injection eo10 with ea_ en_ ec_; (first | subst ea_ | (injection ea_ with ea_; subst ea_)); subst ec_; clear en_))
   have GB10 := Aside0.mk gb10
   have GG10 := Aside0.mk HG10
   clear gb10 gl10 HG10
   obtain ⟨hx10_0, hf10_0⟩ := Kd.R_celln 0 HO_5.out (x6_1 : Int) p10 q10
   replace p10 := eq_true p10
   replace q10 := eq_true q10
   have HP11 := Kd.R_putg HO_5.out (x6_1 : Int) ((x0_1) % 256)
   go_wp2_with (first | ((with_reducible refine gate_store (t := 5) (p := 19) rfl ?_); refine store_event (t := 5) (p := 19) (v := ?vo_w12) (w1 := (wr.setCell ⟨go10, (x6_1 : Int).toNat, none⟩ (.int .u8 ((x0_1) % 256)))) ?hg ?ho ?hn ?hr ?_; (case ho => rfl); (case hg => rfl); (case hn => rfl); (case hr => first | (go_simp; done) | (go_simp; rfl)); intro w12 hw; have hg : wr.grownBy w12 (some go10) := (by rw [hw]; exact HP11.2); have hp_ : Kd.R (Kd.int .u8) 5 w12 w.heap.size (fun _ => True) (.slice (some ⟨go10, 0, none⟩) x5_1.length co10) y185 := (by rw [hw, Ny185.out]; exact HP11.1); clear HP11; replace HO_5 := Aside0.mk (hp_); replace HB := Aside0.mk ((by rw [hw]; exact below_set (HB.out) GB10.out : Below w.heap.size w w12)); clear hg hw hp_))
   go_roundg k1
   case measure => have := HK1.out; omega
   case rel => exact ⟨(x0_1 / 256), (y185), (wrap64 (x6_1 - 1)), sr_, sr_, H', ⟨by have := HK1.out; omega⟩, ⟨kr_ HO_5.out⟩, ⟨hb_⟩⟩

/-! ### impl_sumOf: function 90 -/
mutual
def impl_sumOf.l0 : Nat → ByteArray → Int → Int → Int → Option (Int)
 | 0, _, _, _, _ => none
 | k + 1, x0, x3, x7, x8 => if x8 < x7 then (if 0 ≤ x8 then (if x8 < (x0.size : Int) then (impl_sumOf.l1 k x0 (Go.bits .xor .i64 x3 (wrap64 ((wrap64 (bt x0 x8)) * 256))) x7 x8 0) else (none)) else (none)) else (some x3)
def impl_sumOf.l1 : Nat → ByteArray → Int → Int → Int → Int → Option (Int)
 | 0, _, _, _, _, _ => none
 | k + 1, x0, x3, x7, x8, x18 => if x18 < 8 then (if (Go.bits .and .i64 x3 32768) = 0 then (impl_sumOf.l1 k x0 (Go.bits .and .i64 (wrap64 (x3 * 2)) 65535) x7 x8 (wrap64 (x18 + 1))) else (impl_sumOf.l1 k x0 (Go.bits .xor .i64 (Go.bits .and .i64 (wrap64 (x3 * 2)) 65535) 4129) x7 x8 (wrap64 (x18 + 1)))) else (impl_sumOf.l0 k x0 x3 x7 (wrap64 (x8 + 1)))
end
def impl_sumOf.f (k : Nat) (a0 : ByteArray) : Option (Int) := impl_sumOf.l0 k a0 65535 (a0.size : Int) 0
theorem impl_sumOf.mono_l : ∀ k, (∀ y0 y1 y2 y3, LeO (impl_sumOf.l0 k y0 y1 y2 y3) (impl_sumOf.l0 (k + 1) y0 y1 y2 y3)) ∧ (∀ y0 y1 y2 y3 y4, LeO (impl_sumOf.l1 k y0 y1 y2 y3 y4) (impl_sumOf.l1 (k + 1) y0 y1 y2 y3 y4))
 | 0 => ⟨fun _ _ _ _ r h => by simp [impl_sumOf.l0] at h, fun _ _ _ _ _ r h => by simp [impl_sumOf.l1] at h⟩
 | k + 1 => by
  obtain ⟨ih0, ih1⟩ := impl_sumOf.mono_l k
  refine ⟨?_, ?_⟩
  all_goals intros; first | unfold impl_sumOf.l0 | unfold impl_sumOf.l1
  all_goals repeat' first | (with_reducible first | apply ih0 | apply ih1 | exact LeO.refl _ | exact LeO.none _ | refine LeO.ite ?_ ?_ | refine LeO.bind ?_ (fun _ => ?_))
theorem impl_sumOf.mono : ∀ a0 k, LeO (impl_sumOf.f k a0) (impl_sumOf.f (k + 1) a0) := by
 intro a0 k
 obtain ⟨ih0, ih1⟩ := impl_sumOf.mono_l k
 unfold impl_sumOf.f
 repeat' first
   | (with_reducible first | apply ih0 | apply ih1 | exact LeO.refl _ | exact LeO.none _ | refine LeO.ite ?_ ?_ | refine LeO.bind ?_ (fun _ => ?_))
set_option maxHeartbeats 8000000 in
set_option maxRecDepth 100000 in
theorem impl_sumOf.calls (k : Nat) (a0 : ByteArray) (r : Int) (w : World) (h : impl_sumOf.f k a0 = some r) :
  Calls Try.prog 90 #[.string a0] w fun e w' => e = .returned (.int .i64 r) ∧ Drawn0 w w' := by
 have H : (impl_sumOf.l0 k a0 65535 (a0.size : Int) 0) = some r := h
 clear h
 have H' := Aside0.mk H
 clear H
 go_enter Try.func90, Try.ntmps90
 go_wp2
 go_loopg [3, 8] k (fun kq v3 v8 w' => ∃ (x3_1 : Int) (x8_1 : Int), v3 = .int .i64 x3_1 ∧ v8 = .int .i64 x8_1 ∧ Aside0 (impl_sumOf.l0 kq a0 x3_1 (a0.size : Int) x8_1 = some r) ∧ Aside0 (kq ≤ k) ∧ Drawn0 w w')
 case atStart => exact ⟨(65535), (0), sr_, sr_, H', ⟨Nat.le_refl _⟩, dr_⟩
 case round =>
  clear H'
  obtain ⟨x3_1, x8_1, rfl, rfl, HA, HK1, ⟨m1, rfl⟩⟩ := hrel
  cases gk with
  | zero => exact absurd HA.out (by simp [impl_sumOf.l0])
  | succ k1 =>
   have H := HA.out
   clear HA
   simp only [impl_sumOf.l0] at H
   replace H := ite_ H
   obtain ⟨c2, H⟩ | ⟨c2, H⟩ := H
   rotate_left
   ·have c2b0 := decide_eq_false c2
    clear c2
    obtain rfl := Option.some.inj H
    go_wp2
    go_ret
    exact ⟨by first | rfl | (simp; done) | (simp [*]; done), dr_⟩
   have c2b0 := decide_eq_true c2
   clear c2
   replace H := ifs_ H
   obtain ⟨c3, H⟩ := H
   have c3b0 := decide_eq_true c3
   clear c3
   replace H := ifs_ H
   obtain ⟨c4, H⟩ := H
   have c4b0 := decide_eq_true c4
   clear c4
   have H' := Aside0.mk H
   clear H
   have p5 : 0 ≤ (x8_1 : Int) := oa_
   have q5 : x8_1 < (a0.size : Int) := oa_
   have hx5 := bt_at a0 x8_1
   replace p5 := eq_true p5
   replace q5 := eq_true q5
   go_wp2
   go_loopg [3, 18] k1 (fun kq v3 v18 w' => ∃ (x3_2 : Int) (x18_2 : Int), v3 = .int .i64 x3_2 ∧ v18 = .int .i64 x18_2 ∧ Aside0 (impl_sumOf.l1 kq a0 x3_2 (a0.size : Int) x8_1 x18_2 = some r) ∧ Aside0 (kq ≤ k1) ∧ Drawn0 w w')
   case atStart => exact ⟨(Go.bits .xor .i64 x3_1 (wrap64 ((wrap64 (bt a0 x8_1)) * 256))), (0), sr_, sr_, H', ⟨Nat.le_refl _⟩, dr_⟩
   case round =>
    clear H'
    try clear c2
    try clear c2b0
    try clear c3
    try clear c3b0
    try clear c4
    try clear c4b0
    try clear p5
    try clear q5
    try clear hx5
    try clear p5
    try clear q5
    obtain ⟨x3_2, x18_2, rfl, rfl, HA, HK2, ⟨m2, rfl⟩⟩ := hrel
    cases gk with
    | zero => exact absurd HA.out (by simp [impl_sumOf.l1])
    | succ k2 =>
     have H := HA.out
     clear HA
     simp only [impl_sumOf.l1] at H
     replace H := ite_ H
     obtain ⟨c6, H⟩ | ⟨c6, H⟩ := H
     rotate_left
     ·have c6b0 := decide_eq_false c6
      clear c6
      have H' := Aside0.mk H
      clear H
      go_wp2
      go_roundg k2
      case measure => have := HK1.out; have := HK2.out; omega
      case rel => exact ⟨(x3_2), (wrap64 (x8_1 + 1)), sr_, sr_, H', ⟨by have := HK1.out; have := HK2.out; omega⟩, dr_⟩
     have c6b0 := decide_eq_true c6
     clear c6
     replace H := ite_ H
     obtain ⟨c7, H⟩ | ⟨c7, H⟩ := H
     ·have c7b0 : ((Go.bits .and .i64 x3_2 32768) == 0) = true := beq_iff_eq.mpr c7
      have c7b1 : ((Go.bits .and .i64 x3_2 32768) != 0) = false := bne_eq_false_iff_eq.mpr c7
      clear c7
      have H' := Aside0.mk H
      clear H
      go_wp2
      go_roundg k2
      case measure => have := HK1.out; have := HK2.out; omega
      case rel => exact ⟨(Go.bits .and .i64 (wrap64 (x3_2 * 2)) 65535), (wrap64 (x18_2 + 1)), sr_, sr_, H', ⟨by have := HK1.out; have := HK2.out; omega⟩, dr_⟩
     have c7b0 : ((Go.bits .and .i64 x3_2 32768) == 0) = false := beq_eq_false_iff_ne.mpr c7
     have c7b1 : ((Go.bits .and .i64 x3_2 32768) != 0) = true := bne_iff_ne.mpr c7
     have H' := Aside0.mk H
     clear H
     go_wp2
     go_roundg k2
     case measure => have := HK1.out; have := HK2.out; omega
     case rel => exact ⟨(Go.bits .xor .i64 (Go.bits .and .i64 (wrap64 (x3_2 * 2)) 65535) 4129), (wrap64 (x18_2 + 1)), sr_, sr_, H', ⟨by have := HK1.out; have := HK2.out; omega⟩, dr_⟩
end Go.Proofs.Ytpdpipfkllfhmaa.QFnTorn
