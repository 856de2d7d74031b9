/- Functions that one statement reaches: of each a plain function, and the proof that calls come to it. Conditions: those that each contract names. Written by a program of this repository. -/
import Derived.Test.YtffpeklekkpbjaaVTruncateToa
import Derived.Test.YtffpeklekkpbjaaQFnExactTruncateTox2
import Derived.Test.YtffpeklekkpbjaaQFnExactTruncateTox7
import Derived.Test.YtffpeklekkpbjaaQFnExactTruncateTox11
namespace Go.Proofs.Ytffpeklekkpbjaa.QFnExactTruncateTo
open Go.RowKit Go.Proofs.YtffpeklekkpbjaaW.PrintWords Go.Proofs.YtffpeklekkpbjaaW.PrintLast Go.Proofs.YtffpeklekkpbjaaW.PrintMore
attribute [local go_sem] max2_int min2_int max_two min_two max_three min_three max_four min_four Go.Proofs.YtffpeklekkpbjaaW.PrintMore2.isSome_setCell   -- for this text's walks alone
set_option linter.unusedVariables false
set_option linter.unusedSimpArgs false

/-! ### spec_l1Log: function 106 -/
def spec_l1Log.l0 : Nat → ByteArray → List (S43) → Int → Int → Option (ByteArray)
 | 0, _, _, _, _ => none
 | k + 1, x3, x6, x7, x8 => if x8 < x7 then (if 0 ≤ x8 then (if x8 < (x6.length : Int) then ((spec_l1Batch.f k ((rd_T43 x6 x8).f0) ((rd_T43 x6 x8).f1) ((rd_T43 x6 x8).f2) ((rd_T43 x6 x8).f3) ((rd_T43 x6 x8).f4)).bind fun t267 => (if x3.size + t267.size ≤ 9223372036854775807 then (spec_l1Log.l0 k (x3 ++ t267) x6 x7 (wrap64 (x8 + 1))) else (none))) else (none)) else (none)) else (some x3)
def spec_l1Log.f (k : Nat) (l0 : List (S43)) : Option (ByteArray) := spec_l1Log.l0 k (⟨#[]⟩ : ByteArray) l0 (l0.length : Int) 0
theorem spec_l1Log.mono_l : ∀ k, (∀ y0 y1 y2 y3, LeO (spec_l1Log.l0 k y0 y1 y2 y3) (spec_l1Log.l0 (k + 1) y0 y1 y2 y3))
 | 0 => fun _ _ _ _ r h => by simp [spec_l1Log.l0] at h
 | k + 1 => by
  have ih0 := spec_l1Log.mono_l k
  ·intro y0 y1 y2 y3
   unfold spec_l1Log.l0
   repeat' first
   | (with_reducible first | apply ih0 | apply spec_l1Batch.mono | exact LeO.refl _ | exact LeO.none _ | refine LeO.ite ?_ ?_ | refine LeO.bind ?_ (fun _ => ?_))
theorem spec_l1Log.mono : ∀ a0 k, LeO (spec_l1Log.f k a0) (spec_l1Log.f (k + 1) a0) := by
 intro a0 k
 have ih0 := spec_l1Log.mono_l k
 unfold spec_l1Log.f
 repeat' first
   | (with_reducible first | apply ih0 | apply spec_l1Batch.mono | exact LeO.refl _ | exact LeO.none _ | refine LeO.ite ?_ ?_ | refine LeO.bind ?_ (fun _ => ?_))
set_option maxHeartbeats 8000000 in
set_option maxRecDepth 100000 in
theorem spec_l1Log.calls (k : Nat) (A0 : Option Addr) (c0 : Nat) (l0 : List (S43)) (r : ByteArray) (w : World) (hr0 : Kd.C k43 w A0 l0.length l0) (hc0 : l0.length ≤ c0) (h : spec_l1Log.f k l0 = some r) :
  Calls Try.prog 106 #[.slice A0 l0.length c0] w fun e w' => e = .returned (.string r) ∧ Below w.heap.size w w' := by
 have hu43 := Try.underlying43
 have HR0 := Aside0.mk hr0
 have HC0 := Aside0.mk hc0
 clear hr0 hc0
 have HB := Aside0.mk (Below.refl w.heap.size w)
 have H : (spec_l1Log.l0 k (⟨#[]⟩ : ByteArray) l0 (l0.length : Int) 0) = some r := h
 clear h
 have H' := Aside0.mk H
 clear H
 go_enter Try.func106, Try.ntmps106
 go_wp2
 go_loopg [3, 8] k (fun kq v3 v8 w' => ∃ (x3_1 : ByteArray) (x8_1 : Int), v3 = .string x3_1 ∧ v8 = .int .i64 x8_1 ∧ Aside0 (spec_l1Log.l0 kq x3_1 l0 (l0.length : Int) x8_1 = some r) ∧ Aside0 (kq ≤ k) ∧ Aside0 (Below w.heap.size w w'))
 case atStart => exact ⟨((⟨#[]⟩ : ByteArray)), (0), sr_, sr_, H', ⟨Nat.le_refl _⟩, ⟨hb_⟩⟩
 case round =>
  clear H'
  obtain ⟨x3_1, x8_1, rfl, rfl, HA, HK1, HB⟩ := hrel
  cases gk with
  | zero => exact absurd HA.out (by simp [spec_l1Log.l0])
  | succ k1 =>
   have H := HA.out
   clear HA
   simp only [spec_l1Log.l0] at H
   replace H := ite_ H
   obtain ⟨c2, H⟩ | ⟨c2, H⟩ := H
   rotate_left
   ·have c2b0 := decide_eq_false c2
    clear c2
    obtain rfl := Option.some.inj H
    go_wp2
    go_ret
    exact ⟨er_, hb_⟩
   have c2b0 := decide_eq_true c2
   clear c2
   replace H := ifs_ H
   obtain ⟨c3, H⟩ := H
   have c3b0 := decide_eq_true c3
   clear c3
   replace H := ifs_ H
   obtain ⟨c4, H⟩ := H
   have c4b0 := decide_eq_true c4
   clear c4
   replace H := bnd_ H
   obtain ⟨t267, A5, H⟩ := H
   replace H := ifs_ H
   obtain ⟨c6, H⟩ := H
   have c6b0 := eq_true c6
   have c6b1 := decide_eq_true c6
   try have c6b2 : (9223372036854775807 < x3_1.size + t267.size) = False := eq_false (Nat.not_lt.2 c6)
   try have c6w := cw_ c6
   (try rw [c6w] at c2b0)
   (try rw [c6w] at c3b0)
   (try rw [c6w] at c4b0)
   have H' := Aside0.mk H
   clear H
   have p265 : 0 ≤ (x8_1 : Int) := oa_
   have q265 : x8_1 < (l0.length : Int) := oa_
   obtain ⟨ad265, A265_4, c265_4, e265, hx265_0, hx265_1, hx265_2, hx265_3, hx265_4, hl265_4, hi265_4⟩ := at_T43 HR0.out x8_1 p265 q265
   cases e265
   replace hx265_0 := pc_ HB.out hx265_0
   replace hx265_1 := pc_ HB.out hx265_1
   replace hx265_2 := pc_ HB.out hx265_2
   replace hx265_3 := pc_ HB.out hx265_3
   replace hx265_4 := pc_ HB.out hx265_4
   have HR265_4 := Aside0.mk hi265_4
   have HC265_4 := Aside0.mk hl265_4
   clear hi265_4 hl265_4
   replace p265 := eq_true p265
   replace q265 := eq_true q265
   go_wp2_with (first | ((with_reducible refine gate_dst (N := 5) rfl ?_); refine bq_ (N := 5) #[.int .i64 0, .int .i64 0, .int .i64 0, .int .i64 0, .slice none 0 0] 43 ?_; intro gb266 hg w7 BK266 hb; have GE266 := ge_ hg; replace HB := nb_ hb; clear hb hg; obtain ⟨hcz8_0, hcz8_1, hcz8_2, hcz8_3, hcz8_4, hfz8_0, hfz8_1, hfz8_2, hfz8_3, hfz8_4⟩ := cf5_ BK266.out) | ((with_reducible refine gate_callee (f := 82) rfl ?_); refine gl_ 14 Try.func82 #[.agg #[.int .i64 ((rd_T43 l0 x8_1).f0), .int .i64 ((rd_T43 l0 x8_1).f1), .int .i64 ((rd_T43 l0 x8_1).f2), .int .i64 ((rd_T43 l0 x8_1).f3), .slice A265_4 ((rd_T43 l0 x8_1).f4).length c265_4]] rfl ma_ ?_; (with_reducible refine (spec_l1Batch.calls k1 ((rd_T43 l0 x8_1).f0) ((rd_T43 l0 x8_1).f1) ((rd_T43 l0 x8_1).f2) ((rd_T43 l0 x8_1).f3) _ _ ((rd_T43 l0 x8_1).f4) t267 _ ?side1 ?side2 A5.out).mono ?_); (case side1 => exact Kd.C_below HR265_4.out (hs_ GE266.out)); (case side2 => exact HC265_4.out); rintro e w9 ⟨rfl, hb⟩; refine ⟨_, rfl, ?_⟩; replace BK266 := Aside0.mk (blk_below (g := gb266) (o := .cells #[.int .i64 ((rd_T43 l0 x8_1).f0), .int .i64 ((rd_T43 l0 x8_1).f1), .int .i64 ((rd_T43 l0 x8_1).f2), .int .i64 ((rd_T43 l0 x8_1).f3), .slice A265_4 ((rd_T43 l0 x8_1).f4).length c265_4] 43 (0, 0)) (up_ BK266) hb); replace HB := nc_ GE266 hb; (try clear hb); (try clear hb2); (try clear hk); (try clear hi)))
   go_roundg k1
   case measure => have := HK1.out; omega
   case rel => exact ⟨(x3_1 ++ t267), (wrap64 (x8_1 + 1)), sr_, sr_, H', ⟨by have := HK1.out; omega⟩, ⟨hs_ GE266.out⟩⟩

/-! ### spec_l2Make: function 74 -/
def spec_l2Make.f (k : Nat) (a0 : Int) (l1 : List (S43)) : Option (Int × ByteArray × (List (S89))) := (spec_l1Log.f k l1).bind fun t269 => ((spec_l2Index.f k l1).bind fun t270 => (some (a0, t269, t270)))
theorem spec_l2Make.mono : ∀ a0 a1 k, LeO (spec_l2Make.f k a0 a1) (spec_l2Make.f (k + 1) a0 a1) := by
 intro a0 a1 k
 unfold spec_l2Make.f
 repeat' first
   | (with_reducible first | apply spec_l1Log.mono | apply spec_l2Index.mono | exact LeO.refl _ | exact LeO.none _ | refine LeO.ite ?_ ?_ | refine LeO.bind ?_ (fun _ => ?_))
set_option maxHeartbeats 8000000 in
set_option maxRecDepth 100000 in
theorem spec_l2Make.calls (k : Nat) (a0 : Int) (A1 : Option Addr) (c1 : Nat) (l1 : List (S43)) (r1 : Int) (r2 : ByteArray) (r3 : List (S89)) (w : World) (hr1 : Kd.C k43 w A1 l1.length l1) (hc1 : l1.length ≤ c1) (h : spec_l2Make.f k a0 l1 = some (r1, r2, r3)) :
  Calls Try.prog 74 #[.int .i64 a0, .slice A1 l1.length c1] w fun e w' => ∃ v2_ : Value, e = .returned (.agg #[.int .i64 r1, .string r2, v2_]) ∧ Kd.R k89 89 w' w.heap.size (fun _ => True) v2_ r3 ∧ Below w.heap.size w w' := by
 have hu65 := Try.underlying65
 have HR1 := Aside0.mk hr1
 have HC1 := Aside0.mk hc1
 clear hr1 hc1
 have HB := Aside0.mk (Below.refl w.heap.size w)
 have H : ((spec_l1Log.f k l1).bind fun t269 => ((spec_l2Index.f k l1).bind fun t270 => (some (a0, t269, t270)))) = some (r1, r2, r3) := h
 clear h
 replace H := bnd_ H
 obtain ⟨t269, A3, H⟩ := H
 replace H := bnd_ H
 obtain ⟨t270, A4, H⟩ := H
 simp only [Option.some.injEq, Prod.mk.injEq] at H
 obtain ⟨rfl, rfl, rfl⟩ := H
 go_enter Try.func74, Try.ntmps74
 go_wp2_with (first | ((with_reducible refine gate_dst (N := 4) rfl ?_); refine box_event ?hg (N := 4) ?hd (cs := #[.int .i64 0, .string (⟨#[]⟩ : ByteArray), .slice none 0 0]) (t := 65) ?hr ?_; (case hd => rfl); (case hg => rfl); (case hr => first | (go_simp; done) | (go_simp; rfl)); intro gb268 hg w5 hbox hb; have BK268 := Aside0.mk (hbox); have GE268 := ge_ hg; replace HB := nb_ hb; clear hb hbox hg) | ((with_reducible refine gate_callee (f := 106) rfl ?_); refine gl_ 7 Try.func106 #[.slice A1 l1.length c1] rfl ma_ ?_; (with_reducible refine (spec_l1Log.calls k _ _ l1 t269 _ ?side1 ?side2 A3.out).mono ?_); (case side1 => exact cs_ ((Kd.C_below HR1.out HB.out))); (case side2 => exact HC1.out); rintro e w6 ⟨rfl, hb⟩; refine ⟨_, rfl, ?_⟩; replace BK268 := Aside0.mk (blk_below (g := gb268) (o := .cells #[.int .i64 0, .string (⟨#[]⟩ : ByteArray), .slice none 0 0] 65 (0, 0)) (kb_ BK268.out) hb); replace HB := nc_ GE268 hb; (try clear hb); (try clear hb2); (try clear hk); (try clear hi)) | ((with_reducible refine gate_callee (f := 65) rfl ?_); refine gl_ 9 Try.func65 #[.slice A1 l1.length c1] rfl ma_ ?_; (with_reducible refine (spec_l2Index.calls k _ _ l1 t270 _ ?side1 ?side2 A4.out).mono ?_); (case side1 => exact cs_ ((Kd.C_below HR1.out HB.out))); (case side2 => exact HC1.out); rintro e w7 ⟨v271, rfl, ho0, hb⟩; refine ⟨_, rfl, ?_⟩; have HO272 := Aside0.mk (Kd.R_lower ho0 (below_size (hs_ GE268.out))); replace BK268 := Aside0.mk (blk_below (g := gb268) (o := .cells #[.int .i64 0, .string (⟨#[]⟩ : ByteArray), .slice none 0 0] 65 (0, 0)) (kb_ BK268.out) hb); replace HB := nc_ GE268 hb; (try clear hb); (try clear hb2); (try clear hk); (try clear hi); (try clear ho0); obtain ⟨Ao8, co8, eo8⟩ := Kd.R_slice HO272.out; subst eo8; obtain ⟨hcz9_0, hcz9_1, hcz9_2, hfz9_0, hfz9_1, hfz9_2⟩ := cf3_ BK268.out))
 refine bodyPost_ret (results_cell_row rfl _ _ gb268 65 #[.int .i64 a0, .string t269, .slice Ao8 t270.length co8] (0, 0) _ rfl (up_ BK268) Try.underlying65 rfl (by kernel_rfl)) rfl ?_
 exact ⟨_, er_, Kd.R_mono (rF_ (Kd.R_types HO272.out BK268.out (by decide))) (fun _ hk => trivial), hs_ GE268.out⟩
end Go.Proofs.Ytffpeklekkpbjaa.QFnExactTruncateTo
