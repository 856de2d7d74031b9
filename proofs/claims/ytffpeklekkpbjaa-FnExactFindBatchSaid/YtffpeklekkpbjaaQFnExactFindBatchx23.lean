/- Functions that one statement reaches: of each a plain function, and the proof that calls come to it. Conditions: those that each contract names. Written by a program of this repository. -/
import Derived.Test.YtffpeklekkpbjaaVFindBatcha
import Derived.Test.YtffpeklekkpbjaaQFnExactFindBatchx0
import Derived.Test.YtffpeklekkpbjaaQFnExactFindBatchx3
import Derived.Test.YtffpeklekkpbjaaQFnExactFindBatchx13
import Derived.Test.YtffpeklekkpbjaaQFnExactFindBatchx19
import Derived.Test.YtffpeklekkpbjaaQFnExactFindBatchx22
namespace Go.Proofs.Ytffpeklekkpbjaa.QFnExactFindBatch
open Go.RowKit Go.Proofs.YtffpeklekkpbjaaW.PrintWords Go.Proofs.YtffpeklekkpbjaaW.PrintLast Go.Proofs.YtffpeklekkpbjaaW.PrintMore
attribute [local go_sem] max2_int min2_int max_two min_two max_three min_three max_four min_four Go.Proofs.YtffpeklekkpbjaaW.PrintMore2.isSome_setCell   -- for this text's walks alone
set_option linter.unusedVariables false
set_option linter.unusedSimpArgs false

/-! ### impl_Store_has: function 70 -/
def impl_Store_has.f (k : Nat) (l0_0 : List (S65)) (a0_1 : Int) (a1 : Int) : Option (Bool) := (impl_isStore.f k l0_0 a0_1).bind fun t434 => (if t434 = true then (if 0 < (l0_0.length : Int) then (if a1 ≥ ((rd_T65 l0_0 0).f0) then (some (decide (a1 < a0_1))) else (some false)) else (none)) else (some false))
theorem impl_Store_has.mono : ∀ a0 a1 a2 k, LeO (impl_Store_has.f k a0 a1 a2) (impl_Store_has.f (k + 1) a0 a1 a2) := by
 intro a0 a1 a2 k
 unfold impl_Store_has.f
 repeat' first
   | (with_reducible first | apply impl_isStore.mono | exact LeO.refl _ | exact LeO.none _ | refine LeO.ite ?_ ?_ | refine LeO.bind ?_ (fun _ => ?_))
set_option maxHeartbeats 8000000 in
set_option maxRecDepth 100000 in
theorem impl_Store_has.calls (k : Nat) (A0_0 : Option Addr) (c0_0 : Nat) (l0_0 : List (S65)) (a0_1 : Int) (a1 : Int) (r : Bool) (w : World) (hr0_0 : Kd.C k65 w A0_0 l0_0.length l0_0) (hc0_0 : l0_0.length ≤ c0_0) (h : impl_Store_has.f k l0_0 a0_1 a1 = some r) :
  Calls Try.prog 70 #[.agg #[.slice A0_0 l0_0.length c0_0, .int .i64 a0_1], .int .i64 a1] w fun e w' => e = .returned (.bool r) ∧ Below w.heap.size w w' := by
 have hu24 := Try.underlying24
 have HR0_0 := Aside0.mk hr0_0
 have HC0_0 := Aside0.mk hc0_0
 clear hr0_0 hc0_0
 have HB := Aside0.mk (Below.refl w.heap.size w)
 have H : ((impl_isStore.f k l0_0 a0_1).bind fun t434 => (if t434 = true then (if 0 < (l0_0.length : Int) then (if a1 ≥ ((rd_T65 l0_0 0).f0) then (some (decide (a1 < a0_1))) else (some false)) else (none)) else (some false))) = some r := h
 clear h
 replace H := bnd_ H
 obtain ⟨t434, A3, H⟩ := H
 replace H := ifb_ H
 obtain ⟨rfl, H⟩ | ⟨rfl, H⟩ := H
 rotate_left
 ·obtain rfl := Option.some.inj H
  go_enter Try.func70, Try.ntmps70
  go_wp2_with (first | ((with_reducible refine gate_dst (N := 2) rfl ?_); refine bq_ (N := 2) #[.slice A0_0 l0_0.length c0_0, .int .i64 a0_1] 24 ?_; intro gb433 hg w15 BK433 hb; have GE433 := ge_ hg; replace HB := nb_ hb; clear hb hg; obtain ⟨hcz16_0, hcz16_1, hfz16_0, hfz16_1⟩ := cf2_ BK433.out) | ((with_reducible refine gate_callee (f := 67) rfl ?_); refine gl_ 6 Try.func67 #[.agg #[.slice A0_0 l0_0.length c0_0, .int .i64 a0_1]] rfl ma_ ?_; (with_reducible refine (impl_isStore.calls k _ _ l0_0 a0_1 false _ ?side1 ?side2 A3.out).mono ?_); (case side1 => exact cs_ ((Kd.C_below HR0_0.out HB.out))); (case side2 => exact HC0_0.out); rintro e w17 ⟨rfl, hb⟩; refine ⟨_, rfl, ?_⟩; replace BK433 := bK_ BK433 hb; replace HB := nc_ GE433 hb; (try clear hb); (try clear hb2); (try clear hk); (try clear hi)))
  go_ret
  exact ⟨er_, hs_ GE433.out⟩
 replace H := ifs_ H
 obtain ⟨c5, H⟩ := H
 have c5b0 := decide_eq_true c5
 have c5b1 : decide (0 < l0_0.length) = true := decide_eq_true (by omega)
 clear c5
 replace H := ite_ H
 obtain ⟨c6, H⟩ | ⟨c6, H⟩ := H
 ·have c6b0 := dge_ c6
  clear c6
  obtain rfl := Option.some.inj H
  go_enter Try.func70, Try.ntmps70
  go_wp2_with (first | ((with_reducible refine gate_dst (N := 2) rfl ?_); refine bq_ (N := 2) #[.slice A0_0 l0_0.length c0_0, .int .i64 a0_1] 24 ?_; intro gb433 hg w7 BK433 hb; have GE433 := ge_ hg; replace HB := nb_ hb; clear hb hg; obtain ⟨hcz8_0, hcz8_1, hfz8_0, hfz8_1⟩ := cf2_ BK433.out) | ((with_reducible refine gate_callee (f := 67) rfl ?_); refine gl_ 6 Try.func67 #[.agg #[.slice A0_0 l0_0.length c0_0, .int .i64 a0_1]] rfl ma_ ?_; (with_reducible refine (impl_isStore.calls k _ _ l0_0 a0_1 true _ ?side1 ?side2 A3.out).mono ?_); (case side1 => exact cs_ ((Kd.C_below HR0_0.out HB.out))); (case side2 => exact HC0_0.out); rintro e w9 ⟨rfl, hb⟩; refine ⟨_, rfl, ?_⟩; replace BK433 := bK_ BK433 hb; replace HB := nc_ GE433 hb; (try clear hb); (try clear hb2); (try clear hk); (try clear hi); obtain ⟨hcz10_0, hcz10_1, hfz10_0, hfz10_1⟩ := cf2_ BK433.out; have p435 : 0 ≤ (0 : Int) := (by omega); have q435 : 0 < (l0_0.length : Int) := oa_; obtain ⟨ad435, A435_2, c435_2, e435, hx435_0, hx435_1, hx435_2, hl435_2, hi435_2⟩ := at_T65 HR0_0.out 0 p435 q435; cases e435; have qi435 : (0 < l0_0.length) = True := eq_true (by omega); (try rw [show ((0 : Int)).toNat = 0 from rfl] at hx435_0); (try rw [show 0 * 3 = 0 from rfl] at hx435_0); (try rw [Addr.add_zero'] at hx435_0); (try rw [show ((0 : Int)).toNat = 0 from rfl] at hx435_1); (try rw [show 0 * 3 = 0 from rfl] at hx435_1); (try rw [Addr.add_zero'] at hx435_1); (try rw [show ((0 : Int)).toNat = 0 from rfl] at hx435_2); (try rw [show 0 * 3 = 0 from rfl] at hx435_2); (try rw [Addr.add_zero'] at hx435_2); replace hx435_0 := pc_ HB.out hx435_0; replace hx435_1 := pc_ HB.out hx435_1; replace hx435_2 := pc_ HB.out hx435_2; have HR435_2 := Aside0.mk hi435_2; have HC435_2 := Aside0.mk hl435_2; clear hi435_2 hl435_2; replace p435 := eq_true p435; replace q435 := eq_true q435))
  go_ret
  exact ⟨er_, hs_ GE433.out⟩
 have c6b0 := dne_ c6
 clear c6
 obtain rfl := Option.some.inj H
 go_enter Try.func70, Try.ntmps70
 go_wp2_with (first | ((with_reducible refine gate_dst (N := 2) rfl ?_); refine bq_ (N := 2) #[.slice A0_0 l0_0.length c0_0, .int .i64 a0_1] 24 ?_; intro gb433 hg w11 BK433 hb; have GE433 := ge_ hg; replace HB := nb_ hb; clear hb hg; obtain ⟨hcz12_0, hcz12_1, hfz12_0, hfz12_1⟩ := cf2_ BK433.out) | ((with_reducible refine gate_callee (f := 67) rfl ?_); refine gl_ 6 Try.func67 #[.agg #[.slice A0_0 l0_0.length c0_0, .int .i64 a0_1]] rfl ma_ ?_; (with_reducible refine (impl_isStore.calls k _ _ l0_0 a0_1 true _ ?side1 ?side2 A3.out).mono ?_); (case side1 => exact cs_ ((Kd.C_below HR0_0.out HB.out))); (case side2 => exact HC0_0.out); rintro e w13 ⟨rfl, hb⟩; refine ⟨_, rfl, ?_⟩; replace BK433 := bK_ BK433 hb; replace HB := nc_ GE433 hb; (try clear hb); (try clear hb2); (try clear hk); (try clear hi); obtain ⟨hcz14_0, hcz14_1, hfz14_0, hfz14_1⟩ := cf2_ BK433.out; have p435 : 0 ≤ (0 : Int) := (by omega); have q435 : 0 < (l0_0.length : Int) := oa_; obtain ⟨ad435, A435_2, c435_2, e435, hx435_0, hx435_1, hx435_2, hl435_2, hi435_2⟩ := at_T65 HR0_0.out 0 p435 q435; cases e435; have qi435 : (0 < l0_0.length) = True := eq_true (by omega); (try rw [show ((0 : Int)).toNat = 0 from rfl] at hx435_0); (try rw [show 0 * 3 = 0 from rfl] at hx435_0); (try rw [Addr.add_zero'] at hx435_0); (try rw [show ((0 : Int)).toNat = 0 from rfl] at hx435_1); (try rw [show 0 * 3 = 0 from rfl] at hx435_1); (try rw [Addr.add_zero'] at hx435_1); (try rw [show ((0 : Int)).toNat = 0 from rfl] at hx435_2); (try rw [show 0 * 3 = 0 from rfl] at hx435_2); (try rw [Addr.add_zero'] at hx435_2); replace hx435_0 := pc_ HB.out hx435_0; replace hx435_1 := pc_ HB.out hx435_1; replace hx435_2 := pc_ HB.out hx435_2; have HR435_2 := Aside0.mk hi435_2; have HC435_2 := Aside0.mk hl435_2; clear hi435_2 hl435_2; replace p435 := eq_true p435; replace q435 := eq_true q435))
 go_ret
 exact ⟨er_, hs_ GE433.out⟩

/-! ### impl_Store_from: function 78 -/
/-! #### a row of rows, no two of whose elements lead to one block -/
def fr_S {α : Type} (e : Nat) (d : Kd α) : Kd (List α) where
 sz := 1
 E := e :: d.E
 K := (Kd.slice e d).K
 M := fun w base ok xs cs => ∃ v, cs = [v] ∧ Kd.S d e w base ok v xs
 K_len := (Kd.slice e d).K_len
 K_one := (Kd.slice e d).K_one
 K_below := (Kd.slice e d).K_below
 K_of_M := by
  rintro w base ok x cs ⟨v, rfl, h⟩
  exact (Kd.slice e d).K_of_M ⟨v, rfl, Kd.S_R h⟩
 M_mono := by
  rintro w base ok ok' x cs hok ⟨v, rfl, h⟩
  exact ⟨v, rfl, Kd.S_mono h hok⟩
 M_bound := by
  rintro w base ok x cs ⟨v, rfl, h⟩
  exact ⟨v, rfl, Kd.S_bound h⟩
 M_move := by
  rintro w w1 base ok x cs hm ⟨v, rfl, h⟩
  exact ⟨v, rfl, Kd.S_move h hm⟩
 M_lower := by
  rintro w base base' ok x cs hb ⟨v, rfl, h⟩
  exact ⟨v, rfl, Kd.S_lower h hb⟩
def fr_pos {α : Type} (t : List (List α)) (i : Nat) : Nat := (t.take i).flatten.length
theorem fr_take {α : Type} (t : List (List α)) (i : Nat) (hi : i < t.length) : t.take (i + 1) = t.take i ++ [t.getD i []] := by
 rw [List.getD_eq_getElem?_getD, List.getElem?_eq_getElem hi, List.take_succ_eq_append_getElem hi]
 rfl
theorem fr_next {α : Type} (t : List (List α)) (i : Nat) (hi : i < t.length) : fr_pos t (i + 1) = fr_pos t i + (t.getD i []).length := by
 unfold fr_pos
 rw [fr_take t i hi]
 simp
theorem fr_all {α : Type} (t : List (List α)) (i j : Nat) (hi : i < t.length) : ((t.take i).flatten ++ (t.getD i []).take j).length ≤ t.flatten.length := by
 have e : t.flatten = (t.take (i + 1)).flatten ++ (t.drop (i + 1)).flatten := by rw [← List.flatten_append, List.take_append_drop]
 rw [e, fr_take t i hi]
 simp only [List.length_append, List.flatten_append, List.flatten_cons, List.flatten_nil, List.append_nil, List.length_take]
 omega
theorem fr_retag {α : Type} {d : Kd α} {e base : Nat} {w : World} {ok : Nat → Prop} {v : Value} {f G : Nat → Nat} {l : List α} {n : Nat} (h : (Kd.tag f d).R e w base ok v l.zipIdx) (hG : ∀ k, ok k → G k = n + f k) : (Kd.tag G d).R e w base ok v (l.zipIdx n) := by
 obtain ⟨h0, inner, ho, hr⟩ := h
 refine ⟨h0, inner, by rw [List.length_zipIdx] at ho ⊢; exact ho, by have := hr.1; rw [List.length_zipIdx] at this ⊢; exact this, fun j p hj => ?_⟩
 rw [List.getElem?_zipIdx] at hj
 obtain ⟨x, hx, rfl⟩ := Option.map_eq_some_iff.1 hj
 exact d.M_mono (fun k hk => ⟨hk.1, by rw [hG k hk.1.1, hk.2]⟩) (hr.2 j (x, j) (Kd.zip_at hx))
theorem fr_lent {α : Type} {d : Kd α} {e e' c0 : Nat} {W : World} {ok : Nat → Prop} {A : Option Addr} {n cap : Nat} {t : List (List α)} (h : Kd.S (fr_S e d) e' W c0 ok (.slice A n cap) t) :
  ∃ G : Nat → Nat, ∀ i, i < t.length → ∃ ad u, A = some ad ∧ c0 ≤ ad.block ∧ ad.block < W.heap.size ∧ W.cell? (ad.add i) = some u ∧ (Kd.tag G d).R e W c0 ok u ((t.getD i []).zipIdx (fr_pos t i)) := by
 obtain ⟨F, hR⟩ := h
 have hn := (Kd.R_reads' hR).1
 rw [List.length_zipIdx] at hn
 have key : ∀ i : Nat, ∃ g : Nat → Nat, i < t.length → ∃ ad u, A = some ad ∧ c0 ≤ ad.block ∧ ad.block < W.heap.size ∧ W.cell? (ad.add i) = some u ∧ (Kd.tag g d).R e W c0 (fun k => ok k ∧ F k = i) u (t.getD i []).zipIdx := by
  intro i
  by_cases hi : i < t.length
  ·obtain ⟨g0, cap0, hv, hb1, hb2, _⟩ := Kd.R_form hR (by rw [List.length_zipIdx]; omega)
   injection hv with hA _ _
   subst hA
   obtain ⟨c, hcl, hM, hcc⟩ := Kd.R_getA hR ([], i) (i : Int) (by omega) (by omega)
   have e1 : t.zipIdx.getD (i : Int).toNat ([], i) = (t.getD i [], i) := by
    rw [Int.toNat_natCast, List.getD_eq_getElem?_getD, List.getElem?_zipIdx, List.getD_eq_getElem?_getD, List.getElem?_eq_getElem hi]
    simp
   rw [e1] at hM
   obtain ⟨u, rfl, g, hg⟩ := hM
   have hc := hcc 0 u rfl
   rw [show (Kd.tag F (fr_S e d)).sz = 1 from rfl, Int.toNat_natCast, Nat.mul_one, Nat.add_zero] at hc
   exact ⟨g, fun _ => ⟨_, u, rfl, hb1, hb2, hc, Kd.R_mono hg (fun k hk => ⟨hk.1.1, hk.2⟩)⟩⟩
  ·exact ⟨fun _ => 0, fun h => absurd h hi⟩
 obtain ⟨g, hg⟩ := Classical.axiomOfChoice key
 refine ⟨fun k => fr_pos t (F k) + g (F k) k, fun i hi => ?_⟩
 obtain ⟨ad, u, h1, h2, h3, h4, hr⟩ := hg i hi
 exact ⟨ad, u, h1, h2, h3, h4, Kd.R_mono (fr_retag hr (fun k hk => by show fr_pos t (F k) + g (F k) k = _; rw [hk.2])) (fun k hk => hk.1)⟩
theorem fr_cnt {α : Type} : ∀ (ys : List (α × Nat)) (j : Nat) (y : α × Nat), ys.Pairwise (fun a b => a.2 < b.2) → ys[j]? = some y → ys.countP (fun p => decide (p.2 < y.2)) = j
 | [], j, y, _, h => by simp at h
 | z :: r, 0, y, hp, h => by
  obtain rfl : z = y := by simpa using h
  rw [List.countP_eq_zero]
  intro p hm
  rcases List.mem_cons.1 hm with rfl | hm
  ·simp
  ·have := (List.pairwise_cons.1 hp).1 p hm
   simp
   omega
 | z :: r, j + 1, y, hp, h => by
  rw [List.getElem?_cons_succ] at h
  have hz := (List.pairwise_cons.1 hp).1 y (List.mem_of_getElem? h)
  rw [List.countP_cons_of_pos (by simpa using hz), fr_cnt r j y (List.pairwise_cons.1 hp).2 h]
theorem fr_done {α : Type} {d : Kd α} {e base : Nat} {w : World} {ok : Nat → Prop} {v : Value} {G : Nat → Nat} {ys : List (α × Nat)} (h : (Kd.tag G d).R e w base ok v ys) (hp : ys.Pairwise (fun a b => a.2 < b.2)) : Kd.S d e w base ok v (ys.map Prod.fst) := by
 obtain ⟨h0, inner, ho, hr⟩ := h
 refine ⟨fun k => ys.countP (fun p => decide (p.2 < G k)), h0, inner, by rw [List.length_zipIdx, List.length_map]; exact ho, by have := hr.1; rw [List.length_zipIdx, List.length_map]; exact this, fun j p hj => ?_⟩
 rw [List.getElem?_zipIdx, List.getElem?_map] at hj
 obtain ⟨x, hx, rfl⟩ := Option.map_eq_some_iff.1 hj
 obtain ⟨y, hy, rfl⟩ := Option.map_eq_some_iff.1 hx
 exact d.M_mono (fun k hk => ⟨hk.1, by show List.countP (fun p => decide (p.2 < G k)) ys = 0 + j; rw [hk.2, fr_cnt ys j y hp hy, Nat.zero_add]⟩) (hr.2 j y hy)
theorem fr_cell {w w' : World} {a : Addr} (h : w'.heap[a.block]? = w.heap[a.block]?) : w'.cell? a = w.cell? a := by
 unfold World.cell?
 rw [h]
structure fr_I {α : Type} (d : Kd α) (e base c0 : Nat) (G : Nat → Nat) (W0 w : World) (v : Value) (m : Nat) (ys : List (α × Nat)) : Prop where
 row : (Kd.tag G d).R e w base (fun _ => True) v ys
 own : ∀ k, v.ownBlock = some k → k < c0 ∨ W0.heap.size ≤ k
 still : ∀ k, c0 ≤ k → k < W0.heap.size → w.heap[k]? = W0.heap[k]?
 size : W0.heap.size ≤ w.heap.size
 top : ∀ p ∈ ys, p.2 < m
 up : ys.Pairwise (fun a b => a.2 < b.2)
section
variable {α : Type} {d : Kd α} {e base c0 m : Nat} {G f : Nat → Nat} {W0 Wc w w1 : World} {v v1 : Value} {ys : List (α × Nat)}
theorem fr_start {ok : Nat → Prop} (h : (Kd.tag f d).R e Wc base ok v []) (hb : Below Wc.heap.size Wc W0) (G : Nat → Nat) : fr_I d e base Wc.heap.size G W0 W0 v 0 [] := by
 have h1 := (Kd.R_bound h).1
 obtain ⟨h0, inner, ho, hr⟩ := Kd.R_below h hb
 exact ⟨⟨fun _ _ => trivial, inner, ho, hr.1, fun j p hj => by simp at hj⟩, fun k hk => .inl (h1 k hk).2.2.1, fun _ _ _ => rfl, Nat.le_refl _, fun p hp => by simp at hp, List.Pairwise.nil⟩
theorem fr_I.below (h : fr_I d e base c0 G W0 w v m ys) (hb : Below w.heap.size w w1) : fr_I d e base c0 G W0 w1 v m ys :=
 ⟨Kd.R_below h.row hb, h.own, fun k h1 h2 => (hb.block k (Nat.lt_of_lt_of_le h2 h.size)).trans (h.still k h1 h2), Nat.le_trans h.size hb.size, h.top, h.up⟩
theorem fr_I.more {m' : Nat} (h : fr_I d e base c0 G W0 w v m ys) (hm : m ≤ m') : fr_I d e base c0 G W0 w v m' ys := ⟨h.row, h.own, h.still, h.size, fun p hp => Nat.lt_of_lt_of_le (h.top p hp) hm, h.up⟩
theorem fr_I.lent {β : Type} {d' : Kd β} {e' : Nat} {ok : Nat → Prop} {u : Value} {l : List β} (h : fr_I d e base c0 G W0 w v m ys) (hl : d'.R e' W0 c0 ok u l) : d'.R e' w c0 (fun k => c0 ≤ k ∧ k < W0.heap.size) u l :=
 Kd.R_mono (Kd.R_move (Kd.R_bound hl) (fun k hk => h.still k hk.2.1 hk.2.2.1)) (fun k hk => ⟨hk.2.1, hk.2.2.1⟩)
theorem fr_I.push {x : α} (h : fr_I d e base c0 G W0 w v m ys) (ho : (Kd.tag G d).R e w1 base (fun _ => True) v1 (ys ++ [(x, m)])) (hg : w.grownBy w1 v.ownBlock) (hat : v1.ownBlock = v.ownBlock ∨ ∃ b, v1.ownBlock = some b ∧ w.heap.size ≤ b) : fr_I d e base c0 G W0 w1 v1 (m + 1) (ys ++ [(x, m)]) := by
 refine ⟨ho, fun k hk => ?_, fun k h1 h2 => ?_, Nat.le_trans h.size hg.size, fun p hp => ?_, ?_⟩
 ·rcases hat with hat | ⟨b, hb, hle⟩
  ·exact h.own k (by rw [← hat]; exact hk)
  ·rw [hb] at hk
   obtain rfl := Option.some.inj hk
   exact .inr (Nat.le_trans h.size hle)
 ·refine (hg.block k (Nat.lt_of_lt_of_le h2 h.size) (fun e_ => ?_)).trans (h.still k h1 h2)
  rcases h.own k e_.symm with h3 | h3 <;> omega
 ·rcases List.mem_append.1 hp with hp | hp
  ·exact Nat.lt_succ_of_lt (h.top p hp)
  ·obtain rfl := List.mem_singleton.1 hp
   exact Nat.lt_succ_self _
 ·refine List.pairwise_append.2 ⟨h.up, List.pairwise_singleton _ _, fun a ha b hb => ?_⟩
  obtain rfl := List.mem_singleton.1 hb
  exact h.top a ha
end
set_option maxHeartbeats 8000000 in
set_option maxRecDepth 100000 in
theorem impl_Store_logs.callsS (k : Nat) (A0_0 : Option Addr) (c0_0 : Nat) (l0_0 : List (S65)) (a0_1 : Int) (r : List (List (S43))) (w : World) (hr0_0 : Kd.C k65 w A0_0 l0_0.length l0_0) (hc0_0 : l0_0.length ≤ c0_0) (h : impl_Store_logs.f k l0_0 a0_1 = some r) :
 Calls Try.prog 73 #[.agg #[.slice A0_0 l0_0.length c0_0, .int .i64 a0_1]] w fun e w' => ∃ v0_ : Value, e = .returned (v0_) ∧ Kd.S (fr_S 43 k43) 48 w' w.heap.size (fun _ => True) v0_ r ∧ Below w.heap.size w w' := by
 have hu24 := Try.underlying24
 have hu65 := Try.underlying65
 have HR0_0 := Aside0.mk hr0_0
 have HC0_0 := Aside0.mk hc0_0
 clear hr0_0 hc0_0
 have HB := Aside0.mk (Below.refl w.heap.size w)
 have H : (impl_Store_logs.l0 k (([] : List (List (S43)))) l0_0 (l0_0.length : Int) 0) = some r := h
 clear h
 have H' := Aside0.mk H
 clear H
 go_enter Try.func73, Try.ntmps73
 go_wp2_with (first | ((with_reducible refine gate_dst (N := 1) rfl ?_); refine bq_ (N := 1) #[.slice A0_0 l0_0.length c0_0, .int .i64 a0_1] 24 ?_; intro gb356 hg w2 BK356 hb; have GE356 := ge_ hg; replace HB := nb_ hb; clear hb hg) | ((with_reducible refine gate_dst (N := 8) rfl ?_); refine Kd.R_lit (Kd.tag (fun _ => 0) (fr_S 43 k43)) _ 48 ?hg (N := 8) ?hd (xs := ([] : List (List S43 × Nat))) (inner := []) (ok := fun _ => True) (okp := fun _ => True) ?hr ?hp (fun _ hk => hk) trivial (Below.refl _ _) (Nat.le_refl _) (by simp) ?_; (case hd => rfl); (case hg => rfl); (case hr => first | (go_simp; done) | (go_simp; rfl)); (case hp => exact (Reps.none _ _)); intro v358 w3 ho4 hb hg_ hnew_; clear hg_ hnew_; have HO359 : Aside0 (Kd.S (fr_S 43 k43) 48 _ w.heap.size (fun _ => True) v358 []) := ⟨⟨_, Kd.R_lower ho4 (below_size (hs_ GE356.out))⟩⟩; replace BK356 := bK_ BK356 hb; replace HB := nc_ GE356 hb; clear hb ho4; obtain ⟨hcz5_0, hcz5_1, hfz5_0, hfz5_1⟩ := cf2_ BK356.out))
 go_loopg [3, 12] k (fun kq v3 v12 w' => ∃ (x3_1 : List (List (S43))) (x12_1 : Int), v12 = .int .i64 x12_1 ∧ Aside0 (impl_Store_logs.l0 kq x3_1 l0_0 (l0_0.length : Int) x12_1 = some r) ∧ Aside0 (kq ≤ k) ∧ Aside0 (Kd.S (fr_S 43 k43) 48 w' w.heap.size (fun _ => True) v3 x3_1) ∧ Aside0 (w'.heap[gb356]? = some (.cells #[(.slice A0_0 l0_0.length c0_0), .int .i64 a0_1] 24 (0, 0))) ∧ Aside0 (Below w.heap.size w w'))
 case atStart => exact ⟨[], (0), sr_, H', ⟨Nat.le_refl _⟩, ⟨ks_ HO359.out⟩, ⟨kb_ BK356.out⟩, ⟨hs_ GE356.out⟩⟩
 case round =>
  clear H'
  try clear hcz5_0
  try clear hcz5_1
  try clear hfz5_0
  try clear hfz5_1
  obtain ⟨x3_1, x12_1, rfl, HA, HK1, HO_3, BK356, HB⟩ := hrel
  cases gk with
  | zero => exact absurd HA.out (by simp [impl_Store_logs.l0])
  | succ k1 =>
   have H := HA.out
   clear HA
   simp only [impl_Store_logs.l0] at H
   replace H := ite_ H
   obtain ⟨c6, H⟩ | ⟨c6, H⟩ := H
   rotate_left
   ·have c6b0 := decide_eq_false c6
    clear c6
    obtain rfl := Option.some.inj H
    go_wp2
    go_ret
    exact ⟨_, er_, ks_ HO_3.out, hs_ GE356.out⟩
   have c6b0 := decide_eq_true c6
   clear c6
   replace H := ifs_ H
   obtain ⟨c7, H⟩ := H
   have c7b0 := decide_eq_true c7
   clear c7
   replace H := ifs_ H
   obtain ⟨c8, H⟩ := H
   have c8b0 := decide_eq_true c8
   clear c8
   replace H := bnd_ H
   obtain ⟨⟨t362, t363⟩, A9, H⟩ := H
   replace H := red_ H
   replace H := ifs_ H
   obtain ⟨c10, H⟩ := H
   have LMc10 := Aside0.mk c10
   clear c10
   obtain ⟨y366, hy366⟩ : ∃ y_ : List (List (S43)), y_ = (x3_1 ++ [t362]) := ⟨_, rfl⟩
   replace H : (impl_Store_logs.l0 k1 y366 l0_0 (l0_0.length : Int) (wrap64 (x12_1 + 1))) = some r := by first | (rw [hy366]; with_reducible exact H) | (have H2_ := (Option.bind_some _ _).symm.trans H; rw [hy366]; with_reducible exact H2_) | (have H2_ := (Option.bind_some _ _).symm.trans H; with_reducible exact H2_) | with_reducible exact H | (rw [hy366]; exact H) | exact H
   have Ny366 := Aside0.mk hy366
   clear hy366
   have H' := Aside0.mk H
   clear H
   have p360 : 0 ≤ (x12_1 : Int) := oa_
   have q360 : x12_1 < (l0_0.length : Int) := oa_
   obtain ⟨ad360, A360_2, c360_2, e360, hx360_0, hx360_1, hx360_2, hl360_2, hi360_2⟩ := at_T65 HR0_0.out x12_1 p360 q360
   cases e360
   replace hx360_0 := pc_ HB.out hx360_0
   replace hx360_1 := pc_ HB.out hx360_1
   replace hx360_2 := pc_ HB.out hx360_2
   have HR360_2 := Aside0.mk hi360_2
   have HC360_2 := Aside0.mk hl360_2
   clear hi360_2 hl360_2
   replace p360 := eq_true p360
   replace q360 := eq_true q360
   go_wp2_with (first | ((with_reducible refine gate_dst (N := 5) rfl ?_); refine box_event ?hg (N := 5) ?hd (cs := #[.int .i64 0, .string (⟨#[]⟩ : ByteArray), .slice none 0 0]) (t := 65) ?hr ?_; (case hd => rfl); (case hg => rfl); (case hr => first | (go_simp; done) | (go_simp; rfl)); intro gb361 hg w11 hbox hb; replace HO_3 := sB_ HO_3 hb; have BK361 := Aside0.mk (hbox); have GE361 := ge1_ hg GE356; replace HB := nc_ GE356 hb; have NB356_361 := nl_ BK356 hg; have NB361_356 := ng_ BK356 hg; replace BK356 := bK_ BK356 hb; clear hb hbox hg; have hnb12 := NB361_356.out; have hnc12 := NB356_361.out; obtain ⟨hcz13_0, hcz13_1, hcz13_2, hfz13_0, hfz13_1, hfz13_2⟩ := cf3_ BK361.out) | ((with_reducible refine gate_callee (f := 105) rfl ?_); refine gl_ 19 Try.func105 #[.string ((rd_T65 l0_0 x12_1).f1)] rfl ma_ ?_; (with_reducible refine (impl_readLog.calls k1 ((rd_T65 l0_0 x12_1).f1) t362 t363 _ A9.out).mono ?_); rintro e w14 ⟨v364, rfl, ho0, hb⟩; refine ⟨_, rfl, ?_⟩; obtain ⟨z_, hz1_, hz2_, hz3_⟩ : ∃ z_, Kd.S (fr_S 43 k43) 48 w14 w.heap.size (fun k_ => True ∧ ¬ z_ ≤ k_) u3 x3_1 ∧ Kd.S k43 43 w14 w.heap.size (fun k_ => z_ ≤ k_) v364 t362 ∧ (∀ k_, u3.ownBlock = some k_ → k_ < z_) := ⟨_, Kd.S_mono (Kd.S_below (Kd.S_bound (Kd.S_mono (sF_ (Kd.S_types HO_3.out BK361.out (by decide))) (fun _ h_ => h_.1))) hb) (fun k_ hk => ⟨trivial, Nat.not_le_of_lt hk.2.2.1⟩), Kd.S_lower (Kd.S_mono (Kd.S_bound ho0) (fun _ hk => hk.2.1)) (below_size (hs2_ GE356.out GE361.out)), fun k_ e_ => ((Kd.S_R (Kd.S_bound (Kd.S_mono (sF_ (Kd.S_types HO_3.out BK361.out (by decide))) (fun _ h_ => h_.1)))).1 k_ e_).2.2.1⟩; replace HO_3 := Aside0.mk hz1_; have HO365 := Aside0.mk hz2_; have HZ := Aside0.mk hz3_; clear hz1_ hz2_ hz3_; replace BK356 := Aside0.mk (blk_below (g := gb356) (o := .cells #[.slice (some ad360) l0_0.length c0_0, .int .i64 a0_1] 24 (0, 0)) (uf_ BK356 NB356_361.out) hb); replace BK361 := Aside0.mk (blk_below (g := gb361) (o := .cells #[.int .i64 ((rd_T65 l0_0 x12_1).f0), .string ((rd_T65 l0_0 x12_1).f1), .slice A360_2 ((rd_T65 l0_0 x12_1).f2).length c360_2] 65 (0, 0)) (up_ BK361) hb); replace HB := nc2_ GE356 GE361 hb; (try clear hb); (try clear hb2); (try clear hk); (try clear hi); (try clear ho0); obtain ⟨Ao16, co16, eo16⟩ := Kd.S_slice HO365.out; subst eo16) | ((with_reducible refine gate_builtin (b := .append) (xs := #[.tmp 22, .tmp 24]) rfl ?_); at_builtin; refine Kd.S_append (fr_S 43 k43) (w0 := w) w.heap.size rfl (.tmp 22) (.tmp 24) 92 48 (.slice none 0 0) 24 rfl Try.underlying92 info48 rfl (by decide) (by omega) u3 x3_1 t362 [.slice Ao16 t362.length co16] (fun _ => True) (fun k_ => z_ ≤ k_) rfl rfl ?aP ?aK ?aF ?aO ?aB ?aS ?aL ?_; (case aP => exact ⟨_, rfl, ks_ HO365.out⟩); (case aK => exact (fun k_ hk => ⟨trivial, fun e_ => absurd (HZ.out k_ e_.symm) (Nat.not_lt_of_le hk)⟩)); (case aF => exact (fun _ _ => trivial)); (case aO => exact (ks_ HO_3.out)); (case aB => exact (hs2_ GE356.out GE361.out)); (case aS => exact (below_size (hs2_ GE356.out GE361.out))); (case aL => have := LMc10.out; omega); intro v367 w15 ho hb hg hat; rw [← Ny366.out] at ho; replace BK356 := Aside0.mk (blk_grown (g := gb356) (o := .cells #[.slice (some ad360) l0_0.length c0_0, .int .i64 a0_1] 24 (0, 0)) (kb_ BK356.out) hg (Kd.S_ne HO_3.out BK356.out (by decide))); replace BK361 := Aside0.mk (blk_grown (g := gb361) (o := .cells #[.int .i64 ((rd_T65 l0_0 x12_1).f0), .string ((rd_T65 l0_0 x12_1).f1), .slice A360_2 ((rd_T65 l0_0 x12_1).f2).length c360_2] 65 (0, 0)) (kb_ BK361.out) hg (Kd.S_ne HO_3.out BK361.out (by decide))); replace HB := Aside0.mk (hb); have HO368 := Aside0.mk (ho); clear HO_3 HO365; clear ho hb hg hat))
   go_roundg k1
   case measure => have := HK1.out; omega
   case rel => exact ⟨(y366), (wrap64 (x12_1 + 1)), sr_, H', ⟨by have := HK1.out; omega⟩, ⟨ks_ HO368.out⟩, ⟨kb_ BK356.out⟩, ⟨hs2_ GE356.out GE361.out⟩⟩
def impl_Store_from.P (a1 : Int) (b : S43) : Bool := decide (a1 < wrap64 (b.f0 + (b.f4.length : Int)))
def impl_Store_from.f (k : Nat) (l0_0 : List S65) (a0_1 : Int) (a1 : Int) : Option (List S43) := (impl_Store_logs.f k l0_0 a0_1).bind fun t => if t.flatten.length < 2513169434916 then some (t.flatten.filter (impl_Store_from.P a1)) else none
theorem impl_Store_from.mono : ∀ a0 a1 a2 k, LeO (impl_Store_from.f k a0 a1 a2) (impl_Store_from.f (k + 1) a0 a1 a2) := by
 intro a0 a1 a2 k
 exact LeO.bind (impl_Store_logs.mono _ _ _) (fun _ => LeO.refl _)
set_option maxHeartbeats 8000000 in
set_option maxRecDepth 100000 in
theorem impl_Store_from.calls (k : Nat) (A0_0 : Option Addr) (c0_0 : Nat) (l0_0 : List S65) (a0_1 : Int) (a1 : Int) (r : List S43) (w : World) (hr0_0 : Kd.C k65 w A0_0 l0_0.length l0_0) (hc0_0 : l0_0.length ≤ c0_0) (h : impl_Store_from.f k l0_0 a0_1 a1 = some r) :
  Calls Try.prog 78 #[.agg #[.slice A0_0 l0_0.length c0_0, .int .i64 a0_1], .int .i64 a1] w fun e w' => ∃ v0_ : Value, e = .returned v0_ ∧ Kd.S k43 43 w' w.heap.size (fun _ => True) v0_ r ∧ Below w.heap.size w w' := by
 have hu24 := Try.underlying24
 have hu43 := Try.underlying43
 have HR0_0 := Aside0.mk hr0_0
 have HC0_0 := Aside0.mk hc0_0
 clear hr0_0 hc0_0
 have HB := Aside0.mk (Below.refl w.heap.size w)
 obtain ⟨t, A1, H⟩ := bnd_ h
 clear h
 replace H := ifs_ H
 obtain ⟨c1, H⟩ := H
 have HRr := Aside0.mk (Option.some.inj H)
 have LC := Aside0.mk c1
 clear c1 H
 go_enter Try.func78, Try.ntmps78
 go_wp2_with (first | ((with_reducible refine gate_dst (N := 2) rfl ?_); refine be_ (N := 2) #[.slice A0_0 l0_0.length c0_0, .int .i64 a0_1] 24 ?_; intro gb hg w2 hbox hb; have BK := Aside0.mk (hbox); have GE := ge_ hg; replace HB := nb_ hb; clear hb hbox hg) | ((with_reducible refine gate_dst (N := 10) rfl ?_); refine Kd.R_lit (Kd.tag (fun _ => 0) k43) _ 43 ?hg (N := 10) ?hd (xs := ([] : List (S43 × Nat))) (inner := []) (ok := fun _ => True) (okp := fun _ => True) ?hr ?hp (fun _ hk => hk) trivial (Below.refl _ _) (Nat.le_refl _) (by simp) ?_; (case hd => rfl); (case hg => rfl); (case hr => first | (go_simp; done) | (go_simp; rfl)); (case hp => exact (Reps.none _ _)); intro v10 w3 ho4 hb hg_ hnew_; clear hg_ hnew_; have HO := Aside0.mk (Kd.R_lower ho4 (below_size (hs_ GE.out))); replace BK := bK_ BK hb; replace HB := nc_ GE hb; clear hb ho4; obtain ⟨hcz_0, hcz_1, hfz_0, hfz_1⟩ := cf2_ BK.out))
 refine (impl_Store_logs.callsS k _ _ l0_0 a0_1 t _ (cs_ (Kd.C_below HR0_0.out HB.out)) HC0_0.out A1.out).mono ?_
 rintro e w7 ⟨v12, rfl, ho0, hb⟩
 obtain ⟨c0, hz0_, hz1_, hz2_⟩ : ∃ c0, w.heap.size ≤ c0 ∧ Kd.S (fr_S 43 k43) 48 w7 c0 (fun _ => True) v12 t ∧ ∀ G, fr_I k43 43 w.heap.size c0 G w7 w7 v10 0 [] := ⟨_, below_size (hs_ GE.out), ho0, fun G => fr_start (kr_ HO.out) hb G⟩
 have GC := Aside0.mk hz0_
 have HL := Aside0.mk hz1_
 have HI := Aside0.mk hz2_
 clear hz0_ hz1_ hz2_
 replace HB := nc_ GE hb
 clear hb ho0 BK HO hcz_0 hcz_1 hfz_0 hfz_1
 obtain ⟨A12, c12, eo12⟩ := Kd.S_slice HL.out
 subst eo12
 go_wp2
 obtain ⟨G, hG⟩ := fr_lent HL.out
 have hbt : t.length ≤ 9223372036854775807 := (Kd.S_reads' HL.out).2.2.2.1
 replace HI := Aside0.mk (HI.out G)
 have HG := Aside0.mk hG
 clear hG HL
 go_loopg [5, 14] t.length (fun gg s5 s14 wr => ∃ (ys : List (S43 × Nat)) (i : Nat), s14 = .int .i64 i ∧ i ≤ t.length ∧ t.length - i ≤ gg ∧ Aside0 (fr_I k43 43 w.heap.size c0 G w7 wr s5 (fr_pos t i) ys) ∧ Aside0 (ys.map Prod.fst = ((t.take i).flatten).filter (impl_Store_from.P a1)) ∧ Aside0 (Below w.heap.size w wr))
 case atStart => exact ⟨[], 0, rfl, Nat.zero_le _, by omega, HI, ⟨rfl⟩, HB⟩
 case round =>
  clear HI HB
  obtain ⟨ys, i, rfl, hi, hg, HI, HE, HB⟩ := hrel
  by_cases hlt : i < t.length
  ·have hltz : (i : Int) < (t.length : Int) := by omega
   obtain ⟨ad, u, rfl, hb1, hb2, hcell, hrow⟩ := HG.out i hlt
   replace hcell : wr.cell? (ad.add i) = some u := (fr_cell (by rw [add_block]; exact HI.out.still _ hb1 hb2)).trans hcell
   clear hb1 hb2
   have HN := Aside0.mk (fr_next t i hlt)
   have HF := Aside0.mk (fr_take t i hlt)
   have HA := Aside0.mk (fun j => fr_all t i j hlt)
   generalize t.getD i [] = l at hrow HN HF HA
   obtain ⟨A2, c2, rfl⟩ := Kd.R_slice hrow
   have hrow' := Aside0.mk hrow
   rw [List.length_zipIdx] at hcell hrow'
   clear hrow
   have hbl : l.length ≤ 9223372036854775807 := by have h_ := (Kd.R_reads' hrow'.out).2.2.2.1; rw [List.length_zipIdx] at h_; exact h_
   go_wp2
   go_loopg [5, 20] l.length (fun gg s5 s20 wq => ∃ (ys : List (S43 × Nat)) (j : Nat), s20 = .int .i64 j ∧ j ≤ l.length ∧ l.length - j ≤ gg ∧ Aside0 (fr_I k43 43 w.heap.size c0 G w7 wq s5 (fr_pos t i + j) ys) ∧ Aside0 (ys.map Prod.fst = ((t.take i).flatten ++ l.take j).filter (impl_Store_from.P a1)) ∧ Aside0 (Below w.heap.size w wq))
   case atStart => exact ⟨ys, 0, rfl, Nat.zero_le _, by omega, HI, ⟨by rw [HE.out]; simp⟩, HB⟩
   case round =>
    clear HI HE HB hcell
    obtain ⟨ys2, j, rfl, hj, hg2, HI, HE, HB⟩ := hrel
    by_cases hjl : j < l.length
    ·have hjz : (j : Int) < (l.length : Int) := by omega
     have hr2 := HI.out.lent hrow'.out
     obtain ⟨g2, cap2, hv2, hf1_, hf2_, hf3_⟩ := Kd.R_form hr2 (by rw [List.length_zipIdx]; omega)
     injection hv2 with hA2 hB2 hC2
     clear hf1_ hf2_ hf3_ hB2 hC2
     subst hA2
     obtain ⟨cs, hcl, hM, hcc, hff⟩ := Kd.R_elem hr2 (z43, 0) (j : Int) (by omega) (by omega)
     obtain ⟨x, hx⟩ : ∃ x, l[j]? = some x := ⟨_, List.getElem?_eq_getElem hjl⟩
     have e1 : (l.zipIdx (fr_pos t i)).getD (j : Int).toNat (z43, 0) = (x, fr_pos t i + j) := by
      rw [Int.toNat_natCast, List.getD_eq_getElem?_getD, List.getElem?_zipIdx, hx]
      rfl
     rw [e1] at hM
     obtain ⟨v4, rfl, g4⟩ := k43_openM hM
     obtain ⟨A4, c4, rfl, hl4, hC4⟩ := Kd.R_reads g4
     have hc0 := hcc 0 _ rfl
     have hc1 := hcc 1 _ rfl
     have hc2 := hcc 2 _ rfl
     have hc3 := hcc 3 _ rfl
     have hc4 := hcc 4 _ rfl
     rw [show (Kd.tag G k43).sz = 5 from rfl, Int.toNat_natCast] at hc0 hc1 hc2 hc3 hc4
     rw [Nat.add_zero] at hc0
     have G4 := Aside0.mk g4
     have HC4 := Aside0.mk hC4
     have HL4 := Aside0.mk hl4
     have HX := Aside0.mk (show l.take (j + 1) = l.take j ++ [x] from by rw [List.take_add_one, hx]; rfl)
     have HLN : Aside0 ((ys2.length + 1) * 56 ≤ 140737488355328) := ⟨by
      have q1 := HA.out j
      have q2 := congrArg List.length HE.out
      rw [List.length_map] at q2
      have q3 := List.length_filter_le (impl_Store_from.P a1) ((t.take i).flatten ++ l.take j)
      have q4 := LC.out
      omega⟩
     clear hcc hcl hff hM e1 hx hr2 g4 hC4 hl4
     have HW := Aside0.mk (Below.refl wr.heap.size wr)
     cases hq : decide (a1 < wrap64 (x.f0 + (x.f4.length : Int))) with
     | true =>
      have HP := Aside0.mk (show impl_Store_from.P a1 x = true from hq)
      go_wp2_with (first | ((with_reducible refine gate_dst (N := 9) rfl ?_); (try (refine gate_guard (by rfl) ?_; dsimp only)); refine bq_ (N := 9) #[.int .i64 0, .int .i64 0, .int .i64 0, .int .i64 0, .slice none 0 0] 43 ?_; intro gb2 hg w31 BK2 hb; have GE2 : Aside0 (wr.heap.size ≤ gb2) := ⟨by rw [hg]; exact below_size (by (repeat (first | exact Below.refl _ _ | exact HW.out | apply below_alloc | apply pw_below_drewN | apply below_drew1)))⟩; replace HW := Aside0.mk (below_step (w := wr) (by (repeat (first | exact Below.refl _ _ | exact HW.out | apply below_alloc | apply pw_below_drewN | apply below_drew1))) hb); clear hb hg; obtain ⟨hcz_0, hcz_1, hcz_2, hcz_3, hcz_4, hfz_0, hfz_1, hfz_2, hfz_3, hfz_4⟩ := cf5_ BK2.out) | ((with_reducible refine gate_store (t := 43) (p := 9) rfl ?_); refine store_event (t := 43) (p := 9) (v := ?vo_w34) (w1 := (((((w31.setCell ⟨gb2, 0, none⟩ (.int .i64 x.f0)).setCell ⟨gb2, 1, none⟩ (.int .i64 x.f1)).setCell ⟨gb2, 2, none⟩ (.int .i64 x.f2)).setCell ⟨gb2, 3, none⟩ (.int .i64 x.f3)).setCell ⟨gb2, 4, none⟩ (.slice A4 x.f4.length c4))) ?hg ?ho ?hn ?hr ?_; (case ho => rfl); (case hg => rfl); (case hn => rfl); (case hr => first | (go_simp; done) | (go_simp; rfl)); intro w34 hw; replace BK2 : Aside0 (w34.heap[gb2]? = some (.cells #[.int .i64 x.f0, .int .i64 x.f1, .int .i64 x.f2, .int .i64 x.f3, .slice A4 x.f4.length c4] 43 (0, 0))) := ⟨by rw [hw]; exact up_ BK2⟩; replace HW : Aside0 (Below wr.heap.size wr w34) := ⟨by (rw [hw]; (repeat (first | exact HW.out | refine below_set ?_ GE2.out | apply below_alloc | apply pw_below_drewN | apply below_drew1)))⟩; clear hw; obtain ⟨hcz_0, hcz_1, hcz_2, hcz_3, hcz_4, hfz_0, hfz_1, hfz_2, hfz_3, hfz_4⟩ := cf5_ BK2.out) | ((with_reducible refine gate_callee (f := 77) rfl ?_); refine gl_ 25 Try.func77 #[.agg #[.int .i64 x.f0, .int .i64 x.f1, .int .i64 x.f2, .int .i64 x.f3, .slice A4 x.f4.length c4]] rfl ma_ ?_; (with_reducible refine (impl_Batch_end.calls x.f0 x.f1 x.f2 x.f3 A4 c4 x.f4 (wrap64 (x.f0 + (x.f4.length : Int))) _ ?side1 ?side2 rfl).mono ?_); (case side1 => exact cs_ (Kd.C_below HC4.out HW.out)); (case side2 => exact HL4.out); rintro e w36 ⟨rfl, hb⟩; refine ⟨_, rfl, ?_⟩; replace BK2 := bK_ BK2 hb; replace HW := Aside0.mk (below_step (w := wr) (by (repeat (first | exact Below.refl _ _ | exact HW.out | apply below_alloc | apply pw_below_drewN | apply below_drew1))) hb); clear hb; obtain ⟨hcz_0, hcz_1, hcz_2, hcz_3, hcz_4, hfz_0, hfz_1, hfz_2, hfz_3, hfz_4⟩ := cf5_ BK2.out) | ((with_reducible refine gate_builtin (b := .append) (xs := #[.tmp 28, .tmp 30]) rfl ?_); (try (refine gate_guard (by rfl) ?_; dsimp only)); at_builtin; refine Kd.R_append (Kd.tag G k43) (w0 := w) w.heap.size rfl (.tmp 28) (.tmp 30) 48 43 (.agg #[(.int .i64 0), (.int .i64 0), (.int .i64 0), (.int .i64 0), (.slice none 0 0)]) 56 rfl Try.underlying48 info43 rfl (show 0 < k43.sz by decide) (by omega) u5 ys2 (x, fr_pos t i + j) [.int .i64 x.f0, .int .i64 x.f1, .int .i64 x.f2, .int .i64 x.f3, .slice A4 x.f4.length c4] (fun _ => True) (fun k_ => c0 ≤ k_ ∧ k_ < w7.heap.size) rfl rfl ?aP ?aK ?aF ?aO ?aB ?aS ?aL ?_; (case aP => exact k43_mkM _ _ _ x (Kd.R_mono (Kd.R_lower (Kd.R_below G4.out (by (repeat (first | exact Below.refl _ _ | exact HW.out | apply below_alloc | apply pw_below_drewN | apply below_drew1)))) GC.out) (fun k_ hk => ⟨hk.1.1, hk.2⟩))); (case aK => exact (fun k_ hk => ⟨trivial, fun e_ => by rcases HI.out.own k_ e_.symm with q_ | q_ <;> omega⟩)); (case aF => exact (fun _ _ => trivial)); (case aO => exact Kd.R_below HI.out.row (by (repeat (first | exact Below.refl _ _ | exact HW.out | apply below_alloc | apply pw_below_drewN | apply below_drew1)))); (case aB => exact below_step HB.out (by (repeat (first | exact Below.refl _ _ | exact HW.out | apply below_alloc | apply pw_below_drewN | apply below_drew1)))); (case aS => exact below_size (below_step HB.out (by (repeat (first | exact Below.refl _ _ | exact HW.out | apply below_alloc | apply pw_below_drewN | apply below_drew1))))); (case aL => exact HLN.out); intro v1 w37 ho hb hg_ hat; replace HI := Aside0.mk ((HI.out.below (by (repeat (first | exact Below.refl _ _ | exact HW.out | apply below_alloc | apply pw_below_drewN | apply below_drew1)))).push ho hg_ hat); replace HB := Aside0.mk (hb); clear ho hb hg_ hat))
      go_roundg (l.length - (j + 1))
      case measure => omega
      case rel => exact ⟨_, j + 1, by go_num, by omega, by omega, HI, ⟨by rw [List.map_append, HE.out, HX.out, ← List.append_assoc]; simp [HP.out]⟩, HB⟩
     | false =>
      have HP := Aside0.mk (show impl_Store_from.P a1 x = false from hq)
      go_wp2_with (first | ((with_reducible refine gate_dst (N := 9) rfl ?_); (try (refine gate_guard (by rfl) ?_; dsimp only)); refine bq_ (N := 9) #[.int .i64 0, .int .i64 0, .int .i64 0, .int .i64 0, .slice none 0 0] 43 ?_; intro gb2 hg w31 BK2 hb; have GE2 : Aside0 (wr.heap.size ≤ gb2) := ⟨by rw [hg]; exact below_size (by (repeat (first | exact Below.refl _ _ | exact HW.out | apply below_alloc | apply pw_below_drewN | apply below_drew1)))⟩; replace HW := Aside0.mk (below_step (w := wr) (by (repeat (first | exact Below.refl _ _ | exact HW.out | apply below_alloc | apply pw_below_drewN | apply below_drew1))) hb); clear hb hg; obtain ⟨hcz_0, hcz_1, hcz_2, hcz_3, hcz_4, hfz_0, hfz_1, hfz_2, hfz_3, hfz_4⟩ := cf5_ BK2.out) | ((with_reducible refine gate_store (t := 43) (p := 9) rfl ?_); refine store_event (t := 43) (p := 9) (v := ?vo_w34) (w1 := (((((w31.setCell ⟨gb2, 0, none⟩ (.int .i64 x.f0)).setCell ⟨gb2, 1, none⟩ (.int .i64 x.f1)).setCell ⟨gb2, 2, none⟩ (.int .i64 x.f2)).setCell ⟨gb2, 3, none⟩ (.int .i64 x.f3)).setCell ⟨gb2, 4, none⟩ (.slice A4 x.f4.length c4))) ?hg ?ho ?hn ?hr ?_; (case ho => rfl); (case hg => rfl); (case hn => rfl); (case hr => first | (go_simp; done) | (go_simp; rfl)); intro w34 hw; replace BK2 : Aside0 (w34.heap[gb2]? = some (.cells #[.int .i64 x.f0, .int .i64 x.f1, .int .i64 x.f2, .int .i64 x.f3, .slice A4 x.f4.length c4] 43 (0, 0))) := ⟨by rw [hw]; exact up_ BK2⟩; replace HW : Aside0 (Below wr.heap.size wr w34) := ⟨by (rw [hw]; (repeat (first | exact HW.out | refine below_set ?_ GE2.out | apply below_alloc | apply pw_below_drewN | apply below_drew1)))⟩; clear hw; obtain ⟨hcz_0, hcz_1, hcz_2, hcz_3, hcz_4, hfz_0, hfz_1, hfz_2, hfz_3, hfz_4⟩ := cf5_ BK2.out) | ((with_reducible refine gate_callee (f := 77) rfl ?_); refine gl_ 25 Try.func77 #[.agg #[.int .i64 x.f0, .int .i64 x.f1, .int .i64 x.f2, .int .i64 x.f3, .slice A4 x.f4.length c4]] rfl ma_ ?_; (with_reducible refine (impl_Batch_end.calls x.f0 x.f1 x.f2 x.f3 A4 c4 x.f4 (wrap64 (x.f0 + (x.f4.length : Int))) _ ?side1 ?side2 rfl).mono ?_); (case side1 => exact cs_ (Kd.C_below HC4.out HW.out)); (case side2 => exact HL4.out); rintro e w36 ⟨rfl, hb⟩; refine ⟨_, rfl, ?_⟩; replace BK2 := bK_ BK2 hb; replace HW := Aside0.mk (below_step (w := wr) (by (repeat (first | exact Below.refl _ _ | exact HW.out | apply below_alloc | apply pw_below_drewN | apply below_drew1))) hb); clear hb; obtain ⟨hcz_0, hcz_1, hcz_2, hcz_3, hcz_4, hfz_0, hfz_1, hfz_2, hfz_3, hfz_4⟩ := cf5_ BK2.out) | ((with_reducible refine gate_builtin (b := .append) (xs := #[.tmp 28, .tmp 30]) rfl ?_); (try (refine gate_guard (by rfl) ?_; dsimp only)); at_builtin; refine Kd.R_append (Kd.tag G k43) (w0 := w) w.heap.size rfl (.tmp 28) (.tmp 30) 48 43 (.agg #[(.int .i64 0), (.int .i64 0), (.int .i64 0), (.int .i64 0), (.slice none 0 0)]) 56 rfl Try.underlying48 info43 rfl (show 0 < k43.sz by decide) (by omega) u5 ys2 (x, fr_pos t i + j) [.int .i64 x.f0, .int .i64 x.f1, .int .i64 x.f2, .int .i64 x.f3, .slice A4 x.f4.length c4] (fun _ => True) (fun k_ => c0 ≤ k_ ∧ k_ < w7.heap.size) rfl rfl ?aP ?aK ?aF ?aO ?aB ?aS ?aL ?_; (case aP => exact k43_mkM _ _ _ x (Kd.R_mono (Kd.R_lower (Kd.R_below G4.out (by (repeat (first | exact Below.refl _ _ | exact HW.out | apply below_alloc | apply pw_below_drewN | apply below_drew1)))) GC.out) (fun k_ hk => ⟨hk.1.1, hk.2⟩))); (case aK => exact (fun k_ hk => ⟨trivial, fun e_ => by rcases HI.out.own k_ e_.symm with q_ | q_ <;> omega⟩)); (case aF => exact (fun _ _ => trivial)); (case aO => exact Kd.R_below HI.out.row (by (repeat (first | exact Below.refl _ _ | exact HW.out | apply below_alloc | apply pw_below_drewN | apply below_drew1)))); (case aB => exact below_step HB.out (by (repeat (first | exact Below.refl _ _ | exact HW.out | apply below_alloc | apply pw_below_drewN | apply below_drew1)))); (case aS => exact below_size (below_step HB.out (by (repeat (first | exact Below.refl _ _ | exact HW.out | apply below_alloc | apply pw_below_drewN | apply below_drew1))))); (case aL => exact HLN.out); intro v1 w37 ho hb hg_ hat; replace HI := Aside0.mk ((HI.out.below (by (repeat (first | exact Below.refl _ _ | exact HW.out | apply below_alloc | apply pw_below_drewN | apply below_drew1)))).push ho hg_ hat); replace HB := Aside0.mk (hb); clear ho hb hg_ hat))
      go_roundg (l.length - (j + 1))
      case measure => omega
      case rel => exact ⟨ys2, j + 1, by go_num, by omega, by omega, ⟨(HI.out.below (by (repeat (first | exact Below.refl _ _ | exact HW.out | apply below_alloc | apply pw_below_drewN | apply below_drew1)))).more (by omega)⟩, ⟨by rw [HE.out, HX.out, ← List.append_assoc]; simp [HP.out]⟩, ⟨below_step HB.out (by (repeat (first | exact Below.refl _ _ | exact HW.out | apply below_alloc | apply pw_below_drewN | apply below_drew1)))⟩⟩
    ·have hjz : ¬ (j : Int) < (l.length : Int) := by omega
     have hjl : j = l.length := by omega
     subst hjl
     go_wp2
     go_roundg (t.length - (i + 1))
     case measure => omega
     case rel => exact ⟨ys2, i + 1, by go_num, by omega, by omega, ⟨by rw [HN.out]; exact HI.out⟩, ⟨by rw [HE.out, HF.out, List.take_length]; simp⟩, HB⟩
  ·have hltz : ¬ (i : Int) < (t.length : Int) := by omega
   have hil : i = t.length := by omega
   subst hil
   have HE2 := Aside0.mk (show ys.map Prod.fst = t.flatten.filter (impl_Store_from.P a1) from by rw [HE.out, List.take_length])
   go_wp2
   go_ret
   have hS_ := fr_done HI.out.row HI.out.up
   rw [HE2.out, HRr.out] at hS_
   exact ⟨_, rfl, hS_, HB.out⟩



/-! ### impl_FindBatch: function 30 -/
def impl_FindBatch.f (k : Nat) (l0_0 : List (S65)) (a0_1 : Int) (a1 : Int) : Option (Int × Int × Int × Int × List ByteArray × Bool) := (impl_Store_has.f k l0_0 a0_1 a1).bind fun t438 => (if t438 = true then ((impl_Store_from.f k l0_0 a0_1 a1).bind fun t439 => (if 0 < (t439.length : Int) then (some ((rd_T43 t439 0).f0, (rd_T43 t439 0).f1, (rd_T43 t439 0).f2, (rd_T43 t439 0).f3, (rd_T43 t439 0).f4, true)) else (none))) else (some (0, 0, 0, 0, ([] : List ByteArray), false)))
theorem impl_FindBatch.mono : ∀ a0 a1 a2 k, LeO (impl_FindBatch.f k a0 a1 a2) (impl_FindBatch.f (k + 1) a0 a1 a2) := by
 intro a0 a1 a2 k
 unfold impl_FindBatch.f
 repeat' first
   | (with_reducible first | apply impl_Store_from.mono | apply impl_Store_has.mono | exact LeO.refl _ | exact LeO.none _ | refine LeO.ite ?_ ?_ | refine LeO.bind ?_ (fun _ => ?_))
set_option maxHeartbeats 8000000 in
set_option maxRecDepth 100000 in
theorem impl_FindBatch.calls (k : Nat) (A0_0 : Option Addr) (c0_0 : Nat) (l0_0 : List (S65)) (a0_1 : Int) (a1 : Int) (r1 : Int) (r2 : Int) (r3 : Int) (r4 : Int) (r5 : List ByteArray) (r6 : Bool) (w : World) (hr0_0 : Kd.C k65 w A0_0 l0_0.length l0_0) (hc0_0 : l0_0.length ≤ c0_0) (h : impl_FindBatch.f k l0_0 a0_1 a1 = some (r1, r2, r3, r4, r5, r6)) :
  Calls Try.prog 30 #[.agg #[.slice A0_0 l0_0.length c0_0, .int .i64 a0_1], .int .i64 a1] w fun e w' => ∃ v4_ : Value, e = .returned (.tuple #[.agg #[.int .i64 r1, .int .i64 r2, .int .i64 r3, .int .i64 r4, v4_], .bool r6]) ∧ Kd.R Kd.string 9 w' w.heap.size (fun _ => True) v4_ r5 ∧ Below w.heap.size w w' := by
 have hu24 := Try.underlying24
 have hu43 := Try.underlying43
 have HR0_0 := Aside0.mk hr0_0
 have HC0_0 := Aside0.mk hc0_0
 clear hr0_0 hc0_0
 have HB := Aside0.mk (Below.refl w.heap.size w)
 have H : ((impl_Store_has.f k l0_0 a0_1 a1).bind fun t438 => (if t438 = true then ((impl_Store_from.f k l0_0 a0_1 a1).bind fun t439 => (if 0 < (t439.length : Int) then (some ((rd_T43 t439 0).f0, (rd_T43 t439 0).f1, (rd_T43 t439 0).f2, (rd_T43 t439 0).f3, (rd_T43 t439 0).f4, true)) else (none))) else (some (0, 0, 0, 0, ([] : List ByteArray), false)))) = some (r1, r2, r3, r4, r5, r6) := h
 clear h
 replace H := bnd_ H
 obtain ⟨t438, A3, H⟩ := H
 replace H := ifb_ H
 obtain ⟨rfl, H⟩ | ⟨rfl, H⟩ := H
 rotate_left
 ·simp only [Option.some.injEq, Prod.mk.injEq] at H
  obtain ⟨rfl, rfl, rfl, rfl, rfl, rfl⟩ := H
  go_enter Try.func30, Try.ntmps30
  go_wp2_with (first | ((with_reducible refine gate_dst (N := 2) rfl ?_); refine bq_ (N := 2) #[.slice A0_0 l0_0.length c0_0, .int .i64 a0_1] 24 ?_; intro gb436 hg w16 BK436 hb; have GE436 := ge_ hg; replace HB := nb_ hb; clear hb hg) | ((with_reducible refine gate_dst (N := 4) rfl ?_); refine bq_ (N := 4) #[.int .i64 0, .int .i64 0, .int .i64 0, .int .i64 0, .slice none 0 0] 43 ?_; intro gb437 hg w17 BK437 hb; have GE437 := ge1_ hg GE436; replace HB := nc_ GE436 hb; have NB436_437 := nl_ BK436 hg; have NB437_436 := ng_ BK436 hg; replace BK436 := bK_ BK436 hb; clear hb hg; have hnb18 := NB436_437.out; have hnc18 := NB437_436.out; obtain ⟨hcz19_0, hcz19_1, hfz19_0, hfz19_1⟩ := cf2_ BK436.out) | ((with_reducible refine gate_callee (f := 70) rfl ?_); refine gl_ 8 Try.func70 #[.agg #[.slice A0_0 l0_0.length c0_0, .int .i64 a0_1], .int .i64 a1] rfl ma_ ?_; (with_reducible refine (impl_Store_has.calls k _ _ l0_0 a0_1 a1 false _ ?side1 ?side2 A3.out).mono ?_); (case side1 => exact cs_ ((Kd.C_below HR0_0.out HB.out))); (case side2 => exact HC0_0.out); rintro e w20 ⟨rfl, hb⟩; refine ⟨_, rfl, ?_⟩; replace BK436 := bK_ BK436 hb; replace BK437 := bK_ BK437 hb; replace HB := nc2_ GE436 GE437 hb; (try clear hb); (try clear hb2); (try clear hk); (try clear hi); obtain ⟨hcz21_0, hcz21_1, hcz21_2, hcz21_3, hcz21_4, hfz21_0, hfz21_1, hfz21_2, hfz21_3, hfz21_4⟩ := cf5_ BK437.out))
  refine bodyPost_ret (results_ct rfl _ _ gb437 43 #[.int .i64 0, .int .i64 0, .int .i64 0, .int .i64 0, .slice none 0 0] (0, 0) _ rfl (up_ BK437) Try.underlying43 rfl (by kernel_rfl)) rfl ?_
  exact ⟨_, er_, ni_, hs2_ GE436.out GE437.out⟩
 replace H := bnd_ H
 obtain ⟨t439, A5, H⟩ := H
 replace H := ifs_ H
 obtain ⟨c6, H⟩ := H
 have c6b0 := decide_eq_true c6
 have c6b1 : decide (0 < t439.length) = true := decide_eq_true (by omega)
 clear c6
 simp only [Option.some.injEq, Prod.mk.injEq] at H
 obtain ⟨rfl, rfl, rfl, rfl, rfl, rfl⟩ := H
 go_enter Try.func30, Try.ntmps30
 go_wp2_with (first | ((with_reducible refine gate_dst (N := 2) rfl ?_); refine bq_ (N := 2) #[.slice A0_0 l0_0.length c0_0, .int .i64 a0_1] 24 ?_; intro gb436 hg w7 BK436 hb; have GE436 := ge_ hg; replace HB := nb_ hb; clear hb hg) | ((with_reducible refine gate_dst (N := 4) rfl ?_); refine bq_ (N := 4) #[.int .i64 0, .int .i64 0, .int .i64 0, .int .i64 0, .slice none 0 0] 43 ?_; intro gb437 hg w8 BK437 hb; have GE437 := ge1_ hg GE436; replace HB := nc_ GE436 hb; have NB436_437 := nl_ BK436 hg; have NB437_436 := ng_ BK436 hg; replace BK436 := bK_ BK436 hb; clear hb hg; have hnb9 := NB436_437.out; have hnc9 := NB437_436.out; obtain ⟨hcz10_0, hcz10_1, hfz10_0, hfz10_1⟩ := cf2_ BK436.out) | ((with_reducible refine gate_callee (f := 70) rfl ?_); refine gl_ 8 Try.func70 #[.agg #[.slice A0_0 l0_0.length c0_0, .int .i64 a0_1], .int .i64 a1] rfl ma_ ?_; (with_reducible refine (impl_Store_has.calls k _ _ l0_0 a0_1 a1 true _ ?side1 ?side2 A3.out).mono ?_); (case side1 => exact cs_ ((Kd.C_below HR0_0.out HB.out))); (case side2 => exact HC0_0.out); rintro e w11 ⟨rfl, hb⟩; refine ⟨_, rfl, ?_⟩; replace BK436 := bK_ BK436 hb; replace BK437 := bK_ BK437 hb; replace HB := nc2_ GE436 GE437 hb; (try clear hb); (try clear hb2); (try clear hk); (try clear hi); obtain ⟨hcz12_0, hcz12_1, hfz12_0, hfz12_1⟩ := cf2_ BK436.out) | ((with_reducible refine gate_callee (f := 78) rfl ?_); refine gl_ 13 Try.func78 #[.agg #[.slice A0_0 l0_0.length c0_0, .int .i64 a0_1], .int .i64 a1] rfl ma_ ?_; (with_reducible refine (impl_Store_from.calls k _ _ l0_0 a0_1 a1 t439 _ ?side1 ?side2 A5.out).mono ?_); (case side1 => exact cs_ ((Kd.C_below HR0_0.out HB.out))); (case side2 => exact HC0_0.out); rintro e w13 ⟨v440, rfl, ho0, hb⟩; refine ⟨_, rfl, ?_⟩; have HO441 := Aside0.mk (Kd.S_lower (Kd.S_newB ho0 (g := gb437) (o := .cells #[.int .i64 0, .int .i64 0, .int .i64 0, .int .i64 0, .slice none 0 0] 43 (0, 0)) (kb_ BK437.out)) (below_size (hs2_ GE436.out GE437.out))); replace BK436 := bK_ BK436 hb; replace BK437 := bK_ BK437 hb; replace HB := nc2_ GE436 GE437 hb; (try clear hb); (try clear hb2); (try clear hk); (try clear hi); (try clear ho0); obtain ⟨Ao14, co14, eo14⟩ := Kd.S_slice HO441.out; subst eo14; have p442 : 0 ≤ (0 : Int) := (by omega); have q442 : 0 < (t439.length : Int) := oa_; obtain ⟨ad442, A442_4, c442_4, e442, hx442_0, hx442_1, hx442_2, hx442_3, hx442_4, hl442_4, hi442_4⟩ := at_T43 (Kd.S_reads' HO441.out).2.2 0 p442 q442; cases e442; obtain ⟨ce442, hce442, hMe442, hcc442⟩ := Kd.S_get HO441.out z43 0 p442 (by first | exact q442 | exact oa_ | (have e_ := (Kd.S_reads' HO441.out).1; omega)); obtain ⟨ve442_4, rfl, ge442_4⟩ := k43_openM hMe442; have hv442_4 := hcc442 4 _ rfl; rw [add_field _ _ 4 (by omega)] at hv442_4; replace hv442_4 := Option.some.inj (hv442_4.symm.trans hx442_4); rw [hv442_4] at ge442_4; have HL442_4 := Aside0.mk (show Kd.R Kd.string 9 _ _ _ _ ((rd_T43 t439 0).f4) from ge442_4); clear hv442_4 ge442_4; clear hcc442 hce442; have qi442 : (0 < t439.length) = True := eq_true (by omega); (try rw [show ((0 : Int)).toNat = 0 from rfl] at hx442_0); (try rw [show 0 * 5 = 0 from rfl] at hx442_0); (try rw [Addr.add_zero'] at hx442_0); (try rw [show ((0 : Int)).toNat = 0 from rfl] at hx442_1); (try rw [show 0 * 5 = 0 from rfl] at hx442_1); (try rw [Addr.add_zero'] at hx442_1); (try rw [show ((0 : Int)).toNat = 0 from rfl] at hx442_2); (try rw [show 0 * 5 = 0 from rfl] at hx442_2); (try rw [Addr.add_zero'] at hx442_2); (try rw [show ((0 : Int)).toNat = 0 from rfl] at hx442_3); (try rw [show 0 * 5 = 0 from rfl] at hx442_3); (try rw [Addr.add_zero'] at hx442_3); (try rw [show ((0 : Int)).toNat = 0 from rfl] at hx442_4); (try rw [show 0 * 5 = 0 from rfl] at hx442_4); (try rw [Addr.add_zero'] at hx442_4); have HR442_4 := Aside0.mk hi442_4; have HC442_4 := Aside0.mk hl442_4; clear hi442_4 hl442_4; replace p442 := eq_true p442; replace q442 := eq_true q442; obtain ⟨hcz15_0, hcz15_1, hcz15_2, hcz15_3, hcz15_4, hfz15_0, hfz15_1, hfz15_2, hfz15_3, hfz15_4⟩ := cf5_ BK437.out))
 refine bodyPost_ret (results_ct rfl _ _ gb437 43 #[.int .i64 ((rd_T43 t439 0).f0), .int .i64 ((rd_T43 t439 0).f1), .int .i64 ((rd_T43 t439 0).f2), .int .i64 ((rd_T43 t439 0).f3), .slice A442_4 ((rd_T43 t439 0).f4).length c442_4] (0, 0) _ rfl (up_ BK437) Try.underlying43 rfl (by kernel_rfl)) rfl ?_
 exact ⟨_, er_, Kd.R_mono (rF_ (Kd.R_types HL442_4.out BK437.out (by decide))) (fun _ hk => trivial), hs2_ GE436.out GE437.out⟩

/-! ### laws_eqStringS: function 43 -/
def laws_eqStringS.l0 : Nat → List ByteArray → List ByteArray → Int → Option (Bool)
 | 0, _, _, _ => none
 | k + 1, x0, x1, x5 => if x5 < (x0.length : Int) then (if 0 ≤ x5 then (if x5 < (x1.length : Int) then (if (rdOf ByteArray.empty x0 x5).toList = (rdOf ByteArray.empty x1 x5).toList then (laws_eqStringS.l0 k x0 x1 (wrap64 (x5 + 1))) else (some false)) else (none)) else (none)) else (some true)
def laws_eqStringS.f (k : Nat) (l0 : List ByteArray) (l1 : List ByteArray) : Option (Bool) := if (l0.length : Int) = (l1.length : Int) then (laws_eqStringS.l0 k l0 l1 0) else (some false)
theorem laws_eqStringS.mono_l : ∀ k, (∀ y0 y1 y2, LeO (laws_eqStringS.l0 k y0 y1 y2) (laws_eqStringS.l0 (k + 1) y0 y1 y2))
 | 0 => fun _ _ _ r h => by simp [laws_eqStringS.l0] at h
 | k + 1 => by
  have ih0 := laws_eqStringS.mono_l k
  ·intro y0 y1 y2
   unfold laws_eqStringS.l0
   repeat' first
   | (with_reducible first | apply ih0 | exact LeO.refl _ | exact LeO.none _ | refine LeO.ite ?_ ?_ | refine LeO.bind ?_ (fun _ => ?_))
theorem laws_eqStringS.mono : ∀ a0 a1 k, LeO (laws_eqStringS.f k a0 a1) (laws_eqStringS.f (k + 1) a0 a1) := by
 intro a0 a1 k
 have ih0 := laws_eqStringS.mono_l k
 unfold laws_eqStringS.f
 repeat' first
   | (with_reducible first | apply ih0 | exact LeO.refl _ | exact LeO.none _ | refine LeO.ite ?_ ?_ | refine LeO.bind ?_ (fun _ => ?_))
set_option maxHeartbeats 8000000 in
set_option maxRecDepth 100000 in
theorem laws_eqStringS.calls (k : Nat) (A0 : Option Addr) (c0 : Nat) (l0 : List ByteArray) (A1 : Option Addr) (c1 : Nat) (l1 : List ByteArray) (r : Bool) (w : World) (hr0 : Kd.C Kd.string w A0 l0.length l0) (hc0 : l0.length ≤ c0) (hr1 : Kd.C Kd.string w A1 l1.length l1) (hc1 : l1.length ≤ c1) (h : laws_eqStringS.f k l0 l1 = some r) :
  Calls Try.prog 43 #[.slice A0 l0.length c0, .slice A1 l1.length c1] w fun e w' => e = .returned (.bool r) ∧ Drawn0 w w' := by
 have HR0 := Aside0.mk hr0
 have HC0 := Aside0.mk hc0
 clear hr0 hc0
 have HR1 := Aside0.mk hr1
 have HC1 := Aside0.mk hc1
 clear hr1 hc1
 have H : (if (l0.length : Int) = (l1.length : Int) then (laws_eqStringS.l0 k l0 l1 0) else (some false)) = some r := h
 clear h
 replace H := ite_ H
 obtain ⟨c3, H⟩ | ⟨c3, H⟩ := H
 rotate_left
 ·have c3b0 : ((l0.length : Int) == (l1.length : Int)) = false := beq_eq_false_iff_ne.mpr c3
  have c3b1 : ((l0.length : Int) != (l1.length : Int)) = true := bne_iff_ne.mpr c3
  have c3b2 : (l0.length == l1.length) = false := by first | simpa using c3 | (simp at c3 ⊢; omega)
  obtain rfl := Option.some.inj H
  go_enter Try.func43, Try.ntmps43
  go_wp2
  repeat (go_quiet (fail); try go_wp2)
  go_ret
  exact ⟨by first | rfl | (simp; done) | (simp [*]; done), dr_⟩
 have c3b0 : ((l0.length : Int) == (l1.length : Int)) = true := beq_iff_eq.mpr c3
 have c3b1 : ((l0.length : Int) != (l1.length : Int)) = false := bne_eq_false_iff_eq.mpr c3
 have c3b2 : (l0.length == l1.length) = true := by first | simpa using c3 | (simp at c3 ⊢; omega)
 clear c3
 have H' := Aside0.mk H
 clear H
 go_enter Try.func43, Try.ntmps43
 go_wp2
 repeat (go_quiet (fail); try go_wp2)
 go_loopg [5] k (fun kq v5 w' => ∃ (x5_1 : Int), v5 = .int .i64 x5_1 ∧ Aside0 (laws_eqStringS.l0 kq l0 l1 x5_1 = some r) ∧ Aside0 (kq ≤ k) ∧ Drawn0 w w')
 case atStart => exact ⟨(0), sr_, H', ⟨Nat.le_refl _⟩, dr_⟩
 case round =>
  clear H'
  try clear c1
  try clear c3
  try clear c3b0
  try clear c3b1
  try clear c3b2
  obtain ⟨x5_1, rfl, HA, HK1, ⟨m1, rfl⟩⟩ := hrel
  cases gk with
  | zero => exact absurd HA.out (by simp [laws_eqStringS.l0])
  | succ k1 =>
   have H := HA.out
   clear HA
   simp only [laws_eqStringS.l0] at H
   replace H := ite_ H
   obtain ⟨c4, H⟩ | ⟨c4, H⟩ := H
   rotate_left
   ·have c4b0 := decide_eq_false c4
    clear c4
    obtain rfl := Option.some.inj H
    go_wp2
    repeat (go_quiet (fail); try go_wp2)
    go_ret
    exact ⟨by first | rfl | (simp; done) | (simp [*]; done), dr_⟩
   have c4b0 := decide_eq_true c4
   clear c4
   replace H := ifs_ H
   obtain ⟨c5, H⟩ := H
   have c5b0 := decide_eq_true c5
   clear c5
   replace H := ifs_ H
   obtain ⟨c6, H⟩ := H
   have c6b0 := decide_eq_true c6
   clear c6
   replace H := ite_ H
   obtain ⟨c7, H⟩ | ⟨c7, H⟩ := H
   rotate_left
   ·have c7b0 : ((rdOf ByteArray.empty l0 x5_1).toList == (rdOf ByteArray.empty l1 x5_1).toList) = false := beq_eq_false_iff_ne.mpr c7
    have c7b1 : ((rdOf ByteArray.empty l0 x5_1).toList != (rdOf ByteArray.empty l1 x5_1).toList) = true := bne_iff_ne.mpr c7
    obtain rfl := Option.some.inj H
    have p443 : 0 ≤ (x5_1 : Int) := oa_
    have q443 : x5_1 < (l0.length : Int) := oa_
    obtain ⟨ad443, e443, hx443_0⟩ := Kd.at_string HR0.out x5_1 p443 q443
    cases e443
    replace p443 := eq_true p443
    replace q443 := eq_true q443
    have p444 : 0 ≤ (x5_1 : Int) := oa_
    have q444 : x5_1 < (l1.length : Int) := oa_
    obtain ⟨ad444, e444, hx444_0⟩ := Kd.at_string HR1.out x5_1 p444 q444
    cases e444
    replace p444 := eq_true p444
    replace q444 := eq_true q444
    go_wp2
    repeat (go_quiet (fail); try go_wp2)
    go_ret
    exact ⟨by first | rfl | (simp; done) | (simp [*]; done), dr_⟩
   have c7b0 : ((rdOf ByteArray.empty l0 x5_1).toList == (rdOf ByteArray.empty l1 x5_1).toList) = true := beq_iff_eq.mpr c7
   have c7b1 : ((rdOf ByteArray.empty l0 x5_1).toList != (rdOf ByteArray.empty l1 x5_1).toList) = false := bne_eq_false_iff_eq.mpr c7
   clear c7
   have H' := Aside0.mk H
   clear H
   have p443 : 0 ≤ (x5_1 : Int) := oa_
   have q443 : x5_1 < (l0.length : Int) := oa_
   obtain ⟨ad443, e443, hx443_0⟩ := Kd.at_string HR0.out x5_1 p443 q443
   cases e443
   replace p443 := eq_true p443
   replace q443 := eq_true q443
   have p444 : 0 ≤ (x5_1 : Int) := oa_
   have q444 : x5_1 < (l1.length : Int) := oa_
   obtain ⟨ad444, e444, hx444_0⟩ := Kd.at_string HR1.out x5_1 p444 q444
   cases e444
   replace p444 := eq_true p444
   replace q444 := eq_true q444
   go_wp2
   repeat (go_quiet (fail); try go_wp2)
   go_roundg k1
   case measure => have := HK1.out; omega
   case rel => exact ⟨(wrap64 (x5_1 + 1)), sr_, H', ⟨by have := HK1.out; omega⟩, dr_⟩

/-! ### laws_eqBatch: function 31 -/
def laws_eqBatch.f (k : Nat) (a0_0 : Int) (a0_1 : Int) (a0_2 : Int) (a0_3 : Int) (l0_4 : List ByteArray) (a1_0 : Int) (a1_1 : Int) (a1_2 : Int) (a1_3 : Int) (l1_4 : List ByteArray) : Option (Bool) := if a0_0 = a1_0 then (if a0_1 = a1_1 then (if a0_2 = a1_2 then (if a0_3 = a1_3 then ((laws_eqStringS.f k l0_4 l1_4).bind fun t447 => (if t447 = true then (some true) else (some false))) else (some false)) else (some false)) else (some false)) else (some false)
theorem laws_eqBatch.mono : ∀ a0 a1 a2 a3 a4 a5 a6 a7 a8 a9 k, LeO (laws_eqBatch.f k a0 a1 a2 a3 a4 a5 a6 a7 a8 a9) (laws_eqBatch.f (k + 1) a0 a1 a2 a3 a4 a5 a6 a7 a8 a9) := by
 intro a0 a1 a2 a3 a4 a5 a6 a7 a8 a9 k
 unfold laws_eqBatch.f
 repeat' first
   | (with_reducible first | apply laws_eqStringS.mono | exact LeO.refl _ | exact LeO.none _ | refine LeO.ite ?_ ?_ | refine LeO.bind ?_ (fun _ => ?_))
set_option maxHeartbeats 8000000 in
set_option maxRecDepth 100000 in
theorem laws_eqBatch.calls (k : Nat) (a0_0 : Int) (a0_1 : Int) (a0_2 : Int) (a0_3 : Int) (A0_4 : Option Addr) (c0_4 : Nat) (l0_4 : List ByteArray) (a1_0 : Int) (a1_1 : Int) (a1_2 : Int) (a1_3 : Int) (A1_4 : Option Addr) (c1_4 : Nat) (l1_4 : List ByteArray) (r : Bool) (w : World) (hr0_4 : Kd.C Kd.string w A0_4 l0_4.length l0_4) (hc0_4 : l0_4.length ≤ c0_4) (hr1_4 : Kd.C Kd.string w A1_4 l1_4.length l1_4) (hc1_4 : l1_4.length ≤ c1_4) (h : laws_eqBatch.f k a0_0 a0_1 a0_2 a0_3 l0_4 a1_0 a1_1 a1_2 a1_3 l1_4 = some r) :
  Calls Try.prog 31 #[.agg #[.int .i64 a0_0, .int .i64 a0_1, .int .i64 a0_2, .int .i64 a0_3, .slice A0_4 l0_4.length c0_4], .agg #[.int .i64 a1_0, .int .i64 a1_1, .int .i64 a1_2, .int .i64 a1_3, .slice A1_4 l1_4.length c1_4]] w fun e w' => e = .returned (.bool r) ∧ Below w.heap.size w w' := by
 have hu43 := Try.underlying43
 have HR0_4 := Aside0.mk hr0_4
 have HC0_4 := Aside0.mk hc0_4
 clear hr0_4 hc0_4
 have HR1_4 := Aside0.mk hr1_4
 have HC1_4 := Aside0.mk hc1_4
 clear hr1_4 hc1_4
 have HB := Aside0.mk (Below.refl w.heap.size w)
 have H : (if a0_0 = a1_0 then (if a0_1 = a1_1 then (if a0_2 = a1_2 then (if a0_3 = a1_3 then ((laws_eqStringS.f k l0_4 l1_4).bind fun t447 => (if t447 = true then (some true) else (some false))) else (some false)) else (some false)) else (some false)) else (some false)) = some r := h
 clear h
 replace H := ite_ H
 obtain ⟨c3, H⟩ | ⟨c3, H⟩ := H
 rotate_left
 ·have c3b0 : (a0_0 == a1_0) = false := beq_eq_false_iff_ne.mpr c3
  have c3b1 : (a0_0 != a1_0) = true := bne_iff_ne.mpr c3
  obtain rfl := Option.some.inj H
  go_enter Try.func31, Try.ntmps31
  go_wp2_with (first | ((with_reducible refine gate_dst (N := 2) rfl ?_); refine bq_ (N := 2) #[.int .i64 a0_0, .int .i64 a0_1, .int .i64 a0_2, .int .i64 a0_3, .slice A0_4 l0_4.length c0_4] 43 ?_; intro gb445 hg w34 BK445 hb; have GE445 := ge_ hg; replace HB := nb_ hb; clear hb hg) | ((with_reducible refine gate_dst (N := 3) rfl ?_); refine bq_ (N := 3) #[.int .i64 a1_0, .int .i64 a1_1, .int .i64 a1_2, .int .i64 a1_3, .slice A1_4 l1_4.length c1_4] 43 ?_; intro gb446 hg w35 BK446 hb; have GE446 := ge1_ hg GE445; replace HB := nc_ GE445 hb; have NB445_446 := nl_ BK445 hg; have NB446_445 := ng_ BK445 hg; replace BK445 := bK_ BK445 hb; clear hb hg; have hnb36 := NB445_446.out; have hnc36 := NB446_445.out; obtain ⟨hcz37_0, hcz37_1, hcz37_2, hcz37_3, hcz37_4, hfz37_0, hfz37_1, hfz37_2, hfz37_3, hfz37_4⟩ := cf5_ BK445.out; obtain ⟨hcz38_0, hcz38_1, hcz38_2, hcz38_3, hcz38_4, hfz38_0, hfz38_1, hfz38_2, hfz38_3, hfz38_4⟩ := cf5_ BK446.out))
  go_ret
  exact ⟨er_, hs2_ GE445.out GE446.out⟩
 have c3b0 : (a0_0 == a1_0) = true := beq_iff_eq.mpr c3
 have c3b1 : (a0_0 != a1_0) = false := bne_eq_false_iff_eq.mpr c3
 clear c3
 replace H := ite_ H
 obtain ⟨c4, H⟩ | ⟨c4, H⟩ := H
 rotate_left
 ·have c4b0 : (a0_1 == a1_1) = false := beq_eq_false_iff_ne.mpr c4
  have c4b1 : (a0_1 != a1_1) = true := bne_iff_ne.mpr c4
  obtain rfl := Option.some.inj H
  go_enter Try.func31, Try.ntmps31
  go_wp2_with (first | ((with_reducible refine gate_dst (N := 2) rfl ?_); refine bq_ (N := 2) #[.int .i64 a0_0, .int .i64 a0_1, .int .i64 a0_2, .int .i64 a0_3, .slice A0_4 l0_4.length c0_4] 43 ?_; intro gb445 hg w29 BK445 hb; have GE445 := ge_ hg; replace HB := nb_ hb; clear hb hg) | ((with_reducible refine gate_dst (N := 3) rfl ?_); refine bq_ (N := 3) #[.int .i64 a1_0, .int .i64 a1_1, .int .i64 a1_2, .int .i64 a1_3, .slice A1_4 l1_4.length c1_4] 43 ?_; intro gb446 hg w30 BK446 hb; have GE446 := ge1_ hg GE445; replace HB := nc_ GE445 hb; have NB445_446 := nl_ BK445 hg; have NB446_445 := ng_ BK445 hg; replace BK445 := bK_ BK445 hb; clear hb hg; have hnb31 := NB445_446.out; have hnc31 := NB446_445.out; obtain ⟨hcz32_0, hcz32_1, hcz32_2, hcz32_3, hcz32_4, hfz32_0, hfz32_1, hfz32_2, hfz32_3, hfz32_4⟩ := cf5_ BK445.out; obtain ⟨hcz33_0, hcz33_1, hcz33_2, hcz33_3, hcz33_4, hfz33_0, hfz33_1, hfz33_2, hfz33_3, hfz33_4⟩ := cf5_ BK446.out))
  go_ret
  exact ⟨er_, hs2_ GE445.out GE446.out⟩
 have c4b0 : (a0_1 == a1_1) = true := beq_iff_eq.mpr c4
 have c4b1 : (a0_1 != a1_1) = false := bne_eq_false_iff_eq.mpr c4
 clear c4
 replace H := ite_ H
 obtain ⟨c5, H⟩ | ⟨c5, H⟩ := H
 rotate_left
 ·have c5b0 : (a0_2 == a1_2) = false := beq_eq_false_iff_ne.mpr c5
  have c5b1 : (a0_2 != a1_2) = true := bne_iff_ne.mpr c5
  obtain rfl := Option.some.inj H
  go_enter Try.func31, Try.ntmps31
  go_wp2_with (first | ((with_reducible refine gate_dst (N := 2) rfl ?_); refine bq_ (N := 2) #[.int .i64 a0_0, .int .i64 a0_1, .int .i64 a0_2, .int .i64 a0_3, .slice A0_4 l0_4.length c0_4] 43 ?_; intro gb445 hg w24 BK445 hb; have GE445 := ge_ hg; replace HB := nb_ hb; clear hb hg) | ((with_reducible refine gate_dst (N := 3) rfl ?_); refine bq_ (N := 3) #[.int .i64 a1_0, .int .i64 a1_1, .int .i64 a1_2, .int .i64 a1_3, .slice A1_4 l1_4.length c1_4] 43 ?_; intro gb446 hg w25 BK446 hb; have GE446 := ge1_ hg GE445; replace HB := nc_ GE445 hb; have NB445_446 := nl_ BK445 hg; have NB446_445 := ng_ BK445 hg; replace BK445 := bK_ BK445 hb; clear hb hg; have hnb26 := NB445_446.out; have hnc26 := NB446_445.out; obtain ⟨hcz27_0, hcz27_1, hcz27_2, hcz27_3, hcz27_4, hfz27_0, hfz27_1, hfz27_2, hfz27_3, hfz27_4⟩ := cf5_ BK445.out; obtain ⟨hcz28_0, hcz28_1, hcz28_2, hcz28_3, hcz28_4, hfz28_0, hfz28_1, hfz28_2, hfz28_3, hfz28_4⟩ := cf5_ BK446.out))
  go_ret
  exact ⟨er_, hs2_ GE445.out GE446.out⟩
 have c5b0 : (a0_2 == a1_2) = true := beq_iff_eq.mpr c5
 have c5b1 : (a0_2 != a1_2) = false := bne_eq_false_iff_eq.mpr c5
 clear c5
 replace H := ite_ H
 obtain ⟨c6, H⟩ | ⟨c6, H⟩ := H
 rotate_left
 ·have c6b0 : (a0_3 == a1_3) = false := beq_eq_false_iff_ne.mpr c6
  have c6b1 : (a0_3 != a1_3) = true := bne_iff_ne.mpr c6
  obtain rfl := Option.some.inj H
  go_enter Try.func31, Try.ntmps31
  go_wp2_with (first | ((with_reducible refine gate_dst (N := 2) rfl ?_); refine bq_ (N := 2) #[.int .i64 a0_0, .int .i64 a0_1, .int .i64 a0_2, .int .i64 a0_3, .slice A0_4 l0_4.length c0_4] 43 ?_; intro gb445 hg w19 BK445 hb; have GE445 := ge_ hg; replace HB := nb_ hb; clear hb hg) | ((with_reducible refine gate_dst (N := 3) rfl ?_); refine bq_ (N := 3) #[.int .i64 a1_0, .int .i64 a1_1, .int .i64 a1_2, .int .i64 a1_3, .slice A1_4 l1_4.length c1_4] 43 ?_; intro gb446 hg w20 BK446 hb; have GE446 := ge1_ hg GE445; replace HB := nc_ GE445 hb; have NB445_446 := nl_ BK445 hg; have NB446_445 := ng_ BK445 hg; replace BK445 := bK_ BK445 hb; clear hb hg; have hnb21 := NB445_446.out; have hnc21 := NB446_445.out; obtain ⟨hcz22_0, hcz22_1, hcz22_2, hcz22_3, hcz22_4, hfz22_0, hfz22_1, hfz22_2, hfz22_3, hfz22_4⟩ := cf5_ BK445.out; obtain ⟨hcz23_0, hcz23_1, hcz23_2, hcz23_3, hcz23_4, hfz23_0, hfz23_1, hfz23_2, hfz23_3, hfz23_4⟩ := cf5_ BK446.out))
  go_ret
  exact ⟨er_, hs2_ GE445.out GE446.out⟩
 have c6b0 : (a0_3 == a1_3) = true := beq_iff_eq.mpr c6
 have c6b1 : (a0_3 != a1_3) = false := bne_eq_false_iff_eq.mpr c6
 clear c6
 replace H := bnd_ H
 obtain ⟨t447, A7, H⟩ := H
 replace H := ifb_ H
 obtain ⟨rfl, H⟩ | ⟨rfl, H⟩ := H
 ·obtain rfl := Option.some.inj H
  go_enter Try.func31, Try.ntmps31
  go_wp2_with (first | ((with_reducible refine gate_dst (N := 2) rfl ?_); refine bq_ (N := 2) #[.int .i64 a0_0, .int .i64 a0_1, .int .i64 a0_2, .int .i64 a0_3, .slice A0_4 l0_4.length c0_4] 43 ?_; intro gb445 hg w9 BK445 hb; have GE445 := ge_ hg; replace HB := nb_ hb; clear hb hg) | ((with_reducible refine gate_dst (N := 3) rfl ?_); refine bq_ (N := 3) #[.int .i64 a1_0, .int .i64 a1_1, .int .i64 a1_2, .int .i64 a1_3, .slice A1_4 l1_4.length c1_4] 43 ?_; intro gb446 hg w10 BK446 hb; have GE446 := ge1_ hg GE445; replace HB := nc_ GE445 hb; have NB445_446 := nl_ BK445 hg; have NB446_445 := ng_ BK445 hg; replace BK445 := bK_ BK445 hb; clear hb hg; have hnb11 := NB445_446.out; have hnc11 := NB446_445.out; obtain ⟨hcz12_0, hcz12_1, hcz12_2, hcz12_3, hcz12_4, hfz12_0, hfz12_1, hfz12_2, hfz12_3, hfz12_4⟩ := cf5_ BK445.out; obtain ⟨hcz13_0, hcz13_1, hcz13_2, hcz13_3, hcz13_4, hfz13_0, hfz13_1, hfz13_2, hfz13_3, hfz13_4⟩ := cf5_ BK446.out) | ((with_reducible refine gate_callee (f := 43) rfl ?_); refine gl_ 29 Try.func43 #[.slice A0_4 l0_4.length c0_4, .slice A1_4 l1_4.length c1_4] rfl ma_ ?_; (with_reducible refine (laws_eqStringS.calls k _ _ l0_4 _ _ l1_4 true _ ?side1 ?side2 ?side3 ?side4 A7.out).mono ?_); (case side1 => exact cs_ ((Kd.C_below HR0_4.out HB.out))); (case side2 => exact HC0_4.out); (case side3 => exact cs_ ((Kd.C_below HR1_4.out HB.out))); (case side4 => exact HC1_4.out); rintro e w' ⟨rfl, ⟨nd, rfl⟩⟩; refine ⟨_, rfl, ?_⟩))
  go_ret
  exact ⟨er_, hs2_ GE445.out GE446.out⟩
 obtain rfl := Option.some.inj H
 go_enter Try.func31, Try.ntmps31
 go_wp2_with (first | ((with_reducible refine gate_dst (N := 2) rfl ?_); refine bq_ (N := 2) #[.int .i64 a0_0, .int .i64 a0_1, .int .i64 a0_2, .int .i64 a0_3, .slice A0_4 l0_4.length c0_4] 43 ?_; intro gb445 hg w14 BK445 hb; have GE445 := ge_ hg; replace HB := nb_ hb; clear hb hg) | ((with_reducible refine gate_dst (N := 3) rfl ?_); refine bq_ (N := 3) #[.int .i64 a1_0, .int .i64 a1_1, .int .i64 a1_2, .int .i64 a1_3, .slice A1_4 l1_4.length c1_4] 43 ?_; intro gb446 hg w15 BK446 hb; have GE446 := ge1_ hg GE445; replace HB := nc_ GE445 hb; have NB445_446 := nl_ BK445 hg; have NB446_445 := ng_ BK445 hg; replace BK445 := bK_ BK445 hb; clear hb hg; have hnb16 := NB445_446.out; have hnc16 := NB446_445.out; obtain ⟨hcz17_0, hcz17_1, hcz17_2, hcz17_3, hcz17_4, hfz17_0, hfz17_1, hfz17_2, hfz17_3, hfz17_4⟩ := cf5_ BK445.out; obtain ⟨hcz18_0, hcz18_1, hcz18_2, hcz18_3, hcz18_4, hfz18_0, hfz18_1, hfz18_2, hfz18_3, hfz18_4⟩ := cf5_ BK446.out) | ((with_reducible refine gate_callee (f := 43) rfl ?_); refine gl_ 29 Try.func43 #[.slice A0_4 l0_4.length c0_4, .slice A1_4 l1_4.length c1_4] rfl ma_ ?_; (with_reducible refine (laws_eqStringS.calls k _ _ l0_4 _ _ l1_4 false _ ?side1 ?side2 ?side3 ?side4 A7.out).mono ?_); (case side1 => exact cs_ ((Kd.C_below HR0_4.out HB.out))); (case side2 => exact HC0_4.out); (case side3 => exact cs_ ((Kd.C_below HR1_4.out HB.out))); (case side4 => exact HC1_4.out); rintro e w' ⟨rfl, ⟨nd, rfl⟩⟩; refine ⟨_, rfl, ?_⟩))
 go_ret
 exact ⟨er_, hs2_ GE445.out GE446.out⟩

/-! ### laws_markStringS: function 44 -/
def laws_markStringS.l0 : Nat → List ByteArray → Int → Int → Option (Int × List ByteArray)
 | 0, _, _, _ => none
 | k + 1, x0, x1, x5 => if x5 < (x0.length : Int) then ((laws_markText.f k x1).bind fun t448 => (if 0 ≤ x5 then (laws_markStringS.l0 k (x0.set (x5 : Int).toNat t448) (wrap64 (x1 + 1)) (wrap64 (x5 + 1))) else (none))) else (some (x1, x0))
def laws_markStringS.f (k : Nat) (l0 : List ByteArray) (a1 : Int) : Option (Int × List ByteArray) := laws_markStringS.l0 k l0 a1 0
theorem laws_markStringS.mono_l : ∀ k, (∀ y0 y1 y2, LeO (laws_markStringS.l0 k y0 y1 y2) (laws_markStringS.l0 (k + 1) y0 y1 y2))
 | 0 => fun _ _ _ r h => by simp [laws_markStringS.l0] at h
 | k + 1 => by
  have ih0 := laws_markStringS.mono_l k
  ·intro y0 y1 y2
   unfold laws_markStringS.l0
   repeat' first
   | (with_reducible first | apply ih0 | apply laws_markText.mono | exact LeO.refl _ | exact LeO.none _ | refine LeO.ite ?_ ?_ | refine LeO.bind ?_ (fun _ => ?_))
theorem laws_markStringS.mono : ∀ a0 a1 k, LeO (laws_markStringS.f k a0 a1) (laws_markStringS.f (k + 1) a0 a1) := by
 intro a0 a1 k
 have ih0 := laws_markStringS.mono_l k
 unfold laws_markStringS.f
 repeat' first
   | (with_reducible first | apply ih0 | apply laws_markText.mono | exact LeO.refl _ | exact LeO.none _ | refine LeO.ite ?_ ?_ | refine LeO.bind ?_ (fun _ => ?_))
set_option maxHeartbeats 8000000 in
set_option maxRecDepth 100000 in
theorem laws_markStringS.calls (k : Nat) (P0_ : Nat → Prop) (u9000_ : Value) (l0 : List ByteArray) (a1 : Int) (r1 : Int) (r2 : List ByteArray) (w0 w : World) (hB : Below w0.heap.size w0 w) (ho0 : Kd.R Kd.string 9 w w0.heap.size P0_ u9000_ l0) (h : laws_markStringS.f k l0 a1 = some (r1, r2)) :
  Calls Try.prog 44 #[u9000_, .int .i64 a1] w fun e w' => e = .returned (.int .i64 r1) ∧ Kd.R Kd.string 9 w' w0.heap.size (fun k_ => (P0_ k_ ∨ w.heap.size ≤ k_)) u9000_ r2 ∧ Below w0.heap.size w0 w' ∧ Kept w w' (fun k_ => P0_ k_) := by
 have HO0 := Aside0.mk (show Kd.R Kd.string 9 w w0.heap.size (fun k_ => (P0_ k_ ∨ w.heap.size ≤ k_)) u9000_ l0 from Kd.R_mono ho0 (fun k_ hk => (.inl hk)))
 have HK := Aside0.mk (Kept.refl w (fun k_ => P0_ k_))
 have HW0 := Aside0.mk hB.size
 have HB := Aside0.mk hB
 clear hB
 have H : (laws_markStringS.l0 k l0 a1 0) = some (r1, r2) := h
 clear h
 have H' := Aside0.mk H
 clear H
 go_enter Try.func44, Try.ntmps44
 go_wp2
 go_loopg [1, 5] k (fun kq v1 v5 w' => ∃ (x0_1 : List ByteArray) (x1_1 : Int) (x5_1 : Int), v1 = .int .i64 x1_1 ∧ v5 = .int .i64 x5_1 ∧ Aside0 (laws_markStringS.l0 kq x0_1 x1_1 x5_1 = some (r1, r2)) ∧ Aside0 (kq ≤ k) ∧ Aside0 (Kd.R Kd.string 9 w' w0.heap.size (fun k_ => (P0_ k_ ∨ w.heap.size ≤ k_)) u9000_ x0_1) ∧ Aside0 (Kept w w' (fun k_ => P0_ k_)) ∧ Aside0 (Below w0.heap.size w0 w'))
 case atStart => exact ⟨(l0), (a1), (0), sr_, sr_, H', ⟨Nat.le_refl _⟩, ⟨kr_ HO0.out⟩, ⟨by repeat (first | (with_reducible first | exact HK.out | apply Kept.alloc | apply Kept.drewN | apply Kept.drew) | exact HK.out)⟩, ⟨hb_⟩⟩
 case round =>
  clear H'
  obtain ⟨x0_1, x1_1, x5_1, rfl, rfl, HA, HK1, HO_0, HK, HB⟩ := hrel
  cases gk with
  | zero => exact absurd HA.out (by simp [laws_markStringS.l0])
  | succ k1 =>
   have H := HA.out
   clear HA
   simp only [laws_markStringS.l0] at H
   replace H := ite_ H
   obtain ⟨c3, H⟩ | ⟨c3, H⟩ := H
   rotate_left
   ·have c3b0 := decide_eq_false c3
    clear c3
    simp only [Option.some.injEq, Prod.mk.injEq] at H
    obtain ⟨rfl, rfl⟩ := H
    obtain ⟨Ao11, co11, eo11⟩ := Kd.R_slice HO_0.out
    subst eo11
    go_wp2
    go_ret
    exact ⟨er_, kr_ HO_0.out, hb_, by repeat (first | (with_reducible first | exact HK.out | apply Kept.alloc | apply Kept.drewN | apply Kept.drew) | exact HK.out)⟩
   have c3b0 := decide_eq_true c3
   clear c3
   replace H := bnd_ H
   obtain ⟨t448, A4, H⟩ := H
   replace H := ifs_ H
   obtain ⟨c5, H⟩ := H
   have c5b0 := decide_eq_true c5
   clear c5
   obtain ⟨y449, hy449⟩ : ∃ y_ : List ByteArray, y_ = (x0_1.set (x5_1 : Int).toNat t448) := ⟨_, rfl⟩
   replace H : (laws_markStringS.l0 k1 y449 (wrap64 (x1_1 + 1)) (wrap64 (x5_1 + 1))) = some (r1, r2) := by first | (rw [hy449]; with_reducible exact H) | (have H2_ := (Option.bind_some _ _).symm.trans H; rw [hy449]; with_reducible exact H2_) | (have H2_ := (Option.bind_some _ _).symm.trans H; with_reducible exact H2_) | with_reducible exact H | (rw [hy449]; exact H) | exact H
   have Ny449 := Aside0.mk hy449
   clear hy449
   have H' := Aside0.mk H
   clear H
   obtain ⟨Ao7, co7, eo7⟩ := Kd.R_slice HO_0.out
   subst eo7
   go_wp2_with (first | ((with_reducible refine gate_callee (f := 85) rfl ?_); refine gl_ 15 Try.func85 #[.int .i64 x1_1] rfl ma_ ?_; (with_reducible refine (laws_markText.calls k1 x1_1 t448 _ A4.out).mono ?_); rintro e w8 ⟨rfl, hb⟩; refine ⟨_, rfl, ?_⟩; replace HO_0 := rB_ HO_0 hb; replace HK := Aside0.mk (Kept.below (S := (fun k_ => P0_ k_)) (by repeat (first | (with_reducible first | exact HK.out | apply Kept.alloc | apply Kept.drewN | apply Kept.drew) | exact HK.out)) hb); replace HB := nb_ hb; (try clear hb); (try clear hb2); (try clear hk); (try clear hi); have p6 : 0 ≤ (x5_1 : Int) := oa_; have q6 : (x5_1 : Int) < ((x0_1.length : Int) : Int) := oa_; obtain ⟨go6, co6, eo6, gb6, gl6, cl6, HG6⟩ := Kd.R_form HO_0.out (by omega); (first | cases eo6 | (injection eo6 with ea_ en_ ec_; (first | subst ea_ | (injection ea_ with ea_; subst ea_)); subst ec_; clear en_)); have GB6 := Aside0.mk gb6; have GG6 := Aside0.mk HG6; clear gb6 gl6 HG6; have HMgo6 := Aside0.mk (show (P0_ go6 ∨ w.heap.size ≤ go6) from (HO_0.out.1 _ rfl)); obtain ⟨hx6_0, hf6_0⟩ := Kd.R_celln (⟨#[]⟩ : ByteArray) HO_0.out (x5_1 : Int) p6 q6; replace p6 := eq_true p6; replace q6 := eq_true q6; obtain ⟨hy9_, hz9_⟩ := Kd.R_celln (⟨#[]⟩ : ByteArray) HO_0.out (x5_1 : Int) (oa_) (oa_); have HP9 := Kd.R_putg HO_0.out (x5_1 : Int) t448) | ((with_reducible refine gate_store (t := 9) (p := 16) rfl ?_); refine store_event (t := 9) (p := 16) (v := ?vo_w10) (w1 := (w8.setCell ⟨go6, (x5_1 : Int).toNat, none⟩ (.string t448))) ?hg ?ho ?hn ?hr ?_; (case ho => rfl); (case hg => rfl); (case hn => rfl); (case hr => first | (go_simp; done) | (go_simp; rfl)); intro w10 hw; have hg : w8.grownBy w10 (some go6) := (by rw [hw]; exact HP9.2); have hp_ : Kd.R Kd.string 9 w10 w0.heap.size (fun k_ => (P0_ k_ ∨ w.heap.size ≤ k_)) (.slice (some ⟨go6, 0, none⟩) x0_1.length co7) y449 := (by rw [hw, Ny449.out]; exact HP9.1); clear HP9; replace HB := Aside0.mk ((by rw [hw]; exact below_set (HB.out) GB6.out : Below w0.heap.size w0 w10)); replace HK := Aside0.mk (Kept.of_grown (S := (fun k_ => P0_ k_)) hg (by repeat (first | (with_reducible first | exact HK.out | apply Kept.alloc | apply Kept.drewN | apply Kept.drew) | exact HK.out)) (fun k_ e_ => (HO_0.out.1 k_ e_))); replace HO_0 := Aside0.mk (hp_); clear hg hw hp_))
   go_roundg k1
   case measure => have := HK1.out; omega
   case rel => exact ⟨(y449), (wrap64 (x1_1 + 1)), (wrap64 (x5_1 + 1)), sr_, sr_, H', ⟨by have := HK1.out; omega⟩, ⟨kr_ HO_0.out⟩, ⟨by repeat (first | (with_reducible first | exact HK.out | apply Kept.alloc | apply Kept.drewN | apply Kept.drew) | exact HK.out)⟩, ⟨hb_⟩⟩

/-! ### laws_markBatch: function 32 -/
def laws_markBatch.f (k : Nat) (a0_0 : Int) (a0_1 : Int) (a0_2 : Int) (a0_3 : Int) (l0_4 : List ByteArray) (a1 : Int) : Option (Int × List ByteArray) := (laws_markStringS.f k l0_4 a1).bind fun bt451 => (some (bt451.1, bt451.2))
theorem laws_markBatch.mono : ∀ a0 a1 a2 a3 a4 a5 k, LeO (laws_markBatch.f k a0 a1 a2 a3 a4 a5) (laws_markBatch.f (k + 1) a0 a1 a2 a3 a4 a5) := by
 intro a0 a1 a2 a3 a4 a5 k
 unfold laws_markBatch.f
 repeat' first
   | (with_reducible first | apply laws_markStringS.mono | exact LeO.refl _ | exact LeO.none _ | refine LeO.ite ?_ ?_ | refine LeO.bind ?_ (fun _ => ?_))
set_option maxHeartbeats 8000000 in
set_option maxRecDepth 100000 in
theorem laws_markBatch.calls (k : Nat) (a0_0 : Int) (a0_1 : Int) (a0_2 : Int) (a0_3 : Int) (P0_4_ : Nat → Prop) (u9000_ : Value) (l0_4 : List ByteArray) (a1 : Int) (r1 : Int) (r2 : List ByteArray) (w0 w : World) (hB : Below w0.heap.size w0 w) (ho0_4 : Kd.R Kd.string 9 w w0.heap.size P0_4_ u9000_ l0_4) (h : laws_markBatch.f k a0_0 a0_1 a0_2 a0_3 l0_4 a1 = some (r1, r2)) :
  Calls Try.prog 32 #[.agg #[.int .i64 a0_0, .int .i64 a0_1, .int .i64 a0_2, .int .i64 a0_3, u9000_], .int .i64 a1] w fun e w' => e = .returned (.int .i64 r1) ∧ Kd.R Kd.string 9 w' w0.heap.size (fun k_ => (P0_4_ k_ ∨ w.heap.size ≤ k_)) u9000_ r2 ∧ Below w0.heap.size w0 w' ∧ Kept w w' (fun k_ => P0_4_ k_) := by
 have hu43 := Try.underlying43
 have HO0_4 := Aside0.mk (show Kd.R Kd.string 9 w w0.heap.size (fun k_ => (P0_4_ k_ ∨ w.heap.size ≤ k_)) u9000_ l0_4 from Kd.R_mono ho0_4 (fun k_ hk => (.inl hk)))
 have HK := Aside0.mk (Kept.refl w (fun k_ => P0_4_ k_))
 have HW0 := Aside0.mk hB.size
 have HB := Aside0.mk hB
 clear hB
 have H : ((laws_markStringS.f k l0_4 a1).bind fun bt451 => (some (bt451.1, bt451.2))) = some (r1, r2) := h
 clear h
 replace H := bnd_ H
 obtain ⟨⟨t451, t452⟩, A3, H⟩ := H
 replace H := red_ H
 simp only [Option.some.injEq, Prod.mk.injEq] at H
 obtain ⟨rfl, rfl⟩ := H
 obtain ⟨Ao4, co4, eo4⟩ := Kd.R_slice HO0_4.out
 subst eo4
 go_enter Try.func32, Try.ntmps32
 go_wp2_with (first | ((with_reducible refine gate_dst (N := 2) rfl ?_); refine bq_ (N := 2) #[.int .i64 a0_0, .int .i64 a0_1, .int .i64 a0_2, .int .i64 a0_3, .slice Ao4 l0_4.length co4] 43 ?_; intro gb450 hg w5 BK450 hb; replace HO0_4 := rB_ HO0_4 hb; have GW450 := Aside0.mk ((by rw [hg]; exact (by first | exact HK.out.1 | exact (show Kept w _ (fun k_ => P0_4_ k_) from by repeat (first | (with_reducible first | exact HK.out | apply Kept.alloc | apply Kept.drewN | apply Kept.drew) | exact HK.out)).1) : w.heap.size ≤ gb450)); replace HK := Aside0.mk (Kept.below (S := (fun k_ => P0_4_ k_)) (by repeat (first | (with_reducible first | exact HK.out | apply Kept.alloc | apply Kept.drewN | apply Kept.drew) | exact HK.out)) hb); have GE450 := Aside0.mk ((by rw [hg]; exact (below_size (hb_)) : w0.heap.size ≤ gb450)); replace HB := nb_ hb; clear hb hg; obtain ⟨hcz6_0, hcz6_1, hcz6_2, hcz6_3, hcz6_4, hfz6_0, hfz6_1, hfz6_2, hfz6_3, hfz6_4⟩ := cf5_ BK450.out) | ((with_reducible refine gate_callee (f := 44) rfl ?_); refine gl_ 8 Try.func44 #[.slice Ao4 l0_4.length co4, .int .i64 a1] rfl ma_ ?_; (with_reducible refine (laws_markStringS.calls k (fun k_ => some k_ = (.slice Ao4 l0_4.length co4 : Value).ownBlock) (.slice Ao4 l0_4.length co4) l0_4 a1 t451 t452 w0 _ ?side1 ?side2 A3.out).mono ?_); (case side1 => exact hs_ GE450.out); (case side2 => exact Kd.R_tight rfl HO0_4.out); rintro e w7 ⟨rfl, hy0, hb, hkp⟩; refine ⟨_, rfl, ?_⟩; replace BK450 := Aside0.mk (blk_kept (kb_ BK450.out) hkp (fun hs_ => (fun e_ => (Kd.R_ne HO0_4.out BK450.out (by decide)) e_) hs_)); replace HK := Aside0.mk (Kept.then_ (S := (fun k_ => P0_4_ k_)) (by repeat (first | (with_reducible first | exact HK.out | apply Kept.alloc | apply Kept.drewN | apply Kept.drew | refine Kept.setCell ?_ (.inr GW450.out) _) | exact HK.out)) hkp (fun k_ hs_ => (fun e_ => (HO0_4.out.1 k_ e_.symm)) hs_)); replace HO0_4 := Aside0.mk (Kd.R_reok rfl hy0 (fun k_ e_ => HO0_4.out.1 k_ e_)); replace HB := Aside0.mk (hb); (try clear hb); (try clear hkp); (try clear hy0)))
 go_ret
 exact ⟨er_, kr_ HO0_4.out, hs_ GE450.out, by repeat (first | (with_reducible first | exact HK.out | apply Kept.alloc | apply Kept.drewN | apply Kept.drew | refine Kept.setCell ?_ (.inr GW450.out) _) | exact HK.out)⟩

end Go.Proofs.Ytffpeklekkpbjaa.QFnExactFindBatch
