/- Functions that one statement reaches: of each a plain function, and the proof that calls come to it. Conditions: those that each contract names. Written by a program of this repository. -/
import Derived.Test.YtojdaolclcmalaaVAskParta
import Derived.Test.YtojdaolclcmalaaQFnExactAskPartx1
import Derived.Test.YtojdaolclcmalaaQFnExactAskPartx8
namespace Go.Proofs.Ytojdaolclcmalaa.QFnExactAskPart
open Go.RowKit Go.Proofs.YtojdaolclcmalaaW.PrintWords Go.Proofs.YtojdaolclcmalaaW.PrintLast Go.Proofs.YtojdaolclcmalaaW.PrintMore
attribute [local go_sem] max2_int min2_int max_two min_two max_three min_three max_four min_four Go.Proofs.YtojdaolclcmalaaW.PrintMore2.isSome_setCell   -- for this text's walks alone
set_option linter.unusedVariables false
set_option linter.unusedSimpArgs false

/-! ### spec_l5Add: function 84 -/
/-! #### the plain function -/
/-- The first place whose number is not below. -/
def spec_l5Add.at (id : Int) : List S81 → Nat
 | [] => 0
 | x :: r => if x.f0 < id then spec_l5Add.at id r + 1 else 0
theorem spec_l5Add.at_le (id : Int) : ∀ l, spec_l5Add.at id l ≤ l.length
 | [] => Nat.le_refl _
 | x :: r => by
  rw [spec_l5Add.at]
  split
  ·exact Nat.succ_le_succ (spec_l5Add.at_le id r)
  ·exact Nat.zero_le _
def spec_l5Add.ix (l : List S81) (t id : Int) : Nat := if t < 0 then spec_l5Add.at id l else t.toNat
def spec_l5Add.ins (l : List S81) (t ep id : Int) : List S81 := if t < 0 then l.take (spec_l5Add.at id l) ++ ⟨id, ep, 0, []⟩ :: l.drop (spec_l5Add.at id l) else l
def spec_l5Add.new (x : S81) (ep id : Int) : S81 := if x.f1 = ep then x else ⟨id, ep, 0, []⟩
def spec_l5Add.win (l : List S112) : List S112 := if 5 < l.length then l.drop 1 else l
def spec_l5Add.put (x : S81) (seq n off : Int) : S81 := ⟨x.f0, x.f1, wrap64 (seq + n), spec_l5Add.win (x.f3 ++ [⟨seq, n, off⟩])⟩
def spec_l5Add.f (k : Nat) (l0 : List S81) (a1_0 : Int) (a1_1 : Int) (a1_2 : Int) (a1_3 : Int) (l1_4 : List ByteArray) : Option (List S81) :=
 if l0.length < 1000000 then (spec_l5At.f k l0 a1_2).bind fun t => if t < (l0.length : Int) then
  (if (spec_l5Add.new ((spec_l5Add.ins l0 t a1_1 a1_2).getD (spec_l5Add.ix l0 t a1_2) z81) a1_1 a1_2).f3.length < 1000000 then
   some ((spec_l5Add.ins l0 t a1_1 a1_2).set (spec_l5Add.ix l0 t a1_2) (spec_l5Add.put (spec_l5Add.new ((spec_l5Add.ins l0 t a1_1 a1_2).getD (spec_l5Add.ix l0 t a1_2) z81) a1_1 a1_2) a1_3 (l1_4.length : Int) a1_0))
  else none) else none else none
theorem spec_l5Add.mono : ∀ a0 a1 a2 a3 a4 a5 k, LeO (spec_l5Add.f k a0 a1 a2 a3 a4 a5) (spec_l5Add.f (k + 1) a0 a1 a2 a3 a4 a5) := fun _ _ _ _ _ _ _ => LeO.ite (LeO.bind (spec_l5At.mono _ _ _) (fun _ => LeO.refl _)) (LeO.refl _)
theorem spec_l5Add.ix_lt (l : List S81) (t ep id : Int) (h : t < (l.length : Int)) : spec_l5Add.ix l t id < (spec_l5Add.ins l t ep id).length := by
 unfold spec_l5Add.ix spec_l5Add.ins
 split
 ·have := spec_l5Add.at_le id l
  simp only [List.length_append, List.length_take, List.length_cons, List.length_drop]
  omega
 ·omega
theorem spec_l5Add.ins_le (l : List S81) (t ep id : Int) : (spec_l5Add.ins l t ep id).length ≤ l.length + 1 := by
 unfold spec_l5Add.ins
 split
 ·have := spec_l5Add.at_le id l
  simp only [List.length_append, List.length_take, List.length_cons, List.length_drop]
  omega
 ·omega
/-! #### what the walk holds -/
structure la_F (w0 w : World) (base g3 : Nat) (ok : Nat → Prop) (A : Option Addr) (c : Nat) (l : List S81) (B : Array Value) : Prop where
 b3 : w.heap[g3]? = some (.cells B 78 (0, 0))
 ge : w0.heap.size ≤ g3
 n : Kd.N k81 81 w base ok (.slice A l.length c) l
 hb : Below w0.heap.size w0 w
 ba : base ≤ w0.heap.size
 fr : ∀ k, w0.heap.size ≤ k → ok k
section
variable {w0 w w1 : World} {base g3 : Nat} {ok : Nat → Prop} {A : Option Addr} {c : Nat} {l : List S81} {B : Array Value}
theorem la_F.below (h : la_F w0 w base g3 ok A c l B) (hb : Below w.heap.size w w1) : la_F w0 w1 base g3 ok A c l B := ⟨blk_below h.b3 hb, h.ge, Kd.N_below h.n hb, below_step h.hb hb, h.ba, h.fr⟩
theorem la_F.C (h : la_F w0 w base g3 ok A c l B) : l.length ≤ c ∧ Kd.C k81 w A l.length l := (Kd.N_reads' h.n).2
theorem la_F.size (h : la_F w0 w base g3 ok A c l B) : base ≤ w.heap.size := Nat.le_trans h.ba h.hb.size
theorem la_box {w w1 : World} {g7 t : Nat} {z0 z1 z2 z3 : Value} (hg : g7 = w.heap.size) (hbox : w1.heap[g7]? = some (.cells #[z0, z1, z2, z3] t (0, 0))) (hb : Below w.heap.size w w1) (u0 u1 u2 u3 : Value) :
  Below w.heap.size w ((((w1.setCell ⟨g7, 0, none⟩ u0).setCell ⟨g7, 1, none⟩ u1).setCell ⟨g7, 2, none⟩ u2).setCell ⟨g7, 3, none⟩ u3) ∧ ((((w1.setCell ⟨g7, 0, none⟩ u0).setCell ⟨g7, 1, none⟩ u1).setCell ⟨g7, 2, none⟩ u2).setCell ⟨g7, 3, none⟩ u3).heap[g7]? = some (.cells #[u0, u1, u2, u3] t (0, 0)) :=
 ⟨below_set (below_set (below_set (below_set hb (by rw [hg]; exact Nat.le_refl _)) (by rw [hg]; exact Nat.le_refl _)) (by rw [hg]; exact Nat.le_refl _)) (by rw [hg]; exact Nat.le_refl _), blk_put (cs := #[u0, u1, u2, z3]) (blk_put (cs := #[u0, u1, z2, z3]) (blk_put (cs := #[u0, z1, z2, z3]) (blk_put (cs := #[z0, z1, z2, z3]) hbox 0 _ rfl) 1 _ rfl) 2 _ rfl) 3 _ rfl⟩
theorem la_box2 {w : World} {g7 t : Nat} {z0 z1 z2 z3 : Value} (hbox : w.heap[g7]? = some (.cells #[z0, z1, z2, z3] t (0, 0))) (u0 u1 u2 u3 : Value) :
  ((((w.setCell ⟨g7, 0, none⟩ u0).setCell ⟨g7, 1, none⟩ u1).setCell ⟨g7, 2, none⟩ u2).setCell ⟨g7, 3, none⟩ u3).heap[g7]? = some (.cells #[u0, u1, u2, u3] t (0, 0)) :=
 blk_put (cs := #[u0, u1, u2, z3]) (blk_put (cs := #[u0, u1, z2, z3]) (blk_put (cs := #[u0, z1, z2, z3]) (blk_put (cs := #[z0, z1, z2, z3]) hbox 0 _ rfl) 1 _ rfl) 2 _ rfl) 3 _ rfl
theorem la_box3 {w W : World} {g7 : Nat} (hb : Below w.heap.size w W) (hg : w.heap.size ≤ g7) (u0 u1 u2 u3 : Value) : Below w.heap.size w ((((W.setCell ⟨g7, 0, none⟩ u0).setCell ⟨g7, 1, none⟩ u1).setCell ⟨g7, 2, none⟩ u2).setCell ⟨g7, 3, none⟩ u3) :=
 below_set (below_set (below_set (below_set hb hg) hg) hg) hg
/-- A new row of the elements ahead, one more, and those behind. -/
theorem la_new {w13 w16 : World} {v3 : Value} {i : Nat} {p : S81} (h : la_F w0 w13 base g3 ok A c l B) (hn : Kd.N k81 81 w16 w13.heap.size ok v3 (([] ++ l.take i) ++ [p] ++ l.drop i)) (hb : Below w13.heap.size w13 w16) (L : List S81) (hL : L = l.take i ++ p :: l.drop i) :
  ∃ A' c', v3 = .slice A' L.length c' ∧ la_F w0 w16 base g3 ok A' c' L B ∧ ((Value.slice A' L.length c').ownBlock = (Value.slice A l.length c).ownBlock ∨ ∀ b, (Value.slice A' L.length c').ownBlock = some b → w0.heap.size ≤ b) := by
 rw [List.nil_append, List.append_assoc, List.singleton_append, ← hL] at hn
 obtain ⟨A', c', rfl⟩ := Kd.N_slice hn
 exact ⟨A', c', rfl, ⟨blk_below h.b3 hb, h.ge, Kd.N_lower hn h.size, below_step h.hb hb, h.ba, h.fr⟩, .inr fun b hb' => Nat.le_trans h.hb.size (Kd.N_base hn b hb')⟩
/-- What was written last: the row's own block alone, or a new one. -/
theorem la_end {W w1 : World} {g n n' c' : Nat} {v : Value} (hb : Below w0.heap.size w0 W) (hg : W.grownBy w1 (some g)) (hat : (Value.slice (some ⟨g, 0, none⟩) n c').ownBlock = v.ownBlock ∨ ∀ b, (Value.slice (some ⟨g, 0, none⟩) n c').ownBlock = some b → w0.heap.size ≤ b) :
  w0.grownBy w1 v.ownBlock ∧ ((Value.slice (some ⟨g, 0, none⟩) n' c').ownBlock = v.ownBlock ∨ ∃ b, (Value.slice (some ⟨g, 0, none⟩) n' c').ownBlock = some b ∧ w0.heap.size ≤ b) := by
 refine ⟨⟨hg.os.trans hb.os, hg.tape.trans hb.tape, hg.output.trans hb.output, Nat.le_trans hb.size hg.size, fun k hk hne => (hg.block k (Nat.lt_of_lt_of_le hk hb.size) (fun he => ?_)).trans (hb.block k hk)⟩, hat.imp id (fun h => ⟨g, rfl, h g rfl⟩)⟩
 injection he with he
 rcases hat with hat | hat
 ·exact hne (by rw [← hat, he]; rfl)
 ·have := hat g rfl
  omega
end

set_option maxHeartbeats 8000000 in
set_option maxRecDepth 100000 in
theorem spec_l5Add.calls (k : Nat) (base : Nat) (ok : Nat → Prop) (v : Value) (l0 : List S81) (a1_0 : Int) (a1_1 : Int) (a1_2 : Int) (a1_3 : Int) (A1_4 : Option Addr) (c1_4 : Nat) (l1_4 : List ByteArray) (r : List S81) (w : World) (HN : Kd.N k81 81 w base ok v l0) (hfresh : ∀ k, w.heap.size ≤ k → ok k) (hbase : base ≤ w.heap.size) (h : spec_l5Add.f k l0 a1_0 a1_1 a1_2 a1_3 l1_4 = some r) :
    Calls Try.prog 84 #[v, .agg #[.int .i64 a1_0, .int .i64 a1_1, .int .i64 a1_2, .int .i64 a1_3, .slice A1_4 l1_4.length c1_4]] w fun e w' => ∃ v' : Value, e = .returned v' ∧ Kd.N k81 81 w' base ok v' r ∧ w.grownBy w' v.ownBlock ∧ (v'.ownBlock = v.ownBlock ∨ ∃ b, v'.ownBlock = some b ∧ w.heap.size ≤ b) := by
  have hu78 := Try.underlying78
  have hu81 := Try.underlying81
  have hu112 := Try.underlying112
  obtain ⟨A0, c0, rfl⟩ := Kd.N_slice HN
  have HNN := am_ HN
  have HFR := am_ hfresh
  have HBA := am_ hbase
  have HB := am_ (Below.refl w.heap.size w)
  unfold spec_l5Add.f at h
  obtain ⟨sB, h1⟩ := ifs_ h
  obtain ⟨t, AT, h2⟩ := bnd_ h1
  obtain ⟨tB, h3⟩ := ifs_ h2
  obtain ⟨cB, h4⟩ := ifs_ h3
  have HRE := am_ (Option.some.inj h4)
  have vA := am_ sB
  have zB := am_ tB
  have rA := am_ cB
  clear HN hfresh hbase h h1 h2 h3 h4 sB tB cB
  obtain ⟨i0P, hi0P, hzP⟩ := Option.map_eq_some_iff.1 info81
  have hsP : i0P.size = 4 := by simp only [Prod.mk.injEq] at hzP; exact hzP.2.1
  clear hzP
  obtain ⟨i0D, hi0D, hzD⟩ := Option.map_eq_some_iff.1 info112
  have hsD : i0D.size = 3 := by simp only [Prod.mk.injEq] at hzD; exact hzD.2.1
  clear hzD
  go_enter Try.func84, Try.ntmps84
  go_upto_if 13 with (first | ((with_reducible refine gate_dst (N := 3) rfl ?_); refine be_ (N := 3) #[.int .i64 a1_0, .int .i64 a1_1, .int .i64 a1_2, .int .i64 a1_3, .slice A1_4 l1_4.length c1_4] 78 ?_; intro lA hg w3 hbox hb; have aC := ge_ hg; replace HB := nb_ hb; have HF : Aside0 (la_F w w3 base lA ok A0 c0 l0 #[.int .i64 a1_0, .int .i64 a1_1, .int .i64 a1_2, .int .i64 a1_3, .slice A1_4 l1_4.length c1_4]) := ⟨⟨hbox, aC.out, Kd.N_below HNN.out hb, HB.out, HBA.out, HFR.out⟩⟩; clear hb hbox hg HNN HB; obtain ⟨hcb_0, hcb_1, hcb_2, hcb_3, hcb_4, hfb_0, hfb_1, hfb_2, hfb_3, hfb_4⟩ := cf5_ HF.out.b3) | ((with_reducible refine gate_callee (f := 48) rfl ?_); refine gl_ 11 Try.func48 #[.slice A0 l0.length c0, .int .i64 a1_2] rfl ma_ ?_; (with_reducible refine (spec_l5At.calls k A0 c0 l0 a1_2 t _ HF.out.C.2 HF.out.C.1 AT.out).mono ?_); rintro e_ w4 ⟨rfl, uB⟩; refine ⟨_, rfl, ?_⟩; replace HF := am_ (HF.out.below uB); clear uB; clear hcb_0 hcb_1 hcb_2 hcb_3 hcb_4 hfb_0 hfb_1 hfb_2 hfb_3 hfb_4; obtain ⟨hcb_0, hcb_1, hcb_2, hcb_3, hcb_4, hfb_0, hfb_1, hfb_2, hfb_3, hfb_4⟩ := cf5_ HF.out.b3))
  clear hcb_0 hcb_1 hcb_2 hcb_3 hcb_4 hfb_0 hfb_1 hfb_2 hfb_3 hfb_4
  go_cut [0, 5] (fun v0 v5 wc => ∃ (A' : Option Addr) (c' : Nat), v0 = .slice A' (spec_l5Add.ins l0 t a1_1 a1_2).length c' ∧ v5 = .int .i64 (spec_l5Add.ix l0 t a1_2 : Nat) ∧ Aside0 (la_F w wc base lA ok A' c' (spec_l5Add.ins l0 t a1_1 a1_2) #[.int .i64 a1_0, .int .i64 a1_1, .int .i64 a1_2, .int .i64 a1_3, .slice A1_4 l1_4.length c1_4]) ∧ Aside0 ((Value.slice A' (spec_l5Add.ins l0 t a1_1 a1_2).length c').ownBlock = (Value.slice A0 l0.length c0).ownBlock ∨ ∀ b, (Value.slice A' (spec_l5Add.ins l0 t a1_1 a1_2).length c').ownBlock = some b → w.heap.size ≤ b))
  case first =>
    by_cases ht : t < 0
    rotate_left
    · have HX := am_ (show spec_l5Add.ix l0 t a1_2 = t.toNat from if_neg ht)
      have HI := am_ (show spec_l5Add.ins l0 t a1_1 a1_2 = l0 from if_neg ht)
      have htb := decide_eq_false ht
      have HQ := am_ (show ((t.toNat : Nat) : Int) = t from Int.toNat_of_nonneg (by omega))
      clear ht
      rw [htb]
      go_wp2
      go_meet
      exact ⟨A0, c0, by rw [HI.out], by rw [HX.out, HQ.out], by rw [HI.out]; exact HF, ⟨by rw [HI.out]; exact .inl rfl⟩⟩
    · have fB := am_ (show spec_l5Add.ix l0 t a1_2 = spec_l5Add.at a1_2 l0 from if_pos ht)
      have gB := am_ (show spec_l5Add.ins l0 t a1_1 a1_2 = l0.take (spec_l5Add.at a1_2 l0) ++ ⟨a1_2, a1_1, 0, []⟩ :: l0.drop (spec_l5Add.at a1_2 l0) from if_pos ht)
      have htb := decide_eq_true ht
      clear ht
      rw [htb]
      go_wp2
      clear htb
      go_loopg [5] l0.length (fun gg v5 wq => ∃ i : Nat, v5 = .int .i64 i ∧ i ≤ l0.length ∧ l0.length - i ≤ gg ∧ Aside0 (spec_l5Add.at a1_2 l0 = i + spec_l5Add.at a1_2 (l0.drop i)) ∧ Aside0 (la_F w wq base lA ok A0 c0 l0 #[.int .i64 a1_0, .int .i64 a1_1, .int .i64 a1_2, .int .i64 a1_3, .slice A1_4 l1_4.length c1_4]))
      case atStart => exact ⟨0, rfl, Nat.zero_le _, by omega, ⟨by simp⟩, HF⟩
      case round =>
        clear HF
        obtain ⟨i, rfl, hi, hgi, HA, HF⟩ := hrel
        obtain ⟨hcb_0, hcb_1, hcb_2, hcb_3, hcb_4, hfb_0, hfb_1, hfb_2, hfb_3, hfb_4⟩ := cf5_ HF.out.b3
        by_cases hlti : i < l0.length
        · have hltzi : (i : Int) < (l0.length : Int) := by omega
          obtain ⟨adp, Aw, cw, rfl, hp0, hp1, hp2, hp3, _, _⟩ := at_T81 HF.out.C.2 (i : Int) (by omega) hltzi
          have e2 : rd_T81 l0 (i : Int) = l0[i] := by unfold rd_T81; rw [Int.toNat_natCast, List.getD_eq_getElem?_getD, List.getElem?_eq_getElem hlti]; rfl
          rw [e2] at hp0
          clear hp1 hp2 hp3 e2
          rw [Int.toNat_natCast] at hp0
          have hA := HA.out
          rw [List.drop_eq_getElem_cons hlti, spec_l5Add.at] at hA
          clear HA
          generalize l0[i] = x at hp0 hA
          by_cases hcm : x.f0 < a1_2
          · rw [if_pos hcm] at hA
            have HA := am_ hA
            have hcmb := decide_eq_true hcm
            clear hA hcm
            go_wp2_with fail
            refine start_ (n := 14) (S := fun w' => w'.cell? ⟨lA, 2, none⟩ = some (.int .i64 a1_2) ∧ w'.cell? (adp.add (i * 4)) = some (.int .i64 x.f0)) (ds := []) #[false, false, false, false, false, false, false, false, false, false, false, false, false, false] (by kernel_rfl) rfl rfl ⟨hcb_2, hp0⟩ (fun hHeld => ?_)
            refine px_ 0 14 ?_
            refine px_ 1 15 ?_
            refine px_ 2 16 ?_
            refine px_ 3 17 ?_
            refine px_ 4 18 ?_
            refine px_ 5 19 ?_
            refine px_ 6 20 ?_
            refine px_ 7 21 ?_
            refine px_ 8 22 ?_
            refine tx_ 9 23 ?_
            refine px_ 10 24 ?_
            refine tx_ 11 25 ?_
            refine px_ 12 26 ?_
            refine px_ 13 27 ?_
            refine done_ (by kernel_rfl) ?_
            have sA := am_ (HF.out.below (below_drew1 (Below.refl wr.heap.size wr)))
            go_wp2
            have bC := vA.out
            go_roundg (l0.length - (i + 1))
            case measure => omega
            case rel => exact ⟨i + 1, by first | go_num | (rw [show wrap64 ((i : Int) + 1) = ((i + 1 : Nat) : Int) by unfold wrap64; omega]), by omega, by omega, ⟨by have := HA.out; omega⟩, sA⟩
          · rw [if_neg hcm] at hA
            have HA := am_ (show spec_l5Add.at a1_2 l0 = i by omega)
            have hcmb := decide_eq_false hcm
            clear hA hcm
            go_wp2_with fail
            refine start_ (n := 14) (S := fun w' => w'.cell? ⟨lA, 2, none⟩ = some (.int .i64 a1_2) ∧ w'.cell? (adp.add (i * 4)) = some (.int .i64 x.f0)) (ds := []) #[false, false, false, false, false, false, false, false, false, false, false, false, false, false] (by kernel_rfl) rfl rfl ⟨hcb_2, hp0⟩ (fun hHeld => ?_)
            refine px_ 0 14 ?_
            refine px_ 1 15 ?_
            refine px_ 2 16 ?_
            refine px_ 3 17 ?_
            refine px_ 4 18 ?_
            refine px_ 5 19 ?_
            refine px_ 6 20 ?_
            refine px_ 7 21 ?_
            refine px_ 8 22 ?_
            refine tx_ 9 23 ?_
            refine px_ 10 24 ?_
            refine tx_ 11 25 ?_
            refine px_ 12 26 ?_
            refine px_ 13 27 ?_
            refine done_ (by kernel_rfl) ?_
            have sA := am_ (HF.out.below (below_drew1 (Below.refl wr.heap.size wr)))
            have HX := am_ (show spec_l5Add.ix l0 t a1_2 = i from fB.out.trans HA.out)
            have HI := am_ (show spec_l5Add.ins l0 t a1_1 a1_2 = l0.take i ++ ⟨a1_2, a1_1, 0, []⟩ :: l0.drop i from by rw [gB.out, HA.out])
            have HIL := am_ hi
            clear HA fB gB HF hp0 hcmb hcb_0 hcb_1 hcb_2 hcb_3 hcb_4 hfb_0 hfb_1 hfb_2 hfb_3 hfb_4
            generalize wr.drew = cA at sA ⊢
            have HF := sA
            clear sA
            have hcut1 := cut_to (P := Try.prog) 30 81 .i64 Try.underlying30 hi0P (some adp) l0.length c0 (i : Int) (by omega) (by omega) HF.out.C.1
            rw [Int.toNat_natCast] at hcut1
            have hcut2 := cut_from (P := Try.prog) 30 81 .i64 Try.underlying30 hi0P 4 hsP (some adp) l0.length c0 (i : Int) (by omega) (by omega)
            rw [Int.toNat_natCast] at hcut2
            obtain ⟨wA, hA46⟩ : ∃ wA, wA = (if c0 = i then (some adp) else (some adp).map (·.add (i * 4))) := ⟨_, rfl⟩
            rw [← hA46] at hcut2
            have HT := am_ (show Kd.F k81 cA ok (some adp) i (l0.take i) from by have h_ := Kd.F_take (Kd.N_F HF.out.n) HIL.out; rwa [show (l0.take i).length = i from by rw [List.length_take]; have := HIL.out; omega] at h_)
            have HD := am_ (show Kd.F k81 cA (fun k => ok k ∧ k < cA.heap.size) wA (l0.length - i) (l0.drop i) from by rw [hA46]; have h_ := Kd.F_bound (Kd.F_cut (c := c0) (Kd.N_F HF.out.n) HIL.out HF.out.C.1); rwa [show (l0.drop i).length = l0.length - i from List.length_drop] at h_)
            obtain ⟨LA, hLA⟩ : ∃ LA, LA = [] ++ l0.take i := ⟨_, rfl⟩
            obtain ⟨LB, hLB⟩ : ∃ LB, LB = LA ++ [(⟨a1_2, a1_1, 0, []⟩ : S81)] := ⟨_, rfl⟩
            obtain ⟨LI, hLI⟩ : ∃ LI, LI = l0.take i ++ (⟨a1_2, a1_1, 0, []⟩ : S81) :: l0.drop i := ⟨_, rfl⟩
            have HIE := am_ (show spec_l5Add.ins l0 t a1_1 a1_2 = LI from by rw [hLI, HI.out])
            have HLI := am_ hLI
            clear hLI
            have HLA := am_ hLA
            have HLB := am_ hLB
            have HNA := am_ (show LA.length ≤ l0.length from by rw [hLA, List.nil_append, List.length_take]; omega)
            have HNB := am_ (show LB.length ≤ l0.length + 1 from by rw [hLB, List.length_append, List.length_singleton]; have := HNA.out; omega)
            clear hLA hLB
            clear hA46
            have HFRW := am_ (show ∀ k, cA.heap.size ≤ k → ok k from fun k hk => HF.out.fr k (Nat.le_trans HF.out.hb.size hk))
            obtain ⟨hcb_0, hcb_1, hcb_2, hcb_3, hcb_4, hfb_0, hfb_1, hfb_2, hfb_3, hfb_4⟩ := cf5_ HF.out.b3
            go_wp2_with (first | ((with_reducible refine gate_builtin (b := .append) (xs := #[.tmp 30, .tmp 33]) rfl ?_); at_builtin; refine Kd.N_append_rows k81 (w0 := cA) cA.heap.size rfl (.tmp 30) (.tmp 33) 30 81 (.agg #[(.int .i64 0), (.int .i64 0), (.int .i64 0), (.slice none 0 0)]) 48 rfl Try.underlying30 info81 rfl (by decide) (by omega) (.slice none 0 0) [] (l0.take i) (some adp) i c0 ok ok rfl rfl ?aO ?aR (fun k hk => ⟨hk, by simp [Value.ownBlock]⟩) ?aF ?aB ?aS ?aL ?_; (case aO => exact Kd.N_nil _ _ _ _ _); (case aR => exact HT.out); (case aF => exact HFRW.out); (case aB => exact Below.refl _ _); (case aS => exact Nat.le_refl _); (case aL => have := HIL.out; have := vA.out; simp only [List.length_nil]; omega); intro cC dC ho hb hg_ hat_; rw [← HLA.out] at ho; have gA := am_ ho; have dA := am_ hb; have nA := am_ (blk_below HF.out.b3 hb); clear ho hb hg_ hat_ hcut1 hcb_0 hcb_1 hcb_2 hcb_3 hcb_4 hfb_0 hfb_1 hfb_2 hfb_3 hfb_4; obtain ⟨jB, kB, rfl⟩ := Kd.N_slice gA.out; obtain ⟨hcb_0, hcb_1, hcb_2, hcb_3, hcb_4, hfb_0, hfb_1, hfb_2, hfb_3, hfb_4⟩ := cf5_ nA.out) | ((with_reducible refine gate_builtin (b := .append) (xs := #[.tmp 35, .tmp 41]) rfl ?_); at_builtin; refine Kd.N_append k81 (w0 := cA) cA.heap.size rfl (.tmp 35) (.tmp 41) 30 81 (.agg #[(.int .i64 0), (.int .i64 0), (.int .i64 0), (.slice none 0 0)]) 48 rfl Try.underlying30 info81 rfl (by decide) (by omega) (.slice jB LA.length kB) LA ⟨a1_2, a1_1, 0, []⟩ [.int .i64 a1_2, .int .i64 a1_1, .int .i64 0, .slice none 0 0] ok (fun _ => False) rfl rfl ?aP (fun _ hk => hk.elim) ?aF ?aO ?aB ?aS ?aL ?_; (case aP => exact k81_mkF _ _ ⟨a1_2, a1_1, 0, []⟩ (Nat.le_refl _) (Kd.F_nil _ _ _)); (case aF => exact fun k hk => HFRW.out k (Nat.le_trans dA.out.size hk)); (case aO => exact gA.out); (case aB => exact dA.out); (case aS => exact dA.out.size); (case aL => have := HNA.out; have := vA.out; omega); intro eC fC ho hb hg_ hat_; rw [← HLB.out] at ho; have iA := am_ ho; have eA := am_ hb; clear ho hb hg_ hat_ nA gA dA hcb_0 hcb_1 hcb_2 hcb_3 hcb_4 hfb_0 hfb_1 hfb_2 hfb_3 hfb_4; obtain ⟨lB, mB, rfl⟩ := Kd.N_slice iA.out) | ((with_reducible refine gate_builtin (b := .append) (xs := #[.tmp 43, .tmp 46]) rfl ?_); at_builtin; refine Kd.N_append_rows k81 (w0 := cA) cA.heap.size rfl (.tmp 43) (.tmp 46) 30 81 (.agg #[(.int .i64 0), (.int .i64 0), (.int .i64 0), (.slice none 0 0)]) 48 rfl Try.underlying30 info81 rfl (by decide) (by omega) (.slice lB LB.length mB) LB (l0.drop i) _ (l0.length - i) (c0 - i) ok (fun k => ok k ∧ k < cA.heap.size) rfl rfl ?aO ?aR ?ak ?aF ?aB ?aS ?aL ?_; (case aO => exact iA.out); (case aR => exact Kd.F_below HD.out (eA.out)); (case ak => exact fun k hk => ⟨hk.1, fun he => by have := Kd.N_base iA.out k he.symm; have := hk.2; omega⟩); (case aF => exact fun k hk => HFRW.out k (Nat.le_trans eA.out.size hk)); (case aB => exact eA.out); (case aS => exact eA.out.size); (case aL => have := HNB.out; have := vA.out; omega); intro gC hC ho hb hg_ hat_; rw [HLB.out, HLA.out] at ho; obtain ⟨nB, oB, rfl, hF_, hA_⟩ := la_new HF.out ho hb LI HLI.out; have xA := am_ hF_; have yA := am_ hA_; clear ho hb hg_ hat_ hF_ hA_ hcut2))
            go_meet
            exact ⟨nB, oB, by rw [HIE.out], by rw [HX.out], by rw [HIE.out]; exact xA, ⟨by rw [HIE.out]; exact yA.out⟩⟩
        · have hltzi : decide ((i : Int) < (l0.length : Int)) = false := decide_eq_false (by omega)
          have hA := HA.out
          rw [List.drop_eq_nil_of_le (by omega), spec_l5Add.at, Nat.add_zero] at hA
          have HA := am_ hA
          clear hA
          go_wp2_with fail
          refine start_ (n := 14) (S := fun w' => w'.cell? ⟨lA, 2, none⟩ = some (.int .i64 a1_2)) (ds := []) #[false, false, false, false, false, false, false, false, false, false, false, false, false, false] (by kernel_rfl) rfl rfl hcb_2 (fun hHeld => ?_)
          refine px_ 0 14 ?_
          refine px_ 1 15 ?_
          refine px_ 2 16 ?_
          refine px_ 3 17 ?_
          refine px_ 4 18 ?_
          refine pz_ 5 19 ?_
          refine pz_ 6 20 ?_
          refine pz_ 7 21 ?_
          refine pz_ 8 22 ?_
          refine pz_ 9 23 ?_
          refine pz_ 10 24 ?_
          refine pz_ 11 25 ?_
          refine pz_ 12 26 ?_
          refine px_ 13 27 ?_
          refine done_ (by kernel_rfl) ?_
          have sA := am_ (HF.out.below (below_drew1 (Below.refl wr.heap.size wr)))
          have HX := am_ (show spec_l5Add.ix l0 t a1_2 = i from fB.out.trans HA.out)
          have HI := am_ (show spec_l5Add.ins l0 t a1_1 a1_2 = l0.take i ++ ⟨a1_2, a1_1, 0, []⟩ :: l0.drop i from by rw [gB.out, HA.out])
          have HIL := am_ hi
          clear HA fB gB HF hltzi hcb_0 hcb_1 hcb_2 hcb_3 hcb_4 hfb_0 hfb_1 hfb_2 hfb_3 hfb_4
          generalize wr.drew = cA at sA ⊢
          have HF := sA
          clear sA
          have hcut1 := cut_to (P := Try.prog) 30 81 .i64 Try.underlying30 hi0P A0 l0.length c0 (i : Int) (by omega) (by omega) HF.out.C.1
          rw [Int.toNat_natCast] at hcut1
          have hcut2 := cut_from (P := Try.prog) 30 81 .i64 Try.underlying30 hi0P 4 hsP A0 l0.length c0 (i : Int) (by omega) (by omega)
          rw [Int.toNat_natCast] at hcut2
          obtain ⟨wA, hA46⟩ : ∃ wA, wA = (if c0 = i then A0 else A0.map (·.add (i * 4))) := ⟨_, rfl⟩
          rw [← hA46] at hcut2
          have HT := am_ (show Kd.F k81 cA ok A0 i (l0.take i) from by have h_ := Kd.F_take (Kd.N_F HF.out.n) HIL.out; rwa [show (l0.take i).length = i from by rw [List.length_take]; have := HIL.out; omega] at h_)
          have HD := am_ (show Kd.F k81 cA (fun k => ok k ∧ k < cA.heap.size) wA (l0.length - i) (l0.drop i) from by rw [hA46]; have h_ := Kd.F_bound (Kd.F_cut (c := c0) (Kd.N_F HF.out.n) HIL.out HF.out.C.1); rwa [show (l0.drop i).length = l0.length - i from List.length_drop] at h_)
          obtain ⟨LA, hLA⟩ : ∃ LA, LA = [] ++ l0.take i := ⟨_, rfl⟩
          obtain ⟨LB, hLB⟩ : ∃ LB, LB = LA ++ [(⟨a1_2, a1_1, 0, []⟩ : S81)] := ⟨_, rfl⟩
          obtain ⟨LI, hLI⟩ : ∃ LI, LI = l0.take i ++ (⟨a1_2, a1_1, 0, []⟩ : S81) :: l0.drop i := ⟨_, rfl⟩
          have HIE := am_ (show spec_l5Add.ins l0 t a1_1 a1_2 = LI from by rw [hLI, HI.out])
          have HLI := am_ hLI
          clear hLI
          have HLA := am_ hLA
          have HLB := am_ hLB
          have HNA := am_ (show LA.length ≤ l0.length from by rw [hLA, List.nil_append, List.length_take]; omega)
          have HNB := am_ (show LB.length ≤ l0.length + 1 from by rw [hLB, List.length_append, List.length_singleton]; have := HNA.out; omega)
          clear hLA hLB
          clear hA46
          have HFRW := am_ (show ∀ k, cA.heap.size ≤ k → ok k from fun k hk => HF.out.fr k (Nat.le_trans HF.out.hb.size hk))
          obtain ⟨hcb_0, hcb_1, hcb_2, hcb_3, hcb_4, hfb_0, hfb_1, hfb_2, hfb_3, hfb_4⟩ := cf5_ HF.out.b3
          go_wp2_with (first | ((with_reducible refine gate_builtin (b := .append) (xs := #[.tmp 30, .tmp 33]) rfl ?_); at_builtin; refine Kd.N_append_rows k81 (w0 := cA) cA.heap.size rfl (.tmp 30) (.tmp 33) 30 81 (.agg #[(.int .i64 0), (.int .i64 0), (.int .i64 0), (.slice none 0 0)]) 48 rfl Try.underlying30 info81 rfl (by decide) (by omega) (.slice none 0 0) [] (l0.take i) A0 i c0 ok ok rfl rfl ?aO ?aR (fun k hk => ⟨hk, by simp [Value.ownBlock]⟩) ?aF ?aB ?aS ?aL ?_; (case aO => exact Kd.N_nil _ _ _ _ _); (case aR => exact HT.out); (case aF => exact HFRW.out); (case aB => exact Below.refl _ _); (case aS => exact Nat.le_refl _); (case aL => have := HIL.out; have := vA.out; simp only [List.length_nil]; omega); intro cC dC ho hb hg_ hat_; rw [← HLA.out] at ho; have gA := am_ ho; have dA := am_ hb; have nA := am_ (blk_below HF.out.b3 hb); clear ho hb hg_ hat_ hcut1 hcb_0 hcb_1 hcb_2 hcb_3 hcb_4 hfb_0 hfb_1 hfb_2 hfb_3 hfb_4; obtain ⟨jB, kB, rfl⟩ := Kd.N_slice gA.out; obtain ⟨hcb_0, hcb_1, hcb_2, hcb_3, hcb_4, hfb_0, hfb_1, hfb_2, hfb_3, hfb_4⟩ := cf5_ nA.out) | ((with_reducible refine gate_builtin (b := .append) (xs := #[.tmp 35, .tmp 41]) rfl ?_); at_builtin; refine Kd.N_append k81 (w0 := cA) cA.heap.size rfl (.tmp 35) (.tmp 41) 30 81 (.agg #[(.int .i64 0), (.int .i64 0), (.int .i64 0), (.slice none 0 0)]) 48 rfl Try.underlying30 info81 rfl (by decide) (by omega) (.slice jB LA.length kB) LA ⟨a1_2, a1_1, 0, []⟩ [.int .i64 a1_2, .int .i64 a1_1, .int .i64 0, .slice none 0 0] ok (fun _ => False) rfl rfl ?aP (fun _ hk => hk.elim) ?aF ?aO ?aB ?aS ?aL ?_; (case aP => exact k81_mkF _ _ ⟨a1_2, a1_1, 0, []⟩ (Nat.le_refl _) (Kd.F_nil _ _ _)); (case aF => exact fun k hk => HFRW.out k (Nat.le_trans dA.out.size hk)); (case aO => exact gA.out); (case aB => exact dA.out); (case aS => exact dA.out.size); (case aL => have := HNA.out; have := vA.out; omega); intro eC fC ho hb hg_ hat_; rw [← HLB.out] at ho; have iA := am_ ho; have eA := am_ hb; clear ho hb hg_ hat_ nA gA dA hcb_0 hcb_1 hcb_2 hcb_3 hcb_4 hfb_0 hfb_1 hfb_2 hfb_3 hfb_4; obtain ⟨lB, mB, rfl⟩ := Kd.N_slice iA.out) | ((with_reducible refine gate_builtin (b := .append) (xs := #[.tmp 43, .tmp 46]) rfl ?_); at_builtin; refine Kd.N_append_rows k81 (w0 := cA) cA.heap.size rfl (.tmp 43) (.tmp 46) 30 81 (.agg #[(.int .i64 0), (.int .i64 0), (.int .i64 0), (.slice none 0 0)]) 48 rfl Try.underlying30 info81 rfl (by decide) (by omega) (.slice lB LB.length mB) LB (l0.drop i) _ (l0.length - i) (c0 - i) ok (fun k => ok k ∧ k < cA.heap.size) rfl rfl ?aO ?aR ?ak ?aF ?aB ?aS ?aL ?_; (case aO => exact iA.out); (case aR => exact Kd.F_below HD.out (eA.out)); (case ak => exact fun k hk => ⟨hk.1, fun he => by have := Kd.N_base iA.out k he.symm; have := hk.2; omega⟩); (case aF => exact fun k hk => HFRW.out k (Nat.le_trans eA.out.size hk)); (case aB => exact eA.out); (case aS => exact eA.out.size); (case aL => have := HNB.out; have := vA.out; omega); intro gC hC ho hb hg_ hat_; rw [HLB.out, HLA.out] at ho; obtain ⟨nB, oB, rfl, hF_, hA_⟩ := la_new HF.out ho hb LI HLI.out; have xA := am_ hF_; have yA := am_ hA_; clear ho hb hg_ hat_ hF_ hA_ hcut2))
          go_meet
          exact ⟨nB, oB, by rw [HIE.out], by rw [HX.out], by rw [HIE.out]; exact xA, ⟨by rw [HIE.out]; exact yA.out⟩⟩
  case rest =>
    obtain ⟨A1, c1, rfl, rfl, HF, HAT⟩ := hcut
    obtain ⟨wa, rfl⟩ : ∃ wa : World, wa = wc := ⟨_, rfl⟩
    have hi := spec_l5Add.ix_lt l0 t a1_1 a1_2 zB.out
    have HLI := am_ (spec_l5Add.ins_le l0 t a1_1 a1_2)
    generalize spec_l5Add.ins l0 t a1_1 a1_2 = ps1 at HF HAT HRE rA HLI hi ⊢
    generalize spec_l5Add.ix l0 t a1_2 = i at HRE rA hi ⊢
    have HI := am_ hi
    obtain ⟨g, cap, he_, hgb, hgl, cells_, hcells_⟩ := Kd.N_form HF.out.n (by omega)
    injection he_ with he1_ _ he2_
    subst he1_ he2_
    have HGC := am_ hcells_
    have HGL := am_ hgl
    obtain ⟨cs, hcl, hFK, hcc, hfr⟩ := Kd.N_elem HF.out.n z81 (i : Int) (by omega) (by omega)
    rw [Int.toNat_natCast] at hFK
    obtain ⟨x, hx⟩ : ∃ x, x = ps1.getD i z81 := ⟨_, rfl⟩
    rw [← hx] at hFK HRE rA
    obtain ⟨A3, c3, rfl, cB, hF3⟩ := k81_openF hFK
    have HCC := am_ hcc
    have hq0 : wa.cell? ⟨g, i * 4, none⟩ = some (.int .i64 x.f0) := hcc 0 _ rfl
    have hq1 : wa.cell? ⟨g, i * 4 + 1, none⟩ = some (.int .i64 x.f1) := hcc 1 _ rfl
    have hq2 : wa.cell? ⟨g, i * 4 + 2, none⟩ = some (.int .i64 x.f2) := hcc 2 _ rfl
    have hq3 : wa.cell? ⟨g, i * 4 + 3, none⟩ = some (.slice A3 x.f3.length c3) := hcc 3 _ rfl
    have vB := am_ hF3
    have iC := am_ cB
    have hiz : (i : Int) < (ps1.length : Int) := by omega
    clear hx hcc hfr hcl hFK hF3 cB hcells_ hgb hgl
    obtain ⟨hcb_0, hcb_1, hcb_2, hcb_3, hcb_4, hfb_0, hfb_1, hfb_2, hfb_3, hfb_4⟩ := cf5_ HF.out.b3
    go_upto_if 56 with (first | ((with_reducible refine gate_dst (N := 7) rfl ?_); refine be_ (N := 7) #[.int .i64 0, .int .i64 0, .int .i64 0, .slice none 0 0] 81 ?_; intro aA hg7 w7 hbox7 wB; have dB := am_ hg7; have pB := am_ hbox7; have xB := am_ wB; clear hg7 hbox7 wB; obtain ⟨hcx_0, hcx_1, hcx_2, hcx_3, hfx_0, hfx_1, hfx_2, hfx_3⟩ := cf4_ pB.out) | ((with_reducible refine gate_store (t := 81) (p := 7) rfl ?_); refine store_event (t := 81) (p := 7) (v := ?vo_7) (w1 := (((w7.setCell ⟨aA, 0, none⟩ (.int .i64 x.f0)).setCell ⟨aA, 1, none⟩ (.int .i64 x.f1)).setCell ⟨aA, 2, none⟩ (.int .i64 x.f2)).setCell ⟨aA, 3, none⟩ (.slice A3 x.f3.length c3)) ?hg ?ho ?hn ?hr ?_; (case ho => rfl); (case hg => rfl); (case hn => rfl); (case hr => first | (go_simp; done) | (go_simp; rfl)); intro w8 bB; obtain ⟨h1_, h2_⟩ := la_box dB.out pB.out xB.out (.int .i64 x.f0) (.int .i64 x.f1) (.int .i64 x.f2) (.slice A3 x.f3.length c3); rw [← bB] at h1_ h2_; have HBc := am_ h1_; have bA := am_ h2_; have jA := am_ (blk_below HF.out.b3 h1_); clear h1_ h2_ bB hcx_0 hcx_1 hcx_2 hcx_3 hfx_0 hfx_1 hfx_2 hfx_3 pB xB hq0 hq1 hq2 hq3 hcb_0 hcb_1 hcb_2 hcb_3 hcb_4 hfb_0 hfb_1 hfb_2 hfb_3 hfb_4; obtain ⟨hcx_0, hcx_1, hcx_2, hcx_3, hfx_0, hfx_1, hfx_2, hfx_3⟩ := cf4_ bA.out; obtain ⟨hcb_0, hcb_1, hcb_2, hcb_3, hcb_4, hfb_0, hfb_1, hfb_2, hfb_3, hfb_4⟩ := cf5_ jA.out))
    go_cut [] (fun wd => ∃ (A7 : Option Addr) (c7 : Nat), Aside0 (Below wa.heap.size wa wd) ∧ Aside0 (wd.heap[aA]? = some (.cells #[.int .i64 (spec_l5Add.new x a1_1 a1_2).f0, .int .i64 (spec_l5Add.new x a1_1 a1_2).f1, .int .i64 (spec_l5Add.new x a1_1 a1_2).f2, .slice A7 (spec_l5Add.new x a1_1 a1_2).f3.length c7] 81 (0, 0))) ∧ Aside0 (Kd.F k112 wd (fun _ => True) A7 (spec_l5Add.new x a1_1 a1_2).f3.length (spec_l5Add.new x a1_1 a1_2).f3))
    case first =>
      by_cases hne : x.f1 = a1_1
      · have hneb : (x.f1 != a1_1) = false := bne_eq_false_iff_eq.mpr hne
        have HE := am_ (show spec_l5Add.new x a1_1 a1_2 = x from if_pos hne)
        clear hne
        go_wp2
        go_meet
        exact ⟨A3, c3, HBc, by rw [HE.out]; exact bA, by rw [HE.out]; exact ⟨Kd.F_below (Kd.F_mono vB.out (fun _ _ => trivial)) HBc.out⟩⟩
      · have hneb : (x.f1 != a1_1) = true := bne_iff_ne.mpr hne
        have HE := am_ (show spec_l5Add.new x a1_1 a1_2 = ⟨a1_2, a1_1, 0, []⟩ from if_neg hne)
        clear hne
        go_wp2_with (first | ((with_reducible refine gate_store (t := 81) (p := 7) rfl ?_); refine store_event (t := 81) (p := 7) (v := ?vo_12) (w1 := (((w8.setCell ⟨aA, 0, none⟩ (.int .i64 a1_2)).setCell ⟨aA, 1, none⟩ (.int .i64 a1_1)).setCell ⟨aA, 2, none⟩ (.int .i64 0)).setCell ⟨aA, 3, none⟩ (.slice none 0 0)) ?hg ?ho ?hn ?hr ?_; (case ho => rfl); (case hg => rfl); (case hn => rfl); (case hr => first | (go_simp; done) | (go_simp; rfl)); intro w9 bB; have BKn : Aside0 (w9.heap[aA]? = some (.cells #[.int .i64 a1_2, .int .i64 a1_1, .int .i64 0, .slice none 0 0] 81 (0, 0))) := ⟨by rw [bB]; exact (la_box2 bA.out _ _ _ _)⟩; have HBn : Aside0 (Below wa.heap.size wa w9) := ⟨by rw [bB]; exact la_box3 HBc.out (by rw [dB.out]; exact Nat.le_refl _) _ _ _ _⟩; clear bB))
        go_meet
        exact ⟨none, 0, HBn, by rw [HE.out]; exact BKn, by rw [HE.out]; exact ⟨Kd.F_nil _ _ _⟩⟩
    case rest =>
      clear HBc bA jA vB iC hcx_0 hcx_1 hcx_2 hcx_3 hfx_0 hfx_1 hfx_2 hfx_3 hcb_0 hcb_1 hcb_2 hcb_3 hcb_4 hfb_0 hfb_1 hfb_2 hfb_3 hfb_4
      obtain ⟨A7, c7, HBc, bA, HW⟩ := hcut
      obtain ⟨wd, rfl⟩ : ∃ wd : World, wd = wc := ⟨_, rfl⟩
      have jA := am_ (blk_below HF.out.b3 HBc.out)
      generalize spec_l5Add.new x a1_1 a1_2 = x1 at HRE rA bA HW
      obtain ⟨hcx_0, hcx_1, hcx_2, hcx_3, hfx_0, hfx_1, hfx_2, hfx_3⟩ := cf4_ bA.out
      obtain ⟨hcb_0, hcb_1, hcb_2, hcb_3, hcb_4, hfb_0, hfb_1, hfb_2, hfb_3, hfb_4⟩ := cf5_ jA.out
      obtain ⟨l6, qB⟩ : ∃ l6, l6 = x1.f3 ++ [(⟨a1_3, (l1_4.length : Int), a1_0⟩ : S112)] := ⟨_, rfl⟩
      have HLw := am_ (show l6.length < 1000001 from by rw [qB, List.length_append, List.length_singleton]; have := rA.out; omega)
      have yB := am_ qB
      clear qB
      go_wp2_with fail
      refine start_ (n := 16) (S := fun w' => w'.cell? ⟨aA, 3, none⟩ = some (.slice A7 x1.f3.length c7) ∧ w'.cell? ⟨lA, 0, none⟩ = some (.int .i64 a1_0) ∧ w'.cell? ⟨lA, 3, none⟩ = some (.int .i64 a1_3) ∧ w'.cell? ⟨lA, 4, none⟩ = some (.slice A1_4 l1_4.length c1_4)) (ds := [15]) #[false, false, false, false, false, false, false, false, false, false, false, false, false, false, false, false] (by kernel_rfl) rfl rfl ⟨hcx_3, hcb_0, hcb_3, hcb_4⟩ (fun hHeld => ?_)
      have HWr := am_ (Kd.F_drew HW.out)
      have BKr := am_ (blk_drew bA.out)
      have BK3r := am_ (blk_drew jA.out)
      replace HBc := am_ (below_drew1 HBc.out)
      clear bA jA HW hcx_0 hcx_1 hcx_2 hcx_3 hfx_0 hfx_1 hfx_2 hfx_3 hcb_0 hcb_1 hcb_2 hcb_3 hcb_4 hfb_0 hfb_1 hfb_2 hfb_3 hfb_4
      have bA := BKr
      have jA := BK3r
      clear BKr BK3r
      generalize wd.drew = wr at HWr bA jA HBc hHeld ⊢
      have HBw := am_ (Below.refl wr.heap.size wr)
      have HH := am_ hHeld
      refine px_ 1 63 ?_
      refine tx_ 2 64 ?_
      refine px_ 4 66 ?_
      refine tx_ 5 67 ?_
      refine px_ 6 68 ?_
      refine tx_ 7 69 ?_
      refine px_ 8 70 ?_
      refine px_ 9 71 ?_
      refine tx_ 10 72 ?_
      refine px_ 11 73 ?_
      refine join_ (σ := Value × Value × Value) 3 #[true, true, true, true, true, true, true, true, true, true, true, true, true, false, false, false] (fun s_ => [(62, s_.1), (65, s_.2.1), (74, s_.2.2)]) (fun s_ w' => (w'.cell? ⟨aA, 3, none⟩ = some (.slice A7 x1.f3.length c7) ∧ w'.cell? ⟨lA, 0, none⟩ = some (.int .i64 a1_0) ∧ w'.cell? ⟨lA, 3, none⟩ = some (.int .i64 a1_3) ∧ w'.cell? ⟨lA, 4, none⟩ = some (.slice A1_4 l1_4.length c1_4)) ∧ Kd.R k112 112 w' wr.heap.size (fun _ => True) s_.2.1 x1.f3 ∧ Kd.R k112 112 w' wr.heap.size (fun _ => True) s_.2.2 [⟨a1_3, (l1_4.length : Int), a1_0⟩] ∧ Below wr.heap.size wr w') ?_ ?_
      rotate_left
      · intro hCont
        refine two_ (i := 0) (j := 12) (Ni := some 62) (Nj := some 74) #[true, true, true, false, true, true, true, true, true, true, true, true, false, false, false, false] #[false, true, true, false, true, true, true, true, true, true, true, true, true, false, false, false] rfl rfl rfl rfl (by kernel_rfl) (by decide) (by decide) (fun K hK => ?_) (fun K hK => ?_)
        · skip
          refine Kd.R_lit_step k112 (w0 := wr) wr.heap.size 112 ?hg (N := 62) ?hd (xs := ([] : List S112)) (inner := []) (ok := fun _ => True) (okp := fun _ => False) ?hr ?hp (fun _ hk => hk.elim) trivial (Below.refl _ _) (Nat.le_refl _) (by simp) ?_
          (case hd => rfl)
          (case hg => rfl)
          (case hr => first | (go_simp; done) | (go_simp; rfl))
          (case hp => exact (Reps.none _ _))
          intro oA wa ho hb _ hnew_
          have pA := am_ (Kd.R_lower ho HBw.out.size)
          replace HBw := am_ (below_step HBw.out hb)
          clear ho hb hnew_
          refine hK.out _ _ (hc_ HH) fun hHeld => ?_
          clear hK K
          refine norm_ (a' := ?_) ?_ ?_
          rotate_left
          · show Act.put _ (some 62) _ = _
            simp only [Act.put, List.setIfInBounds_toArray, List.set_cons_zero, List.set_cons_succ, i64_w, i32_w]
            rfl
          refine two_ (i := 3) (j := 12) (Ni := some 65) (Nj := some 74) #[true, true, true, true, true, true, true, true, true, true, true, true, false, false, false, false] #[true, true, true, false, true, true, true, true, true, true, true, true, true, false, false, false] rfl rfl rfl rfl (by kernel_rfl) (by decide) (by decide) (fun K hK => ?_) (fun K hK => ?_)
          · skip
            refine Kd.R_append_rows_step k112 (Rr := (k112).K wa) (w0 := wr) wr.heap.size (by rfl) (.tmp 62) (.tmp 64) 79 112 (.agg #[(.int .i64 0), (.int .i64 0), (.int .i64 0)]) 24 rfl Try.underlying79 info112 rfl (show 0 < 3 from by decide) (by omega) oA [] x1.f3 A7 x1.f3.length c7 (fun _ => True) (fun _ => False) rfl rfl ?aO ?aR (fun x_ cs_ h_ => by rw [k112_open h_]; exact k112_mkM _ _ _ x_) (fun _ h_ => h_.elim) (fun _ _ => trivial) ?aB ?aS ?aL ?_
            (case aO => exact pA.out)
            (case aR => exact Kd.F_now (Kd.F_below HWr.out HBw.out))
            (case aB => exact HBw.out)
            (case aS => exact HBw.out.size)
            (case aL => have := rA.out; simp only [List.length_nil]; omega)
            intro zA wb ho hb hg_ _
            rw [List.nil_append] at ho
            have qA := am_ ho
            replace HBw := am_ hb
            clear ho hb hg_ pA
            refine hK.out _ _ (hc_ HH) fun hHeld => ?_
            clear hK K
            refine norm_ (a' := ?_) ?_ ?_
            rotate_left
            · show Act.put _ (some 65) _ = _
              simp only [Act.put, List.setIfInBounds_toArray, List.set_cons_zero, List.set_cons_succ, i64_w, i32_w]
              rfl
            refine ox_ 12 74 fun K hK => ?_
            refine Kd.R_lit_step k112 (w0 := wb) wb.heap.size 112 ?hg (N := 74) ?hd (xs := ([⟨a1_3, (l1_4.length : Int), a1_0⟩] : List S112)) (inner := [.int .i64 a1_3, .int .i64 (l1_4.length : Int), .int .i64 a1_0]) (ok := fun _ => True) (okp := fun _ => False) ?hr ?hp (fun _ hk => hk.elim) trivial (Below.refl _ _) (Nat.le_refl _) (by simp) ?_
            (case hd => rfl)
            (case hg => rfl)
            (case hr => first | (go_simp; done) | (go_simp; rfl))
            (case hp => exact (Reps.none _ _).snoc (k112_mkM _ _ _ ⟨a1_3, (l1_4.length : Int), a1_0⟩) rfl)
            intro uA we ho hb _ hnew_
            have fA := am_ (Kd.R_lower ho HBw.out.size)
            replace qA := am_ (Kd.R_below qA.out hb)
            replace HBw := am_ (below_step HBw.out hb)
            clear ho hb hnew_
            refine hK.out _ _ (hc_ HH) fun hHeld => ?_
            clear hK K
            refine norm_ (a' := ?_) ?_ ?_
            rotate_left
            · show Act.put _ (some 74) _ = _
              simp only [Act.put, List.setIfInBounds_toArray, List.set_cons_zero, List.set_cons_succ, i64_w, i32_w]
              rfl
            exact norm_ (by simp only [putAll, Act.put, List.setIfInBounds_toArray, List.set_cons_zero, List.set_cons_succ]) (hCont (oA, zA, uA) _ ⟨hHeld, qA.out, fA.out, HBw.out⟩)
          · skip
            refine Kd.R_lit_step k112 (w0 := wa) wa.heap.size 112 ?hg (N := 74) ?hd (xs := ([⟨a1_3, (l1_4.length : Int), a1_0⟩] : List S112)) (inner := [.int .i64 a1_3, .int .i64 (l1_4.length : Int), .int .i64 a1_0]) (ok := fun _ => True) (okp := fun _ => False) ?hr ?hp (fun _ hk => hk.elim) trivial (Below.refl _ _) (Nat.le_refl _) (by simp) ?_
            (case hd => rfl)
            (case hg => rfl)
            (case hr => first | (go_simp; done) | (go_simp; rfl))
            (case hp => exact (Reps.none _ _).snoc (k112_mkM _ _ _ ⟨a1_3, (l1_4.length : Int), a1_0⟩) rfl)
            intro uA wb ho hb _ hnew_
            have HA := am_ (show ∀ k, oA.ownBlock = some k → some k ≠ uA.ownBlock from fun k hk he => by have := Kd.R_base ho k he.symm; have := Kd.R_lt pA.out k hk; omega)
            have fA := am_ (Kd.R_lower ho HBw.out.size)
            replace pA := am_ (Kd.R_below pA.out hb)
            replace HBw := am_ (below_step HBw.out hb)
            clear ho hb hnew_
            refine hK.out _ _ (hc_ HH) fun hHeld => ?_
            clear hK K
            refine norm_ (a' := ?_) ?_ ?_
            rotate_left
            · show Act.put _ (some 74) _ = _
              simp only [Act.put, List.setIfInBounds_toArray, List.set_cons_zero, List.set_cons_succ, i64_w, i32_w]
              rfl
            refine ox_ 3 65 fun K hK => ?_
            refine Kd.R_append_rows_step k112 (Rr := (k112).K wb) (w0 := wr) wr.heap.size (by rfl) (.tmp 62) (.tmp 64) 79 112 (.agg #[(.int .i64 0), (.int .i64 0), (.int .i64 0)]) 24 rfl Try.underlying79 info112 rfl (show 0 < 3 from by decide) (by omega) oA [] x1.f3 A7 x1.f3.length c7 (fun _ => True) (fun _ => False) rfl rfl ?aO ?aR (fun x_ cs_ h_ => by rw [k112_open h_]; exact k112_mkM _ _ _ x_) (fun _ h_ => h_.elim) (fun _ _ => trivial) ?aB ?aS ?aL ?_
            (case aO => exact pA.out)
            (case aR => exact Kd.F_now (Kd.F_below HWr.out HBw.out))
            (case aB => exact HBw.out)
            (case aS => exact HBw.out.size)
            (case aL => have := rA.out; simp only [List.length_nil]; omega)
            intro zA we ho hb hg_ _
            rw [List.nil_append] at ho
            have qA := am_ ho
            replace fA := am_ (Kd.R_grown2 fA.out rfl hg_ HA.out)
            clear HA
            replace HBw := am_ hb
            clear ho hb hg_ pA
            refine hK.out _ _ (hc_ HH) fun hHeld => ?_
            clear hK K
            refine norm_ (a' := ?_) ?_ ?_
            rotate_left
            · show Act.put _ (some 65) _ = _
              simp only [Act.put, List.setIfInBounds_toArray, List.set_cons_zero, List.set_cons_succ, i64_w, i32_w]
              rfl
            exact norm_ (by simp only [putAll, Act.put, List.setIfInBounds_toArray, List.set_cons_zero, List.set_cons_succ]) (hCont (oA, zA, uA) _ ⟨hHeld, qA.out, fA.out, HBw.out⟩)
        · skip
          refine Kd.R_lit_step k112 (w0 := wr) wr.heap.size 112 ?hg (N := 74) ?hd (xs := ([⟨a1_3, (l1_4.length : Int), a1_0⟩] : List S112)) (inner := [.int .i64 a1_3, .int .i64 (l1_4.length : Int), .int .i64 a1_0]) (ok := fun _ => True) (okp := fun _ => False) ?hr ?hp (fun _ hk => hk.elim) trivial (Below.refl _ _) (Nat.le_refl _) (by simp) ?_
          (case hd => rfl)
          (case hg => rfl)
          (case hr => first | (go_simp; done) | (go_simp; rfl))
          (case hp => exact (Reps.none _ _).snoc (k112_mkM _ _ _ ⟨a1_3, (l1_4.length : Int), a1_0⟩) rfl)
          intro uA wa ho hb _ hnew_
          have fA := am_ (Kd.R_lower ho HBw.out.size)
          replace HBw := am_ (below_step HBw.out hb)
          clear ho hb hnew_
          refine hK.out _ _ (hc_ HH) fun hHeld => ?_
          clear hK K
          refine norm_ (a' := ?_) ?_ ?_
          rotate_left
          · show Act.put _ (some 74) _ = _
            simp only [Act.put, List.setIfInBounds_toArray, List.set_cons_zero, List.set_cons_succ, i64_w, i32_w]
            rfl
          refine ox_ 0 62 fun K hK => ?_
          refine Kd.R_lit_step k112 (w0 := wa) wa.heap.size 112 ?hg (N := 62) ?hd (xs := ([] : List S112)) (inner := []) (ok := fun _ => True) (okp := fun _ => False) ?hr ?hp (fun _ hk => hk.elim) trivial (Below.refl _ _) (Nat.le_refl _) (by simp) ?_
          (case hd => rfl)
          (case hg => rfl)
          (case hr => first | (go_simp; done) | (go_simp; rfl))
          (case hp => exact (Reps.none _ _))
          intro oA wb ho hb _ hnew_
          have HA := am_ (show ∀ k, oA.ownBlock = some k → some k ≠ uA.ownBlock from fun k hk he => by have := Kd.R_base ho k hk; have := Kd.R_lt fA.out k he.symm; omega)
          have pA := am_ (Kd.R_lower ho HBw.out.size)
          replace fA := am_ (Kd.R_below fA.out hb)
          replace HBw := am_ (below_step HBw.out hb)
          clear ho hb hnew_
          refine hK.out _ _ (hc_ HH) fun hHeld => ?_
          clear hK K
          refine norm_ (a' := ?_) ?_ ?_
          rotate_left
          · show Act.put _ (some 62) _ = _
            simp only [Act.put, List.setIfInBounds_toArray, List.set_cons_zero, List.set_cons_succ, i64_w, i32_w]
            rfl
          refine ox_ 3 65 fun K hK => ?_
          refine Kd.R_append_rows_step k112 (Rr := (k112).K wb) (w0 := wr) wr.heap.size (by rfl) (.tmp 62) (.tmp 64) 79 112 (.agg #[(.int .i64 0), (.int .i64 0), (.int .i64 0)]) 24 rfl Try.underlying79 info112 rfl (show 0 < 3 from by decide) (by omega) oA [] x1.f3 A7 x1.f3.length c7 (fun _ => True) (fun _ => False) rfl rfl ?aO ?aR (fun x_ cs_ h_ => by rw [k112_open h_]; exact k112_mkM _ _ _ x_) (fun _ h_ => h_.elim) (fun _ _ => trivial) ?aB ?aS ?aL ?_
          (case aO => exact pA.out)
          (case aR => exact Kd.F_now (Kd.F_below HWr.out HBw.out))
          (case aB => exact HBw.out)
          (case aS => exact HBw.out.size)
          (case aL => have := rA.out; simp only [List.length_nil]; omega)
          intro zA we ho hb hg_ _
          rw [List.nil_append] at ho
          have qA := am_ ho
          replace fA := am_ (Kd.R_grown2 fA.out rfl hg_ HA.out)
          clear HA
          replace HBw := am_ hb
          clear ho hb hg_ pA
          refine hK.out _ _ (hc_ HH) fun hHeld => ?_
          clear hK K
          refine norm_ (a' := ?_) ?_ ?_
          rotate_left
          · show Act.put _ (some 65) _ = _
            simp only [Act.put, List.setIfInBounds_toArray, List.set_cons_zero, List.set_cons_succ, i64_w, i32_w]
            rfl
          exact norm_ (by simp only [putAll, Act.put, List.setIfInBounds_toArray, List.set_cons_zero, List.set_cons_succ]) (hCont (oA, zA, uA) _ ⟨hHeld, qA.out, fA.out, HBw.out⟩)
      rintro ⟨oA, zA, uA⟩ we ⟨hS_, h0_, h1_, h2_⟩
      have qA := am_ h0_
      have fA := am_ h1_
      have HBe := am_ h2_
      have hHeld := hS_
      clear h0_ h1_ h2_ hS_ HBw
      refine norm_ (a' := ?_) ?_ ?_
      rotate_left
      · simp only [putAll, Act.put, List.setIfInBounds_toArray, List.set_cons_zero, List.set_cons_succ]
        rfl
      obtain ⟨jC, kC, lC⟩ := Kd.R_slice fA.out
      subst lC
      refine ox_ 13 75 fun K hK => ?_
      refine Kd.R_append_rows_step k112 (Rr := (k112).K we) (w0 := wr) wr.heap.size (by rfl) (.tmp 65) (.tmp 74) 79 112 (.agg #[(.int .i64 0), (.int .i64 0), (.int .i64 0)]) 24 rfl Try.underlying79 info112 rfl (show 0 < 3 from by decide) (by omega) zA x1.f3 [⟨a1_3, (l1_4.length : Int), a1_0⟩] jC _ kC (fun _ => True) (fun _ => False) rfl rfl ?aO ?aR (fun x_ cs_ h_ => by rw [k112_open h_]; exact k112_mkM _ _ _ x_) (fun _ h_ => h_.elim) (fun _ _ => trivial) ?aB ?aS ?aL ?_
      (case aO => exact qA.out)
      (case aR => exact (Kd.R_reads' fA.out).2.2)
      (case aB => exact HBe.out)
      (case aS => exact HBe.out.size)
      (case aL => have := rA.out; simp only [List.length_singleton]; omega)
      intro rC wf ho hb hg_ _
      rw [← yB.out] at ho
      have rB := am_ ho
      have HBf := am_ hb
      clear ho hb hg_ qA fA HBe
      obtain ⟨mA, kA, mC⟩ := Kd.R_slice rB.out
      subst mC
      refine hK.out _ _ ⟨pw_cell_below HBf.out (blk_cell bA.out 3), pw_cell_below HBf.out (blk_cell jA.out 0), pw_cell_below HBf.out (blk_cell jA.out 3), pw_cell_below HBf.out (blk_cell jA.out 4)⟩ (fun hHeld => ?_)
      clear hK K
      refine norm_ (a' := ?_) ?_ ?_
      rotate_left
      · show Act.put _ (some 75) _ = _
        simp only [Act.put, List.setIfInBounds_toArray, List.set_cons_zero, List.set_cons_succ, i64_w, i32_w]
        rfl
      refine px_ 14 76 ?_
      refine last_ (i := 15) (N := none) #[true, true, true, true, true, true, true, true, true, true, true, true, true, true, true, true] rfl rfl (by kernel_rfl) (by decide) (fun K hK => ?_)
      have hs_ := hHeld.1
      have hfs_ : wf.frozen? ⟨aA, 3, none⟩ = false := blk_frozen (blk_below bA.out HBf.out) 3
      refine skip_ (w1 := ?_) (by rfl) rfl ?_ ?_
      rotate_left
      · go_simp
        rfl
      refine hK.out _ _ ?_
      clear hK K
      refine done_ (by kernel_rfl) ?_
      have HBc2 := am_ (show Below wa.heap.size wa (wf.setCell ⟨aA, 3, none⟩ (.slice mA l6.length kA)) from below_set (below_step HBc.out HBf.out) (by rw [dB.out]; exact Nat.le_refl _))
      have tA := am_ (show (wf.setCell ⟨aA, 3, none⟩ (.slice mA l6.length kA)).heap[aA]? = some (.cells #[.int .i64 x1.f0, .int .i64 x1.f1, .int .i64 x1.f2, .slice mA l6.length kA] 81 (0, 0)) from blk_put (cs := #[.int .i64 x1.f0, .int .i64 x1.f1, .int .i64 x1.f2, .slice A7 x1.f3.length c7]) (blk_below bA.out HBf.out) 3 (.slice mA l6.length kA) rfl)
      have iB := am_ (show Kd.R k112 112 (wf.setCell ⟨aA, 3, none⟩ (.slice mA l6.length kA)) wr.heap.size (fun _ => True) (.slice mA l6.length kA) l6 from Kd.R_set rB.out (blk_below bA.out HBf.out) (by decide) 3 _)
      have HGr := am_ (show g < wr.heap.size from Nat.lt_of_lt_of_le HGL.out HBc.out.size)
      have HBr := am_ (show w.heap.size ≤ wr.heap.size from Nat.le_trans HF.out.hb.size HBc.out.size)
      clear hHeld HBc bA jA HWr HBf rB
      generalize hwz : wf.setCell ⟨aA, 3, none⟩ (.slice mA l6.length kA) = wz at HBc2 tA iB ⊢
      clear hwz
      have HWF := am_ (Kd.R_F (Kd.R_mono (ok' := fun k => ok k ∧ k ≠ g ∧ k ≠ aA) (Kd.R_bound (Kd.R_types iB.out tA.out (by decide))) (fun k hk => ⟨HF.out.fr k (Nat.le_trans HBr.out hk.2.1), fun he => by have := hk.2.1; have := HGr.out; omega, hk.1.2⟩)))
      have HLC := am_ (Kd.R_reads' iB.out).2.1
      have bA := tA
      have HBc := HBc2
      clear tA HBc2 iB
      obtain ⟨hcx_0, hcx_1, hcx_2, hcx_3, hfx_0, hfx_1, hfx_2, hfx_3⟩ := cf4_ bA.out
      go_upto_if 80 with fail
      go_cut [] (fun wd => ∃ (A8 : Option Addr) (c8 : Nat), Aside0 (Below wa.heap.size wa wd) ∧ Aside0 (wd.heap[aA]? = some (.cells #[.int .i64 x1.f0, .int .i64 x1.f1, .int .i64 x1.f2, .slice A8 (spec_l5Add.win l6).length c8] 81 (0, 0))) ∧ Aside0 ((spec_l5Add.win l6).length ≤ c8) ∧ Aside0 (Kd.F k112 wd (fun k => ok k ∧ k ≠ g ∧ k ≠ aA) A8 (spec_l5Add.win l6).length (spec_l5Add.win l6)))
      case first =>
        by_cases h5 : 5 < l6.length
        rotate_left
        · have h5b : decide ((5 : Int) < (l6.length : Int)) = false := decide_eq_false (by omega)
          have HE := am_ (show spec_l5Add.win l6 = l6 from if_neg h5)
          clear h5
          rw [h5b]
          go_wp2
          go_meet
          exact ⟨mA, kA, HBc, by rw [HE.out]; exact bA, by rw [HE.out]; exact HLC, by rw [HE.out]; exact HWF⟩
        · have h5b : decide ((5 : Int) < (l6.length : Int)) = true := decide_eq_true (by omega)
          have HE := am_ (show spec_l5Add.win l6 = l6.drop 1 from if_pos h5)
          have nC := am_ (show 1 ≤ l6.length by omega)
          have hcut3 := cut_from (P := Try.prog) 79 112 .i64 Try.underlying79 hi0D 3 hsD mA l6.length kA 1 (by omega) (by omega)
          clear h5
          rw [show (1 : Int).toNat = 1 from rfl] at hcut3
          obtain ⟨eB, hA83⟩ : ∃ eB, eB = (if kA = 1 then mA else mA.map (·.add (1 * 3))) := ⟨_, rfl⟩
          rw [← hA83] at hcut3
          have HCF := am_ (show Kd.F k112 wz (fun k => ok k ∧ k ≠ g ∧ k ≠ aA) eB (l6.drop 1).length (l6.drop 1) from by rw [hA83]; exact Kd.F_cut HWF.out nC.out HLC.out)
          clear hA83
          rw [h5b]
          go_wp2
          have oC := am_ (show Below wa.heap.size wa (wz.setCell ⟨aA, 3, none⟩ (.slice eB (l6.length - 1) (kA - 1))) from below_set HBc.out (by rw [dB.out]; exact Nat.le_refl _))
          go_meet
          refine ⟨eB, kA - 1, oC, ⟨?_⟩, ⟨?_⟩, ⟨?_⟩⟩
          · rw [HE.out, List.length_drop]
            exact blk_put (cs := #[.int .i64 x1.f0, .int .i64 x1.f1, .int .i64 x1.f2, .slice mA l6.length kA]) bA.out 3 _ rfl
          · rw [HE.out, List.length_drop]
            have := HLC.out
            omega
          · rw [HE.out]
            exact Kd.F_far (p := ⟨aA, 3, none⟩) HCF.out (fun k hk => hk.2.2) _
      case rest =>
        clear HBc bA HLC HWF hcx_0 hcx_1 hcx_2 hcx_3 hfx_0 hfx_1 hfx_2 hfx_3
        obtain ⟨A8, c8, HBc, bA, HLC, HWF⟩ := hcut
        obtain ⟨wg, rfl⟩ : ∃ wg : World, wg = wc := ⟨_, rfl⟩
        have jA := am_ (blk_below HF.out.b3 HBc.out)
        obtain ⟨hcx_0, hcx_1, hcx_2, hcx_3, hfx_0, hfx_1, hfx_2, hfx_3⟩ := cf4_ bA.out
        obtain ⟨hcb_0, hcb_1, hcb_2, hcb_3, hcb_4, hfb_0, hfb_1, hfb_2, hfb_3, hfb_4⟩ := cf5_ jA.out
        have HXP := am_ (show spec_l5Add.put x1 a1_3 (l1_4.length : Int) a1_0 = ⟨x1.f0, x1.f1, wrap64 (a1_3 + (l1_4.length : Int)), spec_l5Add.win l6⟩ from by rw [yB.out]; rfl)
        generalize spec_l5Add.win l6 = l8 at bA HLC HWF HXP hcx_0 hcx_1 hcx_2 hcx_3
        obtain ⟨nx, hnx⟩ : ∃ nx, nx = wrap64 (a1_3 + (l1_4.length : Int)) := ⟨_, rfl⟩
        rw [← hnx] at HXP
        have HBW := am_ (show Below wa.heap.size wa (wg.setCell ⟨aA, 2, none⟩ (.int .i64 nx)) from below_set HBc.out (by rw [dB.out]; exact Nat.le_refl _))
        have HFZ := am_ (Kd.F_far (p := ⟨aA, 2, none⟩) HWF.out (fun k hk => hk.2.2) (.int .i64 nx))
        have HFW := am_ (HF.out.below HBW.out)
        have hnx' := hnx.symm
        have HNX := am_ hnx
        clear hnx
        go_upto_region 17 with fail
        rw [hnx']
        generalize hwz : wg.setCell ⟨aA, 2, none⟩ (.int .i64 nx) = wz at HBW HFZ HFW ⊢
        have BK7z := am_ (show wz.heap[aA]? = some (.cells #[.int .i64 x1.f0, .int .i64 x1.f1, .int .i64 nx, .slice A8 l8.length c8] 81 (0, 0)) from by rw [← hwz]; exact blk_put (cs := #[.int .i64 x1.f0, .int .i64 x1.f1, .int .i64 x1.f2, .slice A8 l8.length c8]) bA.out 2 _ rfl)
        clear hwz hnx' jA hcx_0 hcx_1 hcx_2 hcx_3 hfx_0 hfx_1 hfx_2 hfx_3 hcb_0 hcb_1 hcb_2 hcb_3 hcb_4 hfb_0 hfb_1 hfb_2 hfb_3 hfb_4
        obtain ⟨hcx_0, hcx_1, hcx_2, hcx_3, hfx_0, hfx_1, hfx_2, hfx_3⟩ := cf4_ BK7z.out
        go_wp2_with (first | ((with_reducible refine gate_store (t := 81) (p := 95) rfl ?_); refine Kd.N_store k81 (w0 := w) base rfl rfl 81 (.tmp 95) (.tmp 94) rfl 81 (g := g) (n := ps1.length) (cap := c1) (o' := i * 4) (i : Int) 0 ps1 ⟨x1.f0, x1.f1, nx, l8⟩ (.agg #[.int .i64 x1.f0, .int .i64 x1.f1, .int .i64 nx, .slice A8 l8.length c8]) [.int .i64 x1.f0, .int .i64 x1.f1, .int .i64 nx, .slice A8 l8.length c8] [.int .i64 x.f0, .int .i64 x.f1, .int .i64 x.f2, .slice A3 x.f3.length c3] ok (fun k => ok k ∧ k ≠ g ∧ k ≠ aA) ?ha ?ho rfl rfl ?ht ?h1 ?aO ?h0 ?hi rfl ?hc ?hj ?hM (fun k hk => ⟨hk.1, hk.2.1⟩) ?hB ?_; (case ha => first | rfl | (go_simp; done)); (case ho => rw [Int.toNat_natCast]; rfl); (case ht => rw [hi0P, Option.map_some, hsP]; rfl); (case h1 => intro q_ hq_; simp only [List.mem_cons, List.not_mem_nil, or_false] at hq_; rcases hq_ with rfl | rfl | rfl | rfl <;> rfl); (case aO => exact HFW.out.n); (case h0 => exact Int.natCast_nonneg _); (case hi => have := HI.out; omega); (case hc => exact fun j u hu => pw_cell_below HBW.out (HCC.out j u hu)); (case hj => exact Nat.le_refl 4); (case hM => exact k81_mkF _ _ ⟨x1.f0, x1.f1, nx, l8⟩ HLC.out HFZ.out); (case hB => exact Below.mono HFW.out.hb HFW.out.ba); intro sC hn_ _ hg_; obtain ⟨hE1_, hE2_⟩ := la_end (n' := (ps1.set i (⟨x1.f0, x1.f1, nx, l8⟩ : S81)).length) HFW.out.hb hg_ HAT.out; rw [Int.toNat_natCast] at hn_; have HNE := am_ hn_; have pC := am_ hE1_; have qC := am_ hE2_; clear hn_ hg_ hE1_ hE2_ hcx_0 hcx_1 hcx_2 hcx_3 hfx_0 hfx_1 hfx_2 hfx_3))
        go_ret
        exact ⟨_, rfl, by rw [← HRE.out, HXP.out]; exact HNE.out, pC.out, by have h_ := qC.out; exact h_⟩
end Go.Proofs.Ytojdaolclcmalaa.QFnExactAskPart
