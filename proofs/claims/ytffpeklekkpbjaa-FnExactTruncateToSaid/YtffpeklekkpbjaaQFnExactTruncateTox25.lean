/- Functions that one statement reaches: of each a plain function, and the proof that calls come to it. Conditions: those that each contract names. Written by a program of this repository. -/
import Derived.Test.YtffpeklekkpbjaaVTruncateToa
import Derived.Test.YtffpeklekkpbjaaQFnExactTruncateTox2
import Derived.Test.YtffpeklekkpbjaaQFnExactTruncateTox16
import Derived.Test.YtffpeklekkpbjaaQFnExactTruncateTox19
import Derived.Test.YtffpeklekkpbjaaQFnExactTruncateTox21
import Derived.Test.YtffpeklekkpbjaaQFnExactTruncateTox24
namespace Go.Proofs.Ytffpeklekkpbjaa.QFnExactTruncateTo
open Go.RowKit Go.Proofs.YtffpeklekkpbjaaW.PrintWords Go.Proofs.YtffpeklekkpbjaaW.PrintLast Go.Proofs.YtffpeklekkpbjaaW.PrintMore
attribute [local go_sem] max2_int min2_int max_two min_two max_three min_three max_four min_four Go.Proofs.YtffpeklekkpbjaaW.PrintMore2.isSome_setCell   -- for this text's walks alone
set_option linter.unusedVariables false
set_option linter.unusedSimpArgs false

-- NOT PRINTED: function 107 (slices_IndexFunc_Batch)

-- NOT PRINTED: function 75 (slices_DeleteFunc_Batch)

/-! ### impl_TruncateTo: function 28 -/
/-! #### a row's beginning stays, whatever is stored behind it -/
theorem tr_prefix {w : World} {base e size n o g c : Nat} {xs : List Value} (h : w.ownsRow base e size (.slice (some ⟨g, 0, none⟩) n c) n xs) (ho : n * size ≤ o) (u : Value) : (w.setCell ⟨g, o, none⟩ u).ownsRow base e size (.slice (some ⟨g, 0, none⟩) n c) n xs := by
 obtain ⟨h1, h2⟩ := h
 refine ⟨h1, ?_⟩
 rcases h2 with ⟨hv, _⟩ | ⟨g', cap, cur, hv, hb, hh, hn, hm, hs, ht⟩
 ·cases hv
 ·injection hv with ha hl hc
  injection ha with ha
  injection ha with ha
  subst ha hc
  refine .inr ⟨g, c, cur.setIfInBounds o u, rfl, hb, blk_set hh o u, hn, hm, by simpa using hs, ?_⟩
  rw [← ht]
  apply List.ext_getElem?
  intro i
  simp only [List.getElem?_take, Array.getElem?_toList, Array.getElem?_setIfInBounds]
  split
  ·rw [if_neg (by omega)]
  ·rfl
theorem tr_setCell {α : Type} {d : Kd α} {W : World} {base e n o g c : Nat} {ok : Nat → Prop} {xs : List α} (h : d.R e W base ok (.slice (some ⟨g, 0, none⟩) n c) xs) (ho : n * d.sz ≤ o) (u : Value) : d.R e (W.setCell ⟨g, o, none⟩ u) base ok (.slice (some ⟨g, 0, none⟩) n c) xs := by
 have hn := (Kd.R_reads' h).1
 subst hn
 obtain ⟨h0, inner, hown, hr⟩ := h
 refine ⟨h0, inner, tr_prefix hown ho u, hr.imp_ (fun p cs hp => Kd.M_far (p := ⟨g, o, none⟩) hp (fun k hk e_ => hk.2 ?_) u)⟩
 rw [e_]
 rfl
theorem tr_setCells {α : Type} {d : Kd α} {base e n g c : Nat} {ok : Nat → Prop} {xs : List α} : ∀ (vs : List Value) (o : Nat) (W : World), d.R e W base ok (.slice (some ⟨g, 0, none⟩) n c) xs → n * d.sz ≤ o → d.R e (W.setCells g o vs) base ok (.slice (some ⟨g, 0, none⟩) n c) xs
 | [], _, _, h, _ => h
 | v :: r, o, W, h, ho => tr_setCells r (o + 1) _ (tr_setCell h ho v) (by omega)
theorem tr_grown (g : Nat) : ∀ (vs : List Value) (o : Nat) (W : World), W.grownBy (W.setCells g o vs) (some g)
 | [], _, W => grown_of_below (Below.refl _ _) _
 | v :: r, o, W => World.grownBy.trans (show W.grownBy (W.setCell ⟨g, o, none⟩ v) (some g) from ⟨rfl, rfl, rfl, by simp [World.setCell], fun i _ hn => Below.heap_setCell W ⟨g, o, none⟩ v i (fun e_ => hn (by rw [e_]))⟩) (tr_grown g r (o + 1) _)
theorem tr_clear (w : World) (t e ty : TypeId) (z : Value) (Z : List Value) (b o n c : Nat) (hn : 0 < n) (ht : Try.prog.underlying t = some (.slice e)) (hv : ∀ w, (zeroValue e).run Try.prog w = .ok z w) (hZ : (Builtin.zeroCells z.cells n).toList = Z)
  (hc : ∀ j, j < Z.length → (w.cell? ⟨b, o + j, none⟩).isSome = true) (hf : ∀ j, j < Z.length → w.frozen? ⟨b, o + j, none⟩ = false) (h1 : ∀ v ∈ Z, v.oneCell' = true) :
  (Builtin.clear_ #[t] ty #[.slice (some ⟨b, o, none⟩) n c]).run Try.prog w = .ok (.tuple #[]) (w.setCells b o Z) := by
 have hst := run_storeCells_cells (P := Try.prog) b o Z 0 w (by simpa using hc) (by simpa using hf) h1
 simp only [Nat.add_zero] at hst
 obtain ⟨m, rfl⟩ : ∃ m, n = m + 1 := ⟨n - 1, by omega⟩
 simp [Builtin.clear_, run_underlying ht, hv, hZ, hst]
theorem tr_zeros (z : Value) (n : Nat) (hs : 0 < z.cells.size) (h1 : ∀ v ∈ z.cells.toList, v.oneCell' = true) : (Builtin.zeroCells z.cells n).toList.length = n * z.cells.size ∧ ∀ v ∈ (Builtin.zeroCells z.cells n).toList, v.oneCell' = true := by
 unfold Builtin.zeroCells
 refine ⟨by simp, fun v hv => ?_⟩
 simp only [Array.toList_map, List.mem_map] at hv
 obtain ⟨i, _, rfl⟩ := hv
 have hl : i % z.cells.size < z.cells.size := Nat.mod_lt _ hs
 rw [getElem!_pos z.cells _ hl]
 exact h1 _ (by simp)
/-! #### the first place where p holds -/
def tr_ix {α : Type} (p : α → Bool) : Nat → List α → Int
 | _, [] => -1
 | i, x :: r => if p x = true then (i : Int) else tr_ix p (i + 1) r
theorem tr_ix_spec {α : Type} (p : α → Bool) : ∀ (l : List α) (i : Nat), (tr_ix p i l = -1 ∧ l.filter (fun x => !p x) = l) ∨ ∃ k, k < l.length ∧ tr_ix p i l = ((i + k : Nat) : Int) ∧ (l.take (k + 1)).filter (fun x => !p x) = l.take k
 | [], i => .inl ⟨rfl, rfl⟩
 | x :: r, i => by
  rw [tr_ix]
  by_cases h : p x = true
  ·rw [if_pos h]
   exact .inr ⟨0, by simp, by simp, by simp [h]⟩
  ·rw [if_neg h]
   have h' : p x = false := by simpa using h
   rcases tr_ix_spec p r (i + 1) with ⟨e, f⟩ | ⟨k, hk, e, f⟩
   ·exact .inl ⟨e, by rw [List.filter_cons, h', f]; rfl⟩
   ·refine .inr ⟨k + 1, by simpa using hk, by rw [e]; congr 1; omega, ?_⟩
    rw [List.take_succ_cons, List.filter_cons, h', f]
    rfl
set_option maxHeartbeats 8000000 in
set_option maxRecDepth 100000 in
theorem trunc_idx (p : S43 → Bool) (l : List S43) (A : Option Addr) (c : Nat) (g : Nat) (lb : Array Value) (eg : ∀ args w, (callFunc g args).run Try.prog w = .ok (.enter g args) w) (w : World) (hr : Kd.C k43 w A l.length l)
  (hp : ∀ (W : World) (x : S43) (A4 : Option Addr) (c4 : Nat), Below w.heap.size w W → x.f4.length ≤ c4 → Kd.string.C W A4 x.f4.length x.f4 → Calls Try.prog g (#[.agg #[.int .i64 x.f0, .int .i64 x.f1, .int .i64 x.f2, .int .i64 x.f3, .slice A4 x.f4.length c4]] ++ lb) W fun e w' => e = .returned (.bool (p x)) ∧ Below W.heap.size W w') :
  Calls Try.prog 107 #[.slice A l.length c, .func (.func g) #[] lb] w fun e w' => e = .returned (.int .i64 (tr_ix p 0 l)) ∧ Below w.heap.size w w' := by
 have hbig : l.length ≤ 9223372036854775807 := hr.2.1
 have hu_ := Try.underlying43
 have HR := Aside0.mk hr
 have HP := Aside0.mk hp
 clear hr hp
 go_enter Try.func107, Try.ntmps107
 go_wp2
 go_loopg [5, 8] l.length (fun gg _ s8 wr => ∃ kk : Nat, kk ≤ l.length ∧ l.length - kk ≤ gg ∧ s8 = .int .i64 kk ∧ Aside (Below w.heap.size w wr) ∧ Aside (tr_ix p 0 l = tr_ix p kk (l.drop kk)))
 case atStart => exact ⟨0, Nat.zero_le _, by omega, rfl, Below.refl _ w, rfl⟩
 case round =>
  obtain ⟨kk, hkk, hg, rfl, BW, AA⟩ := hrel
  by_cases hlt : kk < l.length
  ·have hltz : (kk : Int) < (l.length : Int) := by omega
   obtain ⟨ad, A4, c4, rfl, hcell0, hcell1, hcell2, hcell3, hcell4, hl4, hr4⟩ := at_T43 (Kd.C_below HR.out BW.out) (kk : Int) (by omega) hltz
   have e1 : rd_T43 l (kk : Int) = l[kk] := by unfold rd_T43; rw [Int.toNat_natCast, List.getD_eq_getElem?_getD, List.getElem?_eq_getElem hlt]; rfl
   rw [e1] at hcell0 hcell1 hcell2 hcell3 hcell4 hl4 hr4
   have hA := AA.out
   rw [List.drop_eq_getElem_cons hlt, tr_ix] at hA
   clear AA
   generalize hx : l[kk] = x at hcell0 hcell1 hcell2 hcell3 hcell4 hl4 hr4 hA e1
   rw [Int.toNat_natCast] at hcell0 hcell1 hcell2 hcell3 hcell4
   have HC := Aside0.mk (HP.out wr x A4 c4 BW.out hl4 hr4)
   clear e1 hx hl4 hr4
   cases hq : p x with
   | true =>
    rw [hq, if_pos rfl] at hA
    have H2 := Aside0.mk hA
    have HQ := Aside0.mk hq
    clear hA hq
    go_wp2_with fail
    refine HC.out.mono ?_
    rw [HQ.out]
    clear HC
    rintro e w2 ⟨rfl, hb2⟩
    have HB2 := Aside0.mk (below_step BW.out hb2)
    clear hb2
    go_wp2_with fail
    go_ret
    exact ⟨by rw [H2.out]; rfl, HB2.out⟩
   | false =>
    rw [hq, if_neg (by decide)] at hA
    have H2 := Aside0.mk hA
    have HQ := Aside0.mk hq
    clear hA hq
    go_wp2_with fail
    refine HC.out.mono ?_
    rw [HQ.out]
    clear HC
    rintro e w2 ⟨rfl, hb2⟩
    have HB2 := Aside0.mk (below_step BW.out hb2)
    clear hb2
    go_wp2_with fail
    go_roundg (l.length - (kk + 1))
    case measure => omega
    case rel => exact ⟨kk + 1, by omega, by omega, by go_num, HB2.out, (show Aside _ from H2.out)⟩
  ·have hltz : ¬ (kk : Int) < (l.length : Int) := by omega
   have hkl : kk = l.length := by omega
   subst hkl
   have hA := AA.out
   rw [List.drop_length, tr_ix] at hA
   have H2 := Aside0.mk hA
   clear hA AA
   go_wp2
   go_ret
   exact ⟨by rw [H2.out]; rfl, BW.out⟩
set_option maxHeartbeats 8000000 in
set_option maxRecDepth 100000 in
theorem trunc_del (p : S43 → Bool) (l : List S43) (A : Option Addr) (c : Nat) (g : Nat) (lb : Array Value) (eg : ∀ args w, (callFunc g args).run Try.prog w = .ok (.enter g args) w) (base : Nat) (w0 w : World) (ok : Nat → Prop) (hle : w0.heap.size ≤ base) (hB : Below w0.heap.size w0 w) (ho : Kd.R k43 43 w base ok (.slice A l.length c) l)
  (hp : ∀ (W : World) (x : S43) (A4 : Option Addr) (c4 : Nat), Kept w W (fun k => some k = (.slice A l.length c : Value).ownBlock) → x.f4.length ≤ c4 → Kd.string.C W A4 x.f4.length x.f4 → Calls Try.prog g (#[.agg #[.int .i64 x.f0, .int .i64 x.f1, .int .i64 x.f2, .int .i64 x.f3, .slice A4 x.f4.length c4]] ++ lb) W fun e w' => e = .returned (.bool (p x)) ∧ Below W.heap.size W w') :
  Calls Try.prog 75 #[.slice A l.length c, .func (.func g) #[] lb] w fun e w' => e = .returned (.slice A (l.filter fun x => !p x).length c) ∧ Kd.R k43 43 w' base ok (.slice A (l.filter fun x => !p x).length c) (l.filter fun x => !p x) ∧ Below w0.heap.size w0 w' ∧ Kept w w' (fun k => some k = (.slice A l.length c : Value).ownBlock) := by
 have hbig : l.length ≤ 9223372036854775807 := (Kd.R_reads' ho).2.2.2.1
 have hu_ := Try.underlying43
 have hlc := (Kd.R_reads' ho).2.1
 have hIX := trunc_idx p l A c g lb eg w (Kd.R_reads' ho).2.2 (fun W x A4 c4 hb => hp W x A4 c4 (Kept.of_below hb _))
 have HB := Aside0.mk hB
 have HO := Aside0.mk ho
 have HP := Aside0.mk hp
 clear hB ho hp
 rcases tr_ix_spec p l 0 with ⟨e1, e2⟩ | ⟨k0, hk0, e1, e2⟩
 ·rw [e1] at hIX
  have HIX := Aside0.mk hIX
  have E2 := Aside0.mk e2
  clear hIX e1 e2
  go_enter Try.func75, Try.ntmps75
  go_wp2_with fail
  refine HIX.out.mono ?_
  rintro e w2 ⟨rfl, hb2⟩
  have HB2 := Aside0.mk hb2
  clear hb2 HIX
  go_wp2_with fail
  go_ret
  rw [E2.out]
  exact ⟨rfl, Kd.R_below HO.out HB2.out, below_step HB.out HB2.out, Kept.of_below HB2.out _⟩
 ·rw [Nat.zero_add] at e1
  rw [e1] at hIX
  have HIX := Aside0.mk hIX
  have E2 := Aside0.mk e2
  have hne1 : ((k0 : Int) == -1) = false := beq_eq_false_iff_ne.2 (by omega)
  clear hIX e1 e2
  obtain ⟨g0, cap, eg0, hgb, _⟩ := Kd.R_form HO.out (by omega)
  injection eg0 with eg1 eg2 eg3
  subst eg1
  clear eg2 eg3
  have HGB := Aside0.mk (Nat.le_trans hle hgb)
  clear hgb
  go_enter Try.func75, Try.ntmps75
  go_wp2_with fail
  refine HIX.out.mono ?_
  rintro e w2 ⟨rfl, hb2⟩
  have HB2 := Aside0.mk (below_step HB.out hb2)
  have HO2 := Aside0.mk (Kd.R_below HO.out hb2)
  have HK2 := Aside0.mk (Kept.of_below hb2 (fun k => some k = (.slice (some ⟨g0, 0, none⟩) l.length c : Value).ownBlock))
  clear hb2 HIX HO HB
  go_wp2_with fail
  go_loopg [5, 6, 7] l.length (fun gg s5 s6 _ wr => ∃ (i j : Nat) (rows : List S43), s5 = .int .i64 i ∧ s6 = .int .i64 j ∧ j ≤ l.length ∧ l.length - j ≤ gg ∧ i < j ∧ Aside0 (rows.length = l.length) ∧ Aside0 (rows.take i = (l.take j).filter fun x => !p x) ∧ Aside0 (rows.drop j = l.drop j) ∧ Aside0 (Kd.R k43 43 wr base ok (.slice (some ⟨g0, 0, none⟩) l.length c) rows) ∧ Aside0 (Kept w wr (fun k => some k = (.slice (some ⟨g0, 0, none⟩) l.length c : Value).ownBlock)) ∧ Aside0 (Below w0.heap.size w0 wr))
  case atStart => exact ⟨k0, k0 + 1, l, rfl, by go_num, by omega, by omega, by omega, ⟨rfl⟩, ⟨E2.out.symm⟩, ⟨rfl⟩, HO2, HK2, HB2⟩
  case round =>
   clear HO2 HK2 HB2
   obtain ⟨i, j, rows, rfl, rfl, hjn, hgg, hij, HL, HT, HD, HO, HK, HB⟩ := hrel
   by_cases hlt : j < l.length
   ·have hltz : (j : Int) < (l.length : Int) := by omega
    obtain ⟨cs, _, hM, hcc, hfr⟩ := Kd.R_elem HO.out z43 (j : Int) (by omega) hltz
    have ej : rows.getD (j : Int).toNat z43 = l[j] := by
     have := congrArg (fun z => z[0]?) HD.out
     simp only [List.getElem?_drop, Nat.add_zero] at this
     rw [Int.toNat_natCast, List.getD_eq_getElem?_getD, this, List.getElem?_eq_getElem hlt]
     rfl
    rw [ej] at hM
    generalize hx : l[j] = x at hM ej
    have HX := Aside0.mk hx
    clear hx
    obtain ⟨v4, rfl, hv4⟩ := k43_openM hM
    have HV := Aside0.mk hv4
    obtain ⟨A4, c4, e4⟩ := Kd.R_slice hv4
    subst e4
    have hl4 := (Kd.R_reads' HV.out).2.1
    have hc0 : wr.cell? ⟨g0, j * 5, none⟩ = some (.int .i64 x.f0) := hcc 0 _ rfl
    have hc1 : wr.cell? ⟨g0, j * 5 + 1, none⟩ = some (.int .i64 x.f1) := hcc 1 _ rfl
    have hc2 : wr.cell? ⟨g0, j * 5 + 2, none⟩ = some (.int .i64 x.f2) := hcc 2 _ rfl
    have hc3 : wr.cell? ⟨g0, j * 5 + 3, none⟩ = some (.int .i64 x.f3) := hcc 3 _ rfl
    have hc4 : wr.cell? ⟨g0, j * 5 + 4, none⟩ = some (.slice A4 x.f4.length c4) := hcc 4 _ rfl
    clear hcc hfr hM ej hv4
    have HC := Aside0.mk (HP.out (wr.alloc (.cells #[.int .i64 x.f0, .int .i64 x.f1, .int .i64 x.f2, .int .i64 x.f3, .slice A4 x.f4.length c4] 43)) x A4 c4 (HK.out.alloc _) hl4 (Kd.R_reads' (Kd.R_alloc HV.out _)).2.2)
    have hts : l.take (j + 1) = l.take j ++ [x] := by rw [List.take_succ_eq_append_getElem hlt, HX.out]
    have hdd : rows.drop (j + 1) = l.drop (j + 1) := by
     have := congrArg (fun z => z.drop 1) HD.out
     simpa only [List.drop_drop] using this
    have HTS := Aside0.mk hts
    have HDD := Aside0.mk hdd
    clear hts hdd HX hl4
    cases hq : p x with
    | true =>
     have HQ := Aside0.mk hq
     clear hq
     go_wp2_with fail
     refine HC.out.mono ?_
     rw [HQ.out]
     clear HC
     rintro e w3 ⟨rfl, hb3⟩
     have HO3 := Aside0.mk (Kd.R_below (Kd.R_alloc HO.out _) hb3)
     have HK3 := Aside0.mk (Kept.below (HK.out.alloc _) hb3)
     have HB3 := Aside0.mk (below_step (below_alloc HB.out _) hb3)
     clear hb3 HO HK HB HV
     go_wp2_with fail
     go_roundg (l.length - (j + 1))
     case measure => omega
     case rel => exact ⟨i, j + 1, rows, rfl, by go_num, by omega, by omega, by omega, HL, ⟨by rw [HT.out, HTS.out, List.filter_append, List.filter_cons, HQ.out]; simp⟩, HDD, HO3, HK3, HB3⟩
    | false =>
     have HQ := Aside0.mk hq
     clear hq
     go_wp2_with fail
     refine HC.out.mono ?_
     rw [HQ.out]
     clear HC
     rintro e w3 ⟨rfl, hb3⟩
     have hx0 : w3.cell? ⟨wr.heap.size, 0, none⟩ = some (.int .i64 x.f0) := (hb3.cell (p := ⟨wr.heap.size, 0, none⟩) (by simp)).trans (by go_simp)
     have hx1 : w3.cell? ⟨wr.heap.size, 1, none⟩ = some (.int .i64 x.f1) := (hb3.cell (p := ⟨wr.heap.size, 1, none⟩) (by simp)).trans (by go_simp)
     have hx2 : w3.cell? ⟨wr.heap.size, 2, none⟩ = some (.int .i64 x.f2) := (hb3.cell (p := ⟨wr.heap.size, 2, none⟩) (by simp)).trans (by go_simp)
     have hx3 : w3.cell? ⟨wr.heap.size, 3, none⟩ = some (.int .i64 x.f3) := (hb3.cell (p := ⟨wr.heap.size, 3, none⟩) (by simp)).trans (by go_simp)
     have hx4 : w3.cell? ⟨wr.heap.size, 4, none⟩ = some (.slice A4 x.f4.length c4) := (hb3.cell (p := ⟨wr.heap.size, 4, none⟩) (by simp)).trans (by go_simp)
     have HV3 := Aside0.mk (Kd.R_below (Kd.R_alloc HV.out (.cells #[.int .i64 x.f0, .int .i64 x.f1, .int .i64 x.f2, .int .i64 x.f3, .slice A4 x.f4.length c4] 43)) hb3)
     have HO3 := Aside0.mk (Kd.R_below (Kd.R_alloc HO.out (.cells #[.int .i64 x.f0, .int .i64 x.f1, .int .i64 x.f2, .int .i64 x.f3, .slice A4 x.f4.length c4] 43)) hb3)
     have HK3 := Aside0.mk (Kept.below (HK.out.alloc (.cells #[.int .i64 x.f0, .int .i64 x.f1, .int .i64 x.f2, .int .i64 x.f3, .slice A4 x.f4.length c4] 43)) hb3)
     have HB3 := Aside0.mk (below_step (below_alloc HB.out (.cells #[.int .i64 x.f0, .int .i64 x.f1, .int .i64 x.f2, .int .i64 x.f3, .slice A4 x.f4.length c4] 43)) hb3)
     have hiltz : (i : Int) < (l.length : Int) := by omega
     obtain ⟨ci, hcl, hMi, hcci, hfri⟩ := Kd.R_elem HO3.out z43 (i : Int) (by omega) hiltz
     obtain ⟨u4, rfl, hu4⟩ := k43_openM hMi
     have hi0 : w3.cell? ⟨g0, i * 5, none⟩ = some (.int .i64 (rows.getD (i : Int).toNat z43).f0) := hcci 0 _ rfl
     have hi1 : w3.cell? ⟨g0, i * 5 + 1, none⟩ = some (.int .i64 (rows.getD (i : Int).toNat z43).f1) := hcci 1 _ rfl
     have hi2 : w3.cell? ⟨g0, i * 5 + 2, none⟩ = some (.int .i64 (rows.getD (i : Int).toNat z43).f2) := hcci 2 _ rfl
     have hi3 : w3.cell? ⟨g0, i * 5 + 3, none⟩ = some (.int .i64 (rows.getD (i : Int).toNat z43).f3) := hcci 3 _ rfl
     have hi4 : w3.cell? ⟨g0, i * 5 + 4, none⟩ = some (u4) := hcci 4 _ rfl
     have hf0 : w3.frozen? ⟨g0, i * 5, none⟩ = false := hfri 0
     have hf1 : w3.frozen? ⟨g0, i * 5 + 1, none⟩ = false := hfri 1
     have hf2 : w3.frozen? ⟨g0, i * 5 + 2, none⟩ = false := hfri 2
     have hf3 : w3.frozen? ⟨g0, i * 5 + 3, none⟩ = false := hfri 3
     have hf4 : w3.frozen? ⟨g0, i * 5 + 4, none⟩ = false := hfri 4
     have HP3 := Aside0.mk (Kd.R_seg HO3.out (i : Int) (by omega) hiltz (seg := [.int .i64 x.f0, .int .i64 x.f1, .int .i64 x.f2, .int .i64 x.f3, .slice A4 x.f4.length c4]) (j := 0) hcl hcci (show 5 ≤ 5 from Nat.le_refl 5) (x' := x) (okp := fun k => ok k ∧ k ≠ g0) (k43_mkM _ _ _ x HV3.out) (fun _ h_ => h_))
     generalize (rows.getD (i : Int).toNat z43).f0 = o0 at hi0
     generalize (rows.getD (i : Int).toNat z43).f1 = o1 at hi1
     generalize (rows.getD (i : Int).toNat z43).f2 = o2 at hi2
     generalize (rows.getD (i : Int).toNat z43).f3 = o3 at hi3
     clear hcl hMi hcci hfri HO HK HB hb3 HV HV3 hu4
     go_wp2_with fail
     go_roundg (l.length - (j + 1))
     case measure => omega
     case rel =>
      refine ⟨i + 1, j + 1, rows.set i x, by go_num, by go_num, by omega, by omega, by omega, ⟨by rw [List.length_set]; exact HL.out⟩, ⟨?_⟩, ⟨?_⟩, ⟨HP3.out.1⟩, ⟨Kept.of_grown HP3.out.2 HK3.out (fun k_ e_ => .inl (by obtain rfl := Option.some.inj e_; rfl))⟩, ⟨pw_below_grown HB3.out (some g0) HB3.out.size HP3.out.2 (fun k_ e_ => by obtain rfl := Option.some.inj e_; exact HGB.out)⟩⟩
      ·have hil : i < rows.length := by have := HL.out; omega
       rw [List.take_succ_eq_append_getElem (by rw [List.length_set]; exact hil), List.take_set_of_le (Nat.le_refl _), List.getElem_set_self, HT.out, HTS.out, List.filter_append, List.filter_cons, HQ.out]
       rfl
      ·rw [List.drop_set_of_lt (by omega)]
       exact HDD.out
   ·have hltz : ¬ (j : Int) < (l.length : Int) := by omega
    have hjl : j = l.length := by omega
    subst hjl
    have hil : i < l.length := hij
    have hiz : (i : Int) < (l.length : Int) := by omega
    have hci : i < c := by omega
    have hT : rows.take i = l.filter fun x => !p x := by rw [HT.out, List.take_length]
    have hTl : (l.filter fun x => !p x).length = i := by rw [← hT, List.length_take]; have := HL.out; omega
    obtain ⟨Z, hZ⟩ : ∃ Z, (Builtin.zeroCells (Value.agg #[.int .i64 0, .int .i64 0, .int .i64 0, .int .i64 0, .slice none 0 0]).cells (l.length - i)).toList = Z := ⟨_, rfl⟩
    have hz := tr_zeros (.agg #[.int .i64 0, .int .i64 0, .int .i64 0, .int .i64 0, .slice none 0 0]) (l.length - i) (by decide) (by decide)
    rw [hZ] at hz
    have hz1 : Z.length = (l.length - i) * 5 := hz.1
    obtain ⟨cur, hcur⟩ : ∃ cur, wr.heap[g0]? = some (.cells cur 43 (0, 0)) ∧ cur.size = c * 5 := by
     obtain ⟨_, inner, hown, _⟩ := HO.out
     rcases hown.2 with ⟨hv, _⟩ | ⟨g', cap', cur, hv, _, hh, _, _, hs, _⟩
     ·cases hv
     ·injection hv with ha hl hc
      injection ha with ha
      injection ha with ha
      subst ha hc
      exact ⟨cur, hh, hs⟩
    have hcl : ∀ ty, (Builtin.clear_ #[48] ty #[.slice (some ⟨g0, i * 5, none⟩) (l.length - i) (c - i)]).run Try.prog wr = .ok (.tuple #[]) (wr.setCells g0 (i * 5) Z) := fun ty =>
     tr_clear wr 48 43 ty (.agg #[.int .i64 0, .int .i64 0, .int .i64 0, .int .i64 0, .slice none 0 0]) Z g0 (i * 5) (l.length - i) (c - i) (by omega) Try.underlying48 (fun _ => by first | rfl | kernel_rfl) hZ
      (fun t ht => by rw [blk_cell hcur.1, Array.getElem?_eq_getElem (by rw [hcur.2]; omega)]; rfl) (fun t ht => blk_frozen hcur.1 _) hz.2
    have HR := Aside0.mk (tr_setCells Z (i * 5) wr (Kd.R_take HO.out (m := i) (by rw [HL.out]; omega)) (show i * 5 ≤ i * 5 from Nat.le_refl _))
    have HG := Aside0.mk (tr_grown g0 Z (i * 5) wr)
    have HTT := Aside0.mk hT
    have HTL := Aside0.mk hTl
    clear hT hTl hZ hz hz1 hcur HT HD HL HO
    go_wp2
    go_ret
    exact ⟨by rw [HTL.out]; rfl, by rw [HTL.out, ← HTT.out]; exact HR.out, pw_below_grown HB.out (some g0) HB.out.size HG.out (fun k_ e_ => by obtain rfl := Option.some.inj e_; exact HGB.out), Kept.of_grown HG.out HK.out (fun k_ e_ => .inl (by obtain rfl := Option.some.inj e_; rfl))⟩
set_option maxHeartbeats 8000000 in
set_option maxRecDepth 100000 in
theorem trunc_lit (x : S43) (A4 : Option Addr) (c4 : Nat) (a : Int) (b : Nat) (w : World) (hb : w.cell? ⟨b, 0, none⟩ = some (.int .i64 a)) (hl4 : x.f4.length ≤ c4) (hr4 : Kd.string.C w A4 x.f4.length x.f4) :
  Calls Try.prog 76 #[.agg #[.int .i64 x.f0, .int .i64 x.f1, .int .i64 x.f2, .int .i64 x.f3, .slice A4 x.f4.length c4], .pointer (some ⟨b, 0, none⟩)] w fun e w' => e = .returned (.bool (decide (wrap64 (x.f0 + (x.f4.length : Int)) > a))) ∧ Below w.heap.size w w' := by
 have hu_ := Try.underlying43
 have hlt : b < w.heap.size := World.block_lt_of_cell? w _ hb
 have HR4 := Aside0.mk hr4
 have HL4 := Aside0.mk hl4
 clear hr4 hl4
 have BX := Aside0.mk (show (w.alloc (.cells #[.int .i64 x.f0, .int .i64 x.f1, .int .i64 x.f2, .int .i64 x.f3, .slice A4 x.f4.length c4] 43)).drew.heap[w.heap.size]? = some (.cells #[.int .i64 x.f0, .int .i64 x.f1, .int .i64 x.f2, .int .i64 x.f3, .slice A4 x.f4.length c4] 43 (0, 0)) from blk_drew (by rw [World.alloc]; exact Array.getElem?_push_size))
 have HB := Aside0.mk (below_drew1 (below_alloc (Below.refl w.heap.size w) (.cells #[.int .i64 x.f0, .int .i64 x.f1, .int .i64 x.f2, .int .i64 x.f3, .slice A4 x.f4.length c4] 43)))
 have hb1 : (w.alloc (.cells #[.int .i64 x.f0, .int .i64 x.f1, .int .i64 x.f2, .int .i64 x.f3, .slice A4 x.f4.length c4] 43)).drew.cell? ⟨b, 0, none⟩ = some (.int .i64 a) := (HB.out.cell (p := ⟨b, 0, none⟩) hlt).trans hb
 go_enter Try.func76, Try.ntmps76
 go_wp2_with fail
 refine start_ (n := 5) (S := fun w' => w'.cell? ⟨w.heap.size, 0, none⟩ = some (.int .i64 x.f0) ∧ w'.cell? ⟨w.heap.size, 1, none⟩ = some (.int .i64 x.f1) ∧ w'.cell? ⟨w.heap.size, 2, none⟩ = some (.int .i64 x.f2) ∧ w'.cell? ⟨w.heap.size, 3, none⟩ = some (.int .i64 x.f3) ∧ w'.cell? ⟨w.heap.size, 4, none⟩ = some (.slice A4 x.f4.length c4) ∧ w'.cell? ⟨b, 0, none⟩ = some (.int .i64 a)) (ds := []) #[false, false, false, false, false] (by kernel_rfl) rfl rfl ⟨bt_ BX 0, bt_ BX 1, bt_ BX 2, bt_ BX 3, bt_ BX 4, hb1⟩ (fun hHeld => ?_)
 generalize (w.alloc (.cells #[.int .i64 x.f0, .int .i64 x.f1, .int .i64 x.f2, .int .i64 x.f3, .slice A4 x.f4.length c4] 43)).drew = w5 at BX HB hb1 hHeld ⊢
 refine tx_ 0 4 ?_
 refine tx_ 2 6 ?_
 refine ox_ 1 5 fun K hK => ?_
 refine gs_ Try.func77 #[.agg #[.int .i64 x.f0, .int .i64 x.f1, .int .i64 x.f2, .int .i64 x.f3, .slice A4 x.f4.length c4]] rfl (by (try simp only [List.map_toArray, List.map_cons, List.map_nil]); first | done | rfl) ?_
 refine (impl_Batch_end.calls x.f0 x.f1 x.f2 x.f3 _ _ x.f4 (wrap64 (x.f0 + (x.f4.length : Int))) _ (Kd.C_below HR4.out HB.out) HL4.out rfl).mono ?_
 rintro e w6 ⟨rfl, hb6⟩
 refine ⟨_, rfl, ?_⟩
 have HB6 := Aside0.mk (below_step HB.out hb6)
 refine hK.out _ _ ⟨pw_cell_below hb6 hHeld.1, pw_cell_below hb6 hHeld.2.1, pw_cell_below hb6 hHeld.2.2.1, pw_cell_below hb6 hHeld.2.2.2.1, pw_cell_below hb6 hHeld.2.2.2.2.1, pw_cell_below hb6 hHeld.2.2.2.2.2⟩ (fun hHeld => ?_)
 clear hK K
 refine no_ ?_
 refine px_ 3 7 ?_
 refine px_ 4 3 ?_
 refine done_ (by kernel_rfl) ?_
 go_wp2
 go_ret
 exact ⟨rfl, HB6.out⟩
/-! #### a row of rows, no two of whose elements lead to one block -/
def fr_S {α : Type} (e : Nat) (d : Kd α) : Kd (List α) where
 sz := 1
 E := e :: d.E
 K := (Kd.slice e d).K
 M := fun w base ok xs cs => ∃ v, cs = [v] ∧ Kd.S d e w base ok v xs
 K_len := (Kd.slice e d).K_len
 K_one := (Kd.slice e d).K_one
 K_below := (Kd.slice e d).K_below
 K_of_M := by
  rintro w base ok x cs ⟨v, rfl, h⟩
  exact (Kd.slice e d).K_of_M ⟨v, rfl, Kd.S_R h⟩
 M_mono := by
  rintro w base ok ok' x cs hok ⟨v, rfl, h⟩
  exact ⟨v, rfl, Kd.S_mono h hok⟩
 M_bound := by
  rintro w base ok x cs ⟨v, rfl, h⟩
  exact ⟨v, rfl, Kd.S_bound h⟩
 M_move := by
  rintro w w1 base ok x cs hm ⟨v, rfl, h⟩
  exact ⟨v, rfl, Kd.S_move h hm⟩
 M_lower := by
  rintro w base base' ok x cs hb ⟨v, rfl, h⟩
  exact ⟨v, rfl, Kd.S_lower h hb⟩
theorem tr_rows {α : Type} {d : Kd α} {e e' c0 : Nat} {W : World} {A : Option Addr} {n cap : Nat} {t : List (List α)} (h : Kd.S (fr_S e d) e' W c0 (fun _ => True) (.slice A n cap) t) :
  ∃ F : Nat → Nat, ∀ i, i < t.length → ∃ ad u, A = some ad ∧ (Value.slice A n cap).ownBlock = some ad.block ∧ W.cell? (ad.add i) = some u ∧ d.R e W c0 (fun k => c0 ≤ k ∧ k < W.heap.size ∧ some k ≠ (Value.slice A n cap).ownBlock ∧ F k = i) u (t.getD i []) := by
 obtain ⟨F, hR⟩ := h
 have hn := (Kd.R_reads' hR).1
 rw [List.length_zipIdx] at hn
 refine ⟨F, fun i hi => ?_⟩
 obtain ⟨g0, cap0, hv, hb1, hb2, _⟩ := Kd.R_form hR (by rw [List.length_zipIdx]; omega)
 injection hv with hA _ _
 subst hA
 obtain ⟨c, hcl, hM, hcc⟩ := Kd.R_getA (Kd.R_bound hR) ([], i) (i : Int) (by omega) (by omega)
 have e1 : t.zipIdx.getD (i : Int).toNat ([], i) = (t.getD i [], i) := by
  rw [Int.toNat_natCast, List.getD_eq_getElem?_getD, List.getElem?_zipIdx, List.getD_eq_getElem?_getD, List.getElem?_eq_getElem hi]
  simp
 rw [e1] at hM
 obtain ⟨u, rfl, hS⟩ := hM
 have hc := hcc 0 u rfl
 rw [show (Kd.tag F (fr_S e d)).sz = 1 from rfl, Int.toNat_natCast, Nat.mul_one, Nat.add_zero] at hc
 exact ⟨_, u, rfl, rfl, hc, Kd.R_mono (Kd.S_R hS) (fun k hk => ⟨hk.1.1.2.1, hk.1.1.2.2.1, hk.1.2, hk.2⟩)⟩
set_option maxHeartbeats 8000000 in
set_option maxRecDepth 100000 in
theorem impl_Store_logs.callsS (k : Nat) (A0_0 : Option Addr) (c0_0 : Nat) (l0_0 : List (S65)) (a0_1 : Int) (r : List (List (S43))) (w : World) (hr0_0 : Kd.C k65 w A0_0 l0_0.length l0_0) (hc0_0 : l0_0.length ≤ c0_0) (h : impl_Store_logs.f k l0_0 a0_1 = some r) :
 Calls Try.prog 73 #[.agg #[.slice A0_0 l0_0.length c0_0, .int .i64 a0_1]] w fun e w' => ∃ v0_ : Value, e = .returned (v0_) ∧ Kd.S (fr_S 43 k43) 48 w' w.heap.size (fun _ => True) v0_ r ∧ Below w.heap.size w w' := by
 have hu24 := Try.underlying24
 have hu65 := Try.underlying65
 have HR0_0 := Aside0.mk hr0_0
 have HC0_0 := Aside0.mk hc0_0
 clear hr0_0 hc0_0
 have HB := Aside0.mk (Below.refl w.heap.size w)
 have H : (impl_Store_logs.l0 k (([] : List (List (S43)))) l0_0 (l0_0.length : Int) 0) = some r := h
 clear h
 have H' := Aside0.mk H
 clear H
 go_enter Try.func73, Try.ntmps73
 go_wp2_with (first | ((with_reducible refine gate_dst (N := 1) rfl ?_); refine bq_ (N := 1) #[.slice A0_0 l0_0.length c0_0, .int .i64 a0_1] 24 ?_; intro gb356 hg w2 BK356 hb; have GE356 := ge_ hg; replace HB := nb_ hb; clear hb hg) | ((with_reducible refine gate_dst (N := 8) rfl ?_); refine Kd.R_lit (Kd.tag (fun _ => 0) (fr_S 43 k43)) _ 48 ?hg (N := 8) ?hd (xs := ([] : List (List S43 × Nat))) (inner := []) (ok := fun _ => True) (okp := fun _ => True) ?hr ?hp (fun _ hk => hk) trivial (Below.refl _ _) (Nat.le_refl _) (by simp) ?_; (case hd => rfl); (case hg => rfl); (case hr => first | (go_simp; done) | (go_simp; rfl)); (case hp => exact (Reps.none _ _)); intro v358 w3 ho4 hb hg_ hnew_; clear hg_ hnew_; have HO359 : Aside0 (Kd.S (fr_S 43 k43) 48 _ w.heap.size (fun _ => True) v358 []) := ⟨⟨_, Kd.R_lower ho4 (below_size (hs_ GE356.out))⟩⟩; replace BK356 := bK_ BK356 hb; replace HB := nc_ GE356 hb; clear hb ho4; obtain ⟨hcz5_0, hcz5_1, hfz5_0, hfz5_1⟩ := cf2_ BK356.out))
 go_loopg [3, 12] k (fun kq v3 v12 w' => ∃ (x3_1 : List (List (S43))) (x12_1 : Int), v12 = .int .i64 x12_1 ∧ Aside0 (impl_Store_logs.l0 kq x3_1 l0_0 (l0_0.length : Int) x12_1 = some r) ∧ Aside0 (kq ≤ k) ∧ Aside0 (Kd.S (fr_S 43 k43) 48 w' w.heap.size (fun _ => True) v3 x3_1) ∧ Aside0 (w'.heap[gb356]? = some (.cells #[(.slice A0_0 l0_0.length c0_0), .int .i64 a0_1] 24 (0, 0))) ∧ Aside0 (Below w.heap.size w w'))
 case atStart => exact ⟨[], (0), sr_, H', ⟨Nat.le_refl _⟩, ⟨ks_ HO359.out⟩, ⟨kb_ BK356.out⟩, ⟨hs_ GE356.out⟩⟩
 case round =>
  clear H'
  try clear hcz5_0
  try clear hcz5_1
  try clear hfz5_0
  try clear hfz5_1
  obtain ⟨x3_1, x12_1, rfl, HA, HK1, HO_3, BK356, HB⟩ := hrel
  cases gk with
  | zero => exact absurd HA.out (by simp [impl_Store_logs.l0])
  | succ k1 =>
   have H := HA.out
   clear HA
   simp only [impl_Store_logs.l0] at H
   replace H := ite_ H
   obtain ⟨c6, H⟩ | ⟨c6, H⟩ := H
   rotate_left
   ·have c6b0 := decide_eq_false c6
    clear c6
    obtain rfl := Option.some.inj H
    go_wp2
    go_ret
    exact ⟨_, er_, ks_ HO_3.out, hs_ GE356.out⟩
   have c6b0 := decide_eq_true c6
   clear c6
   replace H := ifs_ H
   obtain ⟨c7, H⟩ := H
   have c7b0 := decide_eq_true c7
   clear c7
   replace H := ifs_ H
   obtain ⟨c8, H⟩ := H
   have c8b0 := decide_eq_true c8
   clear c8
   replace H := bnd_ H
   obtain ⟨⟨t362, t363⟩, A9, H⟩ := H
   replace H := red_ H
   replace H := ifs_ H
   obtain ⟨c10, H⟩ := H
   have LMc10 := Aside0.mk c10
   clear c10
   obtain ⟨y366, hy366⟩ : ∃ y_ : List (List (S43)), y_ = (x3_1 ++ [t362]) := ⟨_, rfl⟩
   replace H : (impl_Store_logs.l0 k1 y366 l0_0 (l0_0.length : Int) (wrap64 (x12_1 + 1))) = some r := by first | (rw [hy366]; with_reducible exact H) | (have H2_ := (Option.bind_some _ _).symm.trans H; rw [hy366]; with_reducible exact H2_) | (have H2_ := (Option.bind_some _ _).symm.trans H; with_reducible exact H2_) | with_reducible exact H | (rw [hy366]; exact H) | exact H
   have Ny366 := Aside0.mk hy366
   clear hy366
   have H' := Aside0.mk H
   clear H
   have p360 : 0 ≤ (x12_1 : Int) := oa_
   have q360 : x12_1 < (l0_0.length : Int) := oa_
   obtain ⟨ad360, A360_2, c360_2, e360, hx360_0, hx360_1, hx360_2, hl360_2, hi360_2⟩ := at_T65 HR0_0.out x12_1 p360 q360
   cases e360
   replace hx360_0 := pc_ HB.out hx360_0
   replace hx360_1 := pc_ HB.out hx360_1
   replace hx360_2 := pc_ HB.out hx360_2
   have HR360_2 := Aside0.mk hi360_2
   have HC360_2 := Aside0.mk hl360_2
   clear hi360_2 hl360_2
   replace p360 := eq_true p360
   replace q360 := eq_true q360
   go_wp2_with (first | ((with_reducible refine gate_dst (N := 5) rfl ?_); refine box_event ?hg (N := 5) ?hd (cs := #[.int .i64 0, .string (⟨#[]⟩ : ByteArray), .slice none 0 0]) (t := 65) ?hr ?_; (case hd => rfl); (case hg => rfl); (case hr => first | (go_simp; done) | (go_simp; rfl)); intro gb361 hg w11 hbox hb; replace HO_3 := sB_ HO_3 hb; have BK361 := Aside0.mk (hbox); have GE361 := ge1_ hg GE356; replace HB := nc_ GE356 hb; have NB356_361 := nl_ BK356 hg; have NB361_356 := ng_ BK356 hg; replace BK356 := bK_ BK356 hb; clear hb hbox hg; have hnb12 := NB361_356.out; have hnc12 := NB356_361.out; obtain ⟨hcz13_0, hcz13_1, hcz13_2, hfz13_0, hfz13_1, hfz13_2⟩ := cf3_ BK361.out) | ((with_reducible refine gate_callee (f := 105) rfl ?_); refine gl_ 19 Try.func105 #[.string ((rd_T65 l0_0 x12_1).f1)] rfl ma_ ?_; (with_reducible refine (impl_readLog.calls k1 ((rd_T65 l0_0 x12_1).f1) t362 t363 _ A9.out).mono ?_); rintro e w14 ⟨v364, rfl, ho0, hb⟩; refine ⟨_, rfl, ?_⟩; obtain ⟨z_, hz1_, hz2_, hz3_⟩ : ∃ z_, Kd.S (fr_S 43 k43) 48 w14 w.heap.size (fun k_ => True ∧ ¬ z_ ≤ k_) u3 x3_1 ∧ Kd.S k43 43 w14 w.heap.size (fun k_ => z_ ≤ k_) v364 t362 ∧ (∀ k_, u3.ownBlock = some k_ → k_ < z_) := ⟨_, Kd.S_mono (Kd.S_below (Kd.S_bound (Kd.S_mono (sF_ (Kd.S_types HO_3.out BK361.out (by decide))) (fun _ h_ => h_.1))) hb) (fun k_ hk => ⟨trivial, Nat.not_le_of_lt hk.2.2.1⟩), Kd.S_lower (Kd.S_mono (Kd.S_bound ho0) (fun _ hk => hk.2.1)) (below_size (hs2_ GE356.out GE361.out)), fun k_ e_ => ((Kd.S_R (Kd.S_bound (Kd.S_mono (sF_ (Kd.S_types HO_3.out BK361.out (by decide))) (fun _ h_ => h_.1)))).1 k_ e_).2.2.1⟩; replace HO_3 := Aside0.mk hz1_; have HO365 := Aside0.mk hz2_; have HZ := Aside0.mk hz3_; clear hz1_ hz2_ hz3_; replace BK356 := Aside0.mk (blk_below (g := gb356) (o := .cells #[.slice (some ad360) l0_0.length c0_0, .int .i64 a0_1] 24 (0, 0)) (uf_ BK356 NB356_361.out) hb); replace BK361 := Aside0.mk (blk_below (g := gb361) (o := .cells #[.int .i64 ((rd_T65 l0_0 x12_1).f0), .string ((rd_T65 l0_0 x12_1).f1), .slice A360_2 ((rd_T65 l0_0 x12_1).f2).length c360_2] 65 (0, 0)) (up_ BK361) hb); replace HB := nc2_ GE356 GE361 hb; (try clear hb); (try clear hb2); (try clear hk); (try clear hi); (try clear ho0); obtain ⟨Ao16, co16, eo16⟩ := Kd.S_slice HO365.out; subst eo16) | ((with_reducible refine gate_builtin (b := .append) (xs := #[.tmp 22, .tmp 24]) rfl ?_); at_builtin; refine Kd.S_append (fr_S 43 k43) (w0 := w) w.heap.size rfl (.tmp 22) (.tmp 24) 92 48 (.slice none 0 0) 24 rfl Try.underlying92 info48 rfl (by decide) (by omega) u3 x3_1 t362 [.slice Ao16 t362.length co16] (fun _ => True) (fun k_ => z_ ≤ k_) rfl rfl ?aP ?aK ?aF ?aO ?aB ?aS ?aL ?_; (case aP => exact ⟨_, rfl, ks_ HO365.out⟩); (case aK => exact (fun k_ hk => ⟨trivial, fun e_ => absurd (HZ.out k_ e_.symm) (Nat.not_lt_of_le hk)⟩)); (case aF => exact (fun _ _ => trivial)); (case aO => exact (ks_ HO_3.out)); (case aB => exact (hs2_ GE356.out GE361.out)); (case aS => exact (below_size (hs2_ GE356.out GE361.out))); (case aL => have := LMc10.out; omega); intro v367 w15 ho hb hg hat; rw [← Ny366.out] at ho; replace BK356 := Aside0.mk (blk_grown (g := gb356) (o := .cells #[.slice (some ad360) l0_0.length c0_0, .int .i64 a0_1] 24 (0, 0)) (kb_ BK356.out) hg (Kd.S_ne HO_3.out BK356.out (by decide))); replace BK361 := Aside0.mk (blk_grown (g := gb361) (o := .cells #[.int .i64 ((rd_T65 l0_0 x12_1).f0), .string ((rd_T65 l0_0 x12_1).f1), .slice A360_2 ((rd_T65 l0_0 x12_1).f2).length c360_2] 65 (0, 0)) (kb_ BK361.out) hg (Kd.S_ne HO_3.out BK361.out (by decide))); replace HB := Aside0.mk (hb); have HO368 := Aside0.mk (ho); clear HO_3 HO365; clear ho hb hg hat))
   go_roundg k1
   case measure => have := HK1.out; omega
   case rel => exact ⟨(y366), (wrap64 (x12_1 + 1)), sr_, H', ⟨by have := HK1.out; omega⟩, ⟨ks_ HO368.out⟩, ⟨kb_ BK356.out⟩, ⟨hs2_ GE356.out GE361.out⟩⟩
def impl_TruncateTo.keep (off : Int) (l : List S43) : List S43 := l.filter (fun x => !(decide (wrap64 (x.f0 + (x.f4.length : Int)) > off)))
def impl_TruncateTo.rows (off : Int) : Nat → List (List S43) → List (List S43)
 | _, [] => []
 | i, l :: r => if i = 0 ∨ 0 < (impl_TruncateTo.keep off l).length then impl_TruncateTo.keep off l :: impl_TruncateTo.rows off (i + 1) r else impl_TruncateTo.rows off (i + 1) r
theorem impl_TruncateTo.rows_step (off : Int) (i : Nat) (t : List (List S43)) (h : i < t.length) : impl_TruncateTo.rows off i (t.drop i) = if i = 0 ∨ 0 < (impl_TruncateTo.keep off t[i]).length then impl_TruncateTo.keep off t[i] :: impl_TruncateTo.rows off (i + 1) (t.drop (i + 1)) else impl_TruncateTo.rows off (i + 1) (t.drop (i + 1)) := by
 rw [List.drop_eq_getElem_cons h, impl_TruncateTo.rows]
def impl_TruncateTo.f (k : Nat) (l0_0 : List S65) (a0_1 : Int) (a1 : Int) : Option (List S65 × Int × Bool) :=
 (impl_isStore.f k l0_0 a0_1).bind fun t => if t = true then (if 0 < (l0_0.length : Int) then (impl_in.f a1 (rd_T65 l0_0 0).f0 a0_1).bind fun u => if u = true then (impl_Store_logs.f k l0_0 a0_1).bind fun m => if m.length < 1000000 then (impl_storeOf.f k (impl_TruncateTo.rows a1 0 m) (rd_T65 l0_0 0).f0).bind fun s => some (s.1, s.2, true) else none else some ([], 0, false) else none) else some ([], 0, false)
theorem impl_TruncateTo.mono : ∀ a0 a1 a2 k, LeO (impl_TruncateTo.f k a0 a1 a2) (impl_TruncateTo.f (k + 1) a0 a1 a2) := by
 intro a0 a1 a2 k
 unfold impl_TruncateTo.f
 refine LeO.bind (impl_isStore.mono _ _ _) (fun _ => LeO.ite (LeO.ite (LeO.bind (LeO.refl _) (fun _ => LeO.ite (LeO.bind (impl_Store_logs.mono _ _ _) (fun _ => LeO.ite (LeO.bind (impl_storeOf.mono _ _ _) (fun _ => LeO.refl _)) (LeO.none _))) (LeO.refl _))) (LeO.none _)) (LeO.refl _))
set_option maxHeartbeats 8000000 in
set_option maxRecDepth 100000 in
theorem impl_TruncateTo.calls (k : Nat) (A0_0 : Option Addr) (c0_0 : Nat) (l0_0 : List S65) (a0_1 : Int) (a1 : Int) (r1 : List S65) (r2 : Int) (r3 : Bool) (w : World) (hr0_0 : Kd.C k65 w A0_0 l0_0.length l0_0) (hc0_0 : l0_0.length ≤ c0_0) (h : impl_TruncateTo.f k l0_0 a0_1 a1 = some (r1, r2, r3)) :
  Calls Try.prog 28 #[.agg #[.slice A0_0 l0_0.length c0_0, .int .i64 a0_1], .int .i64 a1] w fun e w' => ∃ v0_ : Value, e = .returned (.tuple #[.agg #[v0_, .int .i64 r2], .bool r3]) ∧ Kd.S k65 65 w' w.heap.size (fun _ => True) v0_ r1 ∧ Below w.heap.size w w' := by
 have hu24 := Try.underlying24
 have hu65 := Try.underlying65
 have hu43 := Try.underlying43
 have HR := Aside0.mk hr0_0
 have HC := Aside0.mk hc0_0
 have HB := Aside0.mk (Below.refl w.heap.size w)
 unfold impl_TruncateTo.f at h
 have HH := Aside0.mk h
 clear hr0_0 hc0_0 h
 go_enter Try.func28, Try.ntmps28
 go_upto_region 1 with (first | ((with_reducible refine gate_dst (N := 2) rfl ?_); refine be_ (N := 2) #[.slice A0_0 l0_0.length c0_0, .int .i64 a0_1] 24 ?_; intro gb2 hg w2 hbox hb; have BK2 := Aside0.mk hbox; have GE2 := ge_ hg; replace HB := nb_ hb; clear hb hbox hg) | ((with_reducible refine gate_dst (N := 3) rfl ?_); refine be_ (N := 3) #[.int .i64 a1] 3 ?_; intro gb3 hg w3 hbox hb; have BK3 := Aside0.mk hbox; have GE3 := ge1_ hg GE2; replace HB := nc_ GE2 hb; have N23 := nl_ BK2 hg; replace BK2 := bK_ BK2 hb; clear hb hbox hg) | ((with_reducible refine gate_dst (N := 4) rfl ?_); refine be_ (N := 4) #[.slice none 0 0, .int .i64 0] 24 ?_; intro gb4 hg w4 hbox hb; have BK4 := Aside0.mk hbox; have GE4 := ge2_ hg GE2 GE3; replace HB := nc2_ GE2 GE3 hb; have N24 := nl_ BK2 hg; have N42 := ng_ BK2 hg; have N34 := nl_ BK3 hg; have N43 := ng_ BK3 hg; replace BK2 := bK_ BK2 hb; replace BK3 := bK_ BK3 hb; clear hb hbox hg))
 (try simp only [Act.put, List.setIfInBounds_toArray, List.set_cons_zero, List.set_cons_succ])
 have H0 := HH.out
 clear HH
 obtain ⟨t1, A1, H1⟩ := bnd_ H0
 clear H0
 obtain ⟨rfl, H1x⟩ | ⟨rfl, H1x⟩ := ifb_ H1
 rotate_left
 ·have HX := Aside0.mk H1x
  clear H1 H1x
  refine start_ (n := 15) (S := fun w' => w'.cell? ⟨gb2, 0, none⟩ = some (.slice A0_0 l0_0.length c0_0) ∧ w'.cell? ⟨gb2, 1, none⟩ = some (.int .i64 a0_1)) (ds := []) (List.replicate 15 false).toArray (by kernel_rfl) rfl rfl ⟨(blk_cell (blk_drew BK2.out) 0).trans rfl, (blk_cell (blk_drew BK2.out) 1).trans rfl⟩ (fun hHeld => ?_)
  replace BK2 := qK_ BK2
  replace BK3 := qK_ BK3
  replace BK4 := qK_ BK4
  replace HB := qH_ HB
  generalize w4.drew = wr at BK2 BK3 BK4 HB hHeld ⊢
  have HBw := Aside0.mk (Below.refl wr.heap.size wr)
  have HHd := Aside0.mk hHeld
  refine tx_ 0 10 ?_
  refine ox_ 1 11 fun K hK => ?_
  refine gs_ Try.func67 #[.agg #[.slice A0_0 l0_0.length c0_0, .int .i64 a0_1]] rfl (by (try simp only [List.map_toArray, List.map_cons, List.map_nil]); first | done | rfl) ?_
  refine (impl_isStore.calls k _ _ l0_0 a0_1 false _ (Kd.C_below HR.out HB.out) HC.out A1.out).mono ?_
  rintro e wq ⟨rfl, hb⟩
  refine ⟨_, rfl, ?_⟩
  replace HBw := Aside0.mk (below_step HBw.out hb)
  clear hb
  refine hK.out _ _ (hc_ HHd) fun hHeld => ?_
  clear hK K
  refine no_ ?_
  refine px_ 2 12 ?_
  refine px_ 3 13 ?_
  refine pz_ 4 14 ?_
  refine pz_ 5 15 ?_
  refine pz_ 6 16 ?_
  refine pz_ 7 17 ?_
  refine pz_ 8 18 ?_
  refine pz_ 9 19 ?_
  refine pz_ 10 20 ?_
  refine pz_ 11 21 ?_
  refine pz_ 12 22 ?_
  refine pz_ 13 23 ?_
  refine px_ 14 24 ?_
  refine done_ (by kernel_rfl) ?_
  replace BK4 := Aside0.mk (blk_below BK4.out HBw.out)
  replace HB := Aside0.mk (below_step HB.out HBw.out)
  obtain ⟨hcr_0, hcr_1, hfr_0, hfr_1⟩ := cf2_ BK4.out
  obtain ⟨rfl, rfl, rfl⟩ : [] = r1 ∧ 0 = r2 ∧ false = r3 := by simpa using HX.out
  go_wp2_with fail
  refine bodyPost_ret (results_ct rfl _ _ gb4 24 #[.slice none 0 0, .int .i64 0] (0, 0) _ rfl (up_ BK4) Try.underlying24 rfl (by kernel_rfl)) rfl ?_
  exact ⟨_, er_, Kd.S_nil _ _ _ _ _, hs_ GE4.out⟩
 obtain ⟨hlen, H2⟩ := ifs_ H1x
 clear H1 H1x
 obtain ⟨t2, A2, H3⟩ := bnd_ H2
 clear H2
 obtain ⟨ad, As, cs_2, e0, hx0, _, _, _, _⟩ := at_T65 HR.out 0 (Int.le_refl 0) hlen
 subst e0
 have hx0 : w.cell? ad = some (.int .i64 (rd_T65 l0_0 0).f0) := hx0
 have hlz : decide ((0 : Int) < (l0_0.length : Int)) = true := decide_eq_true hlen
 have hln : 0 < l0_0.length := by omega
 refine start_ (n := 15) (S := fun w' => w'.cell? ⟨gb2, 0, none⟩ = some (.slice (some ad) l0_0.length c0_0) ∧ w'.cell? ⟨gb2, 1, none⟩ = some (.int .i64 a0_1) ∧ w'.cell? ⟨gb3, 0, none⟩ = some (.int .i64 a1) ∧ w'.cell? ad = some (.int .i64 (rd_T65 l0_0 0).f0)) (ds := []) (List.replicate 15 false).toArray (by kernel_rfl) rfl rfl ⟨(blk_cell (blk_drew BK2.out) 0).trans rfl, (blk_cell (blk_drew BK2.out) 1).trans rfl, (blk_cell (blk_drew BK3.out) 0).trans rfl, ((below_drew1 HB.out).cell (World.block_lt_of_cell? w _ hx0)).trans hx0⟩ (fun hHeld => ?_)
 replace BK2 := qK_ BK2
 replace BK3 := qK_ BK3
 replace BK4 := qK_ BK4
 replace HB := qH_ HB
 generalize w4.drew = wr at BK2 BK3 BK4 HB hHeld ⊢
 have HBw := Aside0.mk (Below.refl wr.heap.size wr)
 have HHd := Aside0.mk hHeld
 refine tx_ 0 10 ?_
 refine ox_ 1 11 fun K hK => ?_
 refine gs_ Try.func67 #[.agg #[.slice (some ad) l0_0.length c0_0, .int .i64 a0_1]] rfl (by (try simp only [List.map_toArray, List.map_cons, List.map_nil]); first | done | rfl) ?_
 refine (impl_isStore.calls k _ _ l0_0 a0_1 true _ (Kd.C_below HR.out HB.out) HC.out A1.out).mono ?_
 rintro e wq ⟨rfl, hb⟩
 refine ⟨_, rfl, ?_⟩
 replace HBw := Aside0.mk (below_step HBw.out hb)
 clear hb
 refine hK.out _ _ (hc_ HHd) fun hHeld => ?_
 clear hK K
 refine no_ ?_
 refine px_ 2 12 ?_
 refine px_ 3 13 ?_
 refine tx_ 4 14 ?_
 refine px_ 5 15 ?_
 refine tx_ 6 16 ?_
 refine px_ 7 17 ?_
 refine px_ 8 18 ?_
 refine tx_ 9 19 ?_
 refine px_ 10 20 ?_
 refine tx_ 11 21 ?_
 obtain ⟨rfl, H3x⟩ | ⟨rfl, H3x⟩ := ifb_ H3
 rotate_left
 ·have HX := Aside0.mk H3x
  clear H3 H3x
  refine ox_ 12 22 fun K hK => ?_
  refine gs_ Try.func58 #[.int .i64 a1, .int .i64 (rd_T65 l0_0 0).f0, .int .i64 a0_1] rfl (by (try simp only [List.map_toArray, List.map_cons, List.map_nil]); first | done | rfl) ?_
  refine (impl_in.calls a1 (rd_T65 l0_0 0).f0 a0_1 false _ A2.out).mono ?_
  rintro e wq2 ⟨rfl, hdr⟩
  refine ⟨_, rfl, ?_⟩
  replace HBw := Aside0.mk (below_step HBw.out hdr.below)
  clear hdr
  refine hK.out _ _ (hc_ HHd) fun hHeld => ?_
  clear hK K
  refine no_ ?_
  refine px_ 13 23 ?_
  refine px_ 14 24 ?_
  refine done_ (by kernel_rfl) ?_
  replace BK4 := Aside0.mk (blk_below BK4.out HBw.out)
  replace HB := Aside0.mk (below_step HB.out HBw.out)
  obtain ⟨hcr_0, hcr_1, hfr_0, hfr_1⟩ := cf2_ BK4.out
  obtain ⟨rfl, rfl, rfl⟩ : [] = r1 ∧ 0 = r2 ∧ false = r3 := by simpa using HX.out
  go_wp2_with fail
  refine bodyPost_ret (results_ct rfl _ _ gb4 24 #[.slice none 0 0, .int .i64 0] (0, 0) _ rfl (up_ BK4) Try.underlying24 rfl (by kernel_rfl)) rfl ?_
  exact ⟨_, er_, Kd.S_nil _ _ _ _ _, hs_ GE4.out⟩
 have HX := Aside0.mk H3x
 clear H3 H3x
 refine ox_ 12 22 fun K hK => ?_
 refine gs_ Try.func58 #[.int .i64 a1, .int .i64 (rd_T65 l0_0 0).f0, .int .i64 a0_1] rfl (by (try simp only [List.map_toArray, List.map_cons, List.map_nil]); first | done | rfl) ?_
 refine (impl_in.calls a1 (rd_T65 l0_0 0).f0 a0_1 true _ A2.out).mono ?_
 rintro e wq2 ⟨rfl, hdr⟩
 refine ⟨_, rfl, ?_⟩
 replace HBw := Aside0.mk (below_step HBw.out hdr.below)
 clear hdr
 refine hK.out _ _ (hc_ HHd) fun hHeld => ?_
 clear hK K
 refine no_ ?_
 refine px_ 13 23 ?_
 refine px_ 14 24 ?_
 refine done_ (by kernel_rfl) ?_
 replace BK2 := Aside0.mk (blk_below BK2.out HBw.out)
 replace BK3 := Aside0.mk (blk_below BK3.out HBw.out)
 replace BK4 := Aside0.mk (blk_below BK4.out HBw.out)
 replace HB := Aside0.mk (below_step HB.out HBw.out)
 obtain ⟨t3, A3, H4⟩ := bnd_ HX.out
 obtain ⟨hm, H5⟩ := ifs_ H4
 obtain ⟨t4, A4, H6⟩ := bnd_ H5
 have HM := Aside0.mk hm
 clear HX H4 H5 hHeld HHd HBw hm
 obtain ⟨hcs_0, hcs_1, hfs_0, hfs_1⟩ := cf2_ BK2.out
 go_wp2_with fail
 refine (impl_Store_logs.callsS k _ _ l0_0 a0_1 t3 _ (Kd.C_below HR.out HB.out) HC.out A3.out).mono ?_
 rintro e w5 ⟨v6, rfl, hS, hb5⟩
 obtain ⟨A6, c6, e6⟩ := Kd.S_slice hS
 subst e6
 obtain ⟨F, hF⟩ := tr_rows hS
 have HF := Aside0.mk hF
 have HQ2 := Aside0.mk (blk_lt BK2.out)
 have HQ3 := Aside0.mk (blk_lt BK3.out)
 have HQ4 := Aside0.mk (blk_lt BK4.out)
 have HS5 := Aside0.mk hb5.size
 replace BK2 := Aside0.mk (blk_below BK2.out hb5)
 replace BK3 := Aside0.mk (blk_below BK3.out hb5)
 replace BK4 := Aside0.mk (blk_below BK4.out hb5)
 replace HB := Aside0.mk (below_step HB.out hb5)
 clear hS hF hb5 hcs_0 hcs_1 hfs_0 hfs_1
 generalize wq2.heap.size = b5 at HF HQ2 HQ3 HQ4 HS5
 go_wp2_with (first | ((with_reducible refine gate_dst (N := 28) rfl ?_); refine Kd.R_lit (Kd.slice 43 k43) _ 48 ?hg (N := 28) ?hd (xs := ([] : List (List S43))) (inner := []) (ok := fun _ => True) (okp := fun _ => True) ?hr ?hp (fun _ hk => hk) trivial (Below.refl _ _) (Nat.le_refl _) (by simp) ?_; (case hd => rfl); (case hg => rfl); (case hr => first | (go_simp; done) | (go_simp; rfl)); (case hp => exact (Reps.none _ _)); intro v28 w6 ho28 hb28 hg28_ hn28_; clear hg28_ hn28_))
 have HX0 := Aside0.mk hx0
 have HHB := Aside0.mk hb28
 have HLIT := Aside0.mk ho28
 have HS0 := Aside0.mk HB.out.size
 have HWB := Aside0.mk (show w.heap.size ≤ b5 from by have := GE2.out; have := HQ2.out; omega)
 clear hx0 hb28 ho28
 go_loopg [7, 8, 9, 31] t3.length (fun gg v7 v8 v9 v31 wr => ∃ (i : Nat) (ys : List (List S43)), v31 = .int .i64 i ∧ i ≤ t3.length ∧ t3.length - i ≤ gg ∧ Aside0 (impl_TruncateTo.rows a1 0 t3 = ys ++ impl_TruncateTo.rows a1 i (t3.drop i)) ∧ Aside0 (ys.length ≤ i) ∧ Aside0 (Kd.R (Kd.slice 43 k43) 48 wr w.heap.size (fun k => (k < w5.heap.size ∧ F k < i) ∨ w5.heap.size ≤ k) v7 ys) ∧ Aside0 (∀ k, v7.ownBlock = some k → w5.heap.size ≤ k) ∧ Aside0 (Kept w5 wr (fun k => b5 ≤ k ∧ k < w5.heap.size ∧ some k ≠ (Value.slice A6 t3.length c6).ownBlock ∧ F k < i)) ∧ Aside0 (Below w.heap.size w wr))
 case atStart => exact ⟨0, [], rfl, Nat.zero_le _, by omega, ⟨rfl⟩, ⟨Nat.le_refl _⟩, ⟨Kd.R_mono (Kd.R_lower (Kd.R_bound HLIT.out) HS0.out) (fun k hk => .inr hk.2.1)⟩, ⟨fun k hk => Kd.R_base HLIT.out k hk⟩, ⟨Kept.of_below HHB.out _⟩, ⟨below_step HB.out HHB.out⟩⟩
 case round =>
  obtain ⟨i, ys, rfl, hil, hgg, HRW, HYL, HO, HOW, HK, HB2⟩ := hrel
  by_cases hlt : i < t3.length
  ·have hltz : (i : Int) < (t3.length : Int) := by omega
   obtain ⟨ga, u, eA, hown, hcell, hRu⟩ := HF.out i hlt
   subst eA
   have hli : t3.getD i [] = t3[i] := by rw [List.getD_eq_getElem?_getD, List.getElem?_eq_getElem hlt]; rfl
   have hrow0 := impl_TruncateTo.rows_step a1 i t3 hlt
   rw [hli] at hRu
   generalize t3[i] = l at hRu hrow0
   obtain ⟨Au, cu, eu⟩ := Kd.R_slice hRu
   subst eu
   have HRU := Aside0.mk (Kd.R_kept hRu HK.out (fun k hk h2 => by have := hk.2.2.2; have := h2.2.2.2; omega))
   have hcw : wr.cell? (ga.add i) = some (.slice Au l.length cu) := cell_kept hcell HK.out (fun h2 => h2.2.2.1 (by rw [hown]; show some (if i = 0 then ga else _).block = _; split <;> rfl))
   have hoff : wr.cell? ⟨gb3, 0, none⟩ = some (.int .i64 a1) := cell_kept (bt_ BK3 0) HK.out (fun h2 => by have h3 : b5 ≤ gb3 := h2.1; have := HQ3.out; omega)
   have HU := Aside0.mk (fun k (hk : (Value.slice Au l.length cu).ownBlock = some k) => ((Kd.R_bound HRU.out).1 k hk).1)
   have hdel := trunc_del (fun x => decide (wrap64 (x.f0 + (x.f4.length : Int)) > a1)) l Au cu 76 #[.pointer (some ⟨gb3, 0, none⟩)] (fun args w => by first | rfl | kernel_rfl) b5 w wr _ HWB.out HB2.out HRU.out (fun W x A4 c4 hk h4 hr4 => trunc_lit x A4 c4 a1 gb3 W (cell_kept hoff hk (fun h2 => by have h3 := (HU.out gb3 h2.symm).1; have := HQ3.out; omega)) h4 hr4)
   generalize hl' : (l.filter fun x => !(decide (wrap64 (x.f0 + (x.f4.length : Int)) > a1))) = l' at hdel
   have HDEL := Aside0.mk hdel
   have hrow := hrow0
   rw [show impl_TruncateTo.keep a1 l = l' from hl'] at hrow
   have HROW := Aside0.mk hrow
   clear hdel hrow0 hrow hl' hRu hcell hli hown
   go_wp2_with fail
   refine HDEL.out.mono ?_
   clear HDEL
   rintro e w7 ⟨rfl, ho7, hb7, hk7⟩
   have HL7 := Aside0.mk ho7
   have HB7 := Aside0.mk hb7
   have HO7 := Aside0.mk (Kd.R_kept HO.out hk7 (fun k hk h2 => by have h3 := HU.out k h2.symm; have := h3.2.1; have := h3.2.2.2; rcases hk with hk | hk <;> omega))
   have HK7 := Aside0.mk (Kept.then_ (HK.out.mono (S' := fun k => b5 ≤ k ∧ k < w5.heap.size ∧ some k ≠ (Value.slice (some ga) t3.length c6).ownBlock ∧ F k < i + 1) (fun k h => ⟨h.1, h.2.1, h.2.2.1, Nat.lt_succ_of_lt h.2.2.2⟩)) hk7 (fun k h2 => .inl (by have h3 := HU.out k h2.symm; exact ⟨h3.1, h3.2.1, h3.2.2.1, by rw [h3.2.2.2]; exact Nat.lt_succ_self i⟩)))
   clear ho7 hb7 hk7 HO HK HB2 hcw hoff
   have HO8 := Aside0.mk (Kd.R_mono HO7.out (ok' := fun k => (k < w5.heap.size ∧ F k < i + 1) ∨ w5.heap.size ≤ k) (fun k hk => by rcases hk with hk | hk; exact .inl ⟨hk.1, by omega⟩; exact .inr hk))
   clear HO7
   by_cases hz : i = 0
   ·have hz0 : decide ((i : Int) = 0) = true := decide_eq_true (by omega)
    have hz1 : ((i : Int) == 0) = true := beq_iff_eq.2 (by omega)
    have HR2 := Aside0.mk (show impl_TruncateTo.rows a1 0 t3 = (ys ++ [l']) ++ impl_TruncateTo.rows a1 (i + 1) (t3.drop (i + 1)) by rw [HRW.out, HROW.out, if_pos (.inl hz), List.append_assoc, List.singleton_append])
    (go_wp2_with (first | ((with_reducible refine gate_builtin (b := .append) (xs := #[.tmp 46, .tmp 48]) rfl ?_); at_builtin; refine Kd.R_append (Kd.slice 43 k43) (w0 := w) w.heap.size rfl (.tmp 46) (.tmp 48) 92 48 (.slice none 0 0) 24 rfl Try.underlying92 info48 rfl (by decide) (by omega) u7 ys l' [.slice Au l'.length cu] (fun k => (k < w5.heap.size ∧ F k < i + 1) ∨ w5.heap.size ≤ k) (fun k => b5 ≤ k ∧ k < w5.heap.size ∧ some k ≠ (Value.slice (some ga) t3.length c6).ownBlock ∧ F k = i) rfl rfl ?aP ?aK ?aF ?aO ?aB ?aS ?aL ?_; (case aP => exact Kd.M_row (Kd.R_lower HL7.out HWB.out)); (case aK => exact (fun k h => ⟨.inl ⟨h.2.1, by have := h.2.2.2; omega⟩, fun e => by have h3 := HOW.out k e.symm; have := h.2.1; omega⟩)); (case aF => exact (fun k h => .inr (Nat.le_trans HK7.out.1 h))); (case aO => exact HO8.out); (case aB => exact HB7.out); (case aS => exact HB7.out.size); (case aL => have := HYL.out; have := HM.out; omega); intro v49 w8 ho hb hg hat)))
    have HO9 := Aside0.mk ho
    have HB9 := Aside0.mk hb
    have HK9 := Aside0.mk (Kept.of_grown hg HK7.out (fun k hk => .inr (HOW.out k hk)))
    have HOW9 := Aside0.mk (show ∀ k, v49.ownBlock = some k → w5.heap.size ≤ k from fun k hk => by
     rcases hat with h | ⟨b, h, h2⟩
     ·exact HOW.out k (by rw [← h]; exact hk)
     ·rw [h] at hk
      obtain rfl := Option.some.inj hk
      exact Nat.le_trans HK7.out.1 h2)
    clear ho hb hg hat
    try go_wp2
    go_roundg (t3.length - (i + 1))
    case measure => omega
    case rel => have hm9 := HM.out; exact ⟨i + 1, ys ++ [l'], by first | go_num | (rw [show wrap64 ((i : Int) + 1) = ((i + 1 : Nat) : Int) by unfold wrap64; omega]), by omega, by omega, ⟨HR2.out⟩, ⟨by rw [List.length_append, List.length_singleton]; have := HYL.out; omega⟩, HO9, HOW9, HK9, HB9⟩
   ·have hz0 : decide ((i : Int) = 0) = false := decide_eq_false (by omega)
    have hz1 : ((i : Int) == 0) = false := beq_eq_false_iff_ne.2 (by omega)
    by_cases hp : 0 < l'.length
    ·have hp0 : decide (0 < (l'.length : Int)) = true := decide_eq_true (by omega)
     have hp1 : decide (0 < l'.length) = true := decide_eq_true hp
     have HR2 := Aside0.mk (show impl_TruncateTo.rows a1 0 t3 = (ys ++ [l']) ++ impl_TruncateTo.rows a1 (i + 1) (t3.drop (i + 1)) by rw [HRW.out, HROW.out, if_pos (.inr hp), List.append_assoc, List.singleton_append])
     (go_wp2_with (first | ((with_reducible refine gate_builtin (b := .append) (xs := #[.tmp 46, .tmp 48]) rfl ?_); at_builtin; refine Kd.R_append (Kd.slice 43 k43) (w0 := w) w.heap.size rfl (.tmp 46) (.tmp 48) 92 48 (.slice none 0 0) 24 rfl Try.underlying92 info48 rfl (by decide) (by omega) u7 ys l' [.slice Au l'.length cu] (fun k => (k < w5.heap.size ∧ F k < i + 1) ∨ w5.heap.size ≤ k) (fun k => b5 ≤ k ∧ k < w5.heap.size ∧ some k ≠ (Value.slice (some ga) t3.length c6).ownBlock ∧ F k = i) rfl rfl ?aP ?aK ?aF ?aO ?aB ?aS ?aL ?_; (case aP => exact Kd.M_row (Kd.R_lower HL7.out HWB.out)); (case aK => exact (fun k h => ⟨.inl ⟨h.2.1, by have := h.2.2.2; omega⟩, fun e => by have h3 := HOW.out k e.symm; have := h.2.1; omega⟩)); (case aF => exact (fun k h => .inr (Nat.le_trans HK7.out.1 h))); (case aO => exact HO8.out); (case aB => exact HB7.out); (case aS => exact HB7.out.size); (case aL => have := HYL.out; have := HM.out; omega); intro v49 w8 ho hb hg hat)))
     have HO9 := Aside0.mk ho
     have HB9 := Aside0.mk hb
     have HK9 := Aside0.mk (Kept.of_grown hg HK7.out (fun k hk => .inr (HOW.out k hk)))
     have HOW9 := Aside0.mk (show ∀ k, v49.ownBlock = some k → w5.heap.size ≤ k from fun k hk => by
      rcases hat with h | ⟨b, h, h2⟩
      ·exact HOW.out k (by rw [← h]; exact hk)
      ·rw [h] at hk
       obtain rfl := Option.some.inj hk
       exact Nat.le_trans HK7.out.1 h2)
     clear ho hb hg hat
     try go_wp2
     go_roundg (t3.length - (i + 1))
     case measure => omega
     case rel => have hm9 := HM.out; exact ⟨i + 1, ys ++ [l'], by first | go_num | (rw [show wrap64 ((i : Int) + 1) = ((i + 1 : Nat) : Int) by unfold wrap64; omega]), by omega, by omega, ⟨HR2.out⟩, ⟨by rw [List.length_append, List.length_singleton]; have := HYL.out; omega⟩, HO9, HOW9, HK9, HB9⟩
    ·have hp0 : decide (0 < (l'.length : Int)) = false := decide_eq_false (by omega)
     have hp1 : decide (0 < l'.length) = false := decide_eq_false hp
     have HR2 := Aside0.mk (show impl_TruncateTo.rows a1 0 t3 = ys ++ impl_TruncateTo.rows a1 (i + 1) (t3.drop (i + 1)) by rw [HRW.out, HROW.out, if_neg (by omega)])
     go_wp2_with fail
     go_roundg (t3.length - (i + 1))
     case measure => omega
     case rel => have hm9 := HM.out; exact ⟨i + 1, ys, by first | go_num | (rw [show wrap64 ((i : Int) + 1) = ((i + 1 : Nat) : Int) by unfold wrap64; omega]), by omega, by omega, ⟨HR2.out⟩, ⟨by have := HYL.out; omega⟩, HO8, HOW, HK7, HB7⟩
  ·have hltz : ¬ (i : Int) < (t3.length : Int) := by omega
   have hit : i = t3.length := by omega
   have HRR := Aside0.mk (show impl_TruncateTo.rows a1 0 t3 = ys by rw [HRW.out, hit, List.drop_length, impl_TruncateTo.rows, List.append_nil])
   obtain ⟨A7, c7, e7⟩ := Kd.R_slice HO.out
   subst e7
   have BK2n := Aside0.mk (blk_kept BK2.out HK.out (fun h2 => by have h3 : b5 ≤ gb2 := h2.1; have := HQ2.out; omega))
   have BK4n := Aside0.mk (blk_kept BK4.out HK.out (fun h2 => by have h3 : b5 ≤ gb4 := h2.1; have := HQ4.out; omega))
   have hxa : wr.cell? ad = some (.int .i64 (rd_T65 l0_0 0).f0) := (HB2.out.cell (World.block_lt_of_cell? w _ HX0.out)).trans HX0.out
   obtain ⟨hcs_0, hcs_1, hfs_0, hfs_1⟩ := cf2_ BK2n.out
   have hst := A4.out
   rw [HRR.out] at hst
   have HST := Aside0.mk hst
   clear hst
   go_wp2_with fail
   refine (impl_storeOf.calls k _ _ ys (rd_T65 l0_0 0).f0 t4.1 t4.2 _ (Kd.R_reads' HO.out).2.2 (Kd.R_reads' HO.out).2.1 HST.out).mono ?_
   rintro e w9 ⟨v9_, rfl, ho9, hb9⟩
   obtain ⟨A9, c9, e9⟩ := Kd.S_slice ho9
   subst e9
   have BK4w := Aside0.mk (blk_below BK4n.out hb9)
   have hlt4 := blk_lt BK4n.out
   have hsz := HB2.out.size
   obtain ⟨rfl, rfl, rfl⟩ : t4.1 = r1 ∧ t4.2 = r2 ∧ true = r3 := by simpa using H6
   have HS9 : Kd.S k65 65 w9 w.heap.size (fun k => k ≠ gb4) (.slice A9 t4.1.length c9) t4.1 := Kd.S_mono (Kd.S_lower (Kd.S_bound ho9) hsz) (fun k hk => by have := hk.2.1; omega)
   have HSn := Aside0.mk (Kd.S_far (p := ⟨gb4, 1, none⟩) (Kd.S_far (p := ⟨gb4, 0, none⟩) HS9 (fun k hk => hk) (.slice A9 t4.1.length c9)) (fun k hk => hk) (.int .i64 t4.2))
   clear HB HS9 hlt4 hsz H6
   have HB := Aside0.mk (below_step HB2.out hb9)
   clear ho9 hb9
   obtain ⟨hcr_0, hcr_1, hfr_0, hfr_1⟩ := cf2_ BK4w.out
   go_wp2_with fail
   refine bodyPost_ret (results_ct rfl _ _ gb4 24 #[.slice A9 t4.1.length c9, .int .i64 t4.2] (0, 0) _ rfl (up_ BK4w) Try.underlying24 rfl (by kernel_rfl)) rfl ?_
   exact ⟨_, er_, Kd.S_mono HSn.out (fun _ _ => trivial), hs_ GE4.out⟩
end Go.Proofs.Ytffpeklekkpbjaa.QFnExactTruncateTo
