/- For each Go function that one statement reaches: a plain function with the same answers, and the proof that the call comes to them. Conditions: those that each contract names. Written by a program of this repository. -/
import Derived.Test.YtopddfiiglookaaQFnExactCutMarksx0
import Derived.Test.YtopddfiiglookaaQFnExactCutMarksx3
import Derived.Test.YtopddfiiglookaaQFnExactCutMarksx4
namespace Go.Proofs.Ytopddfiiglookaa.QFnExactCutMarks
open Go.RowKit Go.Proofs.YtopddfiiglookaaW.PrintWords Go.Proofs.YtopddfiiglookaaW.PrintLast Go.Proofs.YtopddfiiglookaaW.PrintMore
attribute [local go_sem] max2_int min2_int max_two min_two max_three min_three max_four min_four Go.Proofs.YtopddfiiglookaaW.PrintMore2.isSome_setCell   -- for this text's walks alone
set_option linter.unusedVariables false
set_option linter.unusedSimpArgs false

-- NOT PRINTED: function 64 (impl_EpochMark_64)

-- NOT PRINTED: function 56 (impl_EpochMark_56)

/-! ### impl_CutMarks: function 32 -/
/-! #### a row's beginning stays, whatever is stored behind it -/
theorem cm_prefix {w : World} {base e size n o g c : Nat} {xs : List Value} (h : w.ownsRow base e size (.slice (some ⟨g, 0, none⟩) n c) n xs) (ho : n * size ≤ o) (u : Value) : (w.setCell ⟨g, o, none⟩ u).ownsRow base e size (.slice (some ⟨g, 0, none⟩) n c) n xs := by
  obtain ⟨h1, h2⟩ := h
  refine ⟨h1, ?_⟩
  rcases h2 with ⟨hv, _⟩ | ⟨g', cap, cur, hv, hb, hh, hn, hm, hs, ht⟩
  · cases hv
  · injection hv with ha hl hc
    injection ha with ha
    injection ha with ha
    subst ha hc
    refine .inr ⟨g, c, cur.setIfInBounds o u, rfl, hb, blk_set hh o u, hn, hm, by simpa using hs, ?_⟩
    rw [← ht]
    apply List.ext_getElem?
    intro i
    simp only [List.getElem?_take, Array.getElem?_toList, Array.getElem?_setIfInBounds]
    split
    · rw [if_neg (by omega)]
    · rfl
theorem cm_setCell {α : Type} {d : Kd α} {W : World} {base e n o g c : Nat} {ok : Nat → Prop} {xs : List α} (h : d.R e W base ok (.slice (some ⟨g, 0, none⟩) n c) xs) (ho : n * d.sz ≤ o) (u : Value) : d.R e (W.setCell ⟨g, o, none⟩ u) base ok (.slice (some ⟨g, 0, none⟩) n c) xs := by
  have hn := (Kd.R_reads' h).1
  subst hn
  obtain ⟨h0, inner, hown, hr⟩ := h
  refine ⟨h0, inner, cm_prefix hown ho u, hr.imp_ (fun p cs hp => Kd.M_far (p := ⟨g, o, none⟩) hp (fun k hk e_ => hk.2 ?_) u)⟩
  rw [e_]
  rfl
theorem cm_setCells {α : Type} {d : Kd α} {base e n g c : Nat} {ok : Nat → Prop} {xs : List α} : ∀ (vs : List Value) (o : Nat) (W : World), d.R e W base ok (.slice (some ⟨g, 0, none⟩) n c) xs → n * d.sz ≤ o → d.R e (W.setCells g o vs) base ok (.slice (some ⟨g, 0, none⟩) n c) xs
  | [], _, _, h, _ => h
  | v :: r, o, W, h, ho => cm_setCells r (o + 1) _ (cm_setCell h ho v) (by omega)
theorem cm_grown (g : Nat) : ∀ (vs : List Value) (o : Nat) (W : World), W.grownBy (W.setCells g o vs) (some g)
  | [], _, W => grown_of_below (Below.refl _ _) _
  | v :: r, o, W => World.grownBy.trans (show W.grownBy (W.setCell ⟨g, o, none⟩ v) (some g) from ⟨rfl, rfl, rfl, by simp [World.setCell], fun i _ hn => Below.heap_setCell W ⟨g, o, none⟩ v i (fun e_ => hn (by rw [e_]))⟩) (cm_grown g r (o + 1) _)
theorem cm_clear (w : World) (t e ty : TypeId) (z : Value) (Z : List Value) (b o n c : Nat) (hn : 0 < n) (ht : Try.prog.underlying t = some (.slice e)) (hv : ∀ w, (zeroValue e).run Try.prog w = .ok z w) (hZ : (Builtin.zeroCells z.cells n).toList = Z)
    (hc : ∀ j, j < Z.length → (w.cell? ⟨b, o + j, none⟩).isSome = true) (hf : ∀ j, j < Z.length → w.frozen? ⟨b, o + j, none⟩ = false) (h1 : ∀ v ∈ Z, v.oneCell' = true) :
    (Builtin.clear_ #[t] ty #[.slice (some ⟨b, o, none⟩) n c]).run Try.prog w = .ok (.tuple #[]) (w.setCells b o Z) := by
  have hst := run_storeCells_cells (P := Try.prog) b o Z 0 w (by simpa using hc) (by simpa using hf) h1
  simp only [Nat.add_zero] at hst
  obtain ⟨m, rfl⟩ : ∃ m, n = m + 1 := ⟨n - 1, by omega⟩
  simp [Builtin.clear_, run_underlying ht, hv, hZ, hst]
theorem cm_zeros (z : Value) (n : Nat) (hs : 0 < z.cells.size) (h1 : ∀ v ∈ z.cells.toList, v.oneCell' = true) : (Builtin.zeroCells z.cells n).toList.length = n * z.cells.size ∧ ∀ v ∈ (Builtin.zeroCells z.cells n).toList, v.oneCell' = true := by
  unfold Builtin.zeroCells
  refine ⟨by simp, fun v hv => ?_⟩
  simp only [Array.toList_map, List.mem_map] at hv
  obtain ⟨i, _, rfl⟩ := hv
  have hl : i % z.cells.size < z.cells.size := Nat.mod_lt _ hs
  rw [getElem!_pos z.cells _ hl]
  exact h1 _ (by simp)
/-! #### the first place where p holds -/
def cm_ix {α : Type} (p : α → Bool) : Nat → List α → Int
  | _, [] => -1
  | i, x :: r => if p x = true then (i : Int) else cm_ix p (i + 1) r
theorem cm_ix_spec {α : Type} (p : α → Bool) : ∀ (l : List α) (i : Nat), (cm_ix p i l = -1 ∧ l.filter (fun x => !p x) = l) ∨ ∃ k, k < l.length ∧ cm_ix p i l = ((i + k : Nat) : Int) ∧ (l.take (k + 1)).filter (fun x => !p x) = l.take k
  | [], i => .inl ⟨rfl, rfl⟩
  | x :: r, i => by
    rw [cm_ix]
    by_cases h : p x = true
    · rw [if_pos h]
      exact .inr ⟨0, by simp, by simp, by simp [h]⟩
    · rw [if_neg h]
      have h' : p x = false := by simpa using h
      rcases cm_ix_spec p r (i + 1) with ⟨e, f⟩ | ⟨k, hk, e, f⟩
      · exact .inl ⟨e, by rw [List.filter_cons, h', f]; rfl⟩
      · refine .inr ⟨k + 1, by simpa using hk, by rw [e]; congr 1; omega, ?_⟩
        rw [List.take_succ_cons, List.filter_cons, h', f]
        rfl
set_option maxHeartbeats 8000000 in
set_option maxRecDepth 100000 in
theorem cutMarks_idx (p : S60 → Bool) (l : List S60) (A : Option Addr) (c : Nat) (g : Nat) (lb : Array Value) (eg : ∀ args w, (callFunc g args).run Try.prog w = .ok (.enter g args) w) (w : World) (hr : Kd.C k60 w A l.length l)
    (hp : ∀ (W : World) (x : S60), Below w.heap.size w W → Calls Try.prog g (#[.agg #[.int .i64 x.f0, .int .i64 x.f1]] ++ lb) W fun e w' => e = .returned (.bool (p x)) ∧ Below W.heap.size W w') :
    Calls Try.prog 64 #[.slice A l.length c, .func (.func g) #[] lb] w fun e w' => e = .returned (.int .i64 (cm_ix p 0 l)) ∧ Below w.heap.size w w' := by
  have hbig : l.length ≤ 9223372036854775807 := hr.2.1
  have hu_ := Try.underlying60
  have HR := Aside0.mk hr
  have HP := Aside0.mk hp
  clear hr hp
  go_enter Try.func64, Try.ntmps64
  go_wp2
  go_loopg [5, 8] l.length (fun gg _ s8 wr => ∃ kk : Nat, kk ≤ l.length ∧ l.length - kk ≤ gg ∧ s8 = .int .i64 kk ∧ Aside (Below w.heap.size w wr) ∧ Aside (cm_ix p 0 l = cm_ix p kk (l.drop kk)))
  case atStart => exact ⟨0, Nat.zero_le _, by omega, rfl, Below.refl _ w, rfl⟩
  case round =>
    obtain ⟨kk, hkk, hg, rfl, BW, AA⟩ := hrel
    by_cases hlt : kk < l.length
    · have hltz : (kk : Int) < (l.length : Int) := by omega
      obtain ⟨ad, rfl, hcell0, hcell1⟩ := at_T60 (Kd.C_below HR.out BW.out) (kk : Int) (by omega) hltz
      have e1 : rd_T60 l (kk : Int) = l[kk] := by unfold rd_T60; rw [Int.toNat_natCast, List.getD_eq_getElem?_getD, List.getElem?_eq_getElem hlt]; rfl
      rw [e1] at hcell0 hcell1
      have hA := AA.out
      rw [List.drop_eq_getElem_cons hlt, cm_ix] at hA
      clear AA
      generalize hx : l[kk] = x at hcell0 hcell1 hA e1
      rw [Int.toNat_natCast] at hcell0 hcell1
      have HC := Aside0.mk (HP.out wr x BW.out)
      clear e1 hx
      cases hq : p x with
      | true =>
        rw [hq, if_pos rfl] at hA
        have H2 := Aside0.mk hA
        have HQ := Aside0.mk hq
        clear hA hq
        go_wp2_with fail
        refine HC.out.mono ?_
        rw [HQ.out]
        clear HC
        rintro e w2 ⟨rfl, hb2⟩
        have HB2 := Aside0.mk (below_step BW.out hb2)
        clear hb2
        go_wp2_with fail
        go_ret
        exact ⟨by rw [H2.out]; rfl, HB2.out⟩
      | false =>
        rw [hq, if_neg (by decide)] at hA
        have H2 := Aside0.mk hA
        have HQ := Aside0.mk hq
        clear hA hq
        go_wp2_with fail
        refine HC.out.mono ?_
        rw [HQ.out]
        clear HC
        rintro e w2 ⟨rfl, hb2⟩
        have HB2 := Aside0.mk (below_step BW.out hb2)
        clear hb2
        go_wp2_with fail
        go_roundg (l.length - (kk + 1))
        case measure => omega
        case rel => exact ⟨kk + 1, by omega, by omega, by go_num, HB2.out, (show Aside _ from H2.out)⟩
    · have hltz : ¬ (kk : Int) < (l.length : Int) := by omega
      have hkl : kk = l.length := by omega
      subst hkl
      have hA := AA.out
      rw [List.drop_length, cm_ix] at hA
      have H2 := Aside0.mk hA
      clear hA AA
      go_wp2
      go_ret
      exact ⟨by rw [H2.out]; rfl, BW.out⟩
set_option maxHeartbeats 8000000 in
set_option maxRecDepth 100000 in
theorem cutMarks_del (p : S60 → Bool) (l : List S60) (A : Option Addr) (c : Nat) (g : Nat) (lb : Array Value) (eg : ∀ args w, (callFunc g args).run Try.prog w = .ok (.enter g args) w) (w0 w : World) (ok : Nat → Prop) (hB : Below w0.heap.size w0 w) (ho : Kd.R k60 60 w w0.heap.size ok (.slice A l.length c) l)
    (hp : ∀ (W : World) (x : S60), Kept w W (fun k => some k = (.slice A l.length c : Value).ownBlock) → Calls Try.prog g (#[.agg #[.int .i64 x.f0, .int .i64 x.f1]] ++ lb) W fun e w' => e = .returned (.bool (p x)) ∧ Below W.heap.size W w') :
    Calls Try.prog 56 #[.slice A l.length c, .func (.func g) #[] lb] w fun e w' => e = .returned (.slice A (l.filter fun x => !p x).length c) ∧ Kd.R k60 60 w' w0.heap.size ok (.slice A (l.filter fun x => !p x).length c) (l.filter fun x => !p x) ∧ Below w0.heap.size w0 w' ∧ Kept w w' (fun k => some k = (.slice A l.length c : Value).ownBlock) := by
  have hbig : l.length ≤ 9223372036854775807 := (Kd.R_reads' ho).2.2.2.1
  have hu_ := Try.underlying60
  have hlc := (Kd.R_reads' ho).2.1
  have hIX := cutMarks_idx p l A c g lb eg w (Kd.R_reads' ho).2.2 (fun W x hb => hp W x (Kept.of_below hb _))
  have HB := Aside0.mk hB
  have HO := Aside0.mk ho
  have HP := Aside0.mk hp
  clear hB ho hp
  rcases cm_ix_spec p l 0 with ⟨e1, e2⟩ | ⟨k0, hk0, e1, e2⟩
  · rw [e1] at hIX
    have HIX := Aside0.mk hIX
    have E2 := Aside0.mk e2
    clear hIX e1 e2
    go_enter Try.func56, Try.ntmps56
    go_wp2_with fail
    refine HIX.out.mono ?_
    rintro e w2 ⟨rfl, hb2⟩
    have HB2 := Aside0.mk hb2
    clear hb2 HIX
    go_wp2_with fail
    go_ret
    rw [E2.out]
    exact ⟨rfl, Kd.R_below HO.out HB2.out, below_step HB.out HB2.out, Kept.of_below HB2.out _⟩
  · rw [Nat.zero_add] at e1
    rw [e1] at hIX
    have HIX := Aside0.mk hIX
    have E2 := Aside0.mk e2
    have hne1 : ((k0 : Int) == -1) = false := beq_eq_false_iff_ne.2 (by omega)
    clear hIX e1 e2
    obtain ⟨g0, cap, eg0, hgb, _⟩ := Kd.R_form HO.out (by omega)
    injection eg0 with eg1 eg2 eg3
    subst eg1
    clear eg2 eg3
    have HGB := Aside0.mk hgb
    clear hgb
    go_enter Try.func56, Try.ntmps56
    go_wp2_with fail
    refine HIX.out.mono ?_
    rintro e w2 ⟨rfl, hb2⟩
    have HB2 := Aside0.mk (below_step HB.out hb2)
    have HO2 := Aside0.mk (Kd.R_below HO.out hb2)
    have HK2 := Aside0.mk (Kept.of_below hb2 (fun k => some k = (.slice (some ⟨g0, 0, none⟩) l.length c : Value).ownBlock))
    clear hb2 HIX HO HB
    go_wp2_with fail
    go_loopg [5, 6, 7] l.length (fun gg s5 s6 _ wr => ∃ (i j : Nat) (rows : List S60), s5 = .int .i64 i ∧ s6 = .int .i64 j ∧ j ≤ l.length ∧ l.length - j ≤ gg ∧ i < j ∧ Aside0 (rows.length = l.length) ∧ Aside0 (rows.take i = (l.take j).filter fun x => !p x) ∧ Aside0 (rows.drop j = l.drop j) ∧ Aside0 (Kd.R k60 60 wr w0.heap.size ok (.slice (some ⟨g0, 0, none⟩) l.length c) rows) ∧ Aside0 (Kept w wr (fun k => some k = (.slice (some ⟨g0, 0, none⟩) l.length c : Value).ownBlock)) ∧ Aside0 (Below w0.heap.size w0 wr))
    case atStart => exact ⟨k0, k0 + 1, l, rfl, by go_num, by omega, by omega, by omega, ⟨rfl⟩, ⟨E2.out.symm⟩, ⟨rfl⟩, HO2, HK2, HB2⟩
    case round =>
      clear HO2 HK2 HB2
      obtain ⟨i, j, rows, rfl, rfl, hjn, hgg, hij, HL, HT, HD, HO, HK, HB⟩ := hrel
      by_cases hlt : j < l.length
      · have hltz : (j : Int) < (l.length : Int) := by omega
        obtain ⟨cs, _, hM, hcc, hfr⟩ := Kd.R_elem HO.out z60 (j : Int) (by omega) hltz
        have ej : rows.getD (j : Int).toNat z60 = l[j] := by
          have := congrArg (fun z => z[0]?) HD.out
          simp only [List.getElem?_drop, Nat.add_zero] at this
          rw [Int.toNat_natCast, List.getD_eq_getElem?_getD, this, List.getElem?_eq_getElem hlt]
          rfl
        rw [ej] at hM
        generalize hx : l[j] = x at hM ej
        have HX := Aside0.mk hx
        clear hx
        obtain rfl := k60_openM hM
        have hc0 : wr.cell? ⟨g0, j * 2, none⟩ = some (.int .i64 x.f0) := hcc 0 _ rfl
        have hc1 : wr.cell? ⟨g0, j * 2 + 1, none⟩ = some (.int .i64 x.f1) := hcc 1 _ rfl
        clear hcc hfr hM ej
        have HC := Aside0.mk (HP.out (wr.alloc (.cells #[.int .i64 x.f0, .int .i64 x.f1] 60)) x (HK.out.alloc _))
        have hts : l.take (j + 1) = l.take j ++ [x] := by rw [List.take_succ_eq_append_getElem hlt, HX.out]
        have hdd : rows.drop (j + 1) = l.drop (j + 1) := by
          have := congrArg (fun z => z.drop 1) HD.out
          simpa only [List.drop_drop] using this
        have HTS := Aside0.mk hts
        have HDD := Aside0.mk hdd
        clear hts hdd HX
        cases hq : p x with
        | true =>
          have HQ := Aside0.mk hq
          clear hq
          go_wp2_with fail
          refine HC.out.mono ?_
          rw [HQ.out]
          clear HC
          rintro e w3 ⟨rfl, hb3⟩
          have HO3 := Aside0.mk (Kd.R_below (Kd.R_alloc HO.out _) hb3)
          have HK3 := Aside0.mk (Kept.below (HK.out.alloc _) hb3)
          have HB3 := Aside0.mk (below_step (below_alloc HB.out _) hb3)
          clear hb3 HO HK HB
          go_wp2_with fail
          go_roundg (l.length - (j + 1))
          case measure => omega
          case rel => exact ⟨i, j + 1, rows, rfl, by go_num, by omega, by omega, by omega, HL, ⟨by rw [HT.out, HTS.out, List.filter_append, List.filter_cons, HQ.out]; simp⟩, HDD, HO3, HK3, HB3⟩
        | false =>
          have HQ := Aside0.mk hq
          clear hq
          go_wp2_with fail
          refine HC.out.mono ?_
          rw [HQ.out]
          clear HC
          rintro e w3 ⟨rfl, hb3⟩
          have hx0 : w3.cell? ⟨wr.heap.size, 0, none⟩ = some (.int .i64 x.f0) := (hb3.cell (p := ⟨wr.heap.size, 0, none⟩) (by simp)).trans (by go_simp)
          have hx1 : w3.cell? ⟨wr.heap.size, 1, none⟩ = some (.int .i64 x.f1) := (hb3.cell (p := ⟨wr.heap.size, 1, none⟩) (by simp)).trans (by go_simp)
          have HO3 := Aside0.mk (Kd.R_below (Kd.R_alloc HO.out (.cells #[.int .i64 x.f0, .int .i64 x.f1] 60)) hb3)
          have HK3 := Aside0.mk (Kept.below (HK.out.alloc (.cells #[.int .i64 x.f0, .int .i64 x.f1] 60)) hb3)
          have HB3 := Aside0.mk (below_step (below_alloc HB.out (.cells #[.int .i64 x.f0, .int .i64 x.f1] 60)) hb3)
          have hiltz : (i : Int) < (l.length : Int) := by omega
          obtain ⟨ci, hcl, hMi, hcci, hfri⟩ := Kd.R_elem HO3.out z60 (i : Int) (by omega) hiltz
          obtain rfl := k60_openM hMi
          have hi0 : w3.cell? ⟨g0, i * 2, none⟩ = some (.int .i64 (rows.getD (i : Int).toNat z60).f0) := hcci 0 _ rfl
          have hi1 : w3.cell? ⟨g0, i * 2 + 1, none⟩ = some (.int .i64 (rows.getD (i : Int).toNat z60).f1) := hcci 1 _ rfl
          have hf0 : w3.frozen? ⟨g0, i * 2, none⟩ = false := hfri 0
          have hf1 : w3.frozen? ⟨g0, i * 2 + 1, none⟩ = false := hfri 1
          have HP3 := Aside0.mk (Kd.R_seg HO3.out (i : Int) (by omega) hiltz (seg := [.int .i64 x.f0, .int .i64 x.f1]) (j := 0) hcl hcci (show 2 ≤ 2 from Nat.le_refl 2) (x' := x) (okp := fun _ => False) (k60_mkM _ _ _ x) (fun _ h_ => h_.elim))
          generalize (rows.getD (i : Int).toNat z60).f0 = o0 at hi0
          generalize (rows.getD (i : Int).toNat z60).f1 = o1 at hi1
          clear hcl hMi hcci hfri HO HK HB hb3
          go_wp2_with fail
          go_roundg (l.length - (j + 1))
          case measure => omega
          case rel =>
            refine ⟨i + 1, j + 1, rows.set i x, by go_num, by go_num, by omega, by omega, by omega, ⟨by rw [List.length_set]; exact HL.out⟩, ⟨?_⟩, ⟨?_⟩, ⟨HP3.out.1⟩, ⟨Kept.of_grown HP3.out.2 HK3.out (fun k_ e_ => .inl (by obtain rfl := Option.some.inj e_; rfl))⟩, ⟨pw_below_grown HB3.out (some g0) HB3.out.size HP3.out.2 (fun k_ e_ => by obtain rfl := Option.some.inj e_; exact HGB.out)⟩⟩
            · have hil : i < rows.length := by have := HL.out; omega
              rw [List.take_succ_eq_append_getElem (by rw [List.length_set]; exact hil), List.take_set_of_le (Nat.le_refl _), List.getElem_set_self, HT.out, HTS.out, List.filter_append, List.filter_cons, HQ.out]
              rfl
            · rw [List.drop_set_of_lt (by omega)]
              exact HDD.out
      · have hltz : ¬ (j : Int) < (l.length : Int) := by omega
        have hjl : j = l.length := by omega
        subst hjl
        have hil : i < l.length := hij
        have hiz : (i : Int) < (l.length : Int) := by omega
        have hci : i < c := by omega
        have hT : rows.take i = l.filter fun x => !p x := by rw [HT.out, List.take_length]
        have hTl : (l.filter fun x => !p x).length = i := by rw [← hT, List.length_take]; have := HL.out; omega
        obtain ⟨Z, hZ⟩ : ∃ Z, (Builtin.zeroCells (Value.agg #[.int .i64 0, .int .i64 0]).cells (l.length - i)).toList = Z := ⟨_, rfl⟩
        have hz := cm_zeros (.agg #[.int .i64 0, .int .i64 0]) (l.length - i) (by decide) (by decide)
        rw [hZ] at hz
        have hz1 : Z.length = (l.length - i) * 2 := hz.1
        obtain ⟨cur, hcur⟩ : ∃ cur, wr.heap[g0]? = some (.cells cur 60 (0, 0)) ∧ cur.size = c * 2 := by
          obtain ⟨_, inner, hown, _⟩ := HO.out
          rcases hown.2 with ⟨hv, _⟩ | ⟨g', cap', cur, hv, _, hh, _, _, hs, _⟩
          · cases hv
          · injection hv with ha hl hc
            injection ha with ha
            injection ha with ha
            subst ha hc
            exact ⟨cur, hh, hs⟩
        have hcl : ∀ ty, (Builtin.clear_ #[31] ty #[.slice (some ⟨g0, i * 2, none⟩) (l.length - i) (c - i)]).run Try.prog wr = .ok (.tuple #[]) (wr.setCells g0 (i * 2) Z) := fun ty =>
          cm_clear wr 31 60 ty (.agg #[.int .i64 0, .int .i64 0]) Z g0 (i * 2) (l.length - i) (c - i) (by omega) Try.underlying31 (fun _ => by first | rfl | kernel_rfl) hZ
            (fun t ht => by rw [blk_cell hcur.1, Array.getElem?_eq_getElem (by rw [hcur.2]; omega)]; rfl) (fun t ht => blk_frozen hcur.1 _) hz.2
        have HR := Aside0.mk (cm_setCells Z (i * 2) wr (Kd.R_take HO.out (m := i) (by rw [HL.out]; omega)) (show i * 2 ≤ i * 2 from Nat.le_refl _))
        have HG := Aside0.mk (cm_grown g0 Z (i * 2) wr)
        have HTT := Aside0.mk hT
        have HTL := Aside0.mk hTl
        clear hT hTl hZ hz hz1 hcur HT HD HL HO
        go_wp2
        go_ret
        exact ⟨by rw [HTL.out]; rfl, by rw [HTL.out, ← HTT.out]; exact HR.out, pw_below_grown HB.out (some g0) HB.out.size HG.out (fun k_ e_ => by obtain rfl := Option.some.inj e_; exact HGB.out), Kept.of_grown HG.out HK.out (fun k_ e_ => .inl (by obtain rfl := Option.some.inj e_; rfl))⟩
set_option maxHeartbeats 8000000 in
set_option maxRecDepth 100000 in
theorem cutMarks_lit (x : S60) (a : Int) (b : Nat) (w : World) (hb : w.cell? ⟨b, 0, none⟩ = some (.int .i64 a)) (hlt : b < w.heap.size) :
    Calls Try.prog 57 #[.agg #[.int .i64 x.f0, .int .i64 x.f1], .pointer (some ⟨b, 0, none⟩)] w fun e w' => e = .returned (.bool (decide (x.f1 ≥ a))) ∧ Below w.heap.size w w' := by
  have hu_ := Try.underlying60
  have hne : ¬ w.heap.size = b := by omega
  have hne2 : ¬ b = w.heap.size := by omega
  go_enter Try.func57, Try.ntmps57
  go_wp2_with fail
  go_ret
  exact ⟨rfl, by repeat (first | exact Below.refl _ _ | apply below_alloc | apply pw_below_drewN)⟩
def impl_CutMarks.f (k : Nat) (l0 : List S60) (a1 : Int) : Option (List S60 × Bool) := (impl_areMarks.f k l0).bind fun t => if t = true then ((impl_in.f a1 0 30).bind fun u => if u = true then (if l0.length ≤ 1048576 then some (l0.filter (fun x => !(decide (x.f1 ≥ a1))), true) else none) else some ([], false)) else some ([], false)
theorem impl_CutMarks.mono : ∀ a0 a1 k, LeO (impl_CutMarks.f k a0 a1) (impl_CutMarks.f (k + 1) a0 a1) := by
  intro a0 a1 k
  unfold impl_CutMarks.f
  exact LeO.bind (impl_areMarks.mono _ _) (fun _ => LeO.refl _)
set_option maxHeartbeats 8000000 in
set_option maxRecDepth 100000 in
theorem impl_CutMarks.calls (k : Nat) (A0 : Option Addr) (c0 : Nat) (l0 : List S60) (a1 : Int) (r1 : List S60) (r2 : Bool) (w : World) (hr0 : Kd.C k60 w A0 l0.length l0) (hc0 : l0.length ≤ c0) (h : impl_CutMarks.f k l0 a1 = some (r1, r2)) :
    Calls Try.prog 32 #[.slice A0 l0.length c0, .int .i64 a1] w fun e w' => ∃ v0_ : Value, e = .returned (.tuple #[v0_, .bool r2]) ∧ Kd.R k60 60 w' w.heap.size (fun _ => True) v0_ r1 ∧ Below w.heap.size w w' := by
  have HR := Aside0.mk hr0
  have HL := Aside0.mk hc0
  clear hr0 hc0
  unfold impl_CutMarks.f at h
  obtain ⟨t, h1, g1⟩ := Option.bind_eq_some_iff.1 h
  clear h
  have H1 := Aside0.mk h1
  clear h1
  cases t with
  | false =>
    rw [if_neg (by decide)] at g1
    obtain ⟨e1, e2⟩ := Prod.mk.inj (Option.some.inj g1)
    have E1 := Aside0.mk e1
    have E2 := Aside0.mk e2
    clear g1 e1 e2
    go_enter Try.func32, Try.ntmps32
    go_wp2_with fail
    refine (impl_areMarks.calls k _ _ _ false _ (Kd.C_below HR.out (below_alloc (Below.refl _ _) _)) HL.out H1.out).mono ?_
    rintro e w2 ⟨rfl, hb⟩
    have HB := Aside0.mk (below_step (below_alloc (Below.refl w.heap.size w) _) hb)
    clear hb
    go_wp2_with fail
    go_ret2
    obtain rfl := E1.out
    obtain rfl := E2.out
    exact ⟨_, rfl, Kd.R_nil _ _ _ _ _, HB.out⟩
  | true =>
    rw [if_pos rfl] at g1
    obtain ⟨u, h2, g2⟩ := Option.bind_eq_some_iff.1 g1
    clear g1
    have H2 := Aside0.mk h2
    clear h2
    cases u with
    | false =>
      rw [if_neg (by decide)] at g2
      obtain ⟨e1, e2⟩ := Prod.mk.inj (Option.some.inj g2)
      have E1 := Aside0.mk e1
      have E2 := Aside0.mk e2
      clear g2 e1 e2
      go_enter Try.func32, Try.ntmps32
      go_wp2_with fail
      refine (impl_areMarks.calls k _ _ _ true _ (Kd.C_below HR.out (below_alloc (Below.refl _ _) _)) HL.out H1.out).mono ?_
      rintro e w2 ⟨rfl, hb⟩
      have hx : w2.cell? ⟨w.heap.size, 0, none⟩ = some (.int .i64 a1) := ((hb).cell (p := ⟨w.heap.size, 0, none⟩) (by simp)).trans (by go_simp)
      have HB := Aside0.mk (below_step (below_alloc (Below.refl w.heap.size w) _) hb)
      clear hb
      go_wp2_with fail
      refine (impl_in.calls _ _ _ _ _ H2.out).mono ?_
      rintro e w3 ⟨rfl, ⟨n3, rfl⟩⟩
      go_wp2_with fail
      go_ret2
      obtain rfl := E1.out
      obtain rfl := E2.out
      exact ⟨_, rfl, Kd.R_nil _ _ _ _ _, pw_below_drewN HB.out _⟩
    | true =>
      rw [if_pos rfl] at g2
      by_cases hn : l0.length ≤ 1048576
      · rw [if_pos hn] at g2
        obtain ⟨e1, e2⟩ := Prod.mk.inj (Option.some.inj g2)
        have E1 := Aside0.mk e1
        have E2 := Aside0.mk e2
        clear g2 e1 e2
        go_enter Try.func32, Try.ntmps32
        go_wp2_with fail
        refine (impl_areMarks.calls k _ _ _ true _ (Kd.C_below HR.out (below_alloc (Below.refl _ _) _)) HL.out H1.out).mono ?_
        rintro e w2 ⟨rfl, hb⟩
        have hx : w2.cell? ⟨w.heap.size, 0, none⟩ = some (.int .i64 a1) := ((hb).cell (p := ⟨w.heap.size, 0, none⟩) (by simp)).trans (by go_simp)
        have HZ := Aside0.mk (show w.heap.size < w2.heap.size by have := (hb).size; simp at this; omega)
        have HB := Aside0.mk (below_step (below_alloc (Below.refl w.heap.size w) (.cells #[.int .i64 a1] 3)) hb)
        have HX := Aside0.mk hx
        clear hb
        go_wp2_with fail
        refine (impl_in.calls _ _ _ _ _ H2.out).mono ?_
        rintro e w3 ⟨rfl, ⟨n3, rfl⟩⟩
        clear hx
        have HC := Aside0.mk (Kd.C_below HR.out (pw_below_drewN HB.out n3))
        go_wp2_with (first | ((with_reducible refine gate_dst (N := 14) rfl ?_); refine Kd.R_lit k60 _ 60 ?hg (N := 14) ?hd (xs := ([] : List S60)) (inner := []) (ok := fun _ => True) (okp := fun _ => True) ?hr ?hp (fun _ hk => hk) trivial (Below.refl _ _) (Nat.le_refl _) (by simp) ?_; (case hd => rfl); (case hg => rfl); (case hr => first | (go_simp; done) | (go_simp; rfl)); (case hp => exact (Reps.none _ _)); intro v14 w11 ho12 hb hg_ hnew_; have HO11 := Aside0.mk ho12; have HB11 := Aside0.mk hb; clear ho12 hb hg_ hnew_) | ((with_reducible refine gate_builtin (b := .append) (xs := #[.tmp 14, .tmp 15]) rfl ?_); at_builtin; refine Kd.R_append_rows k60 (w0 := w) w.heap.size rfl (.tmp 14) (.tmp 15) 31 60 (.agg #[(.int .i64 0), (.int .i64 0)]) 16 rfl Try.underlying31 info60 rfl (by decide) (by omega) v14 [] l0 _ _ _ (fun _ => True) (fun _ => False) rfl rfl ?aO ?aR (fun _ _ h => h) (fun _ h => h.elim) ?aF ?aB ?aS ?aL ?_; (case aR => exact Kd.C_below HC.out HB11.out); (case aO => exact Kd.R_lower HO11.out (pw_below_drewN HB.out n3).size); (case aF => exact fun _ _ => trivial); (case aB => exact below_step (pw_below_drewN HB.out n3) HB11.out); (case aS => exact (below_step (pw_below_drewN HB.out n3) HB11.out).size); (case aL => simp only [List.length_nil]; omega); intro v16 w12 ho hb hg hat; have HO12 := Aside0.mk ho; have HB12 := Aside0.mk hb; have HG12 := Aside0.mk hg; have HAT := Aside0.mk hat; clear ho hb hg hat))
        obtain ⟨A16, c16, e16⟩ := Kd.R_slice HO12.out
        subst e16
        have h14 : ∀ k_, v14.ownBlock = some k_ → w.heap.size < k_ := fun k_ e_ => Nat.lt_of_lt_of_le HZ.out (Kd.R_base HO11.out k_ e_)
        have h16 : some w.heap.size ≠ (.slice A16 l0.length c16 : Value).ownBlock := fun e_ => by
          rcases HAT.out with h_ | ⟨b_, h_, h2_⟩
          · have := h14 _ (h_.symm.trans e_.symm)
            omega
          · have h3_ := Option.some.inj (e_.trans h_)
            have h4_ : w2.heap.size ≤ b_ := Nat.le_trans HB11.out.size h2_
            have := HZ.out
            omega
        have hx12 : w12.cell? ⟨w.heap.size, 0, none⟩ = some (.int .i64 a1) := cell_grown HG12.out ((HB11.out.cell (p := ⟨w.heap.size, 0, none⟩) HZ.out).trans HX.out) (fun e_ => absurd (h14 _ e_.symm) (Nat.lt_irrefl _))
        have HDEL := Aside0.mk (cutMarks_del (fun x => decide (x.f1 ≥ a1)) l0 A16 c16 57 #[.pointer (some ⟨w.heap.size, 0, none⟩)] (fun args w => by first | rfl | kernel_rfl) w w12 (fun _ => True) HB12.out HO12.out
          (fun W x hk => cutMarks_lit x a1 w.heap.size W (cell_kept hx12 hk (fun h_ => h16 h_)) (Nat.lt_of_lt_of_le (World.block_lt_of_cell? _ _ hx12) hk.1)))
        clear h14 h16 hx12 HO11 HB11 HG12 HAT
        go_wp2_with fail
        refine HDEL.out.mono ?_
        clear HDEL
        rintro e w4 ⟨rfl, ho4, hb4, _⟩
        have HO4 := Aside0.mk ho4
        have HB4 := Aside0.mk hb4
        clear ho4 hb4
        go_wp2_with fail
        go_ret2
        obtain rfl := E1.out
        obtain rfl := E2.out
        exact ⟨_, rfl, HO4.out, HB4.out⟩
      · rw [if_neg hn] at g2
        cases g2



end Go.Proofs.Ytopddfiiglookaa.QFnExactCutMarks
