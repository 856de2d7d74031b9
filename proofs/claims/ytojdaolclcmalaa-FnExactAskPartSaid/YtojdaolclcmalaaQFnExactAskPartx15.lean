/- Functions that one statement reaches: of each a plain function, and the proof that calls come to it. Conditions: those that each contract names. Written by a program of this repository. -/
import Derived.Test.YtojdaolclcmalaaVAskParta
import Derived.Test.YtojdaolclcmalaaQFnExactAskPartx1
import Derived.Test.YtojdaolclcmalaaQFnExactAskPartx14
namespace Go.Proofs.Ytojdaolclcmalaa.QFnExactAskPart
open Go.RowKit Go.Proofs.YtojdaolclcmalaaW.PrintWords Go.Proofs.YtojdaolclcmalaaW.PrintLast Go.Proofs.YtojdaolclcmalaaW.PrintMore
attribute [local go_sem] max2_int min2_int max_two min_two max_three min_three max_four min_four Go.Proofs.YtojdaolclcmalaaW.PrintMore2.isSome_setCell   -- for this text's walks alone
set_option linter.unusedVariables false
set_option linter.unusedSimpArgs false

/-! ### impl_areRecords: function 64 -/
/-- The first place, from i on, of d places, where q holds. -/
def ixS (q : Nat → Bool) : Nat → Nat → Int
 | _, 0 => -1
 | i, d + 1 => if q i = true then (i : Int) else ixS q (i + 1) d
theorem areRecords_lit (s : ByteArray) (w : World) : Calls Try.prog 87 #[.string s] w fun e w' => e = .returned (.bool (decide ((20 : Int) < (s.size : Int)))) ∧ w = w' := by
 go_enter Try.func87, Try.ntmps87
 go_wp2
 go_ret
 exact ⟨rfl, rfl⟩
set_option maxHeartbeats 8000000 in
set_option maxRecDepth 100000 in
theorem areRecords_idx (q : Nat → Bool) (l : List ByteArray) (A : Option Addr) (c : Nat) (g : Nat) (lb : Array Value) (eg : ∀ args w, (callFunc g args).run Try.prog w = .ok (.enter g args) w) (w : World)
  (hr : Kd.C Kd.string w A l.length l)
  (hp : ∀ (W : World) (i : Nat), Drawn0 w W → i < l.length → Calls Try.prog g (#[.string (rdOf ByteArray.empty l (i : Int))] ++ lb) W fun e w' => e = .returned (.bool (q i)) ∧ Drawn0 w w') :
  Calls Try.prog 95 #[.slice A l.length c, .func (.func g) #[] lb] w fun e w' => e = .returned (.int .i64 (ixS q 0 l.length)) ∧ Drawn0 w w' := by
 have hbig : l.length ≤ 9223372036854775807 := hr.2.1
 have HR := am_ hr
 have HP := am_ hp
 clear hr hp
 go_enter Try.func95, Try.ntmps95
 go_wp2
 go_loopg [5, 8] l.length (fun gg _ s8 wr => ∃ kk : Nat, kk ≤ l.length ∧ l.length - kk ≤ gg ∧ s8 = .int .i64 kk ∧ Aside (Drawn0 w wr) ∧ Aside (ixS q 0 l.length = ixS q kk (l.length - kk)))
 case atStart => exact ⟨0, Nat.zero_le _, by omega, rfl, Drawn0.refl w, rfl⟩
 case round =>
  obtain ⟨kk, hkk, hg, rfl, BW, AA⟩ := hrel
  by_cases hlt : kk < l.length
  ·have hltz : (kk : Int) < (l.length : Int) := by omega
   obtain ⟨ad, rfl, hcell⟩ := Kd.at_string (Kd.C_below HR.out BW.out.below) (kk : Int) (by omega) hltz
   have hcall := HP.out wr kk BW.out hlt
   generalize rdOf ByteArray.empty l (kk : Int) = y at hcell hcall
   rw [Int.toNat_natCast] at hcell
   have e1 : ixS q kk (l.length - kk) = if q kk = true then (kk : Int) else ixS q (kk + 1) (l.length - (kk + 1)) := by
    rw [show l.length - kk = (l.length - (kk + 1)) + 1 by omega]
    rfl
   have E1 := am_ e1
   clear e1
   have HC := am_ hcall
   clear hcall
   cases hq : q kk with
   | true =>
    have HQ := am_ hq
    clear hq
    go_wp2_with fail
    refine HC.out.mono ?_
    rw [HQ.out]
    clear HC
    rintro e w2 ⟨rfl, aA⟩
    have bA := am_ aA
    clear aA
    go_wp2_with fail
    go_ret
    refine ⟨?_, bA.out⟩
    rw [AA.out, E1.out, if_pos HQ.out]
    rfl
   | false =>
    have HQ := am_ hq
    clear hq
    go_wp2_with fail
    refine HC.out.mono ?_
    rw [HQ.out]
    clear HC
    rintro e w2 ⟨rfl, aA⟩
    have bA := am_ aA
    clear aA
    go_wp2_with fail
    go_roundg (l.length - (kk + 1))
    case measure => omega
    case rel => exact ⟨kk + 1, by omega, by omega, by go_num, bA.out, (show Aside _ from by rw [AA.out, E1.out, if_neg (by rw [HQ.out]; decide)]; exact rfl)⟩
  ·have hltz : ¬ (kk : Int) < (l.length : Int) := by omega
   have hkl : kk = l.length := by omega
   subst hkl
   go_wp2
   go_ret
   refine ⟨?_, BW.out⟩
   rw [AA.out, Nat.sub_self]
   rfl
set_option maxHeartbeats 8000000 in
set_option maxRecDepth 100000 in
theorem areRecords_cont (q : Nat → Bool) (l : List ByteArray) (A : Option Addr) (c : Nat) (g : Nat) (lb : Array Value) (eg : ∀ args w, (callFunc g args).run Try.prog w = .ok (.enter g args) w) (w : World)
  (hr : Kd.C Kd.string w A l.length l)
  (hp : ∀ (W : World) (i : Nat), Drawn0 w W → i < l.length → Calls Try.prog g (#[.string (rdOf ByteArray.empty l (i : Int))] ++ lb) W fun e w' => e = .returned (.bool (q i)) ∧ Drawn0 w w') :
  Calls Try.prog 86 #[.slice A l.length c, .func (.func g) #[] lb] w fun e w' => e = .returned (.bool (decide (0 ≤ ixS q 0 l.length))) ∧ Drawn0 w w' := by
 have HC := am_ (areRecords_idx q l A c g lb eg w hr hp)
 clear hr hp
 go_enter Try.func86, Try.ntmps86
 go_wp2_with fail
 refine HC.out.mono ?_
 clear HC
 rintro e w2 ⟨rfl, aA⟩
 have bA := am_ aA
 clear aA
 go_wp2_with fail
 go_ret
 exact ⟨rfl, bA.out⟩
def impl_areRecords.q (l : List ByteArray) (i : Nat) : Bool := decide ((20 : Int) < ((rdOf ByteArray.empty l (i : Int)).size : Int))
def impl_areRecords.f (l0 : List ByteArray) : Option (Bool) := (impl_in.f (l0.length : Int) 1 8).bind fun t => if t = true then some (!(decide (0 ≤ ixS (impl_areRecords.q l0) 0 l0.length))) else some false
set_option maxHeartbeats 8000000 in
set_option maxRecDepth 100000 in
theorem impl_areRecords.calls (A0 : Option Addr) (c0 : Nat) (l0 : List ByteArray) (r : Bool) (w : World) (hr0 : Kd.C Kd.string w A0 l0.length l0) (_hc0 : l0.length ≤ c0) (h : impl_areRecords.f l0 = some r) :
  Calls Try.prog 64 #[.slice A0 l0.length c0] w fun e w' => e = .returned (.bool r) ∧ Drawn0 w w' := by
 have HR := am_ hr0
 clear hr0
 unfold impl_areRecords.f at h
 obtain ⟨t, h1, h2⟩ := Option.bind_eq_some_iff.1 h
 have H1 := am_ h1
 clear h h1
 cases t with
 | true =>
  rw [if_pos rfl] at h2
  have H2 := am_ (Option.some.inj h2)
  clear h2
  go_enter Try.func64, Try.ntmps64
  go_wp2_with fail
  refine (impl_in.calls _ _ _ _ _ H1.out).mono ?_
  rintro e w1 ⟨rfl, hd1⟩
  have aA := am_ hd1
  clear hd1
  go_wp2_with fail
  refine (areRecords_cont (impl_areRecords.q l0) l0 A0 c0 87 #[] (fun args w => by first | rfl | kernel_rfl) w1 (Kd.C_below HR.out aA.out.below) (fun W i hd hi => (areRecords_lit _ W).mono fun e w' he => ⟨he.1, he.2 ▸ hd⟩)).mono ?_
  rintro e w2 ⟨rfl, hd2⟩
  have bA := am_ hd2
  clear hd2
  go_wp2_with fail
  go_ret
  refine ⟨by rw [H2.out]; rfl, ?_⟩
  obtain ⟨n2, e2⟩ := bA.out.out
  rw [e2]
  exact aA.out.step n2
 | false =>
  rw [if_neg (by decide)] at h2
  have H2 := am_ (Option.some.inj h2)
  clear h2
  go_enter Try.func64, Try.ntmps64
  go_wp2_with fail
  refine (impl_in.calls _ _ _ _ _ H1.out).mono ?_
  rintro e w1 ⟨rfl, hd1⟩
  have aA := am_ hd1
  clear hd1
  go_wp2_with fail
  go_ret
  exact ⟨by rw [H2.out]; rfl, aA.out⟩



/-! ### impl_isBatch: function 88 -/
def impl_isBatch.f (a0_0 : Int) (a0_1 : Int) (a0_2 : Int) (a0_3 : Int) (l0_4 : List ByteArray) : Option (Bool) := (impl_in.f a0_0 0 100000).bind fun t345 => (if t345 = true then ((impl_in.f a0_1 0 1000).bind fun t346 => (if t346 = true then ((impl_in.f a0_2 0 65535).bind fun t347 => (if t347 = true then ((impl_in.f a0_3 0 65535).bind fun t348 => (if t348 = true then ((impl_areRecords.f l0_4).bind fun t349 => (some t349)) else (some false))) else (some false))) else (some false))) else (some false))
set_option maxHeartbeats 8000000 in
set_option maxRecDepth 100000 in
theorem impl_isBatch.calls (a0_0 : Int) (a0_1 : Int) (a0_2 : Int) (a0_3 : Int) (A0_4 : Option Addr) (c0_4 : Nat) (l0_4 : List ByteArray) (r : Bool) (w : World) (hr0_4 : Kd.C Kd.string w A0_4 l0_4.length l0_4) (hc0_4 : l0_4.length ≤ c0_4) (h : impl_isBatch.f a0_0 a0_1 a0_2 a0_3 l0_4 = some r) :
  Calls Try.prog 88 #[.agg #[.int .i64 a0_0, .int .i64 a0_1, .int .i64 a0_2, .int .i64 a0_3, .slice A0_4 l0_4.length c0_4]] w fun e w' => e = .returned (.bool r) ∧ Below w.heap.size w w' := by
 have hu78 := Try.underlying78
 have eA := am_ hr0_4
 have fA := am_ hc0_4
 clear hr0_4 hc0_4
 have HB := am_ (Below.refl w.heap.size w)
 have H : ((impl_in.f a0_0 0 100000).bind fun gA => (if gA = true then ((impl_in.f a0_1 0 1000).bind fun hA => (if hA = true then ((impl_in.f a0_2 0 65535).bind fun iA => (if iA = true then ((impl_in.f a0_3 0 65535).bind fun jA => (if jA = true then ((impl_areRecords.f l0_4).bind fun dA => (some dA)) else (some false))) else (some false))) else (some false))) else (some false))) = some r := h
 clear h
 replace H := bnd_ H
 obtain ⟨gA, A2, H⟩ := H
 replace H := ifb_ H
 obtain ⟨rfl, H⟩ | ⟨rfl, H⟩ := H
 rotate_left
 ·obtain rfl := Option.some.inj H
  go_enter Try.func88, Try.ntmps88
  go_wp2_with (first | ((with_reducible refine gate_dst (N := 1) rfl ?_); refine bq_ (N := 1) #[.int .i64 a0_0, .int .i64 a0_1, .int .i64 a0_2, .int .i64 a0_3, .slice A0_4 l0_4.length c0_4] 78 ?_; intro cA hg kC bA hb; have aA := ge_ hg; replace HB := nb_ hb; clear hb hg; obtain ⟨kA, lA, mA, nA, oA, pA, qA, rA, sA, tA⟩ := cf5_ bA.out) | ((with_reducible refine gate_callee (f := 63) rfl ?_); refine gl_ 5 Try.func63 #[.int .i64 a0_0, .int .i64 0, .int .i64 100000] rfl ma_ ?_; (with_reducible refine (impl_in.calls a0_0 0 100000 false _ A2.out).mono ?_); rintro e w' ⟨rfl, ⟨nd, rfl⟩⟩; refine ⟨_, rfl, ?_⟩))
  go_ret
  exact ⟨er_, hs_ aA.out⟩
 replace H := bnd_ H
 obtain ⟨hA, A4, H⟩ := H
 replace H := ifb_ H
 obtain ⟨rfl, H⟩ | ⟨rfl, H⟩ := H
 rotate_left
 ·obtain rfl := Option.some.inj H
  go_enter Try.func88, Try.ntmps88
  go_wp2_with (first | ((with_reducible refine gate_dst (N := 1) rfl ?_); refine bq_ (N := 1) #[.int .i64 a0_0, .int .i64 a0_1, .int .i64 a0_2, .int .i64 a0_3, .slice A0_4 l0_4.length c0_4] 78 ?_; intro cA hg lC bA hb; have aA := ge_ hg; replace HB := nb_ hb; clear hb hg; obtain ⟨uA, vA, wA, xA, yA, zA, bB, cB, dB, eB⟩ := cf5_ bA.out) | ((with_reducible refine gate_callee (f := 63) rfl ?_); refine gl_ 5 Try.func63 #[.int .i64 a0_0, .int .i64 0, .int .i64 100000] rfl ma_ ?_; (with_reducible refine (impl_in.calls a0_0 0 100000 true _ A2.out).mono ?_); rintro e w' ⟨rfl, ⟨nd, rfl⟩⟩; refine ⟨_, rfl, ?_⟩) | (go_at_call 63; (with_reducible refine (impl_in.calls a0_1 0 1000 false _ A4.out).mono ?_); rintro e w' ⟨rfl, ⟨nd, rfl⟩⟩))
  go_ret
  exact ⟨er_, hs_ aA.out⟩
 replace H := bnd_ H
 obtain ⟨iA, A6, H⟩ := H
 replace H := ifb_ H
 obtain ⟨rfl, H⟩ | ⟨rfl, H⟩ := H
 rotate_left
 ·obtain rfl := Option.some.inj H
  go_enter Try.func88, Try.ntmps88
  go_wp2_with (first | ((with_reducible refine gate_dst (N := 1) rfl ?_); refine bq_ (N := 1) #[.int .i64 a0_0, .int .i64 a0_1, .int .i64 a0_2, .int .i64 a0_3, .slice A0_4 l0_4.length c0_4] 78 ?_; intro cA hg mC bA hb; have aA := ge_ hg; replace HB := nb_ hb; clear hb hg; obtain ⟨fB, gB, hB, iB, jB, kB, lB, mB, nB, oB⟩ := cf5_ bA.out) | ((with_reducible refine gate_callee (f := 63) rfl ?_); refine gl_ 5 Try.func63 #[.int .i64 a0_0, .int .i64 0, .int .i64 100000] rfl ma_ ?_; (with_reducible refine (impl_in.calls a0_0 0 100000 true _ A2.out).mono ?_); rintro e w' ⟨rfl, ⟨nd, rfl⟩⟩; refine ⟨_, rfl, ?_⟩) | (go_at_call 63; (with_reducible refine (impl_in.calls a0_1 0 1000 true _ A4.out).mono ?_); rintro e w' ⟨rfl, ⟨nd, rfl⟩⟩) | (go_at_call 63; (with_reducible refine (impl_in.calls a0_2 0 65535 false _ A6.out).mono ?_); rintro e w' ⟨rfl, ⟨nd, rfl⟩⟩))
  go_ret
  exact ⟨er_, hs_ aA.out⟩
 replace H := bnd_ H
 obtain ⟨jA, A8, H⟩ := H
 replace H := ifb_ H
 obtain ⟨rfl, H⟩ | ⟨rfl, H⟩ := H
 rotate_left
 ·obtain rfl := Option.some.inj H
  go_enter Try.func88, Try.ntmps88
  go_wp2_with (first | ((with_reducible refine gate_dst (N := 1) rfl ?_); refine bq_ (N := 1) #[.int .i64 a0_0, .int .i64 a0_1, .int .i64 a0_2, .int .i64 a0_3, .slice A0_4 l0_4.length c0_4] 78 ?_; intro cA hg nC bA hb; have aA := ge_ hg; replace HB := nb_ hb; clear hb hg; obtain ⟨pB, qB, rB, sB, tB, uB, vB, wB, xB, yB⟩ := cf5_ bA.out) | ((with_reducible refine gate_callee (f := 63) rfl ?_); refine gl_ 5 Try.func63 #[.int .i64 a0_0, .int .i64 0, .int .i64 100000] rfl ma_ ?_; (with_reducible refine (impl_in.calls a0_0 0 100000 true _ A2.out).mono ?_); rintro e w' ⟨rfl, ⟨nd, rfl⟩⟩; refine ⟨_, rfl, ?_⟩) | (go_at_call 63; (with_reducible refine (impl_in.calls a0_1 0 1000 true _ A4.out).mono ?_); rintro e w' ⟨rfl, ⟨nd, rfl⟩⟩) | (go_at_call 63; (with_reducible refine (impl_in.calls a0_2 0 65535 true _ A6.out).mono ?_); rintro e w' ⟨rfl, ⟨nd, rfl⟩⟩) | (go_at_call 63; (with_reducible refine (impl_in.calls a0_3 0 65535 false _ A8.out).mono ?_); rintro e w' ⟨rfl, ⟨nd, rfl⟩⟩))
  go_ret
  exact ⟨er_, hs_ aA.out⟩
 replace H := bnd_ H
 obtain ⟨dA, jC, H⟩ := H
 obtain rfl := Option.some.inj H
 go_enter Try.func88, Try.ntmps88
 go_wp2_with (first | ((with_reducible refine gate_dst (N := 1) rfl ?_); refine bq_ (N := 1) #[.int .i64 a0_0, .int .i64 a0_1, .int .i64 a0_2, .int .i64 a0_3, .slice A0_4 l0_4.length c0_4] 78 ?_; intro cA hg oC bA hb; have aA := ge_ hg; replace HB := nb_ hb; clear hb hg; obtain ⟨zB, aC, bC, cC, dC, eC, fC, gC, hC, iC⟩ := cf5_ bA.out) | ((with_reducible refine gate_callee (f := 63) rfl ?_); refine gl_ 5 Try.func63 #[.int .i64 a0_0, .int .i64 0, .int .i64 100000] rfl ma_ ?_; (with_reducible refine (impl_in.calls a0_0 0 100000 true _ A2.out).mono ?_); rintro e w' ⟨rfl, ⟨nd, rfl⟩⟩; refine ⟨_, rfl, ?_⟩) | (go_at_call 63; (with_reducible refine (impl_in.calls a0_1 0 1000 true _ A4.out).mono ?_); rintro e w' ⟨rfl, ⟨nd, rfl⟩⟩) | (go_at_call 63; (with_reducible refine (impl_in.calls a0_2 0 65535 true _ A6.out).mono ?_); rintro e w' ⟨rfl, ⟨nd, rfl⟩⟩) | (go_at_call 63; (with_reducible refine (impl_in.calls a0_3 0 65535 true _ A8.out).mono ?_); rintro e w' ⟨rfl, ⟨nd, rfl⟩⟩) | (go_at_call 64; (with_reducible refine (impl_areRecords.calls _ _ l0_4 dA _ ?side1 ?side2 jC.out).mono ?_); (case side1 => exact cs_ ((Kd.C_below eA.out (hs_ aA.out)))); (case side2 => exact fA.out); rintro e w' ⟨rfl, ⟨nd, rfl⟩⟩))
 go_ret
 exact ⟨er_, hs_ aA.out⟩

-- NOT PRINTED: function 96 (slices_overlaps_Producer)

-- NOT PRINTED: function 101 (slices_Reverse_Producer)

-- NOT PRINTED: function 100 (slices_rotateLeft_Producer)

-- NOT PRINTED: function 97 (slices_rotateRight_Producer)

/-! ### slices_Insert_Producer: function 89 -/
/-! #### copy and append-of-make by an equation of their run; rows of four cells -/
theorem ins_copy (w : World) (dT sT ty elem : TypeId) (sz g o dLen dCap : Nat) (a : Addr) (sLen sCap : Nat) (cur : Array Value) (t : TypeId) (cs : List Value)
  (hu : Try.prog.underlying dT = some (.slice elem)) (hs : (Try.prog.info? elem).map (·.size) = some sz)
  (hg : w.heap[g]? = some (.cells cur t (0, 0))) (hn : cs.length = Nat.min sLen dLen * sz)
  (hsrc : ∀ j v, cs[j]? = some v → w.cell? (a.add j) = some v) (hfit : o + cs.length ≤ cur.size) (h1 : ∀ v ∈ cs, v.oneCell' = true) :
  (Builtin.copy_ #[dT, sT] ty #[.slice (some ⟨g, o, none⟩) dLen dCap, .slice (some a) sLen sCap]).run Try.prog w =
   .ok (goInt (Nat.min sLen dLen)) (w.setRow g (cur.toList.take o ++ cs ++ cur.toList.drop (o + cs.length)).toArray) := by
 have hl := run_firstCells_some (P := Try.prog) w sz (Nat.min sLen dLen) a sLen sCap cs hn hsrc
 have hst := run_storeCells_at Try.prog g o t cs 0 cur w hg (by simpa using hfit) h1
 cases hq : Try.prog.info? elem with
 | none => simp [hq] at hs
 | some i =>
  have hi : i.size = sz := by simpa [hq] using hs
  simp [Builtin.copy_, run_underlying hu, Builtin.lenOf, sizeOf, typeInfo, hq, hi, hl, hst]
theorem ins_wp (w : World) {ops : Array Oper} {rest : List Oper} {o : Oper} {a : Act} {Q : Exit → Act → World → Prop} (hgd : o.guard = none) (d s : Operand) (t t' : TypeId)
  (ho : o.op = .call { callee := .builtin .copy, args := #[d, s], argTypes := #[t, t'] }) (v u : Value) (hd : a.eval d = v) (hs : a.eval s = u) {v' : Value} {w' : World}
  (hr : (Builtin.copy_ #[t, t'] o.type #[v, u]).run Try.prog w = .ok v' w') (h : wpList Try.prog ops Q rest (a.put o.dst v') w') : wpList Try.prog ops Q (o :: rest) a w :=
 wpList_plain hgd fun _ hK => by
  unfold Oper.wp execOp
  simp only [ho, resolve, invoke, builtin, Sem.run_bind, Sem.run_pure, Result.andThen_ok, List.map_toArray, List.map_cons, List.map_nil, hd, hs, hr]
  exact hK _ _ h
theorem ins_step {ops : Array Oper} {o : Oper} {a : Act} {w : World} {K : Act → World → Prop} {Q : Exit → Act → World → Prop} {E : Prop}
  (hw : Region.wanted o (yielded ops a.tmps) = true) (d x : Operand) (dT sT : TypeId) (hop : o.op = Op.call { callee := Callee.builtin Builtin.copy, args := #[d, x], argTypes := #[dT, sT] })
  (v u : Value) (hd : a.eval d = v) (hx : a.eval x = u) {v' : Value} {w' : World} (hr : (Builtin.copy_ #[dT, sT] o.type #[v, u]).run Try.prog w = .ok v' w') (hK : K (a.put o.dst v') w') :
  if Region.wanted o (yielded ops a.tmps) = true then Oper.wp Try.prog o a w K Q else E := by
 rw [if_pos hw]
 unfold Oper.wp execOp
 simp only [hop, resolve, invoke, builtin, Sem.run_bind, Sem.run_pure, Result.andThen_ok, List.map_toArray, List.map_cons, List.map_nil, hd, hx, hr]
 exact hK
/-! #### the lists' side -/
theorem ins_seg {α : Type} (a b c : List α) (p q : List α) (hp : p.length = a.length) (hb : b.length = q.length) : (a ++ b ++ c).take a.length ++ q ++ (a ++ b ++ c).drop (a.length + q.length) = a ++ q ++ c := by
 rw [List.append_assoc a b c, List.take_left, ← hb, ← List.drop_drop, List.drop_left, List.drop_left]
set_option maxHeartbeats 8000000 in
set_option maxRecDepth 100000 in
/-- slices.Insert of one element x, told by the row's cells. -/
theorem slices_Insert_Producer.calls (base : Nat) (v : Value) (n : Nat) (inner : List Value) (i : Nat) (hi : i ≤ n) (vb : Nat) (x : List Value) (w : World) (hown : w.ownsRow base 81 4 v n inner) (h1 : ∀ u ∈ inner, u.oneCell' = true)
  (hvb : w.heap[vb]? = some (.cells x.toArray 81 (0, 0))) (hx : x.length = 4) (hx1 : ∀ u ∈ x, u.oneCell' = true) (hne : some vb ≠ v.ownBlock) (hbase : base ≤ w.heap.size) (hn : (n + 1) * 48 ≤ 140737488355328) :
  Calls Try.prog 89 #[v, .int .i64 i, .slice (some ⟨vb, 0, none⟩) 1 1] w fun e w' => ∃ v', e = .returned v' ∧ w'.ownsRow base 81 4 v' (n + 1) (inner.take (i * 4) ++ x ++ inner.drop (i * 4)) ∧ w.grownBy w' v.ownBlock ∧ (v'.ownBlock = v.ownBlock ∨ v'.ownBlock = some w.heap.size) := by
 obtain ⟨i0, bA, hzz⟩ := Option.map_eq_some_iff.1 info81
 simp only [Prod.mk.injEq] at hzz
 obtain ⟨hz0, hz1, hz2⟩ := hzz
 have hu30 := Try.underlying30
 have hsz : (Try.prog.info? 81).map (·.size) = some 4 := by rw [bA]; simp [hz1]
 have hil : inner.length = n * 4 := hown.1
 have hvc : ∀ j u, x[j]? = some u → w.cell? ((⟨vb, 0, none⟩ : Addr).add j) = some u := fun j u hu => World.news_of_block hvb j u (by simpa using hu)
 have hvlt : vb < w.heap.size := (Array.getElem?_eq_some_iff.1 hvb).1
 by_cases hin : i = n
 ·subst hin
  have hfin : inner.take (i * 4) ++ x ++ inner.drop (i * 4) = inner ++ x := by
   rw [← hil, List.take_length, List.drop_length, List.append_nil]
  rw [hfin]
  have hz2' : ((i : Int) == (i : Int)) = true := beq_self_eq_true _
  obtain ⟨A, c, rfl⟩ : ∃ A c, v = .slice A i c := by
   rcases hown.2 with ⟨rfl, h0⟩ | ⟨g, cap, cur, rfl, _⟩
   ·exact ⟨_, _, by rw [h0]⟩
   ·exact ⟨_, _, rfl⟩
  have hcc : i ≤ c := by
   rcases hown.2 with ⟨h0, h00⟩ | ⟨g, cap, cur, h0, _, _, h3, _⟩
   ·omega
   ·injection h0 with _ _ h0
    omega
  have hc63 : c ≤ 9223372036854775807 := by
   rcases hown.2 with ⟨h0, h00⟩ | ⟨g, cap, cur, h0, _, _, h3, h4, _⟩
   ·injection h0 with _ _ h0
    omega
   ·injection h0 with _ _ h0
    unfold maxLen at h4
    omega
  have HO := am_ hown
  have HV := am_ hvc
  have HX := am_ hx1
  clear hown hvc hvb h1 hx1
  rcases Classical.em (c = i) with hci | hci
  all_goals
   go_enter Try.func89, Try.ntmps89
   go_wp2_with (first | (at_builtin; refine wpList_append_own_at (P := Try.prog) w rfl (.tmp 23) (.tmp 24) 30 rfl base 81 i0 _ 4 48 hu30 bA hz0 hz1 hz2 rfl (by omega) (.slice A i c) i inner rfl HO.out ⟨vb, 0, none⟩ 1 1 x rfl (by rw [hx]) HV.out HX.out (by unfold maxLen; omega) (by omega) hbase ?_; intro v1 w1 aA hg1 hnil1 hat1; have R1 := am_ aA; have R2 := am_ hg1; have R3 := am_ hat1; clear aA hg1 hnil1 hat1))
   go_ret
   exact ⟨_, rfl, R1.out, R2.out, R3.out⟩
 ·have hlt : i < n := by omega
  obtain ⟨g, cap, cur, rfl, hbg, hg, hnc, hcm, hcs, htk⟩ : ∃ g cap cur, v = .slice (some ⟨g, 0, none⟩) n cap ∧ base ≤ g ∧ w.heap[g]? = some (.cells cur 81 (0, 0)) ∧ n ≤ cap ∧ cap ≤ maxLen ∧ cur.size = cap * 4 ∧ cur.toList.take (n * 4) = inner := by
   rcases hown.2 with ⟨_, h0⟩ | h
   ·omega
   ·exact h
  have hne' : vb ≠ g := fun e => hne (by rw [e]; rfl)
  have hglt : g < w.heap.size := (Array.getElem?_eq_some_iff.1 hg).1
  have hc63 : cap ≤ 9223372036854775807 := by unfold maxLen at hcm; omega
  have hcl : cur.toList.length = cap * 4 := by rw [Array.length_toList, hcs]
  have hsplit : cur.toList = inner.take (i * 4) ++ inner.drop (i * 4) ++ cur.toList.drop (n * 4) := by rw [List.take_append_drop, ← htk, List.take_append_drop]
  have ha : (inner.take (i * 4)).length = i * 4 := by rw [List.length_take]; omega
  have hb : (inner.drop (i * 4)).length = (n - i) * 4 := by rw [List.length_drop]; omega
  have hsrc : ∀ (W : World), W.heap[g]? = some (.cells cur 81 (0, 0)) → ∀ j u, (inner.drop (i * 4))[j]? = some u → W.cell? ((⟨g, i * 4, none⟩ : Addr).add j) = some u := fun W hW j u hu => by
   rw [List.getElem?_drop] at hu
   rw [Addr.add_lit]
   have h3 := World.news_of_block hW (i * 4 + j) u (by
    rw [← htk, List.getElem?_take] at hu
    split at hu
    ·exact hu
    ·cases hu)
   rwa [Addr.add_lit, Nat.zero_add] at h3
  have hz2' : ((i : Int) == (n : Int)) = false := beq_eq_false_iff_ne.2 (by omega)
  have fA : IntKind.i64.wrap ((i : Int) + 1) = (i : Int) + 1 := by rw [IntKind.wrap_i64]; omega
  have gA : IntKind.i64.wrap ((n : Int) + 1) = (n : Int) + 1 := by rw [IntKind.wrap_i64]; omega
  have hA : IntKind.i64.wrap ((n : Int) + 1 - (i : Int)) = (n : Int) + 1 - (i : Int) := by rw [IntKind.wrap_i64]; omega
  have htn : ((i : Int) + 1).toNat = i + 1 := by omega
  have htn2 : ((n : Int) + 1).toNat = n + 1 := by omega
  have hci : ¬ (cap = i) := by omega
  by_cases hroom : n + 1 ≤ cap
  ·have hd1 : decide ((cap : Int) < (n : Int) + 1) = false := decide_eq_false (by omega)
   have cA : (0 : Int) ≤ (i : Int) + 1 := by omega
   have hci2 : ¬ (cap = i + 1) := by omega
   have dA : (i : Int) ≤ (n : Int) + 1 := by omega
   have eA : i ≤ n + 1 := by omega
   obtain ⟨cur1, hcur1⟩ : ∃ c_, c_ = (cur.toList.take ((i + 1) * 4) ++ inner.drop (i * 4) ++ cur.toList.drop ((i + 1) * 4 + (inner.drop (i * 4)).length)).toArray := ⟨_, rfl⟩
   obtain ⟨cur2, hcur2⟩ : ∃ c_, c_ = (cur1.toList.take (i * 4) ++ x ++ cur1.toList.drop (i * 4 + x.length)).toArray := ⟨_, rfl⟩
   have hc1s : cur1.size = cap * 4 := by
    rw [hcur1]
    simp only [List.size_toArray, List.length_append, List.length_take, List.length_drop, hcl, hil]
    omega
   have hc2s : cur2.size = cap * 4 := by
    rw [hcur2]
    simp only [List.size_toArray, List.length_append, List.length_take, List.length_drop, Array.length_toList, hc1s, hx]
    omega
   have htake1 : cur.toList.take ((i + 1) * 4) = inner.take (i * 4) ++ (inner.drop (i * 4)).take 4 := by
    have e1 : cur.toList.take ((i + 1) * 4) = inner.take ((i + 1) * 4) := by rw [← htk, List.take_take, Nat.min_eq_left (by omega)]
    rw [e1, show (i + 1) * 4 = i * 4 + 4 by omega, List.take_add]
   have hfin : cur2.toList.take ((n + 1) * 4) = inner.take (i * 4) ++ x ++ inner.drop (i * 4) := by
    rw [hcur2, hcur1, htake1]
    simp only [List.append_assoc]
    have hy : ((inner.drop (i * 4)).take 4).length = x.length := by rw [List.length_take, hb, hx]; omega
    have h3 := ins_seg (inner.take (i * 4)) ((inner.drop (i * 4)).take 4) (inner.drop (i * 4) ++ cur.toList.drop ((i + 1) * 4 + (inner.drop (i * 4)).length)) (inner.take (i * 4)) x rfl hy
    rw [ha] at h3
    simp only [List.append_assoc] at h3
    rw [h3, ← List.append_assoc, ← List.append_assoc, show (n + 1) * 4 = (inner.take (i * 4) ++ x ++ inner.drop (i * 4)).length by simp only [List.length_append, ha, hb, hx]; omega, List.take_left]
    simp only [List.append_assoc]
   have hcp1 : ∀ (W : World), W.heap[g]? = some (.cells cur 81 (0, 0)) → ∀ ty, (Builtin.copy_ #[30, 30] ty #[.slice (some ⟨g, (i + 1) * 4, none⟩) (n + 1 - (i + 1)) (cap - (i + 1)), .slice (some ⟨g, i * 4, none⟩) (n + 1 - i) (cap - i)]).run Try.prog W = .ok (goInt (Nat.min (n + 1 - i) (n + 1 - (i + 1)))) (W.setRow g cur1) := fun W hW ty => by
    rw [hcur1]
    exact ins_copy W 30 30 ty 81 4 g ((i + 1) * 4) (n + 1 - (i + 1)) (cap - (i + 1)) ⟨g, i * 4, none⟩ (n + 1 - i) (cap - i) cur 81 (inner.drop (i * 4)) hu30 hsz hW (by rw [hb]; congr 1; simp only [Nat.min_def]; split <;> omega) (hsrc W hW) (by rw [hb, hcs]; omega) (fun u hu => h1 u (List.mem_of_mem_drop hu))
   have hcp2 : ∀ (W : World), W.heap[g]? = some (.cells cur1 81 (0, 0)) → W.heap[vb]? = some (.cells x.toArray 81 (0, 0)) → ∀ ty, (Builtin.copy_ #[30, 30] ty #[.slice (some ⟨g, i * 4, none⟩) (n + 1 - i) (cap - i), .slice (some ⟨vb, 0, none⟩) 1 1]).run Try.prog W = .ok (goInt (Nat.min 1 (n + 1 - i))) (W.setRow g cur2) := fun W hW hV ty => by
    rw [hcur2]
    exact ins_copy W 30 30 ty 81 4 g (i * 4) (n + 1 - i) (cap - i) ⟨vb, 0, none⟩ 1 1 cur1 81 x hu30 hsz hW (by rw [hx]; simp only [Nat.min_def]; split <;> omega) (fun j u hu => World.news_of_block hV j u (by simpa using hu)) (by rw [hx, hc1s]; omega) hx1
   have hov : ∀ off lb cb, (callFunc 96 #[.slice (some ⟨vb, 0, none⟩) 1 1, .slice (some ⟨g, off, none⟩) lb cb]).run Try.prog w = .ok (.value (.bool false)) w := fun off lb cb => by
    rw [run_callFunc_extern Try.func96 (by kernel_rfl) (by kernel_rfl) (by kernel_rfl) (e := Extern.SlicesOverlaps.overlaps #[30, 30] #[4]) (by kernel_rfl),
     Lib.run_overlaps_apart w 30 4 81 hu30 4 (fun w_ => by simp [sizeOf, typeInfo, bA, hz1]) ⟨vb, 0, none⟩ ⟨g, off, none⟩ 1 1 lb cb hne' 81 81 x.length cur.size (by simp [World.shape?, hvb]) (by simp [World.shape?, hg]) (by rw [hcs]; omega) (by simp [World.frozen?, hvb]) (by simp [World.frozen?, hvb])]
    rfl
   have hgW : ∀ (W : World), W.heap[g]? = some (.cells cur 81 (0, 0)) → W.heap[vb]? = some (.cells x.toArray 81 (0, 0)) → (W.setRow g cur1).heap[g]? = some (.cells cur1 81 (0, 0)) ∧ (W.setRow g cur1).heap[vb]? = some (.cells x.toArray 81 (0, 0)) := fun W h_ h2_ => ⟨setRow_heap W g cur cur1 81 (0, 0) h_, (setRow_other W g vb cur1 hne').trans h2_⟩
   have HF := am_ hfin
   clear hcur1 hcur2 htake1 hsplit hfin hsrc hown h1 hx1 htk
   go_enter Try.func89, Try.ntmps89
   go_wp2_with (simp only [hov])
   refine start_ (n := 9) (S := fun w' => True) (ds := []) #[false, false, false, false, false, false, false, false, false] (by kernel_rfl) rfl rfl trivial (fun hHeld => ?_)
   refine px_ 0 69 ?_
   refine px_ 1 70 ?_
   refine px_ 2 71 ?_
   refine px_ 3 72 ?_
   refine px_ 4 73 ?_
   refine px_ 5 74 ?_
   refine px_ 6 75 ?_
   refine px_ 7 76 ?_
   refine ox_ 8 77 fun K hK => ?_
   refine ins_step (by rfl) (.tmp 73) (.tmp 76) 30 30 rfl (.slice (some ⟨g, (i + 1) * 4, none⟩) (n + 1 - (i + 1)) (cap - (i + 1))) (.slice (some ⟨g, i * 4, none⟩) (n + 1 - i) (cap - i)) (by first | rfl | simp [Act.eval]) (by first | rfl | simp [Act.eval]) (hcp1 _ (by exact hg) _) ?_
   refine hK.out _ _ trivial (fun hHeld => ?_)
   clear hK K
   refine no_ ?_
   refine done_ (by kernel_rfl) ?_
   obtain ⟨hg1, hv1⟩ := hgW w.drew hg hvb
   go_wp2_with ((with_reducible refine gate_builtin (b := .copy) (xs := #[.tmp 80, .tmp 81]) rfl ?_); refine ins_wp _ rfl (.tmp 80) (.tmp 81) 30 30 rfl _ _ rfl rfl (hcp2 _ hg1 hv1 _) ?_)
   go_ret
   have hg2 := setRow_heap (w.drew.setRow g cur1) g cur1 cur2 81 (0, 0) hg1
   refine ⟨_, rfl, ⟨?_, .inr ⟨g, cap, cur2, rfl, hbg, hg2, hroom, hcm, hc2s, HF.out⟩⟩, ⟨rfl, rfl, rfl, ?_, fun k hk hkn => ?_⟩, .inl rfl⟩
   ·simp only [List.length_append, ha, hb, hx]
    omega
   ·simp [World.setRow]
   ·have hkg : k ≠ g := fun e => hkn (by rw [e]; rfl)
    rw [setRow_other _ g k cur2 hkg, setRow_other _ g k cur1 hkg]
    rfl
  ·have hd1 : decide ((cap : Int) < (n : Int) + 1) = true := decide_eq_true (by omega)
   have cA : (0 : Int) ≤ (i : Int) + 1 := by omega
   have dA : (i : Int) ≤ (n : Int) := by omega
   have eA : i ≤ n + 1 := by omega
   obtain ⟨G, hG⟩ : ∃ G, G = grownCap w (n + 1) cap 81 := ⟨_, rfl⟩
   have hGn : n + 1 ≤ G := by rw [hG]; exact grownCap_ge w _ _ _
   have hGm : G ≤ maxLen := by rw [hG]; exact grownCap_le_maxLen w (n + 1) cap 81 (by unfold maxLen; omega)
   have hG63 : G ≤ 9223372036854775807 := by unfold maxLen at hGm; omega
   have hGi : ¬ (G = i) := by omega
   have hGi2 : ¬ (G = i + 1) := by omega
   obtain ⟨ROW, hROW⟩ : ∃ ROW : Array Value, ROW = (inner.take (i * 4)).toArray ++ Builtin.zeroCells (Value.agg #[.int .i64 0, .int .i64 0, .int .i64 0, .slice none 0 0]).cells (n + 1 - i) ++ Builtin.zeroCells (Value.agg #[.int .i64 0, .int .i64 0, .int .i64 0, .slice none 0 0]).cells (G - (n + 1)) := ⟨_, rfl⟩
   have hRs : ROW.size = G * 4 := by
    rw [hROW]
    simp only [Array.size_append, size_zeroCells, List.size_toArray, ha]
    show i * 4 + (n + 1 - i) * 4 + (G - (n + 1)) * 4 = G * 4
    omega
   have hRt : ROW.toList.take (i * 4) = inner.take (i * 4) := by
    rw [hROW]
    simp only [Array.toList_append, List.append_assoc]
    exact List.take_left' ha
   obtain ⟨W1, hW1⟩ : ∃ W1, W1 = w.drew.alloc (.cells ROW 81) := ⟨_, rfl⟩
   have hrz : ∀ ty, (Builtin.append_ #[30, 3] ty #[.slice (some ⟨g, 0, none⟩) i cap, .int .i64 ((n : Int) + 1 - (i : Int))]).run Try.prog w = .ok (.slice (some ⟨w.heap.size, 0, none⟩) (n + 1) G) W1 := fun ty => by
    have hold : (Builtin.firstCells i0.size i (.slice (some ⟨g, 0, none⟩) i cap)).run Try.prog w.drew = .ok (inner.take (i * 4)).toArray w.drew := by
     rw [hz1]
     exact run_firstCells_some w.drew 4 i ⟨g, 0, none⟩ i cap (inner.take (i * 4)) ha (fun j u hu => by
      refine World.news_of_block (w := w.drew) hg j u ?_
      rw [← htk, List.take_take, List.getElem?_take] at hu
      split at hu
      ·exact hu
      ·cases hu)
    have h := Lib.run_append_grow_zeros w 30 3 ty 81 i0 _ .i64 .i64 hu30 Try.underlying3 bA hz0 (some ⟨g, 0, none⟩) i cap (inner.take (i * 4)) hold (n + 1 - i) (by omega) (by omega) (by omega) (by omega) (by rw [hz2]; omega) (by rw [hz2, show i + (n + 1 - i) = n + 1 by omega]; exact growslice_fits (by omega) (by omega))
    rw [show i + (n + 1 - i) = n + 1 by omega] at h
    rw [show (n : Int) + 1 - (i : Int) = ((n + 1 - i : Nat) : Int) by omega, hW1, hROW, hG]
    exact h
   obtain ⟨row1, hrow1⟩ : ∃ c_, c_ = (ROW.toList.take (i * 4) ++ x ++ ROW.toList.drop (i * 4 + x.length)).toArray := ⟨_, rfl⟩
   obtain ⟨row2, hrow2⟩ : ∃ c_, c_ = (row1.toList.take ((i + 1) * 4) ++ inner.drop (i * 4) ++ row1.toList.drop ((i + 1) * 4 + (inner.drop (i * 4)).length)).toArray := ⟨_, rfl⟩
   have hr1s : row1.size = G * 4 := by
    rw [hrow1]
    simp only [List.size_toArray, List.length_append, List.length_take, List.length_drop, Array.length_toList, hRs, hx]
    omega
   have hr2s : row2.size = G * 4 := by
    rw [hrow2]
    simp only [List.size_toArray, List.length_append, List.length_take, List.length_drop, Array.length_toList, hr1s, hil]
    omega
   have hfin : row2.toList.take ((n + 1) * 4) = inner.take (i * 4) ++ x ++ inner.drop (i * 4) := by
    have e1 : row1.toList.take ((i + 1) * 4) = inner.take (i * 4) ++ x := by
     rw [hrow1, hRt]
     show List.take ((i + 1) * 4) (inner.take (i * 4) ++ x ++ _) = _
     exact List.take_left' (by rw [List.length_append, ha, hx]; omega)
    rw [hrow2, e1]
    show List.take ((n + 1) * 4) (inner.take (i * 4) ++ x ++ inner.drop (i * 4) ++ _) = _
    exact List.take_left' (by simp only [List.length_append, ha, hb, hx]; omega)
   have hcpA : ∀ (W : World), W.heap[w.heap.size]? = some (.cells ROW 81 (0, 0)) → W.heap[vb]? = some (.cells x.toArray 81 (0, 0)) → ∀ ty, (Builtin.copy_ #[30, 30] ty #[.slice (some ⟨w.heap.size, i * 4, none⟩) (n + 1 - i) (G - i), .slice (some ⟨vb, 0, none⟩) 1 1]).run Try.prog W = .ok (goInt (Nat.min 1 (n + 1 - i))) (W.setRow w.heap.size row1) := fun W hW hV ty => by
    rw [hrow1]
    exact ins_copy W 30 30 ty 81 4 w.heap.size (i * 4) (n + 1 - i) (G - i) ⟨vb, 0, none⟩ 1 1 ROW 81 x hu30 hsz hW (by rw [hx]; simp only [Nat.min_def]; split <;> omega) (fun j u hu => World.news_of_block hV j u (by simpa using hu)) (by rw [hx, hRs]; omega) hx1
   have hcpB : ∀ (W : World), W.heap[w.heap.size]? = some (.cells row1 81 (0, 0)) → W.heap[g]? = some (.cells cur 81 (0, 0)) → ∀ ty, (Builtin.copy_ #[30, 30] ty #[.slice (some ⟨w.heap.size, (i + 1) * 4, none⟩) (n + 1 - (i + 1)) (G - (i + 1)), .slice (some ⟨g, i * 4, none⟩) (n - i) (cap - i)]).run Try.prog W = .ok (goInt (Nat.min (n - i) (n + 1 - (i + 1)))) (W.setRow w.heap.size row2) := fun W hW hV ty => by
    rw [hrow2]
    exact ins_copy W 30 30 ty 81 4 w.heap.size ((i + 1) * 4) (n + 1 - (i + 1)) (G - (i + 1)) ⟨g, i * 4, none⟩ (n - i) (cap - i) row1 81 (inner.drop (i * 4)) hu30 hsz hW (by rw [hb]; congr 1; simp only [Nat.min_def]; split <;> omega) (hsrc W hV) (by rw [hb, hr1s]; omega) (fun u hu => h1 u (List.mem_of_mem_drop hu))
   have hN1 : W1.heap[w.heap.size]? = some (.cells ROW 81 (0, 0)) := by rw [hW1]; exact heap_alloc_new w.drew _
   have hO1 : ∀ k, k < w.heap.size → W1.heap[k]? = w.heap[k]? := fun k hk => by rw [hW1]; exact heap_alloc_old w.drew _ hk
   have hS1 : w.grownBy W1 (some g) := by rw [hW1]; exact ⟨rfl, rfl, rfl, by simp, fun k hk _ => heap_alloc_old w.drew _ hk⟩
   have hgN : g ≠ w.heap.size := Nat.ne_of_lt hglt
   have hvN : vb ≠ w.heap.size := Nat.ne_of_lt hvlt
   have hV1 := (hO1 vb hvlt).trans hvb
   have hN2 := setRow_heap W1 w.heap.size ROW row1 81 (0, 0) hN1
   have hG2 := (setRow_other W1 w.heap.size g row1 hgN).trans ((hO1 g hglt).trans hg)
   have HF := am_ hfin
   clear hrow1 hrow2 hROW hsplit hfin hsrc hown h1 hx1 htk hW1 hG hRt
   go_enter Try.func89, Try.ntmps89
   go_wp2_with (first | (at_builtin; refine Lib.wpList_append_run _ rfl (.tmp 34) (.tmp 39) 30 3 rfl _ _ rfl rfl _ _ (hrz _) ?_) | ((with_reducible refine gate_builtin (b := .copy) (xs := #[.tmp 43, .tmp 44]) rfl ?_); refine ins_wp _ rfl (.tmp 43) (.tmp 44) 30 30 rfl _ _ rfl rfl (hcpA _ hN1 hV1 _) ?_))
   refine start_ (n := 9) (S := fun w' => True) (ds := []) #[false, false, false, false, false, false, false, false, false] (by kernel_rfl) rfl rfl trivial (fun hHeld => ?_)
   refine px_ 0 46 ?_
   refine px_ 1 47 ?_
   refine px_ 2 48 ?_
   refine px_ 3 49 ?_
   refine px_ 4 50 ?_
   refine px_ 5 51 ?_
   refine px_ 6 52 ?_
   refine px_ 7 53 ?_
   refine ox_ 8 54 fun K hK => ?_
   refine ins_step (by rfl) (.tmp 50) (.tmp 53) 30 30 rfl (.slice (some ⟨w.heap.size, (i + 1) * 4, none⟩) (n + 1 - (i + 1)) (G - (i + 1))) (.slice (some ⟨g, i * 4, none⟩) (n - i) (cap - i)) (by first | rfl | simp [Act.eval]) (by first | rfl | simp [Act.eval]) (hcpB _ (by exact hN2) (by exact hG2) _) ?_
   refine hK.out _ _ trivial (fun hHeld => ?_)
   clear hK K
   refine no_ ?_
   refine done_ (by kernel_rfl) ?_
   go_wp2
   go_ret
   have hN3 := setRow_heap (W1.setRow w.heap.size row1).drew w.heap.size row1 row2 81 (0, 0) hN2
   refine ⟨_, rfl, ⟨?_, .inr ⟨w.heap.size, G, row2, rfl, hbase, hN3, hGn, hGm, hr2s, HF.out⟩⟩, ⟨?_, ?_, ?_, ?_, fun k hk hkn => ?_⟩, .inr rfl⟩
   ·simp only [List.length_append, ha, hb, hx]
    omega
   ·exact hS1.os
   ·exact hS1.tape
   ·exact hS1.output
   ·have := hS1.size
    simpa [World.setRow] using this
   ·have hkN : k ≠ w.heap.size := Nat.ne_of_lt hk
    rw [setRow_other _ w.heap.size k row2 hkN]
    exact (setRow_other W1 w.heap.size k row1 hkN).trans (hO1 k hk)



/-! ### impl_copyBatch: function 90 -/
def impl_copyBatch.f (a0_0 : Int) (a0_1 : Int) (a0_2 : Int) (a0_3 : Int) (l0_4 : List ByteArray) : Option (Int × Int × Int × Int × List ByteArray) := (some (([] : List ByteArray) : List ByteArray)).bind fun y358 => (if y358.length + l0_4.length < 8796093022208 then (some (a0_0, a0_1, a0_2, a0_3, (y358 ++ l0_4))) else (none))
set_option maxHeartbeats 8000000 in
set_option maxRecDepth 100000 in
theorem impl_copyBatch.calls (a0_0 : Int) (a0_1 : Int) (a0_2 : Int) (a0_3 : Int) (A0_4 : Option Addr) (c0_4 : Nat) (l0_4 : List ByteArray) (r1 : Int) (r2 : Int) (r3 : Int) (r4 : Int) (r5 : List ByteArray) (w : World) (hr0_4 : Kd.C Kd.string w A0_4 l0_4.length l0_4) (hc0_4 : l0_4.length ≤ c0_4) (h : impl_copyBatch.f a0_0 a0_1 a0_2 a0_3 l0_4 = some (r1, r2, r3, r4, r5)) :
  Calls Try.prog 90 #[.agg #[.int .i64 a0_0, .int .i64 a0_1, .int .i64 a0_2, .int .i64 a0_3, .slice A0_4 l0_4.length c0_4]] w fun e w' => ∃ v4_ : Value, e = .returned (.agg #[.int .i64 r1, .int .i64 r2, .int .i64 r3, .int .i64 r4, v4_]) ∧ Kd.R Kd.string 9 w' w.heap.size (fun _ => True) v4_ r5 ∧ Below w.heap.size w w' := by
 have hu78 := Try.underlying78
 have pA := am_ hr0_4
 have cC := am_ hc0_4
 clear hr0_4 hc0_4
 have HB := am_ (Below.refl w.heap.size w)
 have H : ((some (([] : List ByteArray) : List ByteArray)).bind fun hA => (if hA.length + l0_4.length < 8796093022208 then (some (a0_0, a0_1, a0_2, a0_3, (hA ++ l0_4))) else (none))) = some (r1, r2, r3, r4, r5) := h
 clear h
 obtain ⟨hA, eA⟩ : ∃ y_ : List ByteArray, y_ = (([] : List ByteArray)) := ⟨_, rfl⟩
 replace H : (if hA.length + l0_4.length < 8796093022208 then (some (a0_0, a0_1, a0_2, a0_3, (hA ++ l0_4))) else (none)) = some (r1, r2, r3, r4, r5) := by first | (rw [eA]; with_reducible exact H) | (have H2_ := (Option.bind_some _ _).symm.trans H; rw [eA]; with_reducible exact H2_) | (have H2_ := (Option.bind_some _ _).symm.trans H; with_reducible exact H2_) | with_reducible exact H | (rw [eA]; exact H) | exact H
 have kA := am_ eA
 clear eA
 replace H := ifs_ H
 obtain ⟨c2, H⟩ := H
 have pB := am_ c2
 clear c2
 obtain ⟨oA, fA⟩ : ∃ y_ : List ByteArray, y_ = (hA ++ l0_4) := ⟨_, rfl⟩
 replace H : (some (a0_0, a0_1, a0_2, a0_3, oA)) = some (r1, r2, r3, r4, r5) := by first | (rw [fA]; with_reducible exact H) | (have H2_ := (Option.bind_some _ _).symm.trans H; rw [fA]; with_reducible exact H2_) | (have H2_ := (Option.bind_some _ _).symm.trans H; with_reducible exact H2_) | with_reducible exact H | (rw [fA]; exact H) | exact H
 have qA := am_ fA
 clear fA
 simp only [Option.some.injEq, Prod.mk.injEq] at H
 obtain ⟨rfl, rfl, rfl, rfl, rfl⟩ := H
 go_enter Try.func90, Try.ntmps90
 go_wp2_with (first | ((with_reducible refine gate_dst (N := 1) rfl ?_); refine bq_ (N := 1) #[.int .i64 a0_0, .int .i64 a0_1, .int .i64 a0_2, .int .i64 a0_3, .slice A0_4 l0_4.length c0_4] 78 ?_; intro lA hg w3 aA hb; have cA := ge_ hg; replace HB := nb_ hb; clear hb hg) | ((with_reducible refine gate_dst (N := 2) rfl ?_); refine bq_ (N := 2) #[.int .i64 0, .int .i64 0, .int .i64 0, .int .i64 0, .slice none 0 0] 78 ?_; intro mA hg w4 bA hb; have gA := ge1_ hg cA; replace HB := nc_ cA hb; have jA := nl_ aA hg; have dA := ng_ aA hg; replace aA := bK_ aA hb; clear hb hg) | ((with_reducible refine gate_dst (N := 3) rfl ?_); refine Kd.R_lit Kd.string _ 9 ?hg (N := 3) ?hd (xs := ([] : List ByteArray)) (inner := []) (ok := fun _ => True) (okp := fun _ => True) ?hr ?hp (fun _ hk => hk) trivial (Below.refl _ _) (Nat.le_refl _) (by simp) ?_; (case hd => rfl); (case hg => rfl); (case hr => first | (go_simp; done) | (go_simp; rfl)); (case hp => exact (Reps.none _ _)); intro qB w5 rA hb hg_ hnew_; clear hg_ hnew_; (first | rw [← kA.out] at rA | (simp only [Int.reduceToNat] at rA; rw [← kA.out] at rA)); have iA := am_ (Kd.R_lower rA (below_size (hs2_ cA.out gA.out))); replace aA := bK_ aA hb; replace bA := bK_ bA hb; replace HB := nc2_ cA gA hb; clear hb rA; have dC := jA.out; have eC := dA.out; obtain ⟨rB, sB, tB, uB, vB, wB, xB, yB, zB, aC⟩ := cf5_ aA.out) | ((with_reducible refine gate_builtin (b := .append) (xs := #[.tmp 3, .tmp 5]) rfl ?_); at_builtin; refine Kd.R_append_rows Kd.string (w0 := w) w.heap.size rfl (.tmp 3) (.tmp 5) 27 9 (.string ⟨#[]⟩) 16 rfl Try.underlying27 info9 rfl (by decide) (by omega) qB hA l0_4 _ _ _ (fun _ => True) (fun _ => False) rfl rfl ?aO ?aR (fun _ _ h => h) (fun _ h => h.elim) ?aF ?aB ?aS ?aL ?_; (case aR => exact cs_ ((Kd.C_below pA.out HB.out))); (case aB => exact (hs2_ cA.out gA.out)); (case aF => exact (fun _ _ => trivial)); (case aO => exact (kr_ iA.out)); (case aS => exact (below_size (hs2_ cA.out gA.out))); (case aL => have := pB.out; omega); intro fC w9 ho hb hg hat; rw [← qA.out] at ho; replace aA := am_ (blk_grown (g := lA) (o := .cells #[.int .i64 a0_0, .int .i64 a0_1, .int .i64 a0_2, .int .i64 a0_3, .slice A0_4 l0_4.length c0_4] 78 (0, 0)) (kb_ aA.out) hg (Kd.R_ne iA.out aA.out (by decide))); replace bA := am_ (blk_grown (g := mA) (o := .cells #[.int .i64 0, .int .i64 0, .int .i64 0, .int .i64 0, .slice none 0 0] 78 (0, 0)) (kb_ bA.out) hg (Kd.R_ne iA.out bA.out (by decide))); replace HB := am_ (hb); have nA := am_ (ho); clear iA; clear ho hb hg hat; obtain ⟨sA, tA, bC⟩ := Kd.R_slice nA.out; subst bC; obtain ⟨uA, vA, wA, xA, yA, zA, bB, cB, dB, eB⟩ := cf5_ aA.out; obtain ⟨fB, gB, hB, iB, jB, kB, lB, mB, nB, oB⟩ := cf5_ bA.out))
 refine bodyPost_ret (results_cell_row rfl _ _ mA 78 #[.int .i64 a0_0, .int .i64 a0_1, .int .i64 a0_2, .int .i64 a0_3, .slice sA oA.length tA] (0, 0) _ rfl (by (with_reducible repeat (first | refine blk_drewN ?_ _ | refine blk_drew ?_ | refine blk_alloc ?_ _)); refine blk_put (cs := #[.int .i64 a0_0, .int .i64 a0_1, .int .i64 a0_2, .int .i64 a0_3, .slice none 0 0]) ?_ 4 _ rfl; (with_reducible repeat (first | refine blk_drewN ?_ _ | refine blk_drew ?_ | refine blk_alloc ?_ _)); refine blk_put (cs := #[.int .i64 a0_0, .int .i64 a0_1, .int .i64 a0_2, .int .i64 0, .slice none 0 0]) ?_ 3 _ rfl; (with_reducible repeat (first | refine blk_drewN ?_ _ | refine blk_drew ?_ | refine blk_alloc ?_ _)); refine blk_put (cs := #[.int .i64 a0_0, .int .i64 a0_1, .int .i64 0, .int .i64 0, .slice none 0 0]) ?_ 2 _ rfl; (with_reducible repeat (first | refine blk_drewN ?_ _ | refine blk_drew ?_ | refine blk_alloc ?_ _)); refine blk_put (cs := #[.int .i64 a0_0, .int .i64 0, .int .i64 0, .int .i64 0, .slice none 0 0]) ?_ 1 _ rfl; (with_reducible repeat (first | refine blk_drewN ?_ _ | refine blk_drew ?_ | refine blk_alloc ?_ _)); refine blk_put (cs := #[.int .i64 0, .int .i64 0, .int .i64 0, .int .i64 0, .slice none 0 0]) ?_ 0 _ rfl; (with_reducible repeat (first | refine blk_drewN ?_ _ | refine blk_drew ?_ | refine blk_alloc ?_ _)); refine blk_far ?_ dA.out _; (with_reducible repeat (first | refine blk_drewN ?_ _ | refine blk_drew ?_ | refine blk_alloc ?_ _)); exact bA.out) Try.underlying78 rfl (by kernel_rfl)) rfl ?_
 exact ⟨_, er_, Kd.R_mono (rF_ (Kd.R_far (p := ⟨lA, 4, none⟩) (Kd.R_types (Kd.R_types nA.out aA.out (by decide)) bA.out (by decide)) (fun _ hk => hk.1.2) (.slice sA oA.length tA))) (fun _ hk => trivial), hs2_ cA.out gA.out⟩

/-! ### impl_Batch_end: function 91 -/
def impl_Batch_end.f (a0_0 : Int) (a0_1 : Int) (a0_2 : Int) (a0_3 : Int) (l0_4 : List ByteArray) : Option (Int) := some (wrap64 (a0_0 + (l0_4.length : Int)))
set_option maxHeartbeats 8000000 in
set_option maxRecDepth 100000 in
theorem impl_Batch_end.calls (a0_0 : Int) (a0_1 : Int) (a0_2 : Int) (a0_3 : Int) (A0_4 : Option Addr) (c0_4 : Nat) (l0_4 : List ByteArray) (r : Int) (w : World) (hr0_4 : Kd.C Kd.string w A0_4 l0_4.length l0_4) (hc0_4 : l0_4.length ≤ c0_4) (h : impl_Batch_end.f a0_0 a0_1 a0_2 a0_3 l0_4 = some r) :
  Calls Try.prog 91 #[.agg #[.int .i64 a0_0, .int .i64 a0_1, .int .i64 a0_2, .int .i64 a0_3, .slice A0_4 l0_4.length c0_4]] w fun e w' => e = .returned (.int .i64 r) ∧ Below w.heap.size w w' := by
 have hu78 := Try.underlying78
 have mA := am_ hr0_4
 have nA := am_ hc0_4
 clear hr0_4 hc0_4
 have HB := am_ (Below.refl w.heap.size w)
 have H : (some (wrap64 (a0_0 + (l0_4.length : Int)))) = some r := h
 clear h
 obtain rfl := Option.some.inj H
 go_enter Try.func91, Try.ntmps91
 go_wp2_with (first | ((with_reducible refine gate_dst (N := 1) rfl ?_); refine bq_ (N := 1) #[.int .i64 a0_0, .int .i64 a0_1, .int .i64 a0_2, .int .i64 a0_3, .slice A0_4 l0_4.length c0_4] 78 ?_; intro oA hg w2 aA hb; have bA := ge_ hg; replace HB := nb_ hb; clear hb hg; obtain ⟨cA, dA, eA, fA, gA, hA, iA, jA, kA, lA⟩ := cf5_ aA.out))
 go_ret
 exact ⟨er_, hs_ bA.out⟩
end Go.Proofs.Ytojdaolclcmalaa.QFnExactAskPart
