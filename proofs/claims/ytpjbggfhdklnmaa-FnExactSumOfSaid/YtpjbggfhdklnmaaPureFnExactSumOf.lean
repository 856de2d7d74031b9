/- SumOf of the program answers as the reference's, for every text. Conditions: none but the statement's own. -/
import Derived.Test.YtpjbggfhdklnmaaQFnExactSumOfx1
namespace Go.Proofs.Ytpjbggfhdklnmaa.Pure
open Go.RowKit Go.Proofs.Ytpjbggfhdklnmaa.QFnExactSumOf Go.Proofs.YtpjbggfhdklnmaaW.PrintWords Go.Proofs.YtpjbggfhdklnmaaW.PrintLast Go.Proofs.YtpjbggfhdklnmaaW.PrintMore
set_option linter.unusedVariables false
set_option linter.unusedSimpArgs false
/-! #### words -/
theorem Ev.succ {α : Type} {g : Nat → Option α} {r : α} (k : Ev (fun n => g (n + 1)) r) : Ev g r := Ev.step (fun _ => rfl) k
theorem Ev.ifp {α : Type} {c : Prop} [Decidable c] {f g : Nat → Option α} {r : α} (h : c) (k : Ev f r) : Ev (fun n => if c then f n else g n) r := Ev.congr (fun n => if_pos h) k
theorem Ev.ifn {α : Type} {c : Prop} [Decidable c] {f g : Nat → Option α} {r : α} (h : ¬ c) (k : Ev g r) : Ev (fun n => if c then f n else g n) r := Ev.congr (fun n => if_neg h) k
theorem Ev.uniq {α : Type} {g : Nat → Option α} {r q : α} (h : Ev g r) (k : Ev g q) : r = q := by
  obtain ⟨a, ha⟩ := h
  obtain ⟨b, hb⟩ := k
  have h1 := ha (max a b) (Nat.le_max_left _ _)
  have h2 := hb (max a b) (Nat.le_max_right _ _)
  rw [h1] at h2
  exact Option.some.inj h2
/-- It answers a Bool that tells whether Q. -/
def EvB (g : Nat → Option Bool) (Q : Prop) : Prop := ∃ b : Bool, Ev g b ∧ (b = true ↔ Q)
theorem EvB.step {g f : Nat → Option Bool} {Q : Prop} (h : ∀ k, g (k + 1) = f k) (k : EvB f Q) : EvB g Q := by
  obtain ⟨b, hb, hq⟩ := k
  exact ⟨b, Ev.step h hb, hq⟩
theorem EvB.iff {g : Nat → Option Bool} {Q R : Prop} (k : EvB g Q) (h : Q ↔ R) : EvB g R := by
  obtain ⟨b, hb, hq⟩ := k
  exact ⟨b, hb, hq.trans h⟩
theorem EvB.no {g : Nat → Option Bool} {Q : Prop} (h : ∀ k, g (k + 1) = some false) (hq : ¬ Q) : EvB g Q := ⟨false, Ev.step (f := fun _ => some false) h (Ev.now _), Iff.intro (fun h => by cases h) (fun h => absurd h hq)⟩
theorem EvB.yes {g : Nat → Option Bool} {Q : Prop} (h : ∀ k, g (k + 1) = some true) (hq : Q) : EvB g Q := ⟨true, Ev.step (f := fun _ => some true) h (Ev.now _), ⟨fun _ => hq, fun _ => rfl⟩⟩
theorem EvB.ev {g : Nat → Option Bool} {Q : Prop} [Decidable Q] (k : EvB g Q) : Ev g (decide Q) := by
  obtain ⟨b, hb, hq⟩ := k
  have : b = decide Q := by
    by_cases h : Q
    · rw [hq.2 h, decide_eq_true h]
    · rw [decide_eq_false h]
      cases b with
      | false => rfl
      | true => exact absurd (hq.1 rfl) h
  rw [← this]
  exact hb
theorem EvB.get {g : Nat → Option Bool} {Q : Prop} (k : EvB g Q) (h : Q) : Ev g true := by
  obtain ⟨b, hb, hq⟩ := k
  rw [← hq.2 h]
  exact hb
theorem EvB.not {g : Nat → Option Bool} {Q : Prop} (k : EvB g Q) (h : ¬ Q) : Ev g false := by
  obtain ⟨b, hb, hq⟩ := k
  cases b with
  | false => exact hb
  | true => exact absurd (hq.1 rfl) h
theorem wrap_id {x : Int} (h0 : -9223372036854775808 ≤ x) (h1 : x ≤ 9223372036854775807) : wrap64 x = x := by
  unfold wrap64
  omega
theorem succ_wrap {i : Nat} (h : i ≤ 9000000000000000000) : wrap64 ((i : Int) + 1) = ((i + 1 : Nat) : Int) := by
  rw [wrap_id (by omega) (by omega)]
  omega
theorem pred_wrap {i : Nat} (h0 : 0 < i) (h : i ≤ 9000000000000000000) : wrap64 ((i : Int) - 1) = ((i - 1 : Nat) : Int) := by
  rw [wrap_id (by omega) (by omega)]
  omega
theorem pred_zero : wrap64 (((0 : Nat) : Int) - 1) = -1 := by
  unfold wrap64
  omega
theorem rd_nat (l : List Int) (i : Nat) : rd l (i : Int) = l.getD i 0 := rfl
theorem tn_nat (i : Nat) : ((i : Int)).toNat = i := rfl
theorem len_nat {α : Type} (l : List α) {k : Nat} (h : l.length ≤ k) : ¬ ((l.length : Int) > (k : Int)) := by omega

/-- A list is made, element by element. -/
theorem conv_ev {β : Type} (n : Nat) (F : List β → Nat → Nat → Option (List β)) (c : Nat → β) (h1 : ∀ x : List β, x.length = n → Ev (F x n) x)
    (h2 : ∀ (x : List β) (i : Nat), i < n → x.length = n → ∀ r, Ev (F (x.set i (c i)) (i + 1)) r → Ev (F x i) r) : ∀ x0 : List β, x0.length = n → Ev (F x0 0) ((List.range n).map c) := by
  have key : ∀ d i (x : List β), i + d = n → x.length = n → Ev (F x i) (x.take i ++ (List.range d).map fun j => c (i + j)) := by
    intro d
    induction d with
    | zero =>
      intro i x hd hx
      have hi : i = n := by omega
      subst hi
      have : x.take i ++ (List.range 0).map (fun j => c (i + j)) = x := by
        rw [List.take_of_length_le (by omega)]
        simp
      rw [this]
      exact h1 x hx
    | succ d ih =>
      intro i x hd hx
      have hi : i < n := by omega
      have := ih (i + 1) (x.set i (c i)) (by omega) (by rw [List.length_set]; exact hx)
      have e : (x.set i (c i)).take (i + 1) ++ (List.range d).map (fun j => c (i + 1 + j)) = x.take i ++ (List.range (d + 1)).map (fun j => c (i + j)) := by
        rw [List.range_succ_eq_map, List.map_cons, List.map_map]
        have ht : (x.set i (c i)).take (i + 1) = x.take i ++ [c i] := by
          rw [List.take_succ_eq_append_getElem (by rw [List.length_set]; omega)]
          rw [List.take_set_of_le (Nat.le_refl _), List.getElem_set_self]
        rw [ht, List.append_assoc]
        congr 1
        rw [List.singleton_append]
        congr 1
        apply List.map_congr_left
        intro j _
        show c (i + 1 + j) = c (i + (j + 1))
        congr 1
        omega
      rw [e] at this
      exact h2 x i hi hx _ this
  intro x0 hx0
  have := key n 0 x0 (by omega) hx0
  rw [List.take_zero, List.nil_append] at this
  have e : (fun j => c (0 + j)) = c := by
    funext j
    rw [Nat.zero_add]
  rw [e] at this
  exact this

/-- Two rows are held against each other, element by element. -/
theorem all_ev (n : Nat) (F : Nat → Nat → Option Bool) (h1 : Ev (F n) true) (h2 : ∀ i, i < n → Ev (F (i + 1)) true → Ev (F i) true) : Ev (F 0) true := by
  have key : ∀ d i, i + d = n → Ev (F i) true := by
    intro d
    induction d with
    | zero =>
      intro i hd
      have hi : i = n := by omega
      subst hi
      exact h1
    | succ d ih =>
      intro i hd
      exact h2 i (by omega) (ih (i + 1) (by omega))
  exact key n 0 (by omega)

/-- The elements are numbered through; and so they are found. -/
def markL {β : Type} (mk : β → Nat → β) (cnt : β → Nat) : List β → Nat → List β
  | [], _ => []
  | b :: r, m => mk b m :: markL mk cnt r (m + cnt b)
def cntL {β : Type} (cnt : β → Nat) : List β → Nat
  | [] => 0
  | b :: r => cnt b + cntL cnt r
theorem markL_length {β : Type} (mk : β → Nat → β) (cnt : β → Nat) : ∀ (l : List β) (m : Nat), (markL mk cnt l m).length = l.length
  | [], _ => rfl
  | b :: r, m => by
    show (markL mk cnt r _).length + 1 = r.length + 1
    rw [markL_length mk cnt r]
theorem cntL_le {β : Type} (cnt : β → Nat) (c : Nat) : ∀ l : List β, (∀ b ∈ l, cnt b ≤ c) → cntL cnt l ≤ c * l.length
  | [], _ => Nat.zero_le _
  | b :: r, h => by
    have h1 := cntL_le cnt c r (fun x hx => h x (List.mem_cons_of_mem _ hx))
    have h2 := h b List.mem_cons_self
    show cnt b + cntL cnt r ≤ c * (r.length + 1)
    rw [Nat.mul_add, Nat.mul_one]
    omega
theorem mark_ev {β : Type} (z : β) (mk : β → Nat → β) (cnt : β → Nat) (B n : Nat) (F : List β → Nat → Nat → Nat → Option (Int × List β)) (h1 : ∀ (x : List β) (m : Nat), x.length = n → Ev (F x m n) ((m : Int), x))
    (h2 : ∀ (x : List β) (m i : Nat), x.length = n → i < n → m + cnt (x.getD i z) ≤ B → ∀ r, Ev (F (x.set i (mk (x.getD i z) m)) (m + cnt (x.getD i z)) (i + 1)) r → Ev (F x m i) r) :
    ∀ (x : List β) (m : Nat), x.length = n → m + cntL cnt x ≤ B → Ev (F x m 0) (((m + cntL cnt x : Nat) : Int), markL mk cnt x m) := by
  have key : ∀ (rest done : List β) (m : Nat), done.length + rest.length = n → m + cntL cnt rest ≤ B → Ev (F (done ++ rest) m done.length) (((m + cntL cnt rest : Nat) : Int), done ++ markL mk cnt rest m) := by
    intro rest
    induction rest with
    | nil =>
      intro done m hn _
      have hn' : done.length = n := hn
      have := h1 done m hn'
      rw [← hn'] at this
      rw [List.append_nil]
      show Ev _ (((m + 0 : Nat) : Int), done ++ [])
      rw [List.append_nil]
      exact this
    | cons b r ih =>
      intro done m hn hm
      have hn' : done.length + (r.length + 1) = n := hn
      have hm' : m + (cnt b + cntL cnt r) ≤ B := hm
      have hg : (done ++ b :: r).getD done.length z = b := by simp [List.getD]
      have hs : (done ++ b :: r).set done.length (mk b m) = (done ++ [mk b m]) ++ r := by simp [List.set_append]
      have := ih (done ++ [mk b m]) (m + cnt b) (by rw [List.length_append, List.length_singleton]; omega) (by omega)
      refine h2 _ m done.length (by simp; omega) (by omega) (by rw [hg]; omega) _ ?_
      rw [hg, hs]
      rw [List.length_append, List.length_singleton] at this
      have e : m + cnt b + cntL cnt r = m + (cnt b + cntL cnt r) := by omega
      have e2 : done ++ [mk b m] ++ markL mk cnt r (m + cnt b) = done ++ (mk b m :: markL mk cnt r (m + cnt b)) := by rw [List.append_assoc, List.singleton_append]
      rw [e, e2] at this
      exact this
  intro x m hn hm
  exact key x [] m (by simpa using hn) hm
theorem held_ev {β : Type} (z : β) (mk : β → Nat → β) (cnt : β → Nat) (B n : Nat) (H : List β → Nat → Nat → Nat → Option Int) (h1 : ∀ (x : List β) (m : Nat), x.length = n → Ev (H x m n) (m : Int))
    (h2 : ∀ (x : List β) (m i : Nat) (b : β), x.length = n → i < n → x.getD i z = mk b m → m + cnt b ≤ B → ∀ r, Ev (H x (m + cnt b) (i + 1)) r → Ev (H x m i) r) :
    ∀ (x : List β) (m : Nat), x.length = n → m + cntL cnt x ≤ B → Ev (H (markL mk cnt x m) m 0) ((m + cntL cnt x : Nat) : Int) := by
  have key : ∀ (rest done : List β) (m : Nat), done.length + rest.length = n → m + cntL cnt rest ≤ B → Ev (H (done ++ markL mk cnt rest m) m done.length) ((m + cntL cnt rest : Nat) : Int) := by
    intro rest
    induction rest with
    | nil =>
      intro done m hn _
      have hn' : done.length = n := hn
      have := h1 done m hn'
      rw [← hn'] at this
      show Ev (H (done ++ []) m done.length) _
      rw [List.append_nil]
      exact this
    | cons b r ih =>
      intro done m hn hm
      have hn' : done.length + (r.length + 1) = n := hn
      have hm' : m + (cnt b + cntL cnt r) ≤ B := hm
      have := ih (done ++ [mk b m]) (m + cnt b) (by rw [List.length_append, List.length_singleton]; omega) (by omega)
      show Ev (H (done ++ (mk b m :: markL mk cnt r (m + cnt b))) m done.length) _
      refine h2 _ m done.length b (by simp [markL_length]; omega) (by omega) (by simp [List.getD]) (by omega) _ ?_
      rw [List.length_append, List.length_singleton, List.append_assoc, List.singleton_append] at this
      have e : m + cnt b + cntL cnt r = m + (cnt b + cntL cnt r) := by omega
      rw [e] at this
      exact this
  intro x m hn hm
  exact key x [] m (by simpa using hn) hm

theorem map_range_getD {α β : Type} (l : List α) (z : α) (f : α → β) : (List.range l.length).map (fun i => f (l.getD i z)) = l.map f := by
  apply List.ext_getElem
  · simp
  · intro i h1 h2
    simp at h1 h2
    simp [h2]
theorem map_range_self {α : Type} (l : List α) (z : α) : (List.range l.length).map (fun i => l.getD i z) = l := by
  have := map_range_getD l z id
  simpa using this
theorem getD_mem {α : Type} {l : List α} {i : Nat} (h : i < l.length) (z : α) : l.getD i z ∈ l := by
  rw [List.getD_eq_getElem?_getD, List.getElem?_eq_getElem h, Option.getD_some]
  exact List.getElem_mem h

/-! #### the sum of a text -/
theorem wr64 (n : Int) (h₀ : 0 ≤ n) (h₁ : n < 2 ^ 62) : IntKind.i64.wrap n = n := by
  rw [IntKind.wrap_i64]
  omega
theorem xor_nat (a b : Nat) (ha : a < 2 ^ 62) (hb : b < 2 ^ 62) : Go.bits .xor .i64 (a : Int) (b : Int) = ((a ^^^ b : Nat) : Int) := by
  have hx : a ^^^ b < 2 ^ 62 := Nat.xor_lt_two_pow ha hb
  have h1 : (BitVec.ofInt 64 (a : Int)).toNat = a := by
    rw [BitVec.ofInt_natCast, BitVec.toNat_ofNat]
    exact Nat.mod_eq_of_lt (by omega)
  have h2 : (BitVec.ofInt 64 (b : Int)).toNat = b := by
    rw [BitVec.ofInt_natCast, BitVec.toNat_ofNat]
    exact Nat.mod_eq_of_lt (by omega)
  show IntKind.i64.wrap ((BitVec.ofInt 64 (a : Int) ^^^ BitVec.ofInt 64 (b : Int)).toNat : Int) = _
  rw [BitVec.toNat_xor, h1, h2]
  exact wr64 _ (Int.natCast_nonneg _) (by omega)
theorem and_low (m : Nat) (h : m < 2 ^ 62) : Go.bits .and .i64 (m : Int) 65535 = ((m % 65536 : Nat) : Int) := by
  show Go.bits .and .i64 (m : Int) ((65535 : Nat) : Int) = _
  rw [(bits_nat .i64 62 (by decide) wr64 m 65535 h (by decide)).1]
  exact congrArg _ (Nat.and_two_pow_sub_one_eq_mod m 16)
theorem and_top (c : Nat) (h : c < 65536) : Go.bits .and .i64 (c : Int) 32768 = 0 ↔ c < 32768 := by
  show Go.bits .and .i64 (c : Int) ((32768 : Nat) : Int) = 0 ↔ _
  rw [(bits_nat .i64 62 (by decide) wr64 c 32768 (by omega) (by decide)).1]
  constructor
  · intro e
    by_cases hc : c < 32768
    · exact hc
    · have e' : c &&& 2 ^ 15 = 0 := by
        have : (2 : Nat) ^ 15 = 32768 := by decide
        rw [this]
        omega
      have t : (c &&& 2 ^ 15).testBit 15 = true := by
        rw [Nat.testBit_and, Nat.testBit_two_pow_self, Bool.and_true, Nat.testBit_eq_decide_div_mod_eq, decide_eq_true_iff]
        omega
      rw [e', Nat.zero_testBit] at t
      cases t
  · intro hc
    have e : c &&& 2 ^ 15 = 0 := by
      refine Nat.eq_of_testBit_eq fun j => ?_
      rw [Nat.testBit_and, Nat.zero_testBit]
      by_cases hj : j = 15
      · subst hj
        rw [Nat.testBit_lt_two_pow (x := c) (i := 15) (by omega), Bool.false_and]
      · rw [Nat.testBit_two_pow_of_ne (fun e => hj e.symm), Bool.and_false]
    have : (2 : Nat) ^ 15 = 32768 := by decide
    rw [this] at e
    rw [e]
    rfl
theorem bt_bd (s : ByteArray) (i : Int) : ∃ b : Nat, bt s i = (b : Int) ∧ b ≤ 255 := by
  unfold bt
  split
  · rename_i h
    have := UInt8.toNat_lt (s[i.toNat]'h)
    exact ⟨_, rfl, by omega⟩
  · exact ⟨0, rfl, by omega⟩
def stp (c : Nat) : Nat := if c < 32768 then c * 2 else (c * 2 % 65536) ^^^ 4129
theorem stp_lt (c : Nat) : stp c < 65536 := by
  unfold stp
  split
  · omega
  · exact Nat.xor_lt_two_pow (n := 16) (by omega) (by omega)
def stps : Nat → Nat → Nat
  | 0, c => c
  | d + 1, c => stps d (stp c)
theorem stps_lt : ∀ d c, c < 65536 → stps d c < 65536
  | 0, c, h => h
  | d + 1, c, _ => stps_lt d (stp c) (stp_lt c)
theorem sSum_in (x : ByteArray) (i : Int) (r : Int) : ∀ d j : Nat, j + d = 8 → ∀ c : Nat, c < 65536 → Ev (fun k => spec_l1Sum.l0 k x ((stps d c : Nat) : Int) (wrap64 (i + 1))) r → Ev (fun k => spec_l1Sum.l1 k x (c : Int) i (j : Int)) r
  | 0, j, hd => fun c hc h => Ev.step (fun k => by rw [spec_l1Sum.l1, if_neg (by omega)]; rfl) h
  | d + 1, j, hd => fun c hc h => by
    have w : wrap64 ((c : Int) * 2) = ((c * 2 : Nat) : Int) := by
      rw [wrap_id (by omega) (by omega)]
      omega
    refine Ev.step (fun k => ?_) (sSum_in x i r d (j + 1) (by omega) (stp c) (stp_lt c) h)
    show spec_l1Sum.l1 (k + 1) x (c : Int) i (j : Int) = spec_l1Sum.l1 k x ((stp c : Nat) : Int) i ((j + 1 : Nat) : Int)
    rw [spec_l1Sum.l1, if_pos (by omega), w, succ_wrap (by omega)]
    unfold stp
    by_cases hs : c < 32768
    · rw [if_neg (by omega), if_pos hs]
    · rw [if_pos (by omega), if_neg hs, and_low _ (by omega)]
      have e : Go.bits .xor .i64 ((c * 2 % 65536 : Nat) : Int) 4129 = ((c * 2 % 65536 ^^^ 4129 : Nat) : Int) := xor_nat _ 4129 (by omega) (by omega)
      rw [e]
theorem iSum_in (x : ByteArray) (n i : Int) (r : Int) : ∀ d j : Nat, j + d = 8 → ∀ c : Nat, c < 65536 → Ev (fun k => impl_sumOf.l0 k x ((stps d c : Nat) : Int) n (wrap64 (i + 1))) r → Ev (fun k => impl_sumOf.l1 k x (c : Int) n i (j : Int)) r
  | 0, j, hd => fun c hc h => Ev.step (fun k => by rw [impl_sumOf.l1, if_neg (by omega)]; rfl) h
  | d + 1, j, hd => fun c hc h => by
    have w : wrap64 ((c : Int) * 2) = ((c * 2 : Nat) : Int) := by
      rw [wrap_id (by omega) (by omega)]
      omega
    refine Ev.step (fun k => ?_) (iSum_in x n i r d (j + 1) (by omega) (stp c) (stp_lt c) h)
    show impl_sumOf.l1 (k + 1) x (c : Int) n i (j : Int) = impl_sumOf.l1 k x ((stp c : Nat) : Int) n i ((j + 1 : Nat) : Int)
    rw [impl_sumOf.l1, if_pos (by omega), w, succ_wrap (by omega), and_low _ (by omega)]
    unfold stp
    by_cases hs : c < 32768
    · rw [if_pos ((and_top c hc).2 hs), if_pos hs]
      have e : c * 2 % 65536 = c * 2 := by omega
      rw [e]
    · rw [if_neg (fun h => hs ((and_top c hc).1 h)), if_neg hs]
      have e : Go.bits .xor .i64 ((c * 2 % 65536 : Nat) : Int) 4129 = ((c * 2 % 65536 ^^^ 4129 : Nat) : Int) := xor_nat _ 4129 (by omega) (by omega)
      rw [e]
theorem sum_l (x : ByteArray) (hx : x.size ≤ 1000000000000000) : ∀ d i : Nat, i + d = x.size → ∀ c : Nat, c < 65536 →
    ∃ r : Nat, r < 65536 ∧ Ev (fun k => spec_l1Sum.l0 k x (c : Int) (i : Int)) (r : Int) ∧ Ev (fun k => impl_sumOf.l0 k x (c : Int) (x.size : Int) (i : Int)) (r : Int)
  | 0, i, hd => fun c hc => ⟨c, hc, Ev.step (f := fun _ => some (c : Int)) (fun k => by rw [spec_l1Sum.l0, if_neg (by omega)]) (Ev.now _), Ev.step (f := fun _ => some (c : Int)) (fun k => by rw [impl_sumOf.l0, if_neg (by omega)]) (Ev.now _)⟩
  | d + 1, i, hd => fun c hc => by
    obtain ⟨b, hb, hb2⟩ := bt_bd x (i : Int)
    have w1 : wrap64 (b : Int) = (b : Int) := wrap_id (by omega) (by omega)
    have w2 : wrap64 ((b : Int) * 256) = ((b * 256 : Nat) : Int) := by
      rw [wrap_id (by omega) (by omega)]
      omega
    have hx2 : c ^^^ b * 256 < 65536 := Nat.xor_lt_two_pow (n := 16) (by omega) (by omega)
    have e := xor_nat c (b * 256) (by omega) (by omega)
    obtain ⟨r, hr, h1, h2⟩ := sum_l x hx d (i + 1) (by omega) (stps 8 (c ^^^ b * 256)) (stps_lt 8 _ hx2)
    refine ⟨r, hr, ?_, ?_⟩
    · refine Ev.step (fun k => ?_) (sSum_in x (i : Int) (r : Int) 8 0 rfl _ hx2 ?_)
      · show spec_l1Sum.l0 (k + 1) x (c : Int) (i : Int) = spec_l1Sum.l1 k x ((c ^^^ b * 256 : Nat) : Int) (i : Int) 0
        rw [spec_l1Sum.l0, if_pos (by omega), if_pos (by omega), hb, w1, w2, e]
      · rw [succ_wrap (by omega)]
        exact h1
    · refine Ev.step (fun k => ?_) (iSum_in x (x.size : Int) (i : Int) (r : Int) 8 0 rfl _ hx2 ?_)
      · show impl_sumOf.l0 (k + 1) x (c : Int) (x.size : Int) (i : Int) = impl_sumOf.l1 k x ((c ^^^ b * 256 : Nat) : Int) (x.size : Int) (i : Int) 0
        rw [impl_sumOf.l0, if_pos (by omega), if_pos (by omega), if_pos (by omega), hb, w1, w2, e]
      · rw [succ_wrap (by omega)]
        exact h2
theorem sum_ev (x : ByteArray) (hx : x.size ≤ 1000000000000000) : ∃ r : Nat, r < 65536 ∧ Ev (fun k => spec_l1Sum.f k x) (r : Int) ∧ Ev (fun k => impl_sumOf.f k x) (r : Int) :=
  sum_l x hx x.size 0 (by omega) 65535 (by omega)

theorem SumOf_ev (s : ByteArray) (hs : s.size ≤ 1048576) : ∃ (r : Int) (o : Bool), Ev (fun k => spec_SumOf.f k s) (r, o) ∧ Ev (fun k => impl_SumOf.f k s) (r, o) := by
  unfold spec_SumOf.f impl_SumOf.f
  by_cases h : (s.size : Int) > 600
  · exact ⟨0, false, Ev.ifp h (Ev.now _), Ev.ifp h (Ev.now _)⟩
  · obtain ⟨r, _, h1, h2⟩ := sum_ev s (by omega)
    exact ⟨r, true, Ev.ifn h (Ev.bind h1 (Ev.now _)), Ev.ifn h (Ev.bind h2 (Ev.now _))⟩
theorem FnExactSumOf : laws_FnExactSumOf.Pure := by
  intro a0 _
  apply Ev.rounds
  unfold laws_FnExactSumOf.f
  by_cases hz : a0.size ≤ 1048576
  · refine Ev.ifn (by omega) ?_
    obtain ⟨r, o, hs, hi⟩ := SumOf_ev a0 hz
    repeat first
      | with_reducible exact Ev.now _
      | (with_reducible refine Ev.bind (hs) ?_; try dsimp only)
      | (with_reducible refine Ev.bind (hi) ?_; try dsimp only)
      | (with_reducible refine Ev.ifp ?hc ?_; (case hc => first | rfl | omega | (simp; done)))
      | (with_reducible refine Ev.ifn ?hc ?_; (case hc => first | decide | omega | (simp; done)))
  · exact Ev.ifp (by omega) (Ev.now _)

end Go.Proofs.Ytpjbggfhdklnmaa.Pure
