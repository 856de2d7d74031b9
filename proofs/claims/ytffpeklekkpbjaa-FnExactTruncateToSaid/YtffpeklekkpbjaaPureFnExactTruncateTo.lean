/- TruncateTo of the program answers as the reference's, for every store and every offset; its answer owns its memory. Conditions: none but the statement's own. -/
import Derived.Test.YtffpeklekkpbjaaQFnExactTruncateTox26
namespace Go.Proofs.Ytffpeklekkpbjaa.Pure
open Go.RowKit Go.Proofs.Ytffpeklekkpbjaa.QFnExactTruncateTo Go.Proofs.YtffpeklekkpbjaaW.PrintWords Go.Proofs.YtffpeklekkpbjaaW.PrintLast Go.Proofs.YtffpeklekkpbjaaW.PrintMore
set_option linter.unusedVariables false
set_option linter.unusedSimpArgs false
theorem Ev.succ {α : Type} {g : Nat → Option α} {r : α} (k : Ev (fun n => g (n + 1)) r) : Ev g r := Ev.step (fun _ => rfl) k
theorem Ev.ifp {α : Type} {c : Prop} [Decidable c] {f g : Nat → Option α} {r : α} (h : c) (k : Ev f r) : Ev (fun n => if c then f n else g n) r := Ev.congr (fun n => if_pos h) k
theorem Ev.ifn {α : Type} {c : Prop} [Decidable c] {f g : Nat → Option α} {r : α} (h : ¬ c) (k : Ev g r) : Ev (fun n => if c then f n else g n) r := Ev.congr (fun n => if_neg h) k
def EvB (g : Nat → Option Bool) (Q : Prop) : Prop := ∃ b : Bool, Ev g b ∧ (b = true ↔ Q)
theorem EvB.step {g f : Nat → Option Bool} {Q : Prop} (h : ∀ k, g (k + 1) = f k) (k : EvB f Q) : EvB g Q := by
 obtain ⟨b, hb, hq⟩ := k
 exact ⟨b, Ev.step h hb, hq⟩
theorem EvB.iff {g : Nat → Option Bool} {Q R : Prop} (k : EvB g Q) (h : Q ↔ R) : EvB g R := by
 obtain ⟨b, hb, hq⟩ := k
 exact ⟨b, hb, hq.trans h⟩
theorem EvB.no {g : Nat → Option Bool} {Q : Prop} (h : ∀ k, g (k + 1) = some false) (hq : ¬ Q) : EvB g Q := ⟨false, Ev.step (f := fun _ => some false) h (Ev.now _), Iff.intro (fun h => by cases h) (fun h => absurd h hq)⟩
theorem EvB.yes {g : Nat → Option Bool} {Q : Prop} (h : ∀ k, g (k + 1) = some true) (hq : Q) : EvB g Q := ⟨true, Ev.step (f := fun _ => some true) h (Ev.now _), ⟨fun _ => hq, fun _ => rfl⟩⟩
theorem wrap_id {x : Int} (h0 : -9223372036854775808 ≤ x) (h1 : x ≤ 9223372036854775807) : wrap64 x = x := by
 unfold wrap64
 omega
theorem succ_wrap {i : Nat} (h : i ≤ 9000000000000000000) : wrap64 ((i : Int) + 1) = ((i + 1 : Nat) : Int) := by
 rw [wrap_id (by omega) (by omega)]
 omega
theorem pred_wrap {i : Nat} (h0 : 0 < i) (h : i ≤ 9000000000000000000) : wrap64 ((i : Int) - 1) = ((i - 1 : Nat) : Int) := by
 rw [wrap_id (by omega) (by omega)]
 omega
theorem tn_nat (i : Nat) : ((i : Int)).toNat = i := rfl
theorem conv_ev {β : Type} (n : Nat) (F : List β → Nat → Nat → Option (List β)) (c : Nat → β) (h1 : ∀ x : List β, x.length = n → Ev (F x n) x)
  (h2 : ∀ (x : List β) (i : Nat), i < n → x.length = n → ∀ r, Ev (F (x.set i (c i)) (i + 1)) r → Ev (F x i) r) : ∀ x0 : List β, x0.length = n → Ev (F x0 0) ((List.range n).map c) := by
 have key : ∀ d i (x : List β), i + d = n → x.length = n → Ev (F x i) (x.take i ++ (List.range d).map fun j => c (i + j)) := by
  intro d
  induction d with
  | zero =>
   intro i x hd hx
   have hi : i = n := by omega
   subst hi
   have : x.take i ++ (List.range 0).map (fun j => c (i + j)) = x := by
    rw [List.take_of_length_le (by omega)]
    simp
   rw [this]
   exact h1 x hx
  | succ d ih =>
   intro i x hd hx
   have hi : i < n := by omega
   have := ih (i + 1) (x.set i (c i)) (by omega) (by rw [List.length_set]; exact hx)
   have e : (x.set i (c i)).take (i + 1) ++ (List.range d).map (fun j => c (i + 1 + j)) = x.take i ++ (List.range (d + 1)).map (fun j => c (i + j)) := by
    rw [List.range_succ_eq_map, List.map_cons, List.map_map]
    have ht : (x.set i (c i)).take (i + 1) = x.take i ++ [c i] := by
     rw [List.take_succ_eq_append_getElem (by rw [List.length_set]; omega)]
     rw [List.take_set_of_le (Nat.le_refl _), List.getElem_set_self]
    rw [ht, List.append_assoc]
    congr 1
    rw [List.singleton_append]
    congr 1
    apply List.map_congr_left
    intro j _
    show c (i + 1 + j) = c (i + (j + 1))
    congr 1
    omega
   rw [e] at this
   exact h2 x i hi hx _ this
 intro x0 hx0
 have := key n 0 x0 (by omega) hx0
 rw [List.take_zero, List.nil_append] at this
 have e : (fun j => c (0 + j)) = c := by
  funext j
  rw [Nat.zero_add]
 rw [e] at this
 exact this

theorem all_ev (n : Nat) (F : Nat → Nat → Option Bool) (h1 : Ev (F n) true) (h2 : ∀ i, i < n → Ev (F (i + 1)) true → Ev (F i) true) : Ev (F 0) true := by
 have key : ∀ d i, i + d = n → Ev (F i) true := by
  intro d
  induction d with
  | zero =>
   intro i hd
   have hi : i = n := by omega
   subst hi
   exact h1
  | succ d ih =>
   intro i hd
   exact h2 i (by omega) (ih (i + 1) (by omega))
 exact key n 0 (by omega)

def markL {β : Type} (mk : β → Nat → β) (cnt : β → Nat) : List β → Nat → List β
 | [], _ => []
 | b :: r, m => mk b m :: markL mk cnt r (m + cnt b)
def cntL {β : Type} (cnt : β → Nat) : List β → Nat
 | [] => 0
 | b :: r => cnt b + cntL cnt r
theorem markL_length {β : Type} (mk : β → Nat → β) (cnt : β → Nat) : ∀ (l : List β) (m : Nat), (markL mk cnt l m).length = l.length
 | [], _ => rfl
 | b :: r, m => by
  show (markL mk cnt r _).length + 1 = r.length + 1
  rw [markL_length mk cnt r]
theorem cntL_le {β : Type} (cnt : β → Nat) (c : Nat) : ∀ l : List β, (∀ b ∈ l, cnt b ≤ c) → cntL cnt l ≤ c * l.length
 | [], _ => Nat.zero_le _
 | b :: r, h => by
  have h1 := cntL_le cnt c r (fun x hx => h x (List.mem_cons_of_mem _ hx))
  have h2 := h b List.mem_cons_self
  show cnt b + cntL cnt r ≤ c * (r.length + 1)
  rw [Nat.mul_add, Nat.mul_one]
  omega
theorem mark_ev {β : Type} (z : β) (mk : β → Nat → β) (cnt : β → Nat) (B n : Nat) (F : List β → Nat → Nat → Nat → Option (Int × List β)) (h1 : ∀ (x : List β) (m : Nat), x.length = n → Ev (F x m n) ((m : Int), x))
  (h2 : ∀ (x : List β) (m i : Nat), x.length = n → i < n → m + cnt (x.getD i z) ≤ B → ∀ r, Ev (F (x.set i (mk (x.getD i z) m)) (m + cnt (x.getD i z)) (i + 1)) r → Ev (F x m i) r) :
  ∀ (x : List β) (m : Nat), x.length = n → m + cntL cnt x ≤ B → Ev (F x m 0) (((m + cntL cnt x : Nat) : Int), markL mk cnt x m) := by
 have key : ∀ (rest done : List β) (m : Nat), done.length + rest.length = n → m + cntL cnt rest ≤ B → Ev (F (done ++ rest) m done.length) (((m + cntL cnt rest : Nat) : Int), done ++ markL mk cnt rest m) := by
  intro rest
  induction rest with
  | nil =>
   intro done m hn _
   have hn' : done.length = n := hn
   have := h1 done m hn'
   rw [← hn'] at this
   rw [List.append_nil]
   show Ev _ (((m + 0 : Nat) : Int), done ++ [])
   rw [List.append_nil]
   exact this
  | cons b r ih =>
   intro done m hn hm
   have hn' : done.length + (r.length + 1) = n := hn
   have hm' : m + (cnt b + cntL cnt r) ≤ B := hm
   have hg : (done ++ b :: r).getD done.length z = b := by simp [List.getD]
   have hs : (done ++ b :: r).set done.length (mk b m) = (done ++ [mk b m]) ++ r := by simp [List.set_append]
   have := ih (done ++ [mk b m]) (m + cnt b) (by rw [List.length_append, List.length_singleton]; omega) (by omega)
   refine h2 _ m done.length (by simp; omega) (by omega) (by rw [hg]; omega) _ ?_
   rw [hg, hs]
   rw [List.length_append, List.length_singleton] at this
   have e : m + cnt b + cntL cnt r = m + (cnt b + cntL cnt r) := by omega
   have e2 : done ++ [mk b m] ++ markL mk cnt r (m + cnt b) = done ++ (mk b m :: markL mk cnt r (m + cnt b)) := by rw [List.append_assoc, List.singleton_append]
   rw [e, e2] at this
   exact this
 intro x m hn hm
 exact key x [] m (by simpa using hn) hm
theorem held_ev {β : Type} (z : β) (mk : β → Nat → β) (cnt : β → Nat) (B n : Nat) (H : List β → Nat → Nat → Nat → Option Int) (h1 : ∀ (x : List β) (m : Nat), x.length = n → Ev (H x m n) (m : Int))
  (h2 : ∀ (x : List β) (m i : Nat) (b : β), x.length = n → i < n → x.getD i z = mk b m → m + cnt b ≤ B → ∀ r, Ev (H x (m + cnt b) (i + 1)) r → Ev (H x m i) r) :
  ∀ (x : List β) (m : Nat), x.length = n → m + cntL cnt x ≤ B → Ev (H (markL mk cnt x m) m 0) ((m + cntL cnt x : Nat) : Int) := by
 have key : ∀ (rest done : List β) (m : Nat), done.length + rest.length = n → m + cntL cnt rest ≤ B → Ev (H (done ++ markL mk cnt rest m) m done.length) ((m + cntL cnt rest : Nat) : Int) := by
  intro rest
  induction rest with
  | nil =>
   intro done m hn _
   have hn' : done.length = n := hn
   have := h1 done m hn'
   rw [← hn'] at this
   show Ev (H (done ++ []) m done.length) _
   rw [List.append_nil]
   exact this
  | cons b r ih =>
   intro done m hn hm
   have hn' : done.length + (r.length + 1) = n := hn
   have hm' : m + (cnt b + cntL cnt r) ≤ B := hm
   have := ih (done ++ [mk b m]) (m + cnt b) (by rw [List.length_append, List.length_singleton]; omega) (by omega)
   show Ev (H (done ++ (mk b m :: markL mk cnt r (m + cnt b))) m done.length) _
   refine h2 _ m done.length b (by simp [markL_length]; omega) (by omega) (by simp [List.getD]) (by omega) _ ?_
   rw [List.length_append, List.length_singleton, List.append_assoc, List.singleton_append] at this
   have e : m + cnt b + cntL cnt r = m + (cnt b + cntL cnt r) := by omega
   rw [e] at this
   exact this
 intro x m hn hm
 exact key x [] m (by simpa using hn) hm

theorem map_range_getD {α β : Type} (l : List α) (z : α) (f : α → β) : (List.range l.length).map (fun i => f (l.getD i z)) = l.map f := by
 apply List.ext_getElem
 ·simp
 ·intro i h1 h2
  simp at h1 h2
  simp [h2]
theorem getD_mem {α : Type} {l : List α} {i : Nat} (h : i < l.length) (z : α) : l.getD i z ∈ l := by
 rw [List.getD_eq_getElem?_getD, List.getElem?_eq_getElem h, Option.getD_some]
 exact List.getElem_mem h

theorem wr64 (n : Int) (h₀ : 0 ≤ n) (h₁ : n < 2 ^ 62) : IntKind.i64.wrap n = n := by
 rw [IntKind.wrap_i64]
 omega
theorem xor_nat (a b : Nat) (ha : a < 2 ^ 62) (hb : b < 2 ^ 62) : Go.bits .xor .i64 (a : Int) (b : Int) = ((a ^^^ b : Nat) : Int) := by
 have hx : a ^^^ b < 2 ^ 62 := Nat.xor_lt_two_pow ha hb
 have h1 : (BitVec.ofInt 64 (a : Int)).toNat = a := by
  rw [BitVec.ofInt_natCast, BitVec.toNat_ofNat]
  exact Nat.mod_eq_of_lt (by omega)
 have h2 : (BitVec.ofInt 64 (b : Int)).toNat = b := by
  rw [BitVec.ofInt_natCast, BitVec.toNat_ofNat]
  exact Nat.mod_eq_of_lt (by omega)
 show IntKind.i64.wrap ((BitVec.ofInt 64 (a : Int) ^^^ BitVec.ofInt 64 (b : Int)).toNat : Int) = _
 rw [BitVec.toNat_xor, h1, h2]
 exact wr64 _ (Int.natCast_nonneg _) (by omega)
theorem and_low (m : Nat) (h : m < 2 ^ 62) : Go.bits .and .i64 (m : Int) 65535 = ((m % 65536 : Nat) : Int) := by
 show Go.bits .and .i64 (m : Int) ((65535 : Nat) : Int) = _
 rw [(bits_nat .i64 62 (by decide) wr64 m 65535 h (by decide)).1]
 exact congrArg _ (Nat.and_two_pow_sub_one_eq_mod m 16)
theorem and_top (c : Nat) (h : c < 65536) : Go.bits .and .i64 (c : Int) 32768 = 0 ↔ c < 32768 := by
 show Go.bits .and .i64 (c : Int) ((32768 : Nat) : Int) = 0 ↔ _
 rw [(bits_nat .i64 62 (by decide) wr64 c 32768 (by omega) (by decide)).1]
 constructor
 ·intro e
  by_cases hc : c < 32768
  ·exact hc
  ·have e' : c &&& 2 ^ 15 = 0 := by
    have : (2 : Nat) ^ 15 = 32768 := by decide
    rw [this]
    omega
   have t : (c &&& 2 ^ 15).testBit 15 = true := by
    rw [Nat.testBit_and, Nat.testBit_two_pow_self, Bool.and_true, Nat.testBit_eq_decide_div_mod_eq, decide_eq_true_iff]
    omega
   rw [e', Nat.zero_testBit] at t
   cases t
 ·intro hc
  have e : c &&& 2 ^ 15 = 0 := by
   refine Nat.eq_of_testBit_eq fun j => ?_
   rw [Nat.testBit_and, Nat.zero_testBit]
   by_cases hj : j = 15
   ·subst hj
    rw [Nat.testBit_lt_two_pow (x := c) (i := 15) (by omega), Bool.false_and]
   ·rw [Nat.testBit_two_pow_of_ne (fun e => hj e.symm), Bool.and_false]
  have : (2 : Nat) ^ 15 = 32768 := by decide
  rw [this] at e
  rw [e]
  rfl
theorem bt_bd (s : ByteArray) (i : Int) : ∃ b : Nat, bt s i = (b : Int) ∧ b ≤ 255 := by
 unfold bt
 split
 ·rename_i h
  have := UInt8.toNat_lt (s[i.toNat]'h)
  exact ⟨_, rfl, by omega⟩
 ·exact ⟨0, rfl, by omega⟩
def stp (c : Nat) : Nat := if c < 32768 then c * 2 else (c * 2 % 65536) ^^^ 4129
theorem stp_lt (c : Nat) : stp c < 65536 := by
 unfold stp
 split
 ·omega
 ·exact Nat.xor_lt_two_pow (n := 16) (by omega) (by omega)
def stps : Nat → Nat → Nat
 | 0, c => c
 | d + 1, c => stps d (stp c)
theorem stps_lt : ∀ d c, c < 65536 → stps d c < 65536
 | 0, c, h => h
 | d + 1, c, _ => stps_lt d (stp c) (stp_lt c)
theorem sSum_in (x : ByteArray) (i : Int) (r : Int) : ∀ d j : Nat, j + d = 8 → ∀ c : Nat, c < 65536 → Ev (fun k => spec_l1Sum.l0 k x ((stps d c : Nat) : Int) (wrap64 (i + 1))) r → Ev (fun k => spec_l1Sum.l1 k x (c : Int) i (j : Int)) r
 | 0, j, hd => fun c hc h => Ev.step (fun k => by rw [spec_l1Sum.l1, if_neg (by omega)]; rfl) h
 | d + 1, j, hd => fun c hc h => by
  have w : wrap64 ((c : Int) * 2) = ((c * 2 : Nat) : Int) := by
   rw [wrap_id (by omega) (by omega)]
   omega
  refine Ev.step (fun k => ?_) (sSum_in x i r d (j + 1) (by omega) (stp c) (stp_lt c) h)
  show spec_l1Sum.l1 (k + 1) x (c : Int) i (j : Int) = spec_l1Sum.l1 k x ((stp c : Nat) : Int) i ((j + 1 : Nat) : Int)
  rw [spec_l1Sum.l1, if_pos (by omega), w, succ_wrap (by omega)]
  unfold stp
  by_cases hs : c < 32768
  ·rw [if_neg (by omega), if_pos hs]
  ·rw [if_pos (by omega), if_neg hs, and_low _ (by omega)]
   have e : Go.bits .xor .i64 ((c * 2 % 65536 : Nat) : Int) 4129 = ((c * 2 % 65536 ^^^ 4129 : Nat) : Int) := xor_nat _ 4129 (by omega) (by omega)
   rw [e]
theorem iSum_in (x : ByteArray) (n i : Int) (r : Int) : ∀ d j : Nat, j + d = 8 → ∀ c : Nat, c < 65536 → Ev (fun k => impl_sumOf.l0 k x ((stps d c : Nat) : Int) n (wrap64 (i + 1))) r → Ev (fun k => impl_sumOf.l1 k x (c : Int) n i (j : Int)) r
 | 0, j, hd => fun c hc h => Ev.step (fun k => by rw [impl_sumOf.l1, if_neg (by omega)]; rfl) h
 | d + 1, j, hd => fun c hc h => by
  have w : wrap64 ((c : Int) * 2) = ((c * 2 : Nat) : Int) := by
   rw [wrap_id (by omega) (by omega)]
   omega
  refine Ev.step (fun k => ?_) (iSum_in x n i r d (j + 1) (by omega) (stp c) (stp_lt c) h)
  show impl_sumOf.l1 (k + 1) x (c : Int) n i (j : Int) = impl_sumOf.l1 k x ((stp c : Nat) : Int) n i ((j + 1 : Nat) : Int)
  rw [impl_sumOf.l1, if_pos (by omega), w, succ_wrap (by omega), and_low _ (by omega)]
  unfold stp
  by_cases hs : c < 32768
  ·rw [if_pos ((and_top c hc).2 hs), if_pos hs]
   have e : c * 2 % 65536 = c * 2 := by omega
   rw [e]
  ·rw [if_neg (fun h => hs ((and_top c hc).1 h)), if_neg hs]
   have e : Go.bits .xor .i64 ((c * 2 % 65536 : Nat) : Int) 4129 = ((c * 2 % 65536 ^^^ 4129 : Nat) : Int) := xor_nat _ 4129 (by omega) (by omega)
   rw [e]
theorem sum_l (x : ByteArray) (hx : x.size ≤ 1000000000000000) : ∀ d i : Nat, i + d = x.size → ∀ c : Nat, c < 65536 →
  ∃ r : Nat, r < 65536 ∧ Ev (fun k => spec_l1Sum.l0 k x (c : Int) (i : Int)) (r : Int) ∧ Ev (fun k => impl_sumOf.l0 k x (c : Int) (x.size : Int) (i : Int)) (r : Int)
 | 0, i, hd => fun c hc => ⟨c, hc, Ev.step (f := fun _ => some (c : Int)) (fun k => by rw [spec_l1Sum.l0, if_neg (by omega)]) (Ev.now _), Ev.step (f := fun _ => some (c : Int)) (fun k => by rw [impl_sumOf.l0, if_neg (by omega)]) (Ev.now _)⟩
 | d + 1, i, hd => fun c hc => by
  obtain ⟨b, hb, hb2⟩ := bt_bd x (i : Int)
  have w1 : wrap64 (b : Int) = (b : Int) := wrap_id (by omega) (by omega)
  have w2 : wrap64 ((b : Int) * 256) = ((b * 256 : Nat) : Int) := by
   rw [wrap_id (by omega) (by omega)]
   omega
  have hx2 : c ^^^ b * 256 < 65536 := Nat.xor_lt_two_pow (n := 16) (by omega) (by omega)
  have e := xor_nat c (b * 256) (by omega) (by omega)
  obtain ⟨r, hr, h1, h2⟩ := sum_l x hx d (i + 1) (by omega) (stps 8 (c ^^^ b * 256)) (stps_lt 8 _ hx2)
  refine ⟨r, hr, ?_, ?_⟩
  ·refine Ev.step (fun k => ?_) (sSum_in x (i : Int) (r : Int) 8 0 rfl _ hx2 ?_)
   ·show spec_l1Sum.l0 (k + 1) x (c : Int) (i : Int) = spec_l1Sum.l1 k x ((c ^^^ b * 256 : Nat) : Int) (i : Int) 0
    rw [spec_l1Sum.l0, if_pos (by omega), if_pos (by omega), hb, w1, w2, e]
   ·rw [succ_wrap (by omega)]
    exact h1
  ·refine Ev.step (fun k => ?_) (iSum_in x (x.size : Int) (i : Int) (r : Int) 8 0 rfl _ hx2 ?_)
   ·show impl_sumOf.l0 (k + 1) x (c : Int) (x.size : Int) (i : Int) = impl_sumOf.l1 k x ((c ^^^ b * 256 : Nat) : Int) (x.size : Int) (i : Int) 0
    rw [impl_sumOf.l0, if_pos (by omega), if_pos (by omega), if_pos (by omega), hb, w1, w2, e]
   ·rw [succ_wrap (by omega)]
    exact h2
theorem sum_ev (x : ByteArray) (hx : x.size ≤ 1000000000000000) : ∃ r : Nat, r < 65536 ∧ Ev (fun k => spec_l1Sum.f k x) (r : Int) ∧ Ev (fun k => impl_sumOf.f k x) (r : Int) :=
 sum_l x hx x.size 0 (by omega) 65535 (by omega)

theorem st_nat (l : List ByteArray) (i : Nat) : rdOf ByteArray.empty l (i : Int) = l.getD i ByteArray.empty := rfl

theorem iin (a b c : Int) : impl_in.f a b c = some (decide (b ≤ a ∧ a ≤ c)) := by
 unfold impl_in.f
 by_cases h : a ≥ b
 ·rw [if_pos h]
  have e : (b ≤ a ∧ a ≤ c) ↔ a ≤ c := ⟨fun h => h.2, fun h' => ⟨h, h'⟩⟩
  simp only [e]
 ·rw [if_neg h, decide_eq_false]
  intro h'
  exact h h'.1

theorem sin (a b c : Int) : spec_l1In.f a b c = some (decide (b ≤ a ∧ a ≤ c)) := by
 unfold spec_l1In.f
 by_cases h : a ≥ b
 ·rw [if_pos h]
  have e : (b ≤ a ∧ a ≤ c) ↔ a ≤ c := ⟨fun h => h.2, fun h' => ⟨h, h'⟩⟩
  simp only [e]
 ·rw [if_neg h, decide_eq_false]
  intro h'
  exact h h'.1

theorem EvB.and {P Q : Prop} [Decidable P] {g : Nat → Option Bool} (h : EvB g Q) : EvB (fun k => if decide P = true then g k else some false) (P ∧ Q) := by
 obtain ⟨b, hb, hq⟩ := h
 by_cases hp : P
 ·exact ⟨b, Ev.ifp (by rw [decide_eq_true hp]) hb, ⟨fun h => ⟨hp, hq.1 h⟩, fun h => hq.2 h.2⟩⟩
 ·exact ⟨false, Ev.ifn (by rw [decide_eq_false hp]; decide) (Ev.now _), Iff.intro (fun h => by cases h) (fun h => absurd h.1 hp)⟩
theorem EvB.dec {P : Prop} [Decidable P] : EvB (fun _ => some (decide P)) P := ⟨decide P, Ev.now _, decide_eq_true_iff⟩
theorem both {g f : Nat → Option Bool} {Q : Prop} (h : EvB g Q) (k : EvB f Q) : ∃ b : Bool, Ev g b ∧ Ev f b ∧ (b = true ↔ Q) := by
 obtain ⟨b, hb, hq⟩ := h
 obtain ⟨c, hc, hr⟩ := k
 obtain rfl : c = b := Bool.eq_iff_iff.2 (hr.trans hq.symm)
 exact ⟨c, hb, hc, hq⟩

theorem ixS_iff (q : Nat → Bool) : ∀ d i, (0 ≤ ixS q i d) ↔ ∃ j, i ≤ j ∧ j < i + d ∧ q j = true
 | 0, i => by
  rw [ixS]
  exact ⟨fun h => by omega, fun ⟨j, h1, h2, _⟩ => by omega⟩
 | d + 1, i => by
  rw [ixS]
  by_cases h : q i = true
  ·rw [if_pos h]
   exact ⟨fun _ => ⟨i, Nat.le_refl _, by omega, h⟩, fun _ => by omega⟩
  ·rw [if_neg h, ixS_iff q d (i + 1)]
   refine ⟨fun ⟨j, h1, h2, h3⟩ => ⟨j, by omega, by omega, h3⟩, fun ⟨j, h1, h2, h3⟩ => ⟨j, ?_, by omega, h3⟩⟩
   by_cases e : j = i
   ·rw [e] at h3
    exact absurd h3 h
   ·omega
def GB (o e p s : Int) (l : List ByteArray) : Prop :=
 (∀ j, j < l.length → (l.getD j ByteArray.empty).size ≤ 20) ∧ (0 ≤ o ∧ o ≤ 100000) ∧ (0 ≤ e ∧ e ≤ 1000) ∧ (0 ≤ p ∧ p ≤ 65535) ∧ (0 ≤ s ∧ s ≤ 65535) ∧ (1 ≤ (l.length : Int) ∧ (l.length : Int) ≤ 8)
theorem sGB_l (o e p s : Int) (l : List ByteArray) (hl : l.length ≤ 1048576) : ∀ d i : Nat, i + d = l.length →
  EvB (fun k => spec_GoodBatch.l0 k l (l.length : Int) (i : Int) o e p s l) ((∀ j, i ≤ j → j < l.length → (l.getD j ByteArray.empty).size ≤ 20) ∧ (0 ≤ o ∧ o ≤ 100000) ∧ (0 ≤ e ∧ e ≤ 1000) ∧ (0 ≤ p ∧ p ≤ 65535) ∧ (0 ≤ s ∧ s ≤ 65535) ∧ (1 ≤ (l.length : Int) ∧ (l.length : Int) ≤ 8))
 | 0, i, hd => by
  refine EvB.step (f := fun _ => if decide ((0 : Int) ≤ o ∧ o ≤ 100000) = true then (if decide ((0 : Int) ≤ e ∧ e ≤ 1000) = true then (if decide ((0 : Int) ≤ p ∧ p ≤ 65535) = true then (if decide ((0 : Int) ≤ s ∧ s ≤ 65535) = true then some (decide (1 ≤ (l.length : Int) ∧ (l.length : Int) ≤ 8)) else some false) else some false) else some false) else some false) (fun k => ?_) ?_
  ·rw [spec_GoodBatch.l0, if_neg (by omega)]
   simp only [sin, Option.bind_some]
  ·refine EvB.iff (EvB.and (EvB.and (EvB.and (EvB.and EvB.dec)))) ⟨fun h => ⟨fun j h1 h2 => by omega, h⟩, fun h => h.2⟩
 | d + 1, i, hd => by
  by_cases hz : ((l.getD i ByteArray.empty).size : Int) > 20
  ·refine EvB.no (fun k => ?_) (fun h => ?_)
   ·rw [spec_GoodBatch.l0, if_pos (by omega), if_pos (by omega), if_pos (by omega), st_nat, if_pos hz]
   ·have := h.1 i (Nat.le_refl _) (by omega)
    omega
  ·refine EvB.step (fun k => ?_) (EvB.iff (sGB_l o e p s l hl d (i + 1) (by omega)) ?_)
   ·show spec_GoodBatch.l0 (k + 1) l (l.length : Int) (i : Int) o e p s l = spec_GoodBatch.l0 k l (l.length : Int) ((i + 1 : Nat) : Int) o e p s l
    rw [spec_GoodBatch.l0, if_pos (by omega), if_pos (by omega), if_pos (by omega), st_nat, if_neg hz, succ_wrap (by omega)]
   ·refine and_congr_left fun _ => ⟨fun h j h1 h2 => ?_, fun h j h1 h2 => h j (by omega) h2⟩
    by_cases e : j = i
    ·rw [e]
     omega
    ·exact h j (by omega) h2
theorem sGB_ev (o e p s : Int) (l : List ByteArray) (hl : l.length ≤ 1048576) : EvB (fun k => spec_GoodBatch.f k o e p s l) (GB o e p s l) := by
 have h := sGB_l o e p s l hl l.length 0 (by omega)
 exact h.iff ⟨fun h => ⟨fun j hj => h.1 j (Nat.zero_le _) hj, h.2⟩, fun h => ⟨fun j _ hj => h.1 j hj, h.2⟩⟩
theorem iGB_ev (o e p s : Int) (l : List ByteArray) : EvB (fun _ => impl_isBatch.f o e p s l) (GB o e p s l) := by
 have hq : ∀ j, impl_areRecords.q l j = true ↔ ¬ (l.getD j ByteArray.empty).size ≤ 20 := fun j => by
  unfold impl_areRecords.q
  rw [decide_eq_true_iff, st_nat]
  omega
 have ha : EvB (fun _ : Nat => impl_areRecords.f l) ((1 ≤ (l.length : Int) ∧ (l.length : Int) ≤ 8) ∧ ∀ j, j < l.length → (l.getD j ByteArray.empty).size ≤ 20) := by
  unfold impl_areRecords.f
  simp only [iin, Option.bind_some]
  refine EvB.and ⟨_, Ev.now _, ?_⟩
  rw [Bool.not_eq_true', decide_eq_false_iff_not, ixS_iff]
  refine ⟨fun h j hj => ?_, fun h ⟨j, h1, h2, h3⟩ => (hq j).1 h3 (h j (by omega))⟩
  by_cases hz : (l.getD j ByteArray.empty).size ≤ 20
  ·exact hz
  ·exact absurd ⟨j, Nat.zero_le _, by omega, (hq j).2 hz⟩ h
 obtain ⟨b, hb, hbq⟩ := ha
 have hb' : impl_areRecords.f l = some b := by
  obtain ⟨K, hK⟩ := hb
  exact hK K (Nat.le_refl _)
 unfold impl_isBatch.f
 simp only [iin, Option.bind_some, hb']
 refine EvB.iff (EvB.and (EvB.and (EvB.and (EvB.and ⟨b, Ev.now _, hbq⟩)))) ?_
 unfold GB
 constructor
 ·rintro ⟨h1, h2, h3, h4, h5, h6⟩
  exact ⟨h6, h1, h2, h3, h4, h5⟩
 ·rintro ⟨h6, h1, h2, h3, h4, h5⟩
  exact ⟨h1, h2, h3, h4, h5, h6⟩

def bytF : Nat → Int → List Int → List Int
 | 0, _, x => x
 | d + 1, v, x => bytF d (v / 256) (x.set d (v % 256))
theorem bytF_len : ∀ (d : Nat) (v : Int) (x : List Int), (bytF d v x).length = x.length
 | 0, _, _ => rfl
 | d + 1, v, x => by rw [bytF, bytF_len d, List.length_set]
def byt (v : Int) (n : Nat) : ByteArray := strOfNums (bytF n v (List.replicate n 0))
theorem byt_size (v : Int) (n : Nat) : (byt v n).size = n := by
 unfold byt
 rw [strOfNums_size, bytF_len, List.length_replicate]
theorem sByt_l : ∀ (d : Nat) (v : Int) (x : List Int), d ≤ x.length → d ≤ 1000 → Ev (fun k => spec_l1Bytes.l0 k v x ((d : Int) - 1)) (strOfNums (bytF d v x))
 | 0, v, x, _, _ => Ev.step (f := fun _ => some (strOfNums x)) (fun k => by rw [spec_l1Bytes.l0, if_neg (by omega)]) (Ev.now _)
 | d + 1, v, x, h, h2 => by
  refine Ev.step (fun k => ?_) (sByt_l d (v / 256) (x.set d (v % 256)) (by rw [List.length_set]; omega) (by omega))
  have e : ((d + 1 : Nat) : Int) - 1 = (d : Int) := by omega
  show spec_l1Bytes.l0 (k + 1) v x (((d + 1 : Nat) : Int) - 1) = spec_l1Bytes.l0 k (v / 256) (x.set d (v % 256)) ((d : Int) - 1)
  rw [e, spec_l1Bytes.l0, if_pos (by omega), if_pos (by omega), if_pos (by omega), wrap_id (by omega) (by omega), tn_nat]
theorem iByt_l : ∀ (d : Nat) (v : Int) (x : List Int), d ≤ x.length → d ≤ 1000 → Ev (fun k => impl_put.l0 k v x ((d : Int) - 1)) (strOfNums (bytF d v x))
 | 0, v, x, _, _ => Ev.step (f := fun _ => some (strOfNums x)) (fun k => by rw [impl_put.l0, if_neg (by omega)]) (Ev.now _)
 | d + 1, v, x, h, h2 => by
  refine Ev.step (fun k => ?_) (iByt_l d (v / 256) (x.set d (v % 256)) (by rw [List.length_set]; omega) (by omega))
  have e : ((d + 1 : Nat) : Int) - 1 = (d : Int) := by omega
  show impl_put.l0 (k + 1) v x (((d + 1 : Nat) : Int) - 1) = impl_put.l0 k (v / 256) (x.set d (v % 256)) ((d : Int) - 1)
  rw [e, impl_put.l0, if_pos (by omega), if_pos (by omega), if_pos (by omega), wrap_id (by omega) (by omega), tn_nat]
theorem sByt_ev (v : Int) (n : Nat) (hn : n ≤ 1000) : Ev (fun k => spec_l1Bytes.f k v (n : Int)) (byt v n) := by
 unfold spec_l1Bytes.f
 rw [tn_nat, wrap_id (by omega) (by omega)]
 exact Ev.ifp (by omega) (Ev.ifp (by omega) (sByt_l n v _ (by rw [List.length_replicate]; omega) hn))
theorem iByt_ev (v : Int) (n : Nat) (hn : n ≤ 1000) : Ev (fun k => impl_put.f k v (n : Int)) (byt v n) := by
 unfold impl_put.f
 rw [tn_nat, wrap_id (by omega) (by omega)]
 exact Ev.ifp (by omega) (Ev.ifp (by omega) (iByt_l n v _ (by rw [List.length_replicate]; omega) hn))
open Classical in
noncomputable def sm (x : ByteArray) : Nat := if h : x.size ≤ 1000000000000000 then Classical.choose (sum_ev x h) else 0
theorem sm_ev (x : ByteArray) (h : x.size ≤ 1000000000000000) : Ev (fun k => spec_l1Sum.f k x) (sm x : Int) ∧ Ev (fun k => impl_sumOf.f k x) (sm x : Int) := by
 unfold sm
 rw [dif_pos h]
 exact (Classical.choose_spec (sum_ev x h)).2
def rcs : List ByteArray → ByteArray → ByteArray
 | [], b => b
 | x :: xs, b => rcs xs (b ++ (byt (x.size : Int) 1 ++ x))
def rcl : List ByteArray → Nat
 | [] => 0
 | x :: xs => 1 + x.size + rcl xs
theorem rcs_size : ∀ (l : List ByteArray) (b : ByteArray), (rcs l b).size = b.size + rcl l
 | [], b => rfl
 | x :: xs, b => by
  rw [rcs, rcs_size xs, rcl, ByteArray.size_append, ByteArray.size_append, byt_size]
  omega
noncomputable def fin (b : ByteArray) : ByteArray := (byt ((b.size + 2 : Nat) : Int) 2 ++ b) ++ byt (sm (byt ((b.size + 2 : Nat) : Int) 2 ++ b) : Int) 2
theorem fin_size (b : ByteArray) : (fin b).size = b.size + 4 := by
 unfold fin
 rw [ByteArray.size_append, ByteArray.size_append, byt_size, byt_size]
 omega
def hdr (o e p s : Int) (n : Nat) : ByteArray := (((byt o 3 ++ byt e 2) ++ byt p 2) ++ byt s 2) ++ byt (n : Int) 1
theorem hdr_size (o e p s : Int) (n : Nat) : (hdr o e p s n).size = 10 := by
 unfold hdr
 simp only [ByteArray.size_append, byt_size]
noncomputable def bb (o e p s : Int) (l : List ByteArray) : ByteArray := fin (rcs l (hdr o e p s l.length))
theorem bb_size (o e p s : Int) (l : List ByteArray) : (bb o e p s l).size = 14 + rcl l := by
 unfold bb
 rw [fin_size, rcs_size, hdr_size]
 omega
theorem sfin_ev (b : ByteArray) (hb : b.size ≤ 100000000) : Ev (fun k => (spec_l1Bytes.f k (wrap64 ((b.size : Int) + 2)) 2).bind fun t139 => (if t139.size + b.size ≤ 9223372036854775807 then ((spec_l1Sum.f k (t139 ++ b)).bind fun t140 => ((spec_l1Bytes.f k t140 2).bind fun t141 => (if (t139 ++ b).size + t141.size ≤ 9223372036854775807 then (some ((t139 ++ b) ++ t141)) else (none)))) else (none))) (fin b) := by
 have w : wrap64 ((b.size : Int) + 2) = ((b.size + 2 : Nat) : Int) := by
  rw [wrap_id (by omega) (by omega)]
  omega
 have hz : (byt ((b.size + 2 : Nat) : Int) 2 ++ b).size = 2 + b.size := by rw [ByteArray.size_append, byt_size]
 rw [w]
 refine Ev.bind (sByt_ev _ 2 (by omega)) (Ev.ifp (by rw [byt_size]; omega) (Ev.bind (sm_ev _ (by omega)).1 (Ev.bind (sByt_ev _ 2 (by omega)) (Ev.ifp (by rw [hz, byt_size]; omega) (Ev.now _)))))
theorem ifin_ev (b : ByteArray) (hb : b.size ≤ 100000000) : Ev (fun k => (impl_put.f k (wrap64 ((b.size : Int) + 2)) 2).bind fun t139 => (if t139.size + b.size ≤ 9223372036854775807 then ((impl_sumOf.f k (t139 ++ b)).bind fun t140 => ((impl_put.f k t140 2).bind fun t141 => (if (t139 ++ b).size + t141.size ≤ 9223372036854775807 then (some ((t139 ++ b) ++ t141)) else (none)))) else (none))) (fin b) := by
 have w : wrap64 ((b.size : Int) + 2) = ((b.size + 2 : Nat) : Int) := by
  rw [wrap_id (by omega) (by omega)]
  omega
 have hz : (byt ((b.size + 2 : Nat) : Int) 2 ++ b).size = 2 + b.size := by rw [ByteArray.size_append, byt_size]
 rw [w]
 refine Ev.bind (iByt_ev _ 2 (by omega)) (Ev.ifp (by rw [byt_size]; omega) (Ev.bind (sm_ev _ (by omega)).2 (Ev.bind (iByt_ev _ 2 (by omega)) (Ev.ifp (by rw [hz, byt_size]; omega) (Ev.now _)))))
theorem drop_getD {l : List ByteArray} {i : Nat} (h : i < l.length) : l.drop i = l.getD i ByteArray.empty :: l.drop (i + 1) := by
 rw [List.drop_eq_getElem_cons h, List.getD_eq_getElem?_getD, List.getElem?_eq_getElem h]
 rfl
theorem batch_l (l : List ByteArray) (hl : l.length ≤ 8) (hs : ∀ j, j < l.length → (l.getD j ByteArray.empty).size ≤ 20) : ∀ d i : Nat, i + d = l.length → ∀ b : ByteArray, b.size ≤ 1000 + 21 * i →
  Ev (fun k => spec_l1Batch.l0 k b l (l.length : Int) (i : Int)) (fin (rcs (l.drop i) b)) ∧ Ev (fun k => impl_batchBytes.l0 k b l (l.length : Int) (i : Int)) (fin (rcs (l.drop i) b))
 | 0, i, hd => fun b hb => by
  have e : i = l.length := by omega
  subst e
  rw [List.drop_length, rcs]
  exact ⟨Ev.step (fun k => by rw [spec_l1Batch.l0, if_neg (by omega)]) (sfin_ev b (by omega)), Ev.step (fun k => by rw [impl_batchBytes.l0, if_neg (by omega)]) (ifin_ev b (by omega))⟩
 | d + 1, i, hd => fun b hb => by
  have hz := hs i (by omega)
  have z1 : (byt ((l.getD i ByteArray.empty).size : Int) 1 ++ l.getD i ByteArray.empty).size = 1 + (l.getD i ByteArray.empty).size := by rw [ByteArray.size_append, byt_size]
  obtain ⟨h1, h2⟩ := batch_l l hl hs d (i + 1) (by omega) (b ++ (byt ((l.getD i ByteArray.empty).size : Int) 1 ++ l.getD i ByteArray.empty)) (by rw [ByteArray.size_append, z1]; omega)
  rw [drop_getD (show i < l.length by omega), rcs]
  constructor
  ·refine Ev.step (f := fun k => (spec_l1Bytes.f k ((l.getD i ByteArray.empty).size : Int) 1).bind fun t => (if t.size + (l.getD i ByteArray.empty).size ≤ 9223372036854775807 then (if b.size + (t ++ l.getD i ByteArray.empty).size ≤ 9223372036854775807 then (spec_l1Batch.l0 k (b ++ (t ++ l.getD i ByteArray.empty)) l (l.length : Int) ((i + 1 : Nat) : Int)) else (none)) else (none))) (fun k => ?_) (Ev.bind (sByt_ev _ 1 (by omega)) (Ev.ifp (by rw [byt_size]; omega) (Ev.ifp (by rw [z1]; omega) h1)))
   rw [spec_l1Batch.l0, if_pos (by omega), if_pos (by omega), if_pos (by omega), succ_wrap (by omega)]
   rfl
  ·refine Ev.step (f := fun k => (impl_put.f k ((l.getD i ByteArray.empty).size : Int) 1).bind fun t => (if t.size + (l.getD i ByteArray.empty).size ≤ 9223372036854775807 then (if b.size + (t ++ l.getD i ByteArray.empty).size ≤ 9223372036854775807 then (impl_batchBytes.l0 k (b ++ (t ++ l.getD i ByteArray.empty)) l (l.length : Int) ((i + 1 : Nat) : Int)) else (none)) else (none))) (fun k => ?_) (Ev.bind (iByt_ev _ 1 (by omega)) (Ev.ifp (by rw [byt_size]; omega) (Ev.ifp (by rw [z1]; omega) h2)))
   rw [impl_batchBytes.l0, if_pos (by omega), if_pos (by omega), if_pos (by omega), succ_wrap (by omega)]
   rfl
theorem rcl_le : ∀ (l : List ByteArray), (∀ j, j < l.length → (l.getD j ByteArray.empty).size ≤ 20) → rcl l ≤ 21 * l.length
 | [], _ => Nat.le_refl _
 | x :: xs, h => by
  have h0 : x.size ≤ 20 := h 0 (by simp)
  have h1 := rcl_le xs (fun j hj => h (j + 1) (by simp only [List.length_cons]; omega))
  rw [rcl, List.length_cons]
  omega
theorem batch_ev (o e p s : Int) (l : List ByteArray) (h : GB o e p s l) : Ev (fun k => spec_l1Batch.f k o e p s l) (bb o e p s l) ∧ Ev (fun k => impl_batchBytes.f k o e p s l) (bb o e p s l) := by
 obtain ⟨hs, _, _, _, _, hl⟩ := h
 obtain ⟨h1, h2⟩ := batch_l l (by omega) hs l.length 0 (by omega) (hdr o e p s l.length) (by rw [hdr_size]; omega)
 unfold spec_l1Batch.f impl_batchBytes.f
 constructor
 ·refine Ev.bind (sByt_ev _ 3 (by omega)) (Ev.bind (sByt_ev _ 2 (by omega)) (Ev.ifp ?_ (Ev.bind (sByt_ev _ 2 (by omega)) (Ev.ifp ?_ (Ev.bind (sByt_ev _ 2 (by omega)) (Ev.ifp ?_ (Ev.bind (sByt_ev _ 1 (by omega)) (Ev.ifp ?_ h1))))))))
  all_goals simp only [ByteArray.size_append, byt_size]
  all_goals omega
 ·refine Ev.bind (iByt_ev _ 3 (by omega)) (Ev.bind (iByt_ev _ 2 (by omega)) (Ev.ifp ?_ (Ev.bind (iByt_ev _ 2 (by omega)) (Ev.ifp ?_ (Ev.bind (iByt_ev _ 2 (by omega)) (Ev.ifp ?_ (Ev.bind (iByt_ev _ 1 (by omega)) (Ev.ifp ?_ h2))))))))
  all_goals simp only [ByteArray.size_append, byt_size]
  all_goals omega

def byN (s : ByteArray) (i : Nat) : Nat := (bt s (i : Int)).toNat
theorem bt_byN (s : ByteArray) (i : Nat) : bt s (i : Int) = (byN s i : Int) := by
 obtain ⟨b, hb, _⟩ := bt_bd s (i : Int)
 unfold byN
 rw [hb]
 rfl
theorem byN_le (s : ByteArray) (i : Nat) : byN s i ≤ 255 := by
 obtain ⟨b, hb, h⟩ := bt_bd s (i : Int)
 unfold byN
 rw [hb]
 exact h
theorem byN_get (s : ByteArray) (i : Nat) (h : i < s.size) : byN s i = (s[i]'h).toNat := by
 unfold byN bt
 rw [dif_pos (show ((i : Int)).toNat < s.size from h)]
 rfl
theorem byN_ext (s : ByteArray) (a b i : Nat) (h : a + i < b) (hb : b ≤ s.size) : byN (s.extract a b) i = byN s (a + i) := by
 have h1 : i < (s.extract a b).size := by
  rw [ByteArray.size_extract]
  omega
 rw [byN_get _ _ h1, byN_get _ _ (show a + i < s.size by omega), ByteArray.getElem_extract]
theorem byN_app (x y : ByteArray) (i : Nat) (h : i < x.size) : byN (x ++ y) i = byN x i := by
 have h1 : i < (x ++ y).size := by
  rw [ByteArray.size_append]
  omega
 rw [byN_get _ _ h1, byN_get _ _ h, ByteArray.getElem_append_left h]
def valF (s : ByteArray) : Nat → Nat → Nat → Nat
 | 0, _, v => v
 | d + 1, i, v => valF s d (i + 1) (v * 256 + byN s i)
def val (s : ByteArray) : Nat := valF s s.size 0 0
theorem or256 (s : ByteArray) (v i : Nat) (hv : v < 4294967296) : Go.bits .or .i64 (wrap64 ((v : Int) * 256)) (wrap64 (bt s (i : Int))) = ((v * 256 + byN s i : Nat) : Int) := by
 have hb := byN_le s i
 have w1 : wrap64 ((v : Int) * 256) = ((v * 256 : Nat) : Int) := by
  rw [wrap_id (by omega) (by omega)]
  omega
 have w2 : wrap64 (bt s (i : Int)) = ((byN s i : Nat) : Int) := by
  rw [bt_byN]
  exact wrap_id (by omega) (by omega)
 rw [w1, w2, (bits_nat .i64 62 (by decide) wr64 (v * 256) (byN s i) (by omega) (by omega)).2]
 have := Nat.two_pow_add_eq_or_of_lt (i := 8) (b := byN s i) (by omega) v
 have e : 2 ^ 8 * v = v * 256 := by omega
 rw [e] at this
 rw [this]
theorem step_lt (s : ByteArray) (v i : Nat) (h : v < 256 ^ i) : v * 256 + byN s i < 256 ^ (i + 1) := by
 have := byN_le s i
 rw [Nat.pow_succ]
 omega
theorem pow_le4 {i : Nat} (h : i ≤ 4) : 256 ^ i ≤ 4294967296 := Nat.le_trans (Nat.pow_le_pow_right (by decide) h) (by decide)
theorem sVal_l (s : ByteArray) (hs : s.size ≤ 4) : ∀ d i v : Nat, i + d = s.size → v < 256 ^ i → Ev (fun k => spec_l1Value.l0 k s (v : Int) (i : Int)) (valF s d i v : Int)
 | 0, i, v, hd, hv => Ev.step (f := fun _ => some (v : Int)) (fun k => by rw [spec_l1Value.l0, if_neg (by omega)]) (Ev.now _)
 | d + 1, i, v, hd, hv => by
  refine Ev.step (fun k => ?_) (sVal_l s hs d (i + 1) (v * 256 + byN s i) (by omega) (step_lt s v i hv))
  show spec_l1Value.l0 (k + 1) s (v : Int) (i : Int) = spec_l1Value.l0 k s ((v * 256 + byN s i : Nat) : Int) ((i + 1 : Nat) : Int)
  rw [spec_l1Value.l0, if_pos (by omega), if_pos (by omega), or256 s v i (Nat.lt_of_lt_of_le hv (pow_le4 (by omega))), succ_wrap (by omega)]
theorem iVal_l (s : ByteArray) (hs : s.size ≤ 4) : ∀ d i v : Nat, i + d = s.size → v < 256 ^ i → Ev (fun k => impl_get.l0 k s (v : Int) (s.size : Int) (i : Int)) (valF s d i v : Int)
 | 0, i, v, hd, hv => Ev.step (f := fun _ => some (v : Int)) (fun k => by rw [impl_get.l0, if_neg (by omega)]) (Ev.now _)
 | d + 1, i, v, hd, hv => by
  refine Ev.step (fun k => ?_) (iVal_l s hs d (i + 1) (v * 256 + byN s i) (by omega) (step_lt s v i hv))
  show impl_get.l0 (k + 1) s (v : Int) (s.size : Int) (i : Int) = impl_get.l0 k s ((v * 256 + byN s i : Nat) : Int) (s.size : Int) ((i + 1 : Nat) : Int)
  rw [impl_get.l0, if_pos (by omega), if_pos (by omega), if_pos (by omega), or256 s v i (Nat.lt_of_lt_of_le hv (pow_le4 (by omega))), succ_wrap (by omega)]
theorem sVal_ev (s : ByteArray) (hs : s.size ≤ 4) : Ev (fun k => spec_l1Value.f k s) (val s : Int) := sVal_l s hs s.size 0 0 (by omega) (by decide)
theorem iVal_ev (s : ByteArray) (hs : s.size ≤ 4) : Ev (fun k => impl_get.f k s) (val s : Int) := iVal_l s hs s.size 0 0 (by omega) (by decide)
theorem val1 (s : ByteArray) (a : Nat) (h : a + 1 ≤ s.size) : val (s.extract a (a + 1)) = byN s a := by
 unfold val
 have e : (s.extract a (a + 1)).size = 1 := by
  rw [ByteArray.size_extract]
  omega
 rw [e, valF, valF, byN_ext s a (a + 1) 0 (by omega) h, Nat.add_zero]
 omega
theorem val2 (s : ByteArray) (a : Nat) (h : a + 2 ≤ s.size) : val (s.extract a (a + 2)) = byN s a * 256 + byN s (a + 1) := by
 unfold val
 have e : (s.extract a (a + 2)).size = 2 := by
  rw [ByteArray.size_extract]
  omega
 rw [e, valF, valF, valF, byN_ext s a (a + 2) 0 (by omega) h, byN_ext s a (a + 2) (0 + 1) (by omega) h, Nat.add_zero]
 simp
theorem byt2 (v : Nat) (h : v < 65536) : byN (byt (v : Int) 2) 0 * 256 + byN (byt (v : Int) 2) 1 = v := by
 have e : byt (v : Int) 2 = strOfNums [((v / 256 % 256 : Nat) : Int), ((v % 256 : Nat) : Int)] := by
  have e1 : ((v / 256 % 256 : Nat) : Int) = (v : Int) / 256 % 256 := by omega
  have e2 : ((v % 256 : Nat) : Int) = (v : Int) % 256 := by omega
  rw [e1, e2]
  rfl
 have h0 : byN (strOfNums [((v / 256 % 256 : Nat) : Int), ((v % 256 : Nat) : Int)]) 0 = v / 256 % 256 % 256 := by
  rw [byN_get _ 0 (by rw [strOfNums_size]; simp)]
  show (UInt8.ofNat (v / 256 % 256)).toNat = _
  rw [UInt8.toNat_ofNat']
 have h1 : byN (strOfNums [((v / 256 % 256 : Nat) : Int), ((v % 256 : Nat) : Int)]) 1 = v % 256 % 256 := by
  rw [byN_get _ 1 (by rw [strOfNums_size]; simp)]
  show (UInt8.ofNat (v % 256)).toNat = _
  rw [UInt8.toNat_ofNat']
 rw [e, h0, h1]
 omega
theorem tl_inj {x y : ByteArray} : x.toList = y.toList ↔ x = y := by
 refine ⟨fun h => ?_, fun h => by rw [h]⟩
 rw [ByteArray.toList_eq, ByteArray.toList_eq] at h
 exact ByteArray.ext (Array.toList_inj.1 h)
def prs (s : ByteArray) (y : Nat) : Nat → Nat → List ByteArray → Option (List ByteArray × Nat)
 | 0, q, l => some (l, q)
 | c + 1, q, l => if q < y ∧ q + 1 + byN s q ≤ y then prs s y c (q + 1 + byN s q) (l ++ [s.extract (q + 1) (q + 1 + byN s q)]) else none
theorem rcl_app (l : List ByteArray) (x : ByteArray) : rcl (l ++ [x]) = rcl l + 1 + x.size := by
 induction l with
 | nil =>
  rw [List.nil_append, rcl, rcl, rcl]
  omega
 | cons z zs ih =>
  rw [List.cons_append, rcl, rcl, ih]
  omega
theorem prs_inv (s : ByteArray) (y : Nat) (hy : y ≤ s.size) : ∀ (c q : Nat) (l r : List ByteArray) (e : Nat), prs s y c q l = some (r, e) → q ≤ e ∧ (0 < c → e ≤ y) ∧ rcl r + q = rcl l + e ∧ r.length = l.length + c
 | 0, q, l, r, e, h => by
  rw [prs] at h
  obtain ⟨rfl, rfl⟩ := Prod.mk.inj (Option.some.inj h)
  exact ⟨Nat.le_refl _, fun h => absurd h (by omega), rfl, rfl⟩
 | c + 1, q, l, r, e, h => by
  rw [prs] at h
  by_cases hc : q < y ∧ q + 1 + byN s q ≤ y
  ·rw [if_pos hc] at h
   obtain ⟨h1, h2, h3, h4⟩ := prs_inv s y hy c _ _ r e h
   have hz : (s.extract (q + 1) (q + 1 + byN s q)).size = byN s q := by
    rw [ByteArray.size_extract]
    omega
   rw [rcl_app, hz] at h3
   rw [List.length_append] at h4
   simp only [List.length_cons, List.length_nil] at h4
   refine ⟨by omega, fun _ => ?_, by omega, by omega⟩
   by_cases hc0 : 0 < c
   ·exact h2 hc0
   ·have : c = 0 := by omega
    subst this
    rw [prs] at h
    obtain ⟨_, rfl⟩ := Prod.mk.inj (Option.some.inj h)
    exact hc.2
  ·rw [if_neg hc] at h
   cases h
theorem prs_mono (s : ByteArray) (y y' : Nat) : ∀ (c q : Nat) (l r : List ByteArray) (e : Nat), prs s y c q l = some (r, e) → e ≤ y' → y ≤ s.size → prs s y' c q l = some (r, e)
 | 0, q, l, r, e, h, _, _ => h
 | c + 1, q, l, r, e, h, he, hy => by
  rw [prs] at h
  by_cases hc : q < y ∧ q + 1 + byN s q ≤ y
  ·rw [if_pos hc] at h
   have hq := (prs_inv s y hy c _ _ r e h).1
   rw [prs, if_pos ⟨by omega, by omega⟩]
   exact prs_mono s y y' c _ _ r e h he hy
  ·rw [if_neg hc] at h
   cases h
abbrev TR := Int × Int × Int × Int × List ByteArray × Int
def zS : TR := (0, 0, 0, 0, [], 0)
def zI : Int × Int × Int × Int × List ByteArray × Int × Bool := (0, 0, 0, 0, [], 0, false)
theorem wr_add (a j : Nat) (h : a ≤ 100000000) (hj : j ≤ 100000000) : wrap64 ((a : Int) + (j : Int)) = ((a + j : Nat) : Int) := by
 rw [wrap_id (by omega) (by omega)]
 omega
theorem wr_sub1 (y q : Nat) (hy : y ≤ 100000000) (hq : q ≤ 100000000) : wrap64 (wrap64 ((y : Int) - (q : Int)) - 1) = (y : Int) - (q : Int) - 1 := by
 rw [wrap_id (x := (y : Int) - (q : Int)) (by omega) (by omega), wrap_id (by omega) (by omega)]
theorem wr_add1 (q b : Nat) (hq : q ≤ 100000000) (hb : b ≤ 100000000) : wrap64 ((q : Int) + wrap64 (1 + (b : Int))) = ((q + 1 + b : Nat) : Int) := by
 rw [wrap_id (x := 1 + (b : Int)) (by omega) (by omega), wrap_id (by omega) (by omega)]
 omega
theorem wr_add2 (a q : Nat) (ha : a ≤ 100000000) (hq : q ≤ 100000000) : wrap64 (wrap64 ((a : Int) + (q : Int)) + 2) = ((a + q + 2 : Nat) : Int) := by
 rw [wrap_id (x := (a : Int) + (q : Int)) (by omega) (by omega), wrap_id (by omega) (by omega)]
 omega
theorem wr_less (c : Nat) (h : c ≤ 100000000) : wrap64 (((c + 1 : Nat) : Int) - 1) = (c : Int) := by
 rw [wrap_id (by omega) (by omega)]
 omega
theorem wr_bt (x : ByteArray) (q : Nat) : wrap64 (bt x (q : Int)) = ((byN x q : Nat) : Int) := by
 have hbl := byN_le x q
 rw [bt_byN]
 exact wrap_id (by omega) (by omega)
open Classical in
noncomputable def finS (x : ByteArray) (a y : Nat) (o e p s : Int) (l : List ByteArray) : TR :=
 if GB o e p s l ∧ bb o e p s l = x.extract a y then (o, e, p, s, l, (y : Int)) else zS
open Classical in
noncomputable def finI (x : ByteArray) (a : Nat) (o e p s : Int) (l : List ByteArray) (q : Nat) : Int × Int × Int × Int × List ByteArray × Int × Bool :=
 if GB o e p s l ∧ a + (bb o e p s l).size ≤ x.size ∧ x.extract a (a + (bb o e p s l).size) = bb o e p s l then (o, e, p, s, l, ((q + 2 : Nat) : Int), true) else zI
theorem finS_pos (x : ByteArray) (a y : Nat) (o e p s : Int) (l : List ByteArray) (h1 : GB o e p s l) (h2 : bb o e p s l = x.extract a y) : finS x a y o e p s l = (o, e, p, s, l, (y : Int)) := by
 unfold finS
 exact if_pos ⟨h1, h2⟩
theorem finS_neg (x : ByteArray) (a y : Nat) (o e p s : Int) (l : List ByteArray) (h : ¬ (GB o e p s l ∧ bb o e p s l = x.extract a y)) : finS x a y o e p s l = zS := by
 unfold finS
 exact if_neg h
theorem finI_pos (x : ByteArray) (a : Nat) (o e p s : Int) (l : List ByteArray) (q : Nat) (h : GB o e p s l ∧ a + (bb o e p s l).size ≤ x.size ∧ x.extract a (a + (bb o e p s l).size) = bb o e p s l) : finI x a o e p s l q = (o, e, p, s, l, ((q + 2 : Nat) : Int), true) := by
 unfold finI
 exact if_pos h
theorem finI_neg (x : ByteArray) (a : Nat) (o e p s : Int) (l : List ByteArray) (q : Nat) (h : ¬ (GB o e p s l ∧ a + (bb o e p s l).size ≤ x.size ∧ x.extract a (a + (bb o e p s l).size) = bb o e p s l)) : finI x a o e p s l q = zI := by
 unfold finI
 exact if_neg h
set_option maxHeartbeats 4000000 in
theorem sTake_l (x : ByteArray) (hx : x.size ≤ 3000000) (a y : Nat) (hay : a ≤ y) (hy : y ≤ x.size) (o e p s : Int) : ∀ (c q : Nat) (l : List ByteArray), l.length + c ≤ 1000 → q ≤ 9000000 →
  Ev (fun k => spec_l1Take.l0 k x (a : Int) (y : Int) (q : Int) (c : Int) o e p s l) ((prs x y c q l).elim zS fun r => finS x a y o e p s r.1)
 | 0, q, l, hl, hq => by
  rw [prs]
  show Ev _ (finS x a y o e p s l)
  obtain ⟨b, hb, hg⟩ := sGB_ev o e p s l (by omega)
  refine Ev.step (f := fun k => (spec_GoodBatch.f k o e p s l).bind fun t138 => (if t138 = true then ((spec_l1Batch.f k o e p s l).bind fun t139 => (if t139.toList = (x.extract a y).toList then (some (o, e, p, s, l, (y : Int))) else (some (0, 0, 0, 0, ([] : List ByteArray), 0)))) else (some (0, 0, 0, 0, ([] : List ByteArray), 0)))) (fun k => ?_) (Ev.bind hb ?_)
  ·rw [spec_l1Take.l0, if_neg (by omega)]
   refine congrArg _ (funext fun t => ?_)
   refine ite_congr rfl (fun _ => ?_) (fun _ => rfl)
   refine congrArg _ (funext fun t => ?_)
   rw [if_pos (by omega), if_pos (by omega), if_pos (by omega), tn_nat, tn_nat]
  ·cases b with
   | false =>
    rw [finS_neg x a y o e p s l (fun h => absurd (hg.2 h.1) (by decide))]
    exact Ev.ifn (by decide) (Ev.now _)
   | true =>
    refine Ev.ifp rfl (Ev.bind (batch_ev o e p s l (hg.1 rfl)).1 ?_)
    by_cases h : bb o e p s l = x.extract a y
    ·rw [finS_pos x a y o e p s l (hg.1 rfl) h]
     exact Ev.ifp (by rw [h]) (Ev.now _)
    ·rw [finS_neg x a y o e p s l (fun h' => h h'.2)]
     exact Ev.ifn (fun h' => h (tl_inj.1 h')) (Ev.now _)
 | c + 1, q, l, hl, hq => by
  have hbl := byN_le x q
  rw [prs]
  by_cases h1 : q < y
  ·by_cases h2 : q + 1 + byN x q ≤ y
   ·rw [if_pos ⟨h1, h2⟩]
    refine Ev.step (fun k => ?_) (sTake_l x hx a y hay hy o e p s c (q + 1 + byN x q) (l ++ [x.extract (q + 1) (q + 1 + byN x q)]) (by rw [List.length_append]; simp only [List.length_cons, List.length_nil]; omega) (by omega))
    rw [spec_l1Take.l0, wr_bt x q, wr_sub1 y q (by omega) (by omega), succ_wrap (show q ≤ 9000000000000000000 by omega), wr_add (q + 1) (byN x q) (by omega) (by omega), wr_add1 q (byN x q) (by omega) (by omega), wr_less c (by omega), if_pos (by omega), if_neg (by omega), if_pos (by omega), if_pos (by omega), if_neg (by omega), if_pos (by omega), if_pos (by omega), if_pos (by omega), if_pos (by omega), tn_nat, tn_nat]
   ·rw [if_neg (fun h => h2 h.2)]
    refine Ev.step (f := fun _ => some zS) (fun k => ?_) (Ev.now _)
    rw [spec_l1Take.l0, wr_bt x q, wr_sub1 y q (by omega) (by omega), if_pos (by omega), if_neg (by omega), if_pos (by omega), if_pos (by omega), if_pos (by omega)]
    rfl
  ·rw [if_neg (fun h => h1 h.1)]
   refine Ev.step (f := fun _ => some zS) (fun k => ?_) (Ev.now _)
   rw [spec_l1Take.l0, if_pos (by omega), if_pos (by omega)]
   rfl
theorem ext2 (x : ByteArray) (a i j : Nat) (h : a + j ≤ x.size) : (x.extract a x.size).extract i j = x.extract (a + i) (a + j) := by
 rw [ByteArray.extract_extract, Nat.min_eq_left h]
theorem HP_eq (x t : ByteArray) (hx : x.size ≤ 3000000) (ht : t.size ≤ 100000000) : strings_HasPrefix.f x t = some (decide (t.size ≤ x.size ∧ x.extract 0 t.size = t)) := by
 unfold strings_HasPrefix.f stringslite_HasPrefix.f
 by_cases h : t.size ≤ x.size
 ·rw [if_pos (by omega), if_pos (by omega), if_pos (by omega), tn_nat, Option.bind_some]
  refine congrArg some ?_
  refine Bool.eq_iff_iff.2 ?_
  rw [beq_iff_eq, decide_eq_true_iff, tl_inj]
  exact ⟨fun h' => ⟨h, h'⟩, fun h' => h'.2⟩
 ·rw [if_neg (by omega), Option.bind_some, decide_eq_false (fun h' => h h'.1)]
set_option maxHeartbeats 4000000 in
theorem iTake_l (x : ByteArray) (hx : x.size ≤ 3000000) (a : Nat) (ha : a ≤ x.size) (cnt : Nat) (hcnt : cnt ≤ 255) (o e p s : Int) : ∀ (d i q : Nat) (l : List ByteArray), i + d = cnt → l.length + d ≤ 1000 → q ≤ 3000000 →
  Ev (fun k => impl_takeBatch.l0 k (a : Int) (x.extract a x.size) (q : Int) (cnt : Int) (i : Int) o e p s l) ((prs x x.size d (a + q) l).elim zI fun r => finI x a o e p s r.1 r.2)
 | 0, i, q, l, hd, hl, hq => by
  rw [prs]
  show Ev _ (finI x a o e p s l (a + q))
  obtain ⟨b, hb, hg⟩ := iGB_ev o e p s l
  have hsz : (x.extract a x.size).size = x.size - a := by rw [ByteArray.size_extract, Nat.min_self]
  refine Ev.step (f := fun k => (impl_isBatch.f o e p s l).bind fun t184 => (if t184 = true then ((impl_batchBytes.f k o e p s l).bind fun t185 => ((strings_HasPrefix.f (x.extract a x.size) t185).bind fun t186 => (if t186 = true then (some (o, e, p, s, l, ((a + q + 2 : Nat) : Int), true)) else (some (0, 0, 0, 0, ([] : List ByteArray), 0, false))))) else (some (0, 0, 0, 0, ([] : List ByteArray), 0, false)))) (fun k => ?_) (Ev.bind hb ?_)
  ·rw [impl_takeBatch.l0, if_neg (by omega), wr_add2 a q (by omega) (by omega)]
  ·cases b with
   | false =>
    rw [finI_neg x a o e p s l (a + q) (fun h => absurd (hg.2 h.1) (by decide))]
    exact Ev.ifn (by decide) (Ev.now _)
   | true =>
    have hgb := hg.1 rfl
    have hbs : (bb o e p s l).size ≤ 3000000 := by
     have := rcl_le l hgb.1
     have := hgb.2.2.2.2.2
     rw [bb_size]
     omega
    refine Ev.ifp rfl (Ev.bind (batch_ev o e p s l hgb).2 ?_)
    rw [HP_eq _ _ (by omega) (by omega)]
    by_cases h : a + (bb o e p s l).size ≤ x.size ∧ x.extract a (a + (bb o e p s l).size) = bb o e p s l
    ·rw [finI_pos x a o e p s l (a + q) ⟨hgb, h⟩, decide_eq_true (by
      refine ⟨by omega, ?_⟩
      rw [ext2 x a 0 _ h.1]
      exact h.2)]
     exact Ev.bind (Ev.now _) (Ev.ifp rfl (Ev.now _))
    ·rw [finI_neg x a o e p s l (a + q) (fun h' => h h'.2), decide_eq_false (fun h' => h (by
      have h1 : a + (bb o e p s l).size ≤ x.size := by omega
      refine ⟨h1, ?_⟩
      have h2 := h'.2
      rw [ext2 x a 0 _ h1] at h2
      exact h2))]
     exact Ev.bind (Ev.now _) (Ev.ifn (by decide) (Ev.now _))
 | d + 1, i, q, l, hd, hl, hq => by
  have hsz : (x.extract a x.size).size = x.size - a := by rw [ByteArray.size_extract, Nat.min_self]
  have hbl := byN_le x (a + q)
  rw [prs]
  by_cases h1 : a + q < x.size
  ·have hv : val ((x.extract a x.size).extract q (q + 1)) = byN x (a + q) := by
    rw [ext2 x a q (q + 1) (by omega)]
    exact val1 x (a + q) (by omega)
   have hz1 : ((x.extract a x.size).extract q (q + 1)).size ≤ 4 := by
    rw [ByteArray.size_extract]
    omega
   have hget := iVal_ev _ hz1
   rw [hv] at hget
   by_cases h2 : a + q + 1 + byN x (a + q) ≤ x.size
   ·rw [if_pos ⟨h1, h2⟩]
    have ih := iTake_l x hx a ha cnt hcnt o e p s d (i + 1) (q + 1 + byN x (a + q)) (l ++ [x.extract (a + q + 1) (a + q + 1 + byN x (a + q))]) (by omega) (by rw [List.length_append]; simp only [List.length_cons, List.length_nil]; omega) (by omega)
    have ea : a + (q + 1 + byN x (a + q)) = a + q + 1 + byN x (a + q) := by omega
    rw [ea] at ih
    refine Ev.step (f := fun k => (impl_get.f k ((x.extract a x.size).extract q (q + 1))).bind fun t179 => (if (wrap64 (((q + 1 : Nat) : Int) + t179)) > ((x.extract a x.size).size : Int) then (some (0, 0, 0, 0, ([] : List ByteArray), 0, false)) else ((impl_get.f k ((x.extract a x.size).extract q (q + 1))).bind fun t180 => (if (0 : Int) ≤ ((q + 1 : Nat) : Int) then (if ((q + 1 : Nat) : Int) ≤ (wrap64 (((q + 1 : Nat) : Int) + t180)) then (if (wrap64 (((q + 1 : Nat) : Int) + t180)) ≤ ((x.extract a x.size).size : Int) then (if l.length < 8796093022208 then (impl_takeBatch.l0 k (a : Int) (x.extract a x.size) (wrap64 (((q + 1 : Nat) : Int) + t180)) (cnt : Int) ((i + 1 : Nat) : Int) o e p s (l ++ [(x.extract a x.size).extract ((q + 1 : Nat) : Int).toNat ((wrap64 (((q + 1 : Nat) : Int) + t180)) : Int).toNat])) else (none)) else (none)) else (none)) else (none))))) (fun k => ?_) (Ev.bind hget ?_)
    ·rw [impl_takeBatch.l0, succ_wrap (i := q) (by omega), if_pos (by omega), if_neg (by omega), if_pos (by omega), if_pos (by omega), if_pos (by omega), succ_wrap (i := i) (by omega)]
     rfl
    ·refine Ev.ifn (by rw [wr_add (q + 1) (byN x (a + q)) (by omega) (by omega)]; omega) (Ev.bind hget (Ev.ifp (by omega) (Ev.ifp (by rw [wr_add (q + 1) (byN x (a + q)) (by omega) (by omega)]; omega) (Ev.ifp (by rw [wr_add (q + 1) (byN x (a + q)) (by omega) (by omega)]; omega) (Ev.ifp (by omega) ?_)))))
     rw [wr_add (q + 1) (byN x (a + q)) (by omega) (by omega), tn_nat, tn_nat, ext2 x a (q + 1) (q + 1 + byN x (a + q)) (by omega), ea, ← Nat.add_assoc]
     exact ih
   ·rw [if_neg (fun h => h2 h.2)]
    refine Ev.step (f := fun k => (impl_get.f k ((x.extract a x.size).extract q (q + 1))).bind fun t179 => (if (wrap64 (((q + 1 : Nat) : Int) + t179)) > ((x.extract a x.size).size : Int) then (some (0, 0, 0, 0, ([] : List ByteArray), 0, false)) else ((impl_get.f k ((x.extract a x.size).extract q (q + 1))).bind fun t180 => (if (0 : Int) ≤ ((q + 1 : Nat) : Int) then (if ((q + 1 : Nat) : Int) ≤ (wrap64 (((q + 1 : Nat) : Int) + t180)) then (if (wrap64 (((q + 1 : Nat) : Int) + t180)) ≤ ((x.extract a x.size).size : Int) then (if l.length < 8796093022208 then (impl_takeBatch.l0 k (a : Int) (x.extract a x.size) (wrap64 (((q + 1 : Nat) : Int) + t180)) (cnt : Int) ((i + 1 : Nat) : Int) o e p s (l ++ [(x.extract a x.size).extract ((q + 1 : Nat) : Int).toNat ((wrap64 (((q + 1 : Nat) : Int) + t180)) : Int).toNat])) else (none)) else (none)) else (none)) else (none))))) (fun k => ?_) (Ev.bind hget ?_)
    ·rw [impl_takeBatch.l0, succ_wrap (i := q) (by omega), if_pos (by omega), if_neg (by omega), if_pos (by omega), if_pos (by omega), if_pos (by omega), succ_wrap (i := i) (by omega)]
     rfl
    ·exact Ev.ifp (by rw [wr_add (q + 1) (byN x (a + q)) (by omega) (by omega)]; omega) (Ev.now _)
  ·rw [if_neg (fun h => h1 h.1)]
   refine Ev.step (f := fun _ => some zI) (fun k => ?_) (Ev.now _)
   rw [impl_takeBatch.l0, if_pos (by omega), if_pos (by omega)]
   rfl
theorem bb_val (o e p s : Int) (l : List ByteArray) (h : 12 + rcl l < 65536) : byN (bb o e p s l) 0 * 256 + byN (bb o e p s l) 1 = 12 + rcl l := by
 have hz : (rcs l (hdr o e p s l.length)).size = 10 + rcl l := by rw [rcs_size, hdr_size]
 have e1 : ∀ i, i < 2 → byN (bb o e p s l) i = byN (byt (((rcs l (hdr o e p s l.length)).size + 2 : Nat) : Int) 2) i := fun i hi => by
  unfold bb fin
  rw [byN_app _ _ i (by rw [ByteArray.size_append, byt_size]; omega), byN_app _ _ i (by rw [byt_size]; omega)]
 rw [e1 0 (by omega), e1 1 (by omega), byt2 _ (by omega)]
 omega
open Classical in
noncomputable def SV (x : ByteArray) (a c : Nat) (o e p s : Int) : TR :=
 if a + 2 + val (x.extract a (a + 2)) ≤ x.size then (prs x (a + 2 + val (x.extract a (a + 2))) c (a + 12) []).elim zS fun r => finS x a (a + 2 + val (x.extract a (a + 2))) o e p s r.1 else zS
noncomputable def IV (x : ByteArray) (a c : Nat) (o e p s : Int) : Int × Int × Int × Int × List ByteArray × Int × Bool := (prs x x.size c (a + 12) []).elim zI fun r => finI x a o e p s r.1 r.2
def okI (x : ByteArray) (a c : Nat) (o e p s : Int) (l : List ByteArray) (E : Nat) : Prop :=
 prs x x.size c (a + 12) [] = some (l, E) ∧ GB o e p s l ∧ a + (bb o e p s l).size ≤ x.size ∧ x.extract a (a + (bb o e p s l).size) = bb o e p s l
theorem IV_no (x : ByteArray) (a c : Nat) (o e p s : Int) (h : ∀ l E, ¬ okI x a c o e p s l E) : IV x a c o e p s = zI := by
 unfold IV
 cases hp : prs x x.size c (a + 12) [] with
 | none => rfl
 | some r =>
  exact finI_neg x a o e p s r.1 r.2 (fun h' => h r.1 r.2 ⟨hp, h'⟩)
set_option maxHeartbeats 4000000 in
theorem sTake_ev (x : ByteArray) (hx : x.size ≤ 2000000) (a : Nat) (ha : a + 14 ≤ x.size) :
  Ev (fun k => spec_l1Take.f k x (a : Int)) (SV x a (byN x (a + 11)) (val (x.extract (a + 2) (a + 5)) : Int) (val (x.extract (a + 5) (a + 7)) : Int) (val (x.extract (a + 7) (a + 9)) : Int) (val (x.extract (a + 9) (a + 11)) : Int)) := by
 have hsz : ∀ i j : Nat, j ≤ i + 4 → (x.extract i j).size ≤ 4 := fun i j h => by
  rw [ByteArray.size_extract]
  omega
 have a9 : a ≤ 3000000 := by omega
 have hv : val (x.extract a (a + 2)) ≤ 65535 := by
  have h1 := byN_le x a
  have h2 := byN_le x (a + 1)
  rw [val2 x a (by omega)]
  omega
 have wn : wrap64 ((x.size : Int) - (a : Int)) = (x.size : Int) - (a : Int) := wrap_id (by omega) (by omega)
 have w : ∀ j : Nat, j ≤ 12 → wrap64 ((a : Int) + (j : Int)) = ((a + j : Nat) : Int) := fun j hj => wr_add a j (by omega) (by omega)
 have w2 : wrap64 ((a : Int) + 2) = ((a + 2 : Nat) : Int) := w 2 (by decide)
 have w5 : wrap64 ((a : Int) + 5) = ((a + 5 : Nat) : Int) := w 5 (by decide)
 have w7 : wrap64 ((a : Int) + 7) = ((a + 7 : Nat) : Int) := w 7 (by decide)
 have w9 : wrap64 ((a : Int) + 9) = ((a + 9 : Nat) : Int) := w 9 (by decide)
 have w11 : wrap64 ((a : Int) + 11) = ((a + 11 : Nat) : Int) := w 11 (by decide)
 have w12 : wrap64 ((a : Int) + 12) = ((a + 12 : Nat) : Int) := w 12 (by decide)
 have hbt : wrap64 (bt x ((a + 11 : Nat) : Int)) = ((byN x (a + 11) : Nat) : Int) := wr_bt x (a + 11)
 unfold spec_l1Take.f
 simp only [w2, w5, w7, w9, w11, w12, wn, hbt, tn_nat]
 clear w w2 w5 w7 w9 w11 w12 wn hbt
 refine Ev.ifn (by omega) (Ev.ifp (by omega) (Ev.ifp (by omega) (Ev.ifp (by omega) (Ev.bind (sVal_ev _ (hsz _ _ (by omega))) ?_))))
 rw [wr_add (a + 2) (val (x.extract a (a + 2))) (by omega) (by omega)]
 unfold SV
 by_cases hy : a + 2 + val (x.extract a (a + 2)) ≤ x.size
 ·rw [if_pos hy]
  refine Ev.ifn (by omega) (Ev.ifp (by omega) (Ev.ifp (by omega) (Ev.ifp (by omega) (Ev.bind (sVal_ev _ (hsz _ _ (by omega))) (Ev.ifp (by omega) (Ev.ifp (by omega) (Ev.ifp (by omega) (Ev.bind (sVal_ev _ (hsz _ _ (by omega))) (Ev.ifp (by omega) (Ev.ifp (by omega) (Ev.ifp (by omega) (Ev.bind (sVal_ev _ (hsz _ _ (by omega))) (Ev.ifp (by omega) (Ev.ifp (by omega) (Ev.ifp (by omega) (Ev.bind (sVal_ev _ (hsz _ _ (by omega))) (Ev.ifp (by omega) (Ev.ifp (by omega) ?_))))))))))))))))))
  have := byN_le x (a + 11)
  exact sTake_l x (by omega) a _ (by omega) hy _ _ _ _ (byN x (a + 11)) (a + 12) [] (by simp only [List.length_nil]; omega) (by omega)
 ·rw [if_neg hy]
  exact Ev.ifp (by omega) (Ev.now _)
set_option maxHeartbeats 4000000 in
theorem iTake_ev (x : ByteArray) (hx : x.size ≤ 2000000) (a : Nat) (ha : a + 12 ≤ x.size) :
  Ev (fun k => impl_takeBatch.f k x (a : Int)) (IV x a (byN x (a + 11)) (val (x.extract (a + 2) (a + 5)) : Int) (val (x.extract (a + 5) (a + 7)) : Int) (val (x.extract (a + 7) (a + 9)) : Int) (val (x.extract (a + 9) (a + 11)) : Int)) := by
 have hs : (x.extract a x.size).size = x.size - a := by rw [ByteArray.size_extract, Nat.min_self]
 have hsz : ∀ i j : Nat, j ≤ i + 4 → (x.extract i j).size ≤ 4 := fun i j h => by
  rw [ByteArray.size_extract]
  omega
 have hcv : val (x.extract (a + 11) (a + 12)) = byN x (a + 11) := val1 x (a + 11) (by omega)
 unfold impl_takeBatch.f
 simp only [tn_nat, ext2 x a 2 5 (by omega), ext2 x a 5 7 (by omega), ext2 x a 7 9 (by omega), ext2 x a 9 11 (by omega), ext2 x a 11 12 (by omega), hs]
 refine Ev.ifp (by omega) (Ev.ifp (by omega) (Ev.ifn (by omega) ?_))
 refine Ev.ifp (by omega) (Ev.ifp (by omega) (Ev.bind (iVal_ev _ (hsz _ _ (by omega))) ?_))
 refine Ev.ifp (by omega) (Ev.ifp (by omega) (Ev.bind (iVal_ev _ (hsz _ _ (by omega))) ?_))
 refine Ev.ifp (by omega) (Ev.ifp (by omega) (Ev.bind (iVal_ev _ (hsz _ _ (by omega))) ?_))
 refine Ev.ifp (by omega) (Ev.ifp (by omega) (Ev.bind (iVal_ev _ (hsz _ _ (by omega))) ?_))
 refine Ev.ifp (by omega) (Ev.ifp (by omega) (Ev.bind (iVal_ev _ (hsz _ _ (by omega))) ?_))
 rw [hcv]
 have := byN_le x (a + 11)
 exact iTake_l x (by omega) a (by omega) (byN x (a + 11)) this _ _ _ _ (byN x (a + 11)) 0 12 [] (by omega) (by simp only [List.length_nil]; omega) (by omega)

theorem EvB.andThen {g f : Nat → Option Bool} {P Q : Prop} (h : EvB g P) (k : P → EvB f Q) : EvB (fun n => (g n).bind fun t => if t = true then f n else some false) (P ∧ Q) := by
 obtain ⟨b, hb, hp⟩ := h
 cases b with
 | true =>
  obtain ⟨c, hc, hq⟩ := k (hp.1 rfl)
  exact ⟨c, Ev.bind hb (Ev.ifp rfl hc), ⟨fun h => ⟨hp.1 rfl, hq.1 h⟩, fun h => hq.2 h.2⟩⟩
 | false => exact ⟨false, Ev.bind hb (Ev.ifn (by decide) (Ev.now _)), Iff.intro (fun h => by cases h) (fun h => absurd (hp.2 h.1) (by decide))⟩

theorem all_evB (n : Nat) (F : Nat → Nat → Option Bool) (Q : Nat → Prop) (E : Prop) (h1 : EvB (F n) E) (h2 : ∀ i, i < n → ∀ R, EvB (F (i + 1)) R → EvB (F i) (Q i ∧ R)) : EvB (F 0) ((∀ i, i < n → Q i) ∧ E) := by
 have key : ∀ d i, i + d = n → EvB (F i) ((∀ j, i ≤ j → j < n → Q j) ∧ E) := by
  intro d
  induction d with
  | zero =>
   intro i hd
   have hi : i = n := by omega
   subst hi
   exact h1.iff ⟨fun h => ⟨fun j h1 h2 => by omega, h⟩, fun h => h.2⟩
  | succ d ih =>
   intro i hd
   refine (h2 i (by omega) _ (ih (i + 1) (by omega))).iff ⟨fun h => ⟨fun j h3 h4 => ?_, h.2.2⟩, fun h => ⟨h.1 i (Nat.le_refl _) (by omega), fun j h3 h4 => h.1 j (by omega) h4, h.2⟩⟩
   by_cases e : j = i
   ·rw [e]
    exact h.1
   ·exact h.2.1 j (by omega) h4
 exact (key n 0 (by omega)).iff ⟨fun h => ⟨fun i hi => h.1 i (Nat.zero_le _) hi, h.2⟩, fun h => ⟨fun j _ hj => h.1 j hj, h.2⟩⟩
theorem EvB.bd {α : Type} {g : Nat → Option α} {r : α} {f : Nat → α → Option Bool} {Q : Prop} (h : Ev g r) (k : EvB (fun n => f n r) Q) : EvB (fun n => (g n).bind (f n)) Q := by
 obtain ⟨b, hb, hq⟩ := k
 exact ⟨b, Ev.bind h hb, hq⟩
theorem EvB.ifp {c : Prop} [Decidable c] {f g : Nat → Option Bool} {Q : Prop} (h : c) (k : EvB f Q) : EvB (fun n => if c then f n else g n) Q := by
 obtain ⟨b, hb, hq⟩ := k
 exact ⟨b, Ev.ifp h hb, hq⟩
theorem EvB.ifn {c : Prop} [Decidable c] {f g : Nat → Option Bool} {Q : Prop} (h : ¬ c) (k : EvB g Q) : EvB (fun n => if c then f n else g n) Q := by
 obtain ⟨b, hb, hq⟩ := k
 exact ⟨b, Ev.ifn h hb, hq⟩
theorem EvB.fls {Q : Prop} (h : ¬ Q) : EvB (fun _ => some false) Q := ⟨false, Ev.now _, Iff.intro (fun h => by cases h) (fun h' => absurd h' h)⟩
theorem EvB.cg {g f : Nat → Option Bool} {Q : Prop} (h : ∀ k, g k = f k) (k : EvB f Q) : EvB g Q := by
 obtain ⟨b, hb, hq⟩ := k
 exact ⟨b, Ev.congr h hb, hq⟩
theorem EvB.same {g : Nat → Option Bool} {Q : Prop} (k : EvB g Q) : EvB (fun n => (g n).bind fun t => some t) Q := by
 obtain ⟨b, hb, hq⟩ := k
 exact ⟨b, Ev.bind hb (Ev.now _), hq⟩
theorem mk_z (l : List S89) (i : Nat) : rd_T89 l (i : Int) = l.getD i z89 := rfl
theorem sg_z (l : List S65) (i : Nat) : rd_T65 l (i : Int) = l.getD i z65 := rfl
theorem bt_z (l : List S43) (i : Nat) : rd_T43 l (i : Int) = l.getD i z43 := rfl
theorem mk_ne (a b : S89) : ((!(a.f0 == b.f0) || (!(a.f1 == b.f1))) = true) ↔ ¬ a = b := by
 obtain ⟨a0, a1⟩ := a
 obtain ⟨b0, b1⟩ := b
 by_cases h0 : a0 = b0 <;> by_cases h1 : a1 = b1 <;> simp [h0, h1]
theorem ext_getD {α : Type} (z : α) {a b : List α} (hl : a.length = b.length) (h : ∀ i, i < a.length → a.getD i z = b.getD i z) : a = b := List.ext_getElem hl (fun i h1 h2 => by
 have := h i h1
 rw [List.getD_eq_getElem?_getD, List.getD_eq_getElem?_getD, List.getElem?_eq_getElem h1, List.getElem?_eq_getElem h2] at this
 exact this)
theorem sameM_ev (F : Nat → Nat → Option Bool) (a b : List S89) (hl : a.length = b.length) (h0 : ∀ k, F a.length (k + 1) = some true)
  (h1 : ∀ i k, i < a.length → F i (k + 1) = if (!((a.getD i z89).f0 == (b.getD i z89).f0) || (!((a.getD i z89).f1 == (b.getD i z89).f1))) = true then some false else F (i + 1) k) : EvB (F 0) (a = b) := by
 refine (all_evB a.length F (fun i => a.getD i z89 = b.getD i z89) True (EvB.yes h0 trivial) (fun i hi R hR => ?_)).iff ⟨fun h => ext_getD _ hl h.1, fun h => ⟨fun i _ => by rw [h], trivial⟩⟩
 by_cases e : a.getD i z89 = b.getD i z89
 ·refine (EvB.step (fun k => ?_) hR).iff ⟨fun h => ⟨e, h⟩, fun h => h.2⟩
  rw [h1 i k hi, if_neg (fun h => (mk_ne _ _).1 h e)]
 ·exact EvB.no (fun k => by rw [h1 i k hi, if_pos ((mk_ne _ _).2 e)]) (fun h => e h.1)
theorem sSM_ev (a b : List S89) (ha : a.length ≤ 1048576) : EvB (fun k => spec_l2SameMarks.f k a b) (a = b) := by
 unfold spec_l2SameMarks.f
 by_cases hl : a.length = b.length
 ·obtain ⟨c, hc, hq⟩ := sameM_ev (fun i k => spec_l2SameMarks.l0 k a b (a.length : Int) (i : Int)) a b hl
   (fun k => by
    show spec_l2SameMarks.l0 (k + 1) a b (a.length : Int) ((a.length : Nat) : Int) = _
    rw [spec_l2SameMarks.l0, if_neg (by omega)])
   (fun i k hi => by
    show spec_l2SameMarks.l0 (k + 1) a b (a.length : Int) (i : Int) = _
    rw [spec_l2SameMarks.l0, if_pos (by omega), if_pos (by omega), if_pos (by omega), if_pos (by omega), mk_z, mk_z, succ_wrap (by omega)])
  exact ⟨c, Ev.ifp (by omega) hc, hq⟩
 ·exact ⟨false, Ev.ifn (by omega) (Ev.now _), Iff.intro (fun h => by cases h) (fun h => absurd (congrArg List.length h) hl)⟩
theorem iSM_ev (a b : List S89) (ha : a.length ≤ 1048576) : EvB (fun k => slices_Equal_Mark.f k a b) (a = b) := by
 unfold slices_Equal_Mark.f
 by_cases hl : a.length = b.length
 ·obtain ⟨c, hc, hq⟩ := sameM_ev (fun i k => slices_Equal_Mark.l0 k a b (a.length : Int) (i : Int)) a b hl
   (fun k => by
    show slices_Equal_Mark.l0 (k + 1) a b (a.length : Int) ((a.length : Nat) : Int) = _
    rw [slices_Equal_Mark.l0, if_neg (by omega)])
   (fun i k hi => by
    show slices_Equal_Mark.l0 (k + 1) a b (a.length : Int) (i : Int) = _
    rw [slices_Equal_Mark.l0, if_pos (by omega), if_pos (by omega), if_pos (by omega), if_pos (by omega), mk_z, mk_z, succ_wrap (by omega)])
  exact ⟨c, Ev.ifp (by omega) hc, hq⟩
 ·exact ⟨false, Ev.ifn (by omega) (Ev.now _), Iff.intro (fun h => by cases h) (fun h => absurd (congrArg List.length h) hl)⟩
theorem sg_ext {a b : S65} (h0 : a.f0 = b.f0) (h1 : a.f1 = b.f1) (h2 : a.f2 = b.f2) : a = b := by
 obtain ⟨a0, a1, a2⟩ := a
 obtain ⟨b0, b1, b2⟩ := b
 have h0' : a0 = b0 := h0
 have h1' : a1 = b1 := h1
 have h2' : a2 = b2 := h2
 rw [h0', h1', h2']
theorem iS1_ev (a b : S65) (ha : a.f2.length ≤ 1048576) : EvB (fun k => impl_isStore_1.f k a.f0 a.f1 a.f2 b.f0 b.f1 b.f2) (a = b) := by
 unfold impl_isStore_1.f
 by_cases h0 : a.f0 = b.f0
 ·by_cases h1 : a.f1.toList = b.f1.toList
  ·exact EvB.ifp h0 (EvB.ifp h1 ((EvB.same (iSM_ev a.f2 b.f2 ha)).iff ⟨fun h2 => sg_ext h0 (tl_inj.1 h1) h2, fun h => by rw [h]⟩))
  ·exact EvB.ifp h0 (EvB.ifn h1 (EvB.fls fun h => h1 (by rw [h])))
 ·exact EvB.ifn h0 (EvB.fls fun h => h0 (by rw [h]))
theorem iEF_ev (x y : List S65) (hx : ∀ i, i < x.length → (x.getD i z65).f2.length ≤ 1048576) : EvB (fun k => slices_EqualFunc_Segment.f k x y) (x = y) := by
 unfold slices_EqualFunc_Segment.f
 by_cases hl : x.length = y.length
 ·refine EvB.ifp hl ((all_evB x.length (fun i k => slices_EqualFunc_Segment.l0 k x y i) (fun i => x.getD i z65 = y.getD i z65) True (EvB.yes (fun k => ?_) trivial) (fun i hi R hR => ?_)).iff ⟨fun h => ext_getD _ hl h.1, fun h => ⟨fun i _ => by rw [h], trivial⟩⟩)
  ·show slices_EqualFunc_Segment.l0 (k + 1) x y x.length = _
   rw [slices_EqualFunc_Segment.l0, if_neg (by omega)]
  ·refine EvB.step (fun k => ?_) (EvB.andThen (iS1_ev (x.getD i z65) (y.getD i z65) (hx i hi)) (fun _ => hR))
   show slices_EqualFunc_Segment.l0 (k + 1) x y i = _
   rw [slices_EqualFunc_Segment.l0, if_pos hi]
 ·exact EvB.ifn hl (EvB.fls fun h => hl (congrArg List.length h))

theorem ba_nat (l : List S43) (i : Nat) : rd_T43 l (i : Int) = l.getD i z43 := rfl

def GBx (x : S43) : Prop := GB x.f0 x.f1 x.f2 x.f3 x.f4
def NX (a b : S43) : Prop := b.f0 = wrap64 (a.f0 + (a.f4.length : Int)) ∧ b.f1 ≥ a.f1
theorem sNX_ev (a b : S43) : EvB (fun _ => spec_l1Next.f a.f0 a.f1 a.f2 a.f3 a.f4 b.f0 b.f1 b.f2 b.f3 b.f4) (NX a b) := by
 unfold spec_l1Next.f NX
 by_cases h : b.f0 = wrap64 (a.f0 + (a.f4.length : Int))
 ·exact ⟨decide (b.f1 ≥ a.f1), Ev.ifp h (Ev.now _), by rw [decide_eq_true_iff]; exact ⟨fun h' => ⟨h, h'⟩, fun h' => h'.2⟩⟩
 ·exact ⟨false, Ev.ifn h (Ev.now _), Iff.intro (fun h => by cases h) (fun h' => absurd h'.1 h)⟩

noncomputable def bbx (x : S43) : ByteArray := bb x.f0 x.f1 x.f2 x.f3 x.f4
theorem bbx_size (x : S43) (h : GBx x) : 14 ≤ (bbx x).size ∧ (bbx x).size ≤ 182 := by
 obtain ⟨hs, _, _, _, _, hl⟩ := h
 have := rcl_le x.f4 hs
 unfold bbx
 rw [bb_size]
 omega

theorem cmp_take2 (x : ByteArray) (hx : x.size ≤ 2000000) (a c : Nat) (ha : a + 12 ≤ x.size) (hc : c ≤ 255) (o e p s : Int) :
  (∃ l E, okI x a c o e p s l E ∧ SV x a c o e p s = (o, e, p, s, l, ((a + (bb o e p s l).size : Nat) : Int)) ∧ IV x a c o e p s = (o, e, p, s, l, ((a + (bb o e p s l).size : Nat) : Int), true)) ∨
  ((∀ l E, ¬ okI x a c o e p s l E) ∧ SV x a c o e p s = zS ∧ IV x a c o e p s = zI) := by
 by_cases hI : ∃ l E, okI x a c o e p s l E
 ·obtain ⟨l, E, hp, hg, hb1, hb2⟩ := hI
  obtain ⟨i1, _, i3, i4⟩ := prs_inv x x.size (Nat.le_refl _) c (a + 12) [] l E hp
  have hz := bb_size o e p s l
  have r0 : rcl [] = 0 := rfl
  have hv : val (x.extract a (a + 2)) = 12 + rcl l := by
   have e0 := byN_ext x a (a + (bb o e p s l).size) 0 (by omega) hb1
   have e1 := byN_ext x a (a + (bb o e p s l).size) 1 (by omega) hb1
   rw [hb2, Nat.add_zero] at e0
   rw [hb2] at e1
   rw [val2 x a (by omega), ← e0, ← e1]
   exact bb_val o e p s l (by have := rcl_le l hg.1; have := hg.2.2.2.2.2.2; omega)
  have hy : a + 2 + val (x.extract a (a + 2)) = E + 2 := by omega
  have hE : E + 2 = a + (bb o e p s l).size := by omega
  refine .inl ⟨l, E, ⟨hp, hg, hb1, hb2⟩, ?_, ?_⟩
  ·rw [← hE]
   unfold SV
   rw [hy, if_pos (by omega), prs_mono x x.size (E + 2) c (a + 12) [] l E hp (by omega) (Nat.le_refl _)]
   exact finS_pos x a (E + 2) o e p s l hg (by rw [hE]; exact hb2.symm)
  ·rw [← hE]
   unfold IV
   rw [hp]
   exact finI_pos x a o e p s l E ⟨hg, hb1, hb2⟩
 ·refine .inr ⟨fun l E h => hI ⟨l, E, h⟩, ?_, IV_no x a c o e p s (fun l E h => hI ⟨l, E, h⟩)⟩
  unfold SV
  by_cases hy : a + 2 + val (x.extract a (a + 2)) ≤ x.size
  ·rw [if_pos hy]
   cases hp : prs x (a + 2 + val (x.extract a (a + 2))) c (a + 12) [] with
   | none => rfl
   | some r =>
    show finS x a (a + 2 + val (x.extract a (a + 2))) o e p s r.1 = zS
    by_cases h : GB o e p s r.1 ∧ bb o e p s r.1 = x.extract a (a + 2 + val (x.extract a (a + 2)))
    ·exfalso
     obtain ⟨i1, i2, i3, i4⟩ := prs_inv x _ hy c (a + 12) [] r.1 r.2 hp
     have r0 : rcl [] = 0 := rfl
     have hz := bb_size o e p s r.1
     have hz2 : (bb o e p s r.1).size = 2 + val (x.extract a (a + 2)) := by
      rw [h.2, ByteArray.size_extract]
      omega
     have hc0 : 0 < c := by
      have := h.1.2.2.2.2.2
      have l0 : ([] : List ByteArray).length = 0 := rfl
      omega
     have hE := i2 hc0
     have hs : a + (bb o e p s r.1).size = a + 2 + val (x.extract a (a + 2)) := by omega
     exact hI ⟨r.1, r.2, prs_mono x _ x.size c (a + 12) [] r.1 r.2 hp (by omega) hy, h.1, by omega, by rw [hs]; exact h.2.symm⟩
    ·exact finS_neg x a _ o e p s r.1 h
  ·rw [if_neg hy]
def vO (x : ByteArray) (a : Nat) : Int := (val (x.extract (a + 2) (a + 5)) : Int)
def vE (x : ByteArray) (a : Nat) : Int := (val (x.extract (a + 5) (a + 7)) : Int)
def vP (x : ByteArray) (a : Nat) : Int := (val (x.extract (a + 7) (a + 9)) : Int)
def vQ (x : ByteArray) (a : Nat) : Int := (val (x.extract (a + 9) (a + 11)) : Int)
def AT (x : ByteArray) (a : Nat) (b : S43) : Prop := ∃ E, okI x a (byN x (a + 11)) (vO x a) (vE x a) (vP x a) (vQ x a) b.f4 E ∧ a + 12 ≤ x.size ∧ b = ⟨vO x a, vE x a, vP x a, vQ x a, b.f4⟩
theorem AT_uniq {x : ByteArray} {a : Nat} {b c : S43} (h : AT x a b) (k : AT x a c) : b = c := by
 obtain ⟨E, h1, _, h2⟩ := h
 obtain ⟨F, k1, _, k2⟩ := k
 have e := (Prod.mk.inj (Option.some.inj (h1.1.symm.trans k1.1))).1
 rw [h2, k2, e]
theorem AT_good {x : ByteArray} {a : Nat} {b : S43} (h : AT x a b) : GBx b ∧ a + (bbx b).size ≤ x.size ∧ x.extract a (a + (bbx b).size) = bbx b := by
 obtain ⟨E, h1, _, h2⟩ := h
 have := h1.2
 unfold GBx bbx
 rw [h2]
 exact this
open Classical in
noncomputable def TK (x : ByteArray) (a : Nat) : Option S43 := if h : ∃ b, AT x a b then some (Classical.choose h) else none
theorem TK_some {x : ByteArray} {a : Nat} {b : S43} : TK x a = some b ↔ AT x a b := by
 unfold TK
 by_cases h : ∃ b, AT x a b
 ·rw [dif_pos h]
  refine ⟨fun e => ?_, fun e => by rw [AT_uniq (Classical.choose_spec h) e]⟩
  rw [← Option.some.inj e]
  exact Classical.choose_spec h
 ·rw [dif_neg h]
  exact ⟨(fun e => by cases e), fun e => absurd ⟨b, e⟩ h⟩
theorem TK_none {x : ByteArray} {a : Nat} : TK x a = none ↔ ∀ b, ¬ AT x a b := by
 rw [Option.eq_none_iff_forall_ne_some]
 exact ⟨fun h b hb => h b (TK_some.2 hb), fun h b hb => h b (TK_some.1 hb)⟩
noncomputable def tS (x : ByteArray) (a : Nat) : TR := (TK x a).elim zS fun b => (b.f0, b.f1, b.f2, b.f3, b.f4, ((a + (bbx b).size : Nat) : Int))
noncomputable def tI (x : ByteArray) (a : Nat) : Int × Int × Int × Int × List ByteArray × Int × Bool := (TK x a).elim zI fun b => (b.f0, b.f1, b.f2, b.f3, b.f4, ((a + (bbx b).size : Nat) : Int), true)
theorem take_both (x : ByteArray) (hx : x.size ≤ 2000000) (a : Nat) (ha : a ≤ x.size) : (a < x.size → Ev (fun k => spec_l1Take.f k x (a : Int)) (tS x a)) ∧ Ev (fun k => impl_takeBatch.f k x (a : Int)) (tI x a) := by
 by_cases h12 : a + 12 ≤ x.size
 ·have hi := iTake_ev x hx a h12
  rcases cmp_take2 x hx a (byN x (a + 11)) h12 (byN_le _ _) (vO x a) (vE x a) (vP x a) (vQ x a) with ⟨l, E, hok, e1, e2⟩ | ⟨hno, e1, e2⟩
  ·have hz := bb_size (vO x a) (vE x a) (vP x a) (vQ x a) l
   have h14 : a + 14 ≤ x.size := by have := hok.2.2.1; omega
   have hT : TK x a = some ⟨vO x a, vE x a, vP x a, vQ x a, l⟩ := TK_some.2 ⟨E, hok, h12, rfl⟩
   unfold tS tI
   rw [hT]
   refine ⟨fun _ => ?_, ?_⟩
   ·have hs := sTake_ev x hx a h14
    have h2 : Ev _ (SV x a (byN x (a + 11)) (vO x a) (vE x a) (vP x a) (vQ x a)) := hs
    rw [e1] at h2; exact h2
   ·have h2 : Ev _ (IV x a (byN x (a + 11)) (vO x a) (vE x a) (vP x a) (vQ x a)) := hi
    rw [e2] at h2; exact h2
  ·have hT : TK x a = none := TK_none.2 fun b ⟨E, h, _, _⟩ => hno _ _ h
   unfold tS tI
   rw [hT]
   refine ⟨fun _ => ?_, ?_⟩
   ·by_cases h14 : a + 14 ≤ x.size
    ·have hs := sTake_ev x hx a h14
     have h2 : Ev _ (SV x a (byN x (a + 11)) (vO x a) (vE x a) (vP x a) (vQ x a)) := hs
     rw [e1] at h2; exact h2
    ·show Ev _ zS
     unfold spec_l1Take.f
     exact Ev.ifp (by rw [wrap_id (by omega) (by omega)]; omega) (Ev.now _)
   ·have h2 : Ev _ (IV x a (byN x (a + 11)) (vO x a) (vE x a) (vP x a) (vQ x a)) := hi
    rw [e2] at h2; exact h2
 ·have hT : TK x a = none := TK_none.2 fun b ⟨E, _, h, _⟩ => h12 h
  unfold tS tI
  rw [hT]
  refine ⟨fun h1 => ?_, ?_⟩
  ·show Ev _ zS
   unfold spec_l1Take.f
   exact Ev.ifp (by rw [wrap_id (by omega) (by omega)]; omega) (Ev.now _)
  ·show Ev _ zI
   unfold impl_takeBatch.f
   exact Ev.ifp (by omega) (Ev.ifp (by omega) (Ev.ifp (by rw [tn_nat, ByteArray.size_extract]; omega) (Ev.now _)))

theorem byN_eq {x y : ByteArray} (hs : x.size = y.size) (h : ∀ i, i < x.size → byN x i = byN y i) : x = y := by
 refine ByteArray.ext (Array.ext hs fun i h1 h2 => ?_)
 have := h i h1
 rw [byN_get x i h1, byN_get y i h2] at this
 exact UInt8.toNat_inj.1 this
theorem byN_app2 (x y : ByteArray) (i : Nat) (h : i < y.size) : byN (x ++ y) (x.size + i) = byN y i := by
 have h1 : x.size + i < (x ++ y).size := by
  rw [ByteArray.size_append]
  omega
 rw [byN_get _ _ h1, byN_get _ _ h, ByteArray.getElem_append_right (by omega)]
 simp only [Nat.add_sub_cancel_left]
open Classical in
noncomputable def RD (x : ByteArray) : Nat → List S43 → Nat → List S43 × Nat
 | 0, l, a => (l, a)
 | d + 1, l, a => (TK x a).elim (l, a) fun b => if l.length = 0 ∨ NX (l.getD (l.length - 1) z43) b then RD x d (l ++ [b]) (a + (bbx b).size) else (l, a)
theorem RD_at (x : ByteArray) : ∀ (d : Nat) (l : List S43) (a : Nat), a ≤ x.size → (RD x d l a).2 ≤ x.size ∧ l.length ≤ (RD x d l a).1.length ∧ a + 14 * ((RD x d l a).1.length - l.length) ≤ (RD x d l a).2 ∧
  ((∀ b ∈ l, GBx b) → ∀ b ∈ (RD x d l a).1, GBx b)
 | 0, l, a, ha => ⟨ha, Nat.le_refl _, by show a + 14 * (l.length - l.length) ≤ a; omega, fun h => h⟩
 | d + 1, l, a, ha => by
  rw [RD]
  cases hT : TK x a with
  | none => exact ⟨ha, Nat.le_refl _, by show a + 14 * (l.length - l.length) ≤ a; omega, fun h => h⟩
  | some b =>
   show _
   simp only [Option.elim_some]
   by_cases hn : l.length = 0 ∨ NX (l.getD (l.length - 1) z43) b
   ·rw [if_pos hn]
    have hg := AT_good (TK_some.1 hT)
    have hz := bbx_size b hg.1
    obtain ⟨h1, h2, h3, h4⟩ := RD_at x d (l ++ [b]) (a + (bbx b).size) hg.2.1
    rw [List.length_append, List.length_singleton] at h2 h3
    refine ⟨h1, by omega, by omega, fun h => h4 fun y hy => ?_⟩
    rcases List.mem_append.1 hy with hy | hy
    ·exact h y hy
    ·rw [List.mem_singleton.1 hy]
     exact hg.1
   ·rw [if_neg hn]
    exact ⟨ha, Nat.le_refl _, by show a + 14 * (l.length - l.length) ≤ a; omega, fun h => h⟩
theorem iFW2 (l : List S43) (hl : l.length ≤ 1048576) (b : S43) : EvB (fun _ => impl_follows.f l b.f0 b.f1 b.f2 b.f3 b.f4) (l.length = 0 ∨ NX (l.getD (l.length - 1) z43) b) := by
 unfold impl_follows.f impl_Batch_end.f
 by_cases h0 : l.length = 0
 ·exact ⟨true, Ev.ifp (by omega) (Ev.now _), ⟨fun _ => .inl h0, fun _ => rfl⟩⟩
 ·rw [pred_wrap (by omega) (by omega), ba_nat]
  unfold NX
  by_cases h : b.f0 = wrap64 ((l.getD (l.length - 1) z43).f0 + ((l.getD (l.length - 1) z43).f4.length : Int))
  ·exact ⟨decide (b.f1 ≥ (l.getD (l.length - 1) z43).f1), Ev.ifn (by omega) (Ev.ifp (by omega) (Ev.ifp (by omega) (Ev.bind (Ev.now _) (Ev.ifp h (Ev.now _))))), by rw [decide_eq_true_iff]; exact ⟨fun h' => .inr ⟨h, h'⟩, fun h' => (h'.resolve_left h0).2⟩⟩
  ·exact ⟨false, Ev.ifn (by omega) (Ev.ifp (by omega) (Ev.ifp (by omega) (Ev.bind (Ev.now _) (Ev.ifn h (Ev.now _))))), Iff.intro (fun h => by cases h) (fun h' => absurd (h'.resolve_left h0).1 h)⟩
theorem read_both (x : ByteArray) (hx : x.size ≤ 2000000) : ∀ (d : Nat) (l : List S43) (a : Nat), a ≤ x.size → x.size - a ≤ d → 14 * l.length ≤ a →
  Ev (fun k => spec_l1Read.l0 k x l (a : Int)) ((RD x d l a).1, ((RD x d l a).2 : Int)) ∧ Ev (fun k => impl_readLog.l0 k x l (a : Int)) ((RD x d l a).1, ((RD x d l a).2 : Int))
 | 0, l, a, ha, hd, hl => by
  have e : a = x.size := by omega
  have hT : TK x a = none := TK_none.2 fun b ⟨E, _, h, _⟩ => by omega
  have hi := (take_both x hx a ha).2
  unfold tI at hi
  rw [hT] at hi
  refine ⟨Ev.step (f := fun _ => some (l, (a : Int))) (fun k => by rw [spec_l1Read.l0, if_neg (by omega)]) (Ev.now _), ?_⟩
  refine Ev.step (f := fun k => (impl_takeBatch.f k x (a : Int)).bind fun t => if t.2.2.2.2.2.2 = true then ((impl_follows.f l t.1 t.2.1 t.2.2.1 t.2.2.2.1 t.2.2.2.2.1).bind fun u => (if u = true then (if l.length < 2513169434916 then (impl_readLog.l0 k x (l ++ [(⟨t.1, t.2.1, t.2.2.1, t.2.2.2.1, t.2.2.2.2.1⟩ : S43)]) t.2.2.2.2.2.1) else none) else some (l, (a : Int)))) else some (l, (a : Int))) (fun k => by rw [impl_readLog.l0]) (Ev.bind hi ?_)
  exact Ev.ifn (show ¬ (false = true) by decide) (Ev.now _)
 | d + 1, l, a, ha, hd, hl => by
  obtain ⟨hs, hi⟩ := take_both x hx a ha
  have iSt : ∀ k, impl_readLog.l0 (k + 1) x l (a : Int) = (impl_takeBatch.f k x (a : Int)).bind fun t => if t.2.2.2.2.2.2 = true then ((impl_follows.f l t.1 t.2.1 t.2.2.1 t.2.2.2.1 t.2.2.2.2.1).bind fun u => (if u = true then (if l.length < 2513169434916 then (impl_readLog.l0 k x (l ++ [(⟨t.1, t.2.1, t.2.2.1, t.2.2.2.1, t.2.2.2.2.1⟩ : S43)]) t.2.2.2.2.2.1) else none) else some (l, (a : Int)))) else some (l, (a : Int)) := fun k => by rw [impl_readLog.l0]
  have sSt : a < x.size → ∀ k, spec_l1Read.l0 (k + 1) x l (a : Int) = (spec_l1Take.f k x (a : Int)).bind fun t => if t.2.2.2.2.2 = 0 then some (l, (a : Int)) else if (l.length : Int) > 0 then (if 0 ≤ (wrap64 ((l.length : Int) - 1)) then (if (wrap64 ((l.length : Int) - 1)) < (l.length : Int) then ((spec_l1Next.f (rd_T43 l (wrap64 ((l.length : Int) - 1))).f0 (rd_T43 l (wrap64 ((l.length : Int) - 1))).f1 (rd_T43 l (wrap64 ((l.length : Int) - 1))).f2 (rd_T43 l (wrap64 ((l.length : Int) - 1))).f3 (rd_T43 l (wrap64 ((l.length : Int) - 1))).f4 t.1 t.2.1 t.2.2.1 t.2.2.2.1 t.2.2.2.2.1).bind fun u => (if u = true then (if l.length < 2513169434916 then (spec_l1Read.l0 k x (l ++ [(⟨t.1, t.2.1, t.2.2.1, t.2.2.2.1, t.2.2.2.2.1⟩ : S43)]) t.2.2.2.2.2) else none) else some (l, (a : Int)))) else none) else none) else (if l.length < 2513169434916 then (spec_l1Read.l0 k x (l ++ [(⟨t.1, t.2.1, t.2.2.1, t.2.2.2.1, t.2.2.2.2.1⟩ : S43)]) t.2.2.2.2.2) else none) := fun h1 k => by
   rw [spec_l1Read.l0, if_pos (by omega)]
  rw [RD]
  unfold tS at hs
  unfold tI at hi
  cases hT : TK x a with
  | none =>
   rw [hT] at hs hi
   refine ⟨?_, Ev.step iSt (Ev.bind hi (Ev.ifn (show ¬ (false = true) by decide) (Ev.now _)))⟩
   by_cases h1 : a < x.size
   ·exact Ev.step (sSt h1) (Ev.bind (hs h1) (Ev.ifp rfl (Ev.now _)))
   ·exact Ev.step (f := fun _ => some (l, (a : Int))) (fun k => by rw [spec_l1Read.l0, if_neg (by omega)]) (Ev.now _)
  | some b =>
   rw [hT] at hs hi
   have hg := AT_good (TK_some.1 hT)
   have hz := bbx_size b hg.1
   have h1 : a < x.size := by omega
   have hne : ¬ (((a + (bbx b).size : Nat) : Int) = 0) := by omega
   have ih := read_both x hx d (l ++ [b]) (a + (bbx b).size) hg.2.1 (by omega)
   obtain ⟨c, hc, hq⟩ := iFW2 l (by omega) b
   simp only [Option.elim_some]
   by_cases h0 : l.length = 0
   ·have hcond : l.length = 0 ∨ NX (l.getD (l.length - 1) z43) b := .inl h0
    rw [if_pos hcond]
    obtain ⟨ih1, ih2⟩ := ih (by rw [List.length_append, List.length_singleton]; omega)
    have hct : c = true := hq.2 hcond
    rw [hct] at hc
    exact ⟨Ev.step (sSt h1) (Ev.bind (hs h1) (Ev.ifn hne (Ev.ifn (by omega) (Ev.ifp (by omega) ih1)))), Ev.step iSt (Ev.bind hi (Ev.ifp rfl (Ev.bind hc (Ev.ifp rfl (Ev.ifp (by omega) ih2)))))⟩
   ·have sSt2 := sSt h1
    rw [pred_wrap (show 0 < l.length by omega) (by omega), ba_nat] at sSt2
    obtain ⟨c', hc', hq'⟩ := sNX_ev (l.getD (l.length - 1) z43) b
    by_cases hn : NX (l.getD (l.length - 1) z43) b
    ·have hcond : l.length = 0 ∨ NX (l.getD (l.length - 1) z43) b := .inr hn
     rw [if_pos hcond]
     obtain ⟨ih1, ih2⟩ := ih (by rw [List.length_append, List.length_singleton]; omega)
     rw [show c = true from hq.2 hcond] at hc
     rw [show c' = true from hq'.2 hn] at hc'
     exact ⟨Ev.step sSt2 (Ev.bind (hs h1) (Ev.ifn hne (Ev.ifp (by omega) (Ev.ifp (by omega) (Ev.ifp (by omega) (Ev.bind hc' (Ev.ifp rfl (Ev.ifp (by omega) ih1)))))))), Ev.step iSt (Ev.bind hi (Ev.ifp rfl (Ev.bind hc (Ev.ifp rfl (Ev.ifp (by omega) ih2)))))⟩
    ·have hcond : ¬ (l.length = 0 ∨ NX (l.getD (l.length - 1) z43) b) := fun h => h.elim h0 hn
     rw [if_neg hcond]
     have e1 : c = false := Bool.eq_false_iff.2 fun h => hcond (hq.1 h)
     have e2 : c' = false := Bool.eq_false_iff.2 fun h => hn (hq'.1 h)
     rw [e1] at hc
     rw [e2] at hc'
     exact ⟨Ev.step sSt2 (Ev.bind (hs h1) (Ev.ifn hne (Ev.ifp (by omega) (Ev.ifp (by omega) (Ev.ifp (by omega) (Ev.bind hc' (Ev.ifn (by decide) (Ev.now _)))))))), Ev.step iSt (Ev.bind hi (Ev.ifp rfl (Ev.bind hc (Ev.ifn (by decide) (Ev.now _)))))⟩
noncomputable def RDx (x : ByteArray) : List S43 × Nat := RD x x.size [] 0
theorem sRead_ev (x : ByteArray) (hx : x.size ≤ 2000000) : Ev (fun k => spec_l1Read.f k x) ((RDx x).1, ((RDx x).2 : Int)) := (read_both x hx x.size [] 0 (Nat.zero_le _) (by omega) (by simp only [List.length_nil]; omega)).1
theorem iRead_ev (x : ByteArray) (hx : x.size ≤ 2000000) : Ev (fun k => impl_readLog.f k x) ((RDx x).1, ((RDx x).2 : Int)) := (read_both x hx x.size [] 0 (Nat.zero_le _) (by omega) (by simp only [List.length_nil]; omega)).2
theorem RDx_at (x : ByteArray) : (RDx x).2 ≤ x.size ∧ 14 * (RDx x).1.length ≤ (RDx x).2 ∧ (∀ b ∈ (RDx x).1, GBx b) := by
 obtain ⟨h1, _, h3, h4⟩ := RD_at x x.size [] 0 (Nat.zero_le _)
 refine ⟨h1, ?_, h4 (fun b hb => by cases hb)⟩
 have : ([] : List S43).length = 0 := rfl
 unfold RDx
 omega

def GLi (l : List S43) (i : Nat) : Prop := ∀ j, i ≤ j → j < l.length → GBx (l.getD j z43) ∧ (0 < j → NX (l.getD (j - 1) z43) (l.getD j z43))
theorem GLi_step (l : List S43) (i : Nat) (hi : i < l.length) : (GBx (l.getD i z43) ∧ (0 < i → NX (l.getD (i - 1) z43) (l.getD i z43)) ∧ GLi l (i + 1)) ↔ GLi l i := by
 refine ⟨fun ⟨h1, h2, h3⟩ j h4 h5 => ?_, fun h => ⟨(h i (Nat.le_refl _) hi).1, (h i (Nat.le_refl _) hi).2, fun j h4 h5 => h j (by omega) h5⟩⟩
 by_cases e : j = i
 ·rw [e]
  exact ⟨h1, h2⟩
 ·exact h3 j (by omega) h5
theorem iFW_ev (l : List S43) (hl : l.length ≤ 1048576) (i : Nat) (hi : i < l.length) (b : S43) : EvB (fun _ => impl_follows.f (l.take i) b.f0 b.f1 b.f2 b.f3 b.f4) (0 < i → NX (l.getD (i - 1) z43) b) := by
 have hn : (l.take i).length = i := by rw [List.length_take]; omega
 unfold impl_follows.f impl_Batch_end.f
 rw [hn]
 by_cases h0 : 0 < i
 ·rw [pred_wrap h0 (by omega), ba_nat]
  have e : (l.take i).getD (i - 1) z43 = l.getD (i - 1) z43 := by
   rw [List.getD_eq_getElem?_getD, List.getD_eq_getElem?_getD, List.getElem?_take, if_pos (by omega)]
  rw [e]
  unfold NX
  by_cases h : b.f0 = wrap64 ((l.getD (i - 1) z43).f0 + ((l.getD (i - 1) z43).f4.length : Int))
  ·exact ⟨decide (b.f1 ≥ (l.getD (i - 1) z43).f1), Ev.ifn (by omega) (Ev.ifp (by omega) (Ev.ifp (by omega) (Ev.bind (Ev.now _) (Ev.ifp h (Ev.now _))))), by rw [decide_eq_true_iff]; exact ⟨fun h' _ => ⟨h, h'⟩, fun h' => (h' h0).2⟩⟩
  ·exact ⟨false, Ev.ifn (by omega) (Ev.ifp (by omega) (Ev.ifp (by omega) (Ev.bind (Ev.now _) (Ev.ifn h (Ev.now _))))), Iff.intro (fun h => by cases h) (fun h' => absurd (h' h0).1 h)⟩
 ·exact ⟨true, Ev.ifp (by omega) (Ev.now _), ⟨fun _ h => absurd h h0, fun _ => rfl⟩⟩
theorem iGL_l (l : List S43) (hl : l.length ≤ 1048576) : ∀ d i : Nat, i + d = l.length → EvB (fun k => impl_isLog.l0 k l l (l.length : Int) (i : Int)) (GLi l i)
 | 0, i, hd => EvB.yes (fun k => by rw [impl_isLog.l0, if_neg (by omega)]) (fun j h1 h2 => by omega)
 | d + 1, i, hd => by
  have hg := iGB_ev (l.getD i z43).f0 (l.getD i z43).f1 (l.getD i z43).f2 (l.getD i z43).f3 (l.getD i z43).f4
  have ih := iGL_l l hl d (i + 1) (by omega)
  refine EvB.step (fun k => ?_) (EvB.iff (EvB.andThen hg (fun _ => EvB.andThen (iFW_ev l hl i (by omega) (l.getD i z43)) (fun _ => ih))) (GLi_step l i (by omega)))
  rw [impl_isLog.l0, if_pos (by omega), if_pos (by omega), if_pos (by omega), succ_wrap (by omega)]
  refine congrArg _ (funext fun t => ?_)
  rw [if_pos (show (i : Int) ≤ (l.length : Int) by omega)]
  rfl
theorem iGL_ev (l : List S43) (hl : l.length ≤ 1048576) : EvB (fun k => impl_isLog.f k l) (GLi l 0) := iGL_l l hl l.length 0 (by omega)

noncomputable def lgb : List S43 → ByteArray → ByteArray
 | [], b => b
 | x :: xs, b => lgb xs (b ++ bbx x)
theorem drop_getB {l : List S43} {i : Nat} (h : i < l.length) : l.drop i = l.getD i z43 :: l.drop (i + 1) := by
 rw [List.drop_eq_getElem_cons h, List.getD_eq_getElem?_getD, List.getElem?_eq_getElem h]
 rfl
theorem lgb_app : ∀ (l r : List S43) (s : ByteArray), lgb (l ++ r) s = lgb r (lgb l s)
 | [], r, s => rfl
 | x :: xs, r, s => by rw [List.cons_append, lgb, lgb, lgb_app xs r]
theorem take_snoc {l : List S43} {i : Nat} (h : i < l.length) : l.take (i + 1) = l.take i ++ [l.getD i z43] := by
 rw [List.take_add_one, List.getD_eq_getElem?_getD, List.getElem?_eq_getElem h]
 rfl
theorem RD_good (x : ByteArray) : ∀ (d : Nat) (l : List S43) (a : Nat), GLi l 0 → GLi (RD x d l a).1 0
 | 0, l, a, h => h
 | d + 1, l, a, h => by
  rw [RD]
  cases hT : TK x a with
  | none => exact h
  | some b =>
   simp only [Option.elim_some]
   by_cases hn : l.length = 0 ∨ NX (l.getD (l.length - 1) z43) b
   ·rw [if_pos hn]
    refine RD_good x d (l ++ [b]) _ (fun j _ hj => ?_)
    rw [List.length_append, List.length_singleton] at hj
    by_cases hjl : j < l.length
    ·have e : ∀ i, i < l.length → (l ++ [b]).getD i z43 = l.getD i z43 := fun i hi => by
      rw [List.getD_eq_getElem?_getD, List.getD_eq_getElem?_getD, List.getElem?_append_left hi]
     rw [e j hjl]
     refine ⟨(h j (Nat.zero_le _) hjl).1, fun h0 => ?_⟩
     rw [e (j - 1) (by omega)]
     exact (h j (Nat.zero_le _) hjl).2 h0
    ·have e : j = l.length := by omega
     subst e
     have e1 : (l ++ [b]).getD l.length z43 = b := by
      rw [List.getD_eq_getElem?_getD, List.getElem?_append_right (Nat.le_refl _), Nat.sub_self]
      rfl
     rw [e1]
     refine ⟨(AT_good (TK_some.1 hT)).1, fun h0 => ?_⟩
     rw [List.getD_eq_getElem?_getD, List.getElem?_append_left (show l.length - 1 < l.length by omega), ← List.getD_eq_getElem?_getD]
     exact hn.resolve_left (by omega)
   ·rw [if_neg hn]
    exact h

noncomputable def IX (l : List S43) : Nat → Nat → Nat → Nat → List S89 → List S89
 | 0, _, _, _, o => o
 | d + 1, i, a, m, o => if i = 0 ∨ m + 40 ≤ a then IX l d (i + 1) (a + (bbx (l.getD i z43)).size) a (o ++ [⟨(l.getD i z43).f0, (a : Int)⟩]) else IX l d (i + 1) (a + (bbx (l.getD i z43)).size) m o
noncomputable def ixs (l : List S43) : List S89 := IX l l.length 0 0 0 []
theorem IX_len (l : List S43) : ∀ d i a m o, (IX l d i a m o).length ≤ o.length + d
 | 0, _, _, _, o => Nat.le_refl _
 | d + 1, i, a, m, o => by
  rw [IX]
  split
  ·have := IX_len l d (i + 1) (a + (bbx (l.getD i z43)).size) a (o ++ [⟨(l.getD i z43).f0, (a : Int)⟩])
   rw [List.length_append, List.length_singleton] at this
   omega
  ·have := IX_len l d (i + 1) (a + (bbx (l.getD i z43)).size) m o
   omega
theorem ixs_len (l : List S43) : (ixs l).length ≤ l.length := by
 have := IX_len l l.length 0 0 0 []
 simpa [ixs] using this
theorem sIX_l (l : List S43) (hl : l.length ≤ 1000000) (hg : ∀ j, j < l.length → GBx (l.getD j z43)) : ∀ d i a m (o : List S89), i + d = l.length → a ≤ 200 * i → m ≤ a → o.length ≤ i →
  (0 < i → 0 < o.length ∧ (o.getD (o.length - 1) z89).f1 = (m : Int)) → Ev (fun k => spec_l2Index.l0 k o (a : Int) l (l.length : Int) (i : Int)) (IX l d i a m o)
 | 0, i, a, m, o, hd, _, _, _, _ => Ev.step (f := fun _ => some o) (fun k => by rw [spec_l2Index.l0, if_neg (by omega)]) (Ev.now _)
 | d + 1, i, a, m, o, hd, ha, hm, ho, hq => by
  have hb := hg i (by omega)
  have hz := bbx_size _ hb
  have hB : Ev (fun k => spec_l1Batch.f k (l.getD i z43).f0 (l.getD i z43).f1 (l.getD i z43).f2 (l.getD i z43).f3 (l.getD i z43).f4) (bbx (l.getD i z43)) := (batch_ev _ _ _ _ _ hb).1
  have hw : wrap64 ((a : Int) + ((bbx (l.getD i z43)).size : Int)) = ((a + (bbx (l.getD i z43)).size : Nat) : Int) := by rw [wrap_id (by omega) (by omega)]; omega
  rw [IX]
  by_cases h0 : i = 0
  ·rw [if_pos (.inl h0)]
   refine Ev.step (f := fun k => (spec_l1Batch.f k (l.getD i z43).f0 (l.getD i z43).f1 (l.getD i z43).f2 (l.getD i z43).f3 (l.getD i z43).f4).bind fun t => spec_l2Index.l0 k (o ++ [⟨(l.getD i z43).f0, (a : Int)⟩]) (wrap64 ((a : Int) + (t.size : Int))) l (l.length : Int) ((i + 1 : Nat) : Int)) (fun k => ?_) (Ev.bind hB ?_)
   ·rw [spec_l2Index.l0, if_pos (by omega), if_pos (by omega), if_pos (by omega), if_pos (by omega), if_pos (by omega), bt_z, succ_wrap (by omega)]
   ·rw [hw]
    exact sIX_l l hl hg d (i + 1) _ a _ (by omega) (by omega) (by omega) (by rw [List.length_append, List.length_singleton]; omega) (fun _ => ⟨by rw [List.length_append, List.length_singleton]; omega, by rw [List.length_append, List.length_singleton, Nat.add_sub_cancel]; simp [List.getD]⟩)
  ·obtain ⟨q1, q2⟩ := hq (by omega)
   have hs : wrap64 ((a : Int) - (m : Int)) = (a : Int) - (m : Int) := wrap_id (by omega) (by omega)
   by_cases hc : m + 40 ≤ a
   ·rw [if_pos (.inr hc)]
    refine Ev.step (f := fun k => (spec_l1Batch.f k (l.getD i z43).f0 (l.getD i z43).f1 (l.getD i z43).f2 (l.getD i z43).f3 (l.getD i z43).f4).bind fun t => spec_l2Index.l0 k (o ++ [⟨(l.getD i z43).f0, (a : Int)⟩]) (wrap64 ((a : Int) + (t.size : Int))) l (l.length : Int) ((i + 1 : Nat) : Int)) (fun k => ?_) (Ev.bind hB ?_)
    ·rw [spec_l2Index.l0, if_pos (by omega), if_pos (by omega), if_pos (by omega), if_neg (by omega), pred_wrap q1 (by omega), if_pos (by omega), if_pos (by omega), mk_z, q2, hs, if_pos (by omega), if_pos (by omega), bt_z, succ_wrap (by omega)]
    ·rw [hw]
     exact sIX_l l hl hg d (i + 1) _ a _ (by omega) (by omega) (by omega) (by rw [List.length_append, List.length_singleton]; omega) (fun _ => ⟨by rw [List.length_append, List.length_singleton]; omega, by rw [List.length_append, List.length_singleton, Nat.add_sub_cancel]; simp [List.getD]⟩)
   ·rw [if_neg (fun h => h.elim h0 hc)]
    refine Ev.step (f := fun k => (spec_l1Batch.f k (l.getD i z43).f0 (l.getD i z43).f1 (l.getD i z43).f2 (l.getD i z43).f3 (l.getD i z43).f4).bind fun t => spec_l2Index.l0 k o (wrap64 ((a : Int) + (t.size : Int))) l (l.length : Int) ((i + 1 : Nat) : Int)) (fun k => ?_) (Ev.bind hB ?_)
    ·rw [spec_l2Index.l0, if_pos (by omega), if_pos (by omega), if_pos (by omega), if_neg (by omega), pred_wrap q1 (by omega), if_pos (by omega), if_pos (by omega), mk_z, q2, hs, if_neg (by omega), bt_z, succ_wrap (by omega)]
    ·rw [hw]
     exact sIX_l l hl hg d (i + 1) _ m o (by omega) (by omega) (by omega) (by omega) (fun _ => ⟨q1, q2⟩)
theorem sIX_ev (l : List S43) (hl : l.length ≤ 1000000) (hg : ∀ j, j < l.length → GBx (l.getD j z43)) : Ev (fun k => spec_l2Index.f k l) (ixs l) := sIX_l l hl hg l.length 0 0 0 [] (by omega) (by omega) (by omega) (Nat.zero_le _) (fun h => by omega)
theorem drop_cons {l : List S43} {i : Nat} (h : i < l.length) : l.drop i = l.getD i z43 :: l.drop (i + 1) := by
 rw [List.drop_eq_getElem_cons h, List.getD_eq_getElem?_getD, List.getElem?_eq_getElem h]
 rfl
theorem iSG_l (l : List S43) (hl : l.length ≤ 1000000) (hg : ∀ j, j < l.length → GBx (l.getD j z43)) : ∀ d i m (b : Int) (s : ByteArray) (o : List S89), i + d = l.length → s.size ≤ 200 * i → m ≤ s.size → o.length ≤ i →
  Ev (fun k => impl_segmentOf.l0 k (m : Int) l (l.length : Int) (i : Int) b s o) (if i = 0 ∧ 0 < d then (l.getD 0 z43).f0 else b, lgb (l.drop i) s, IX l d i s.size m o)
 | 0, i, m, b, s, o, hd, _, _, _ => by
  rw [if_neg (by omega), List.drop_of_length_le (by omega)]
  exact Ev.step (f := fun _ => some (b, s, o)) (fun k => by rw [impl_segmentOf.l0, if_neg (by omega)]) (Ev.now _)
 | d + 1, i, m, b, s, o, hd, ha, hm, ho => by
  have hb := hg i (by omega)
  have hz := bbx_size _ hb
  have hB : Ev (fun k => impl_batchBytes.f k (l.getD i z43).f0 (l.getD i z43).f1 (l.getD i z43).f2 (l.getD i z43).f3 (l.getD i z43).f4) (bbx (l.getD i z43)) := (batch_ev _ _ _ _ _ hb).2
  have hzz : (s ++ bbx (l.getD i z43)).size = s.size + (bbx (l.getD i z43)).size := ByteArray.size_append
  rw [IX, drop_cons (show i < l.length by omega), lgb]
  by_cases h0 : i = 0
  ·rw [if_pos (show i = 0 ∨ m + 40 ≤ s.size from .inl h0), if_pos (show i = 0 ∧ 0 < d + 1 from ⟨h0, by omega⟩)]
   refine Ev.step (f := fun k => (impl_batchBytes.f k (l.getD i z43).f0 (l.getD i z43).f1 (l.getD i z43).f2 (l.getD i z43).f3 (l.getD i z43).f4).bind fun t => if s.size + t.size ≤ 9223372036854775807 then impl_segmentOf.l0 k (s.size : Int) l (l.length : Int) ((i + 1 : Nat) : Int) (l.getD i z43).f0 (s ++ t) (o ++ [⟨(l.getD i z43).f0, (s.size : Int)⟩]) else none) (fun k => ?_) (Ev.bind hB (Ev.ifp (by omega) ?_))
   ·rw [impl_segmentOf.l0, if_pos (by omega), if_pos (by omega), if_pos (by omega), if_pos (by omega), if_pos (by omega), bt_z, succ_wrap (by omega)]
   ·have ih := iSG_l l hl hg d (i + 1) s.size (l.getD i z43).f0 (s ++ bbx (l.getD i z43)) (o ++ [⟨(l.getD i z43).f0, (s.size : Int)⟩]) (by omega) (by omega) (by omega) (by rw [List.length_append, List.length_singleton]; omega)
    rw [if_neg (by omega), hzz] at ih
    subst h0
    exact ih
  ·have hs : wrap64 ((s.size : Int) - (m : Int)) = (s.size : Int) - (m : Int) := wrap_id (by omega) (by omega)
   rw [if_neg (show ¬ (i = 0 ∧ 0 < d + 1) from fun h => h0 h.1)]
   by_cases hc : m + 40 ≤ s.size
   ·rw [if_pos (show i = 0 ∨ m + 40 ≤ s.size from .inr hc)]
    refine Ev.step (f := fun k => (impl_batchBytes.f k (l.getD i z43).f0 (l.getD i z43).f1 (l.getD i z43).f2 (l.getD i z43).f3 (l.getD i z43).f4).bind fun t => if s.size + t.size ≤ 9223372036854775807 then impl_segmentOf.l0 k (s.size : Int) l (l.length : Int) ((i + 1 : Nat) : Int) b (s ++ t) (o ++ [⟨(l.getD i z43).f0, (s.size : Int)⟩]) else none) (fun k => ?_) (Ev.bind hB (Ev.ifp (by omega) ?_))
    ·rw [impl_segmentOf.l0, if_pos (by omega), if_pos (by omega), if_pos (by omega), if_neg (by omega), hs, if_pos (by omega), if_pos (by omega), bt_z, succ_wrap (by omega)]
    ·have ih := iSG_l l hl hg d (i + 1) s.size b (s ++ bbx (l.getD i z43)) (o ++ [⟨(l.getD i z43).f0, (s.size : Int)⟩]) (by omega) (by omega) (by omega) (by rw [List.length_append, List.length_singleton]; omega)
     rw [if_neg (by omega), hzz] at ih
     exact ih
   ·rw [if_neg (fun h => h.elim h0 hc)]
    refine Ev.step (f := fun k => (impl_batchBytes.f k (l.getD i z43).f0 (l.getD i z43).f1 (l.getD i z43).f2 (l.getD i z43).f3 (l.getD i z43).f4).bind fun t => if s.size + t.size ≤ 9223372036854775807 then impl_segmentOf.l0 k (m : Int) l (l.length : Int) ((i + 1 : Nat) : Int) b (s ++ t) o else none) (fun k => ?_) (Ev.bind hB (Ev.ifp (by omega) ?_))
    ·rw [impl_segmentOf.l0, if_pos (by omega), if_pos (by omega), if_pos (by omega), if_neg (by omega), hs, if_neg (by omega), bt_z, succ_wrap (by omega)]
    ·have ih := iSG_l l hl hg d (i + 1) m b (s ++ bbx (l.getD i z43)) o (by omega) (by omega) (by omega) (by omega)
     rw [if_neg (by omega), hzz] at ih
     exact ih
noncomputable def sgO (l : List S43) (b : Int) : S65 := ⟨if l.length = 0 then b else (l.getD 0 z43).f0, lgb l ⟨#[]⟩, ixs l⟩
theorem iSG_ev (l : List S43) (b : Int) (hl : l.length ≤ 1000000) (hg : ∀ j, j < l.length → GBx (l.getD j z43)) : Ev (fun k => impl_segmentOf.f k l b) ((sgO l b).f0, (sgO l b).f1, (sgO l b).f2) := by
 have h := iSG_l l hl hg l.length 0 0 b ⟨#[]⟩ [] (by omega) (by show 0 ≤ _; omega) (Nat.zero_le _) (Nat.zero_le _)
 have e : (if l.length = 0 then b else (l.getD 0 z43).f0) = (if (0 : Nat) = 0 ∧ 0 < l.length then (l.getD 0 z43).f0 else b) := by
  by_cases h0 : l.length = 0
  ·rw [if_pos h0, if_neg (by omega)]
  ·rw [if_neg h0, if_pos ⟨rfl, by omega⟩]
 unfold sgO
 rw [e]
 exact h
noncomputable def nxO (l : List S43) (b : Int) : Int := if l.length = 0 then b else wrap64 ((l.getD (l.length - 1) z43).f0 + ((l.getD (l.length - 1) z43).f4.length : Int))
noncomputable def SO (L : List (List S43)) : Nat → Nat → List S65 → Int → List S65 × Int
 | 0, _, g, n => (g, n)
 | d + 1, i, g, n => SO L d (i + 1) (g ++ [sgO (L.getD i []) n]) (nxO (L.getD i []) n)
theorem iSO_l (L : List (List S43)) (hL : L.length ≤ 1000000) (hg : ∀ i, i < L.length → (L.getD i []).length ≤ 1000000 ∧ ∀ j, j < (L.getD i []).length → GBx ((L.getD i []).getD j z43)) : ∀ d i (g : List S65) (n : Int), i + d = L.length → g.length ≤ i →
  Ev (fun k => impl_storeOf.l0 k L (L.length : Int) (i : Int) g n) (SO L d i g n)
 | 0, i, g, n, hd, _ => Ev.step (f := fun _ => some (g, n)) (fun k => by rw [impl_storeOf.l0, if_neg (by omega)]) (Ev.now _)
 | d + 1, i, g, n, hd, hgl => by
  obtain ⟨hl, hb⟩ := hg i (by omega)
  have hS := iSG_ev (L.getD i []) n hl hb
  have ih := iSO_l L hL hg d (i + 1) (g ++ [sgO (L.getD i []) n]) (nxO (L.getD i []) n) (by omega) (by rw [List.length_append, List.length_singleton]; omega)
  rw [SO]
  have e : ∀ x : Int, 0 ≤ x → rd_L13 L x = L.getD x.toNat [] := fun _ _ => rfl
  by_cases h0 : (L.getD i []).length = 0
  ·rw [show nxO (L.getD i []) n = n from by unfold nxO; rw [if_pos h0]] at ih ⊢
   refine Ev.step (f := fun k => (impl_segmentOf.f k (L.getD i []) n).bind fun t => if g.length < 2932031007402 then (some (g ++ [(⟨t.1, t.2.1, t.2.2⟩ : S65)])).bind fun y => impl_storeOf.l0 k L (L.length : Int) ((i + 1 : Nat) : Int) y n else none) (fun k => ?_) (Ev.bind hS (Ev.ifp (by omega) ih))
   rw [impl_storeOf.l0, if_pos (by omega), if_pos (by omega), if_pos (by omega), e _ (by omega), Int.toNat_natCast, succ_wrap (by omega)]
   congr 1
   funext t
   congr 1
   congr 1
   funext y
   rw [if_neg (by omega)]
  ·rw [show nxO (L.getD i []) n = wrap64 (((L.getD i []).getD ((L.getD i []).length - 1) z43).f0 + (((L.getD i []).getD ((L.getD i []).length - 1) z43).f4.length : Int)) from by unfold nxO; rw [if_neg h0]] at ih ⊢
   refine Ev.step (f := fun k => (impl_segmentOf.f k (L.getD i []) n).bind fun t => if g.length < 2932031007402 then (some (g ++ [(⟨t.1, t.2.1, t.2.2⟩ : S65)])).bind fun y => impl_storeOf.l0 k L (L.length : Int) ((i + 1 : Nat) : Int) y (wrap64 (((L.getD i []).getD ((L.getD i []).length - 1) z43).f0 + (((L.getD i []).getD ((L.getD i []).length - 1) z43).f4.length : Int))) else none) (fun k => ?_) (Ev.bind hS (Ev.ifp (by omega) ih))
   rw [impl_storeOf.l0, if_pos (by omega), if_pos (by omega), if_pos (by omega), e _ (by omega), Int.toNat_natCast, succ_wrap (by omega)]
   congr 1
   funext t
   congr 1
   congr 1
   funext y
   rw [if_pos (by omega), pred_wrap (by omega) (by omega), if_pos (by omega), if_pos (by omega)]
   unfold impl_Batch_end.f
   rw [Option.bind_some]
   rfl
theorem iSO_ev (L : List (List S43)) (n : Int) (hL : L.length ≤ 1000000) (hg : ∀ i, i < L.length → (L.getD i []).length ≤ 1000000 ∧ ∀ j, j < (L.getD i []).length → GBx ((L.getD i []).getD j z43)) : Ev (fun k => impl_storeOf.f k L n) (SO L L.length 0 [] n) := iSO_l L hL hg L.length 0 [] n (by omega) (Nat.zero_le _)

theorem EvB.succ {g : Nat → Option Bool} {Q : Prop} (k : EvB (fun n => g (n + 1)) Q) : EvB g Q := EvB.step (fun _ => rfl) k
theorem ext_app (x : ByteArray) (a b c : Nat) (h1 : a ≤ b) (h2 : b ≤ c) (h3 : c ≤ x.size) : x.extract a b ++ x.extract b c = x.extract a c := by
 have z1 : (x.extract a b).size = b - a := by rw [ByteArray.size_extract]; omega
 have z2 : (x.extract b c).size = c - b := by rw [ByteArray.size_extract]; omega
 have z3 : (x.extract a c).size = c - a := by rw [ByteArray.size_extract]; omega
 refine byN_eq (by rw [ByteArray.size_append]; omega) fun j hj => ?_
 rw [ByteArray.size_append, z1, z2] at hj
 rw [byN_ext x a c j (by omega) h3]
 by_cases h : j < b - a
 ·rw [byN_app _ _ j (by omega), byN_ext x a b j (by omega) (by omega)]
 ·obtain ⟨q, rfl⟩ : ∃ q, j = (x.extract a b).size + q := ⟨j - (b - a), by omega⟩
  rw [byN_app2 _ _ q (by omega), byN_ext x b c q (by omega) h3, z1]
  congr 1
  omega
theorem ext_nil (x : ByteArray) (a : Nat) : x.extract a a = (⟨#[]⟩ : ByteArray) := byN_eq (by rw [ByteArray.size_extract]; show min a x.size - a = 0; omega) fun i hi => by
 rw [ByteArray.size_extract] at hi
 omega
theorem RD_bytes (x : ByteArray) : ∀ (d : Nat) (l : List S43) (a : Nat), a ≤ x.size → a ≤ (RD x d l a).2 ∧ lgb (RD x d l a).1 ⟨#[]⟩ = lgb l ⟨#[]⟩ ++ x.extract a (RD x d l a).2
 | 0, l, a, h => ⟨Nat.le_refl _, by
  show lgb l ⟨#[]⟩ = lgb l ⟨#[]⟩ ++ x.extract a a
  rw [ext_nil]
  exact ByteArray.append_empty.symm⟩
 | d + 1, l, a, h => by
  rw [RD]
  cases hT : TK x a with
  | none => exact ⟨Nat.le_refl _, by
    show lgb l ⟨#[]⟩ = lgb l ⟨#[]⟩ ++ x.extract a a
    rw [ext_nil]
    exact ByteArray.append_empty.symm⟩
  | some b =>
   simp only [Option.elim_some]
   by_cases hn : l.length = 0 ∨ NX (l.getD (l.length - 1) z43) b
   ·rw [if_pos hn]
    obtain ⟨g1, g2, g3⟩ := AT_good (TK_some.1 hT)
    obtain ⟨i1, i2⟩ := RD_bytes x d (l ++ [b]) (a + (bbx b).size) g2
    have i3 := (RD_at x d (l ++ [b]) (a + (bbx b).size) g2).1
    refine ⟨by omega, ?_⟩
    have e := ext_app x a (a + (bbx b).size) _ (by omega) i1 i3
    rw [g3] at e
    rw [i2, lgb_app, lgb, lgb, ByteArray.append_assoc, e]
   ·rw [if_neg hn]
    exact ⟨Nat.le_refl _, by
     show lgb l ⟨#[]⟩ = lgb l ⟨#[]⟩ ++ x.extract a a
     rw [ext_nil]
     exact ByteArray.append_empty.symm⟩
theorem RDx_bytes (x : ByteArray) : lgb (RDx x).1 ⟨#[]⟩ = x.extract 0 (RDx x).2 := by
 have := (RD_bytes x x.size [] 0 (Nat.zero_le _)).2
 rw [show lgb ([] : List S43) ⟨#[]⟩ = ByteArray.empty from rfl, ByteArray.empty_append] at this
 exact this
theorem RDx_full (x : ByteArray) : (RDx x).2 = x.size ↔ lgb (RDx x).1 ⟨#[]⟩ = x := by
 have h := RDx_at x
 rw [RDx_bytes x]
 constructor
 ·intro e
  rw [e]
  exact ByteArray.extract_zero_size
 ·intro e
  have := congrArg ByteArray.size e
  rw [ByteArray.size_extract] at this
  omega
theorem RDx_log (x : ByteArray) : GLi (RDx x).1 0 := RD_good x x.size [] 0 (fun j _ h => absurd h (Nat.not_lt_zero _))
theorem RDx_gb (x : ByteArray) : ∀ j, j < (RDx x).1.length → GBx ((RDx x).1.getD j z43) := fun j hj => (RDx_log x j (Nat.zero_le _) hj).1
noncomputable def LS (S : List S65) (i : Nat) : List S43 := (RDx (S.getD i z65).f1).1
noncomputable def RS (S : List S65) (i : Nat) : Nat := (RDx (S.getD i z65).f1).2
noncomputable def endB (b : S43) : Int := wrap64 (b.f0 + (b.f4.length : Int))
noncomputable def epO (l : List S43) (e : Int) : Int := if l.length = 0 then e else (l.getD (l.length - 1) z43).f1
noncomputable def ns (S : List S65) : Nat → Int
 | 0 => -1
 | i + 1 => nxO (LS S i) (S.getD i z65).f0
noncomputable def es (S : List S65) : Nat → Int
 | 0 => 0
 | i + 1 => epO (LS S i) (es S i)
def INQ (l : List S43) (n e : Int) (q : Nat) : Prop := (l.getD q z43).f0 = (if q = 0 then n else endB (l.getD (q - 1) z43)) ∧ ¬ (l.getD q z43).f1 < (if q = 0 then e else (l.getD (q - 1) z43).f1)
def TT (S : List S65) (i : Nat) : Prop := RS S i = (S.getD i z65).f1.size ∧ ¬ (120 < (S.getD i z65).f1.size ∧ 1 < (LS S i).length) ∧ ¬ ((LS S i).length = 0 ∧ i + 1 < S.length) ∧ (S.getD i z65).f2 = ixs (LS S i) ∧
 (0 ≤ (S.getD i z65).f0 ∧ (S.getD i z65).f0 ≤ 100000) ∧ (0 < i → (S.getD i z65).f0 = ns S i) ∧ ∀ q, q < (LS S i).length → INQ (LS S i) (S.getD i z65).f0 (es S i) q
def TE (S : List S65) (N : Int) : Prop := (1 ≤ (S.length : Int) ∧ (S.length : Int) ≤ 8) ∧ N = ns S S.length ∧ (0 ≤ N ∧ N ≤ 100000)
theorem sL1_ev (S : List S65) (N : Int) (i : Nat) (n e : Int) (l : List S43) (hl : l.length ≤ 1000000) (R : Prop) (h : EvB (fun k => spec_GoodStore.l0 k (nxO l n) (epO l e) S (S.length : Int) (wrap64 ((i : Int) + 1)) S N) R) :
  EvB (fun k => spec_GoodStore.l1 k n e S (S.length : Int) (i : Int) l (l.length : Int) 0 S N) ((∀ q, q < l.length → INQ l n e q) ∧ R) := by
 refine all_evB l.length (fun q k => spec_GoodStore.l1 k (if q = 0 then n else endB (l.getD (q - 1) z43)) (if q = 0 then e else (l.getD (q - 1) z43).f1) S (S.length : Int) (i : Int) l (l.length : Int) (q : Int) S N) (INQ l n e) R ?_ (fun q hq R' hR => ?_)
 ·refine EvB.step (fun k => ?_) h
  show spec_GoodStore.l1 (k + 1) _ _ S (S.length : Int) (i : Int) l (l.length : Int) ((l.length : Nat) : Int) S N = _
  rw [spec_GoodStore.l1, if_neg (by omega)]
  rfl
 ·show EvB (fun k => spec_GoodStore.l1 k _ _ S (S.length : Int) (i : Int) l (l.length : Int) (q : Int) S N) _
  refine EvB.succ ?_
  simp only [spec_GoodStore.l1]
  refine EvB.ifp (by omega) (EvB.ifp (by omega) (EvB.ifp (by omega) ?_))
  rw [bt_z]
  by_cases c0 : (l.getD q z43).f0 = (if q = 0 then n else endB (l.getD (q - 1) z43))
  ·by_cases c1 : (l.getD q z43).f1 < (if q = 0 then e else (l.getD (q - 1) z43).f1)
   ·exact EvB.ifp c0 (EvB.ifp c1 (EvB.fls fun h' => h'.1.2 c1))
   ·refine EvB.ifp c0 (EvB.ifn c1 (EvB.iff (EvB.cg (fun k => ?_) hR) ⟨fun h' => ⟨⟨c0, c1⟩, h'⟩, fun h' => h'.2⟩))
    rw [if_neg (Nat.succ_ne_zero q), if_neg (Nat.succ_ne_zero q), Nat.add_sub_cancel, succ_wrap (by omega)]
    rfl
  ·exact EvB.ifn c0 (EvB.fls fun h' => c0 h'.1.1)
theorem sJ1_t (e : Int) (l : List S43) (S : List S65) (n i : Int) (N : Int) (a : Int) (b : ByteArray) (c : List S89) {Q : Prop} (h : ¬ Q) : EvB (fun k => spec_GoodStore.j1 k e l S n i true S N a b c) Q :=
 EvB.no (fun k => by rw [spec_GoodStore.j1, if_pos rfl]) h
theorem sJ1_f (e : Int) (l : List S43) (hl : l.length ≤ 1000000) (S : List S65) (i : Nat) (N : Int) (a : Int) (b : ByteArray) (c : List S89) (R : Prop) (h : EvB (fun k => spec_GoodStore.l0 k (nxO l a) (epO l e) S (S.length : Int) (wrap64 ((i : Int) + 1)) S N) R) :
  EvB (fun k => spec_GoodStore.j1 k e l S (S.length : Int) (i : Int) false S N a b c) ((∀ q, q < l.length → INQ l a e q) ∧ R) :=
 EvB.step (fun k => by rw [spec_GoodStore.j1, if_neg (by decide)]) (sL1_ev S N i a e l hl R h)
theorem sGS_ev (S : List S65) (N : Int) (hS : S.length ≤ 1048576) (hz : ∀ i, i < S.length → (S.getD i z65).f1.size ≤ 1048576 ∧ (S.getD i z65).f2.length ≤ 1048576) :
  EvB (fun k => spec_GoodStore.f k S N) ((∀ i, i < S.length → TT S i) ∧ TE S N) := by
 unfold spec_GoodStore.f
 refine all_evB S.length (fun i k => spec_GoodStore.l0 k (ns S i) (es S i) S (S.length : Int) (i : Int) S N) (TT S) (TE S N) ?_ (fun i hi R hR => ?_)
 ·show EvB (fun k => spec_GoodStore.l0 k _ _ S (S.length : Int) ((S.length : Nat) : Int) S N) _
  refine EvB.succ ?_
  simp only [spec_GoodStore.l0]
  refine EvB.ifn (by omega) ?_
  simp only [sin, Option.bind_some]
  refine EvB.and ?_
  by_cases c : N = ns S S.length
  ·exact EvB.ifp c (EvB.iff EvB.dec ⟨fun h => ⟨c, h⟩, fun h => h.2⟩)
  ·exact EvB.ifn c (EvB.fls fun h => c h.1)
 ·show EvB (fun k => spec_GoodStore.l0 k _ _ S (S.length : Int) (i : Int) S N) _
  obtain ⟨z1, z2⟩ := hz i hi
  have hat := RDx_at (S.getD i z65).f1
  have hL : (LS S i).length ≤ 1000000 := by unfold LS; omega
  have hrd : Ev (fun k => spec_l1Read.f k (S.getD i z65).f1) (LS S i, (RS S i : Int)) := sRead_ev _ (by omega)
  have hix := sIX_ev (LS S i) hL (RDx_gb _)
  have hsm := sSM_ev (S.getD i z65).f2 (ixs (LS S i)) z2
  have nxt : EvB (fun k => spec_GoodStore.l0 k (nxO (LS S i) (S.getD i z65).f0) (epO (LS S i) (es S i)) S (S.length : Int) (wrap64 ((i : Int) + 1)) S N) R := by
   rw [succ_wrap (by omega)]
   exact hR
  have pw : wrap64 ((S.length : Int) - 1) = (S.length : Int) - 1 := wrap_id (by omega) (by omega)
  refine EvB.succ ?_
  simp only [spec_GoodStore.l0]
  refine EvB.ifp (by omega) (EvB.ifp (by omega) (EvB.ifp (by omega) ?_))
  rw [sg_z, pw]
  refine EvB.bd hrd ?_
  dsimp only
  have tail : (RS S i = (S.getD i z65).f1.size) → ¬ (120 < (S.getD i z65).f1.size ∧ 1 < (LS S i).length) → ¬ ((LS S i).length = 0 ∧ i + 1 < S.length) →
    EvB (fun k => (spec_l2Index.f k (LS S i)).bind fun t => (spec_l2SameMarks.f k (S.getD i z65).f2 t).bind fun u => if u = true then ((spec_l1In.f (S.getD i z65).f0 0 100000).bind fun v => if v = true then (if (i : Int) > 0 then (spec_GoodStore.j1 k (es S i) (LS S i) S (S.length : Int) (i : Int) ((S.getD i z65).f0 != ns S i) S N (S.getD i z65).f0 (S.getD i z65).f1 (S.getD i z65).f2) else (spec_GoodStore.j1 k (es S i) (LS S i) S (S.length : Int) (i : Int) false S N (S.getD i z65).f0 (S.getD i z65).f1 (S.getD i z65).f2)) else (spec_GoodStore.j1 k (es S i) (LS S i) S (S.length : Int) (i : Int) true S N (S.getD i z65).f0 (S.getD i z65).f1 (S.getD i z65).f2)) else (spec_GoodStore.j1 k (es S i) (LS S i) S (S.length : Int) (i : Int) true S N (S.getD i z65).f0 (S.getD i z65).f1 (S.getD i z65).f2)) (TT S i ∧ R) := by
   intro t1 t2 t3
   refine EvB.bd hix ?_
   obtain ⟨u, hu, hq⟩ := hsm
   refine EvB.bd hu ?_
   cases u with
   | false => exact EvB.ifn (by decide) (sJ1_t _ _ _ _ _ _ _ _ _ (fun h => absurd (hq.2 h.1.2.2.2.1) (by decide)))
   | true =>
    refine EvB.ifp rfl ?_
    rw [sin]
    refine EvB.bd (Ev.now _) ?_
    by_cases c4 : 0 ≤ (S.getD i z65).f0 ∧ (S.getD i z65).f0 ≤ 100000
    ·rw [decide_eq_true c4]
     refine EvB.ifp rfl ?_
     by_cases c5 : (i : Int) > 0
     ·refine EvB.ifp c5 ?_
      by_cases c6 : (S.getD i z65).f0 = ns S i
      ·rw [bne_eq_false_iff_eq.mpr c6]
       exact (sJ1_f (es S i) (LS S i) hL S i N _ _ _ R nxt).iff ⟨fun h => ⟨⟨t1, t2, t3, hq.1 rfl, c4, fun _ => c6, h.1⟩, h.2⟩, fun h => ⟨h.1.2.2.2.2.2.2, h.2⟩⟩
      ·rw [bne_iff_ne.mpr c6]
       exact sJ1_t _ _ _ _ _ _ _ _ _ (fun h => c6 (h.1.2.2.2.2.2.1 (by omega)))
     ·refine EvB.ifn c5 ?_
      exact (sJ1_f (es S i) (LS S i) hL S i N _ _ _ R nxt).iff ⟨fun h => ⟨⟨t1, t2, t3, hq.1 rfl, c4, fun h0 => absurd h0 (by omega), h.1⟩, h.2⟩, fun h => ⟨h.1.2.2.2.2.2.2, h.2⟩⟩
    ·rw [decide_eq_false c4]
     exact EvB.ifn (by decide) (sJ1_t _ _ _ _ _ _ _ _ _ (fun h => c4 h.1.2.2.2.2.1))
  by_cases c1 : (RS S i : Int) = ((S.getD i z65).f1.size : Int)
  ·have t1 : RS S i = (S.getD i z65).f1.size := by omega
   refine EvB.ifp c1 ?_
   have mid : ¬ (120 < (S.getD i z65).f1.size ∧ 1 < (LS S i).length) → EvB (fun k => if ((LS S i).length : Int) = 0 then (if (i : Int) < (S.length : Int) - 1 then (spec_GoodStore.j1 k (es S i) (LS S i) S (S.length : Int) (i : Int) true S N (S.getD i z65).f0 (S.getD i z65).f1 (S.getD i z65).f2) else (spec_l2Index.f k (LS S i)).bind fun t => (spec_l2SameMarks.f k (S.getD i z65).f2 t).bind fun u => if u = true then ((spec_l1In.f (S.getD i z65).f0 0 100000).bind fun v => if v = true then (if (i : Int) > 0 then (spec_GoodStore.j1 k (es S i) (LS S i) S (S.length : Int) (i : Int) ((S.getD i z65).f0 != ns S i) S N (S.getD i z65).f0 (S.getD i z65).f1 (S.getD i z65).f2) else (spec_GoodStore.j1 k (es S i) (LS S i) S (S.length : Int) (i : Int) false S N (S.getD i z65).f0 (S.getD i z65).f1 (S.getD i z65).f2)) else (spec_GoodStore.j1 k (es S i) (LS S i) S (S.length : Int) (i : Int) true S N (S.getD i z65).f0 (S.getD i z65).f1 (S.getD i z65).f2)) else (spec_GoodStore.j1 k (es S i) (LS S i) S (S.length : Int) (i : Int) true S N (S.getD i z65).f0 (S.getD i z65).f1 (S.getD i z65).f2)) else (spec_l2Index.f k (LS S i)).bind fun t => (spec_l2SameMarks.f k (S.getD i z65).f2 t).bind fun u => if u = true then ((spec_l1In.f (S.getD i z65).f0 0 100000).bind fun v => if v = true then (if (i : Int) > 0 then (spec_GoodStore.j1 k (es S i) (LS S i) S (S.length : Int) (i : Int) ((S.getD i z65).f0 != ns S i) S N (S.getD i z65).f0 (S.getD i z65).f1 (S.getD i z65).f2) else (spec_GoodStore.j1 k (es S i) (LS S i) S (S.length : Int) (i : Int) false S N (S.getD i z65).f0 (S.getD i z65).f1 (S.getD i z65).f2)) else (spec_GoodStore.j1 k (es S i) (LS S i) S (S.length : Int) (i : Int) true S N (S.getD i z65).f0 (S.getD i z65).f1 (S.getD i z65).f2)) else (spec_GoodStore.j1 k (es S i) (LS S i) S (S.length : Int) (i : Int) true S N (S.getD i z65).f0 (S.getD i z65).f1 (S.getD i z65).f2)) (TT S i ∧ R) := by
    intro t2
    by_cases c3 : ((LS S i).length : Int) = 0
    ·refine EvB.ifp c3 ?_
     by_cases c3' : (i : Int) < (S.length : Int) - 1
     ·exact EvB.ifp c3' (sJ1_t _ _ _ _ _ _ _ _ _ (fun h => h.1.2.2.1 ⟨by omega, by omega⟩))
     ·exact EvB.ifn c3' (tail t1 t2 (fun h => c3' (by omega)))
    ·exact EvB.ifn c3 (tail t1 t2 (fun h => c3 (by omega)))
   by_cases c2 : ((S.getD i z65).f1.size : Int) > 120
   ·refine EvB.ifp c2 ?_
    by_cases c2' : ((LS S i).length : Int) > 1
    ·exact EvB.ifp c2' (sJ1_t _ _ _ _ _ _ _ _ _ (fun h => h.1.2.1 ⟨by omega, by omega⟩))
    ·exact EvB.ifn c2' (mid (fun h => c2' (by omega)))
   ·exact EvB.ifn c2 (mid (fun h => c2 (by omega)))
  ·exact EvB.ifn c1 (sJ1_t _ _ _ _ _ _ _ _ _ (fun h => c1 (by rw [h.1.1])))

noncomputable def LL (S : List S65) : List (List S43) := S.map fun g => (RDx g.f1).1
theorem LL_len (S : List S65) : (LL S).length = S.length := List.length_map _
theorem LL_get (S : List S65) (i : Nat) (h : i < S.length) : (LL S).getD i [] = LS S i := by
 unfold LL LS
 rw [List.getD_eq_getElem?_getD, List.getD_eq_getElem?_getD, List.getElem?_map, List.getElem?_eq_getElem h]
 rfl
theorem iLG_l (S : List S65) (N : Int) (hS : S.length ≤ 1000000) (hz : ∀ i, i < S.length → (S.getD i z65).f1.size ≤ 2000000) : ∀ d i (o : List (List S43)), i + d = S.length → o.length ≤ i →
  Ev (fun k => impl_Store_logs.l0 k o S (S.length : Int) (i : Int)) (o ++ (LL S).drop i)
 | 0, i, o, hd, _ => by
  rw [List.drop_of_length_le (by rw [LL_len]; omega), List.append_nil]
  exact Ev.step (f := fun _ => some o) (fun k => by rw [impl_Store_logs.l0, if_neg (by omega)]) (Ev.now _)
 | d + 1, i, o, hd, ho => by
  have hi : i < S.length := by omega
  have e : (LL S).drop i = LS S i :: (LL S).drop (i + 1) := by
   rw [List.drop_eq_getElem_cons (by rw [LL_len]; exact hi)]
   congr 1
   have := LL_get S i hi
   rw [List.getD_eq_getElem?_getD, List.getElem?_eq_getElem (by rw [LL_len]; exact hi)] at this
   exact this
  have hr : Ev (fun k => impl_readLog.f k (S.getD i z65).f1) (LS S i, (RS S i : Int)) := iRead_ev _ (hz i hi)
  have ih := iLG_l S N hS hz d (i + 1) (o ++ [LS S i]) (by omega) (by rw [List.length_append, List.length_singleton]; omega)
  rw [List.append_assoc, List.singleton_append] at ih
  rw [e]
  refine Ev.step (f := fun k => (impl_readLog.f k (S.getD i z65).f1).bind fun t => if o.length < 5864062014805 then impl_Store_logs.l0 k (o ++ [t.1]) S (S.length : Int) ((i + 1 : Nat) : Int) else none) (fun k => ?_) (Ev.bind hr (Ev.ifp (by omega) ih))
  rw [impl_Store_logs.l0, if_pos (by omega), if_pos (by omega), if_pos (by omega), sg_z, succ_wrap (by omega)]
theorem iLG_ev (S : List S65) (N : Int) (hS : S.length ≤ 1000000) (hz : ∀ i, i < S.length → (S.getD i z65).f1.size ≤ 2000000) : Ev (fun k => impl_Store_logs.f k S N) (LL S) := by
 have := iLG_l S N hS hz S.length 0 [] (by omega) (Nat.zero_le _)
 rw [List.drop_zero, List.nil_append] at this
 exact this
noncomputable def ms (L : List (List S43)) (b : Int) : Nat → Int
 | 0 => b
 | i + 1 => nxO (L.getD i []) (ms L b i)
theorem SO_eq (L : List (List S43)) (b : Int) : ∀ d i (g : List S65), SO L d i g (ms L b i) = (g ++ (List.range' i d).map (fun j => sgO (L.getD j []) (ms L b j)), ms L b (i + d))
 | 0, i, g => by
  rw [SO]
  simp
 | d + 1, i, g => by
  have := SO_eq L b d (i + 1) (g ++ [sgO (L.getD i []) (ms L b i)])
  rw [SO]
  rw [show nxO (L.getD i []) (ms L b i) = ms L b (i + 1) from rfl, this, List.range'_succ, List.map_cons, List.append_assoc, List.singleton_append, show i + 1 + d = i + (d + 1) by omega]
theorem SO_all (L : List (List S43)) (b : Int) : SO L L.length 0 [] b = ((List.range L.length).map (fun j => sgO (L.getD j []) (ms L b j)), ms L b L.length) := by
 have := SO_eq L b L.length 0 []
 rw [List.nil_append, Nat.zero_add, ← List.range_eq_range'] at this
 exact this
theorem SO_at (L : List (List S43)) (b : Int) (i : Nat) (h : i < L.length) : ((List.range L.length).map (fun j => sgO (L.getD j []) (ms L b j))).getD i z65 = sgO (L.getD i []) (ms L b i) := by
 rw [List.getD_eq_getElem?_getD, List.getElem?_map, List.getElem?_range h]
 rfl
def IC (S : List S65) (i : Nat) : Prop := ¬ ((LS S i).length = 0 ∧ i + 1 < S.length) ∧ ¬ (1 < (LS S i).length ∧ 120 < (S.getD i z65).f1.size)
def FIN (S : List S65) (N : Int) : Prop := GLi (LL S).flatten 0 ∧ ms (LL S) (S.getD 0 z65).f0 S.length = N ∧ ∀ i, i < S.length → sgO (LS S i) (ms (LL S) (S.getD 0 z65).f0 i) = S.getD i z65
theorem LS_len (S : List S65) (i : Nat) (h : (S.getD i z65).f1.size ≤ 1048576) : (LS S i).length ≤ 74898 := by
 have := RDx_at (S.getD i z65).f1
 unfold LS
 omega
theorem flat_len (S : List S65) (hz : ∀ i, i < S.length → (S.getD i z65).f1.size ≤ 1048576) : ∀ i, i ≤ S.length → ((LL S).take i).flatten.length ≤ 74898 * i
 | 0, _ => by simp
 | i + 1, h => by
  have ih := flat_len S hz i (by omega)
  have e : (LL S).take (i + 1) = (LL S).take i ++ [LS S i] := by
   rw [List.take_add_one, ← LL_get S i (by omega), List.getD_eq_getElem?_getD, List.getElem?_eq_getElem (by rw [LL_len]; omega)]
   rfl
  have := LS_len S i (hz i (by omega))
  rw [e, List.flatten_append, List.length_append, List.flatten_cons, List.flatten_nil, List.append_nil]
  omega
theorem flat_take (S : List S65) (i : Nat) (h : i < S.length) : ((LL S).take i).flatten ++ LS S i = ((LL S).take (i + 1)).flatten := by
 have e : (LL S).take (i + 1) = (LL S).take i ++ [LS S i] := by
  rw [List.take_add_one, ← LL_get S i h, List.getD_eq_getElem?_getD, List.getElem?_eq_getElem (by rw [LL_len]; exact h)]
  rfl
 rw [e, List.flatten_append, List.flatten_cons, List.flatten_nil, List.append_nil]
theorem iL1_ev (S : List S65) (N : Int) (h0 : 0 < S.length) (hS : S.length ≤ 8) (hz : ∀ i, i < S.length → (S.getD i z65).f1.size ≤ 1048576) :
  EvB (fun k => impl_isStore.l1 k (LL S) [] (LL S) ((LL S).length : Int) 0 S N) ((∀ i, i < S.length → IC S i) ∧ FIN S N) := by
 have hLL := LL_len S
 have hgb : ∀ i, i < (LL S).length → ((LL S).getD i []).length ≤ 1000000 ∧ ∀ j, j < ((LL S).getD i []).length → GBx (((LL S).getD i []).getD j z43) := fun i hi => by
  rw [LL_get S i (by omega)]
  exact ⟨by have := LS_len S i (hz i (by omega)); omega, RDx_gb _⟩
 have pw : wrap64 (((LL S).length : Int) - 1) = ((LL S).length : Int) - 1 := wrap_id (by omega) (by omega)
 refine all_evB S.length (fun i k => impl_isStore.l1 k (LL S) ((LL S).take i).flatten (LL S) ((LL S).length : Int) (i : Int) S N) (IC S) (FIN S N) ?_ (fun i hi R hR => ?_)
 ·show EvB (fun k => impl_isStore.l1 k (LL S) ((LL S).take S.length).flatten (LL S) ((LL S).length : Int) ((S.length : Nat) : Int) S N) _
  have hfl := flat_len S hz S.length (Nat.le_refl _)
  refine EvB.succ ?_
  simp only [impl_isStore.l1]
  refine EvB.ifn (by omega) ?_
  have e : (LL S).take S.length = LL S := by rw [← hLL, List.take_length]
  rw [e] at hfl ⊢
  refine EvB.andThen (iGL_ev (LL S).flatten (by omega)) (fun _ => ?_)
  refine EvB.ifp (by omega) ?_
  have hso := iSO_ev (LL S) (S.getD 0 z65).f0 (by omega) hgb
  rw [SO_all] at hso
  refine EvB.bd hso ?_
  dsimp only
  rw [hLL]
  by_cases c : ms (LL S) (S.getD 0 z65).f0 S.length = N
  ·refine EvB.ifp c (EvB.same (EvB.iff (iEF_ev _ S (fun i hi => ?_)) ⟨fun h => ⟨c, fun i hi => ?_⟩, fun h => ?_⟩))
   ·rw [List.length_map, List.length_range] at hi
    have := SO_at (LL S) (S.getD 0 z65).f0 i (by omega)
    rw [hLL] at this
    rw [this]
    have h1 := ixs_len ((LL S).getD i [])
    have h2 := (hgb i (by omega)).1
    show (ixs ((LL S).getD i [])).length ≤ 1048576
    omega
   ·have := SO_at (LL S) (S.getD 0 z65).f0 i (by omega)
    rw [hLL, h, LL_get S i hi] at this
    exact this.symm
   ·refine ext_getD z65 (by rw [List.length_map, List.length_range]) (fun i hi => ?_)
    rw [List.length_map, List.length_range] at hi
    have := SO_at (LL S) (S.getD 0 z65).f0 i (by omega)
    rw [hLL, LL_get S i hi] at this
    rw [this, h.2 i hi]
  ·exact EvB.ifn c (EvB.fls fun h => c h.1)
 ·show EvB (fun k => impl_isStore.l1 k (LL S) ((LL S).take i).flatten (LL S) ((LL S).length : Int) (i : Int) S N) _
  have hfl := flat_len S hz i (by omega)
  have hln := LS_len S i (hz i hi)
  have e : ∀ x : Int, rd_L13 (LL S) x = (LL S).getD x.toNat [] := fun _ => rfl
  refine EvB.succ ?_
  simp only [impl_isStore.l1]
  refine EvB.ifp (by omega) (EvB.ifp (by omega) (EvB.ifp (by omega) ?_))
  rw [e, Int.toNat_natCast, LL_get S i hi, pw, sg_z]
  have go : IC S i → EvB (fun n => if ((LL S).take i).flatten.length + (LS S i).length < 2513169434916 then impl_isStore.l1 n (LL S) (((LL S).take i).flatten ++ LS S i) (LL S) ((LL S).length : Int) (wrap64 ((i : Int) + 1)) S N else none) (IC S i ∧ R) := fun hc => by
   refine EvB.ifp (by omega) ?_
   rw [flat_take S i hi, succ_wrap (by omega)]
   exact hR.iff ⟨fun h => ⟨hc, h⟩, fun h => h.2⟩
  by_cases c0 : ((LS S i).length : Int) = 0
  ·refine EvB.ifp c0 ?_
   by_cases c1 : (i : Int) < ((LL S).length : Int) - 1
   ·exact EvB.ifp c1 (EvB.fls fun h => h.1.1 ⟨by omega, by omega⟩)
   ·exact EvB.ifn c1 (EvB.ifn (by omega) (go ⟨fun h => c1 (by omega), fun h => by omega⟩))
  ·refine EvB.ifn c0 ?_
   by_cases c2 : ((LS S i).length : Int) > 1
   ·refine EvB.ifp c2 (EvB.ifp (by omega) ?_)
    by_cases c3 : ((S.getD i z65).f1.size : Int) > 120
    ·exact EvB.ifp c3 (EvB.fls fun h => h.1.2 ⟨by omega, by omega⟩)
    ·exact EvB.ifn c3 (go ⟨fun h => c0 (by omega), fun h => c3 (by omega)⟩)
   ·exact EvB.ifn c2 (go ⟨fun h => c0 (by omega), fun h => c2 (by omega)⟩)
def IP (S : List S65) (N : Int) : Prop := (1 ≤ (S.length : Int) ∧ (S.length : Int) ≤ 8) ∧ (0 ≤ N ∧ N ≤ 100000) ∧ (0 ≤ (S.getD 0 z65).f0 ∧ (S.getD 0 z65).f0 ≤ 100000) ∧ (∀ i, i < S.length → (S.getD i z65).f1.size ≤ 600) ∧ (∀ i, i < S.length → IC S i) ∧ FIN S N
theorem iJ0_t (S : List S65) (N : Int) {Q : Prop} (h : ¬ Q) : EvB (fun k => impl_isStore.j0 k true S N) Q := EvB.no (fun k => by rw [impl_isStore.j0, if_pos rfl]) h
theorem iIS_ev (S : List S65) (N : Int) (hz : ∀ i, i < S.length → (S.getD i z65).f1.size ≤ 1048576) : EvB (fun k => impl_isStore.f k S N) (IP S N) := by
 unfold impl_isStore.f
 rw [iin, iin]
 refine EvB.bd (Ev.now _) ?_
 by_cases c1 : (1 : Int) ≤ (S.length : Int) ∧ (S.length : Int) ≤ 8
 ·rw [decide_eq_true c1]
  refine EvB.ifp rfl (EvB.bd (Ev.now _) ?_)
  by_cases c2 : 0 ≤ N ∧ N ≤ 100000
  ·rw [decide_eq_true c2]
   refine EvB.ifp rfl (EvB.ifp (by omega) ?_)
   rw [iin]
   refine EvB.bd (Ev.now _) ?_
   by_cases c3 : 0 ≤ (S.getD 0 z65).f0 ∧ (S.getD 0 z65).f0 ≤ 100000
   ·rw [show decide (0 ≤ (rd_T65 S 0).f0 ∧ (rd_T65 S 0).f0 ≤ 100000) = true from decide_eq_true c3]
    refine EvB.step (f := fun k => impl_isStore.l0 k S (S.length : Int) 0 S N) (fun k => by rw [impl_isStore.j0, if_neg (by decide)]) ?_
    refine EvB.iff (all_evB S.length (fun i k => impl_isStore.l0 k S (S.length : Int) (i : Int) S N) (fun i => (S.getD i z65).f1.size ≤ 600) ((∀ i, i < S.length → IC S i) ∧ FIN S N) ?_ (fun i hi R hR => ?_)) ⟨fun h => ⟨c1, c2, c3, h.1, h.2.1, h.2.2⟩, fun h => ⟨h.2.2.2.1, h.2.2.2.2.1, h.2.2.2.2.2⟩⟩
    ·show EvB (fun k => impl_isStore.l0 k S (S.length : Int) ((S.length : Nat) : Int) S N) _
     refine EvB.succ ?_
     simp only [impl_isStore.l0]
     refine EvB.ifn (by omega) (EvB.bd (iLG_ev S N (by omega) (fun i hi => by have := hz i hi; omega)) ?_)
     exact iL1_ev S N (by omega) (by omega) hz
    ·show EvB (fun k => impl_isStore.l0 k S (S.length : Int) (i : Int) S N) _
     refine EvB.succ ?_
     simp only [impl_isStore.l0]
     refine EvB.ifp (by omega) (EvB.ifp (by omega) (EvB.ifp (by omega) ?_))
     rw [sg_z, succ_wrap (by omega)]
     by_cases c4 : ((S.getD i z65).f1.size : Int) > 600
     ·exact EvB.ifp c4 (EvB.fls fun h => by have := h.1; omega)
     ·exact EvB.ifn c4 (hR.iff ⟨fun h => ⟨by omega, h⟩, fun h => h.2⟩)
   ·rw [show decide (0 ≤ (rd_T65 S 0).f0 ∧ (rd_T65 S 0).f0 ≤ 100000) = false from decide_eq_false c3]
    exact iJ0_t S N (fun h => c3 h.2.2.1)
  ·rw [decide_eq_false c2]
   exact EvB.ifn (by decide) (iJ0_t S N (fun h => c2 h.2.1))
 ·rw [decide_eq_false c1]
  exact EvB.ifn (by decide) (iJ0_t S N (fun h => c1 h.1))

theorem GLi_app (a b : List S43) : GLi (a ++ b) 0 ↔ GLi a 0 ∧ GLi b 0 ∧ (0 < a.length → 0 < b.length → NX (a.getD (a.length - 1) z43) (b.getD 0 z43)) := by
 have l1 : ∀ j, j < a.length → (a ++ b).getD j z43 = a.getD j z43 := fun j hj => by
  rw [List.getD_eq_getElem?_getD, List.getD_eq_getElem?_getD, List.getElem?_append_left hj]
 have l2 : ∀ j, (a ++ b).getD (a.length + j) z43 = b.getD j z43 := fun j => by
  rw [List.getD_eq_getElem?_getD, List.getD_eq_getElem?_getD, List.getElem?_append_right (by omega), Nat.add_sub_cancel_left]
 constructor
 ·intro h
  refine ⟨fun j _ hj => ?_, fun j _ hj => ?_, fun ha hb => ?_⟩
  ·obtain ⟨h1, h2⟩ := h j (Nat.zero_le _) (by rw [List.length_append]; omega)
   rw [l1 j hj] at h1 h2
   refine ⟨h1, fun h0 => ?_⟩
   have := h2 h0
   rwa [l1 (j - 1) (by omega)] at this
  ·obtain ⟨h1, h2⟩ := h (a.length + j) (Nat.zero_le _) (by rw [List.length_append]; omega)
   rw [l2 j] at h1 h2
   refine ⟨h1, fun h0 => ?_⟩
   have := h2 (by omega)
   rwa [show a.length + j - 1 = a.length + (j - 1) by omega, l2 (j - 1)] at this
  ·obtain ⟨h1, h2⟩ := h (a.length + 0) (Nat.zero_le _) (by rw [List.length_append]; omega)
   have := h2 (by omega)
   rwa [l2 0, Nat.add_zero, l1 (a.length - 1) (by omega)] at this
 ·rintro ⟨h1, h2, h3⟩ j _ hj
  rw [List.length_append] at hj
  by_cases c : j < a.length
  ·rw [l1 j c]
   refine ⟨(h1 j (Nat.zero_le _) c).1, fun h0 => ?_⟩
   rw [l1 (j - 1) (by omega)]
   exact (h1 j (Nat.zero_le _) c).2 h0
  ·obtain ⟨q, rfl⟩ : ∃ q, j = a.length + q := ⟨j - a.length, by omega⟩
   rw [l2 q]
   refine ⟨(h2 q (Nat.zero_le _) (by omega)).1, fun h0 => ?_⟩
   by_cases cq : q = 0
   ·subst cq
    rw [Nat.add_zero, l1 (a.length - 1) (by omega)]
    exact h3 (by omega) (by omega)
   ·rw [show a.length + q - 1 = a.length + (q - 1) by omega, l2 (q - 1)]
    exact (h2 q (Nat.zero_le _) (by omega)).2 (by omega)
theorem INQ_iff (l : List S43) (hg : GLi l 0) (n e : Int) : (∀ q, q < l.length → INQ l n e q) ↔ (0 < l.length → (l.getD 0 z43).f0 = n ∧ ¬ (l.getD 0 z43).f1 < e) := by
 constructor
 ·intro h h0
  have := h 0 h0
  unfold INQ at this
  rw [if_pos rfl, if_pos rfl] at this
  exact this
 ·intro h q hq
  unfold INQ
  by_cases c : q = 0
  ·subst c
   rw [if_pos rfl, if_pos rfl]
   exact h hq
  ·rw [if_neg c, if_neg c]
   have := (hg q (Nat.zero_le _) hq).2 (by omega)
   exact ⟨this.1, by have := this.2; omega⟩
theorem lgb_one (l : List S43) (hg : ∀ j, j < l.length → GBx (l.getD j z43)) (h : l.length ≤ 1) : (lgb l ⟨#[]⟩).size ≤ 182 := by
 match l, h with
 | [], _ => exact Nat.zero_le _
 | [b], _ =>
  have := (bbx_size b (hg 0 (by simp))).2
  have e : lgb [b] ⟨#[]⟩ = bbx b := ByteArray.empty_append
  rw [e]
  exact this
theorem last_pre (S : List S65) (i : Nat) (h : i < S.length) (hn : 0 < (LS S i).length) : 0 < ((LL S).take (i + 1)).flatten.length ∧ ((LL S).take (i + 1)).flatten.getD (((LL S).take (i + 1)).flatten.length - 1) z43 = (LS S i).getD ((LS S i).length - 1) z43 := by
 rw [← flat_take S i h]
 refine ⟨by rw [List.length_append]; omega, ?_⟩
 rw [List.length_append, List.getD_eq_getElem?_getD, List.getElem?_append_right (by omega), ← List.getD_eq_getElem?_getD]
 congr 1
 omega
def JQ (S : List S65) (i : Nat) : Prop := 0 < i → 0 < (LS S i).length → NX ((LS S (i - 1)).getD ((LS S (i - 1)).length - 1) z43) ((LS S i).getD 0 z43)
theorem flat_log (S : List S65) (hc : ∀ i, i < S.length → IC S i) : ∀ i, i ≤ S.length → (GLi ((LL S).take i).flatten 0 ↔ ∀ j, j < i → JQ S j)
 | 0, _ => by
  simp only [List.take_zero, List.flatten_nil]
  exact ⟨fun _ j hj => absurd hj (Nat.not_lt_zero _), fun _ j _ hj => absurd hj (Nat.not_lt_zero _)⟩
 | i + 1, h => by
  have ih := flat_log S hc i (by omega)
  rw [← flat_take S i (by omega), GLi_app, ih]
  have key : (0 < ((LL S).take i).flatten.length → 0 < (LS S i).length → NX (((LL S).take i).flatten.getD (((LL S).take i).flatten.length - 1) z43) ((LS S i).getD 0 z43)) ↔ JQ S i := by
   unfold JQ
   cases i with
   | zero => exact ⟨fun _ h0 => absurd h0 (Nat.lt_irrefl _), fun _ h0 => absurd h0 (by simp)⟩
   | succ j =>
    have hn : 0 < (LS S j).length := by
     have := (hc j (by omega)).1
     omega
    obtain ⟨p1, p2⟩ := last_pre S j (by omega) hn
    rw [p2, Nat.add_sub_cancel]
    exact ⟨fun h' _ => h' p1, fun h' _ => h' (Nat.succ_pos _)⟩
  rw [key]
  constructor
  ·rintro ⟨h1, _, h3⟩ j hj
   by_cases c : j = i
   ·rw [c]
    exact h3
   ·exact h1 j (by omega)
  ·intro h'
   exact ⟨fun j hj => h' j (by omega), RDx_log _, h' i (by omega)⟩
theorem ms_ns (S : List S65) (hc : ∀ i, i < S.length → IC S i) (i : Nat) (h : i + 1 < S.length) : ms (LL S) (S.getD 0 z65).f0 (i + 1) = ns S (i + 1) ∧ es S (i + 1) = ((LS S i).getD ((LS S i).length - 1) z43).f1 ∧ ns S (i + 1) = endB ((LS S i).getD ((LS S i).length - 1) z43) := by
 have hn : ¬ (LS S i).length = 0 := by
  have := (hc i (by omega)).1
  omega
 rw [ms, ns, es, LL_get S i (by omega)]
 unfold nxO epO
 rw [if_neg hn, if_neg hn, if_neg hn]
 exact ⟨rfl, rfl, rfl⟩
theorem seg_same (S : List S65) (N : Int) (h8 : S.length ≤ 8) (hN : 0 ≤ N ∧ N ≤ 100000) (hc : ∀ i, i < S.length → IC S i) (i : Nat) (h : i < S.length) (hb0 : 0 ≤ (S.getD 0 z65).f0 ∧ (S.getD 0 z65).f0 ≤ 100000) (hend : ms (LL S) (S.getD 0 z65).f0 S.length = N) :
  TT S i ↔ JQ S i ∧ sgO (LS S i) (ms (LL S) (S.getD 0 z65).f0 i) = S.getD i z65 := by
 have hic := hc i h
 have hg : GLi (LS S i) 0 := RDx_log _
 have hfull : RS S i = (S.getD i z65).f1.size ↔ lgb (LS S i) ⟨#[]⟩ = (S.getD i z65).f1 := RDx_full _
 have hsg : sgO (LS S i) (ms (LL S) (S.getD 0 z65).f0 i) = S.getD i z65 ↔ (if (LS S i).length = 0 then ms (LL S) (S.getD 0 z65).f0 i else ((LS S i).getD 0 z43).f0) = (S.getD i z65).f0 ∧ lgb (LS S i) ⟨#[]⟩ = (S.getD i z65).f1 ∧ ixs (LS S i) = (S.getD i z65).f2 := by
  constructor
  ·intro e
   have e0 := congrArg (fun g : S65 => g.f0) e
   have e1 := congrArg (fun g : S65 => g.f1) e
   have e2 := congrArg (fun g : S65 => g.f2) e
   exact ⟨e0, e1, e2⟩
  ·rintro ⟨e0, e1, e2⟩
   exact sg_ext e0 e1 e2
 unfold TT
 rw [hsg, INQ_iff _ hg, hfull]
 have hgb : ∀ j, j < (LS S i).length → GBx ((LS S i).getD j z43) := RDx_gb _
 cases i with
 | zero =>
  have e0 : es S 0 = 0 := rfl
  have m0 : ms (LL S) (S.getD 0 z65).f0 0 = (S.getD 0 z65).f0 := rfl
  rw [e0, m0]
  constructor
  ·rintro ⟨t1, t2, t3, t4, t5, t6, t7⟩
   refine ⟨fun h0 => absurd h0 (Nat.lt_irrefl _), ?_, t1, t4.symm⟩
   by_cases c : (LS S 0).length = 0
   ·rw [if_pos c]
   ·rw [if_neg c]
    exact (t7 (by omega)).1
  ·rintro ⟨_, s1, s2, s3⟩
   refine ⟨s2, fun h' => hic.2 ⟨h'.2, h'.1⟩, hic.1, s3.symm, hb0, fun h0 => absurd h0 (Nat.lt_irrefl _), fun h0 => ?_⟩
   rw [if_neg (by omega)] at s1
   have := (hgb 0 h0).2.2.1
   exact ⟨s1, by omega⟩
 | succ j =>
  obtain ⟨m1, m2, m3⟩ := ms_ns S hc j h
  rw [m1, m2]
  unfold JQ NX
  rw [Nat.add_sub_cancel, m3]
  constructor
  ·rintro ⟨t1, t2, t3, t4, t5, t6, t7⟩
   have b := t6 (Nat.succ_pos _)
   refine ⟨fun _ h0 => ?_, ?_, t1, t4.symm⟩
   ·obtain ⟨a1, a2⟩ := t7 h0
    exact ⟨by rw [a1, b]; rfl, by omega⟩
   ·by_cases c : (LS S (j + 1)).length = 0
    ·rw [if_pos c]
     exact b.symm
    ·rw [if_neg c]
     exact (t7 (by omega)).1
  ·rintro ⟨j1, s1, s2, s3⟩
   have b : (S.getD (j + 1) z65).f0 = endB ((LS S j).getD ((LS S j).length - 1) z43) ∧ (0 ≤ (S.getD (j + 1) z65).f0 ∧ (S.getD (j + 1) z65).f0 ≤ 100000) := by
    by_cases c : (LS S (j + 1)).length = 0
    ·rw [if_pos c] at s1
     refine ⟨s1.symm, ?_⟩
     have hl : j + 1 + 1 = S.length := by
      have := hic.1
      omega
     have e : ms (LL S) (S.getD 0 z65).f0 (j + 1 + 1) = ms (LL S) (S.getD 0 z65).f0 (j + 1) := by
      rw [ms, LL_get S (j + 1) h]
      unfold nxO
      rw [if_pos c]
     rw [hl, hend, m1, m3, s1] at e
     rw [← e]
     exact hN
    ·rw [if_neg c] at s1
     obtain ⟨j2, _⟩ := j1 (Nat.succ_pos _) (by omega)
     rw [← s1]
     exact ⟨j2, (hgb 0 (by omega)).2.1⟩
   refine ⟨s2, fun h' => hic.2 ⟨h'.2, h'.1⟩, hic.1, s3.symm, b.2, fun _ => b.1, fun h0 => ?_⟩
   rw [if_neg (by omega)] at s1
   exact ⟨s1, by have := (j1 (Nat.succ_pos _) h0).2; omega⟩
theorem end_same (S : List S65) (h1 : 1 ≤ S.length) (hc : ∀ i, i < S.length → IC S i) (hb : ∀ i, 0 < i → i < S.length → (S.getD i z65).f0 = ns S i) : ms (LL S) (S.getD 0 z65).f0 S.length = ns S S.length := by
 obtain ⟨m, hm⟩ : ∃ m, S.length = m + 1 := ⟨S.length - 1, by omega⟩
 rw [hm, ms, ns, LL_get S m (by omega)]
 unfold nxO
 by_cases c : (LS S m).length = 0
 ·rw [if_pos c, if_pos c]
  cases m with
  | zero => rfl
  | succ j => rw [(ms_ns S hc j (by omega)).1, hb (j + 1) (Nat.succ_pos _) (by omega)]
 ·rw [if_neg c, if_neg c]
theorem store_same (S : List S65) (N : Int) : IP S N ↔ (∀ i, i < S.length → TT S i) ∧ TE S N := by
 constructor
 ·rintro ⟨h1, h2, h3, h4, h5, h6, h7, h8⟩
  have hlog : ∀ j, j < S.length → JQ S j := by
   have := flat_log S h5 S.length (Nat.le_refl _)
   rw [show (LL S).take S.length = LL S by rw [← LL_len S, List.take_length]] at this
   exact this.1 h6
  have ht : ∀ i, i < S.length → TT S i := fun i hi => (seg_same S N (by omega) h2 h5 i hi h3 h7).2 ⟨hlog i hi, h8 i hi⟩
  refine ⟨ht, h1, ?_, h2⟩
  rw [← end_same S (by omega) h5 (fun i h0 hi => (ht i hi).2.2.2.2.2.1 h0)]
  exact h7.symm
 ·rintro ⟨ht, h1, h2, h3⟩
  have h5 : ∀ i, i < S.length → IC S i := fun i hi => ⟨(ht i hi).2.2.1, fun h' => (ht i hi).2.1 ⟨h'.2, h'.1⟩⟩
  have h7 : ms (LL S) (S.getD 0 z65).f0 S.length = N := by
   rw [end_same S (by omega) h5 (fun i h0 hi => (ht i hi).2.2.2.2.2.1 h0)]
   exact h2.symm
  have hb0 := (ht 0 (by omega)).2.2.2.2.1
  have hs := fun i hi => (seg_same S N (by omega) h3 h5 i hi hb0 h7).1 (ht i hi)
  refine ⟨h1, h3, hb0, fun i hi => ?_, h5, ?_, h7, fun i hi => (hs i hi).2⟩
  ·obtain ⟨t1, t2, _⟩ := ht i hi
   by_cases c : 120 < (S.getD i z65).f1.size
   ·have e : lgb (LS S i) ⟨#[]⟩ = (S.getD i z65).f1 := (RDx_full _).1 t1
    have := lgb_one (LS S i) (RDx_gb _) (by omega)
    rw [e] at this
    omega
   ·omega
  ·have := flat_log S h5 S.length (Nat.le_refl _)
   rw [show (LL S).take S.length = LL S by rw [← LL_len S, List.take_length]] at this
   exact this.2 (fun j hj => (hs j hj).1)

theorem endB_eq (b : S43) (h : GBx b) : endB b = b.f0 + (b.f4.length : Int) ∧ 1 ≤ (b.f4.length : Int) ∧ (b.f4.length : Int) ≤ 8 ∧ 0 ≤ b.f0 ∧ b.f0 ≤ 100000 := by
 obtain ⟨_, h1, _, _, _, h2⟩ := h
 exact ⟨wrap_id (by omega) (by omega), by omega, by omega, by omega, by omega⟩
theorem sLogS_l (l : List S43) (hl : l.length ≤ 1048576) (hg : ∀ j, j < l.length → GBx (l.getD j z43)) : ∀ d i : Nat, i + d = l.length → ∀ b : ByteArray, b.size ≤ 182 * i →
  Ev (fun k => spec_l1Log.l0 k b l (l.length : Int) (i : Int)) (lgb (l.drop i) b)
 | 0, i, hd => fun b hb => by
  have e : i = l.length := by omega
  subst e
  rw [List.drop_length, lgb]
  exact Ev.step (f := fun _ => some b) (fun k => by rw [spec_l1Log.l0, if_neg (by omega)]) (Ev.now _)
 | d + 1, i, hd => fun b hb => by
  have hx := hg i (by omega)
  have hz := bbx_size _ hx
  obtain ⟨h1, h2⟩ := batch_ev _ _ _ _ _ hx
  have h3 := sLogS_l l hl hg d (i + 1) (by omega) (b ++ bbx (l.getD i z43)) (by rw [ByteArray.size_append]; omega)
  rw [drop_getB (show i < l.length by omega), lgb]
  refine Ev.step (f := fun k => (spec_l1Batch.f k (l.getD i z43).f0 (l.getD i z43).f1 (l.getD i z43).f2 (l.getD i z43).f3 (l.getD i z43).f4).bind fun t => (if b.size + t.size ≤ 9223372036854775807 then (spec_l1Log.l0 k (b ++ t) l (l.length : Int) ((i + 1 : Nat) : Int)) else (none))) (fun k => ?_) (Ev.bind h1 (Ev.ifp (by show b.size + (bbx (l.getD i z43)).size ≤ _; omega) h3))
  rw [spec_l1Log.l0, if_pos (by omega), if_pos (by omega), if_pos (by omega), succ_wrap (by omega)]
  rfl
theorem markText_l : ∀ n : Nat, ∀ x : ByteArray, x.size + n ≤ 1000000000000000 → ∃ t, Ev (fun k => laws_markText.l0 k (n : Int) x) t := by
 intro n
 induction n using Nat.strongRecOn with
 | ind n ih =>
  intro x hx
  by_cases h0 : n = 0
  ·subst h0
   refine ⟨_, Ev.step (f := fun _ => some ((⟨#[109]⟩ : ByteArray) ++ x)) (fun k => ?_) (Ev.now _)⟩
   rw [laws_markText.l0, if_neg (by omega), if_pos (by omega)]
  ·have hs : (strOfNums [(wrap64 (48 + (Int.tmod (n : Int) 10))) % 256] ++ x).size + n / 10 ≤ 1000000000000000 := by
    rw [ByteArray.size_append, strOfNums_size]
    simp only [List.length_cons, List.length_nil]
    omega
   obtain ⟨t, ht⟩ := ih (n / 10) (by omega) _ hs
   refine ⟨t, Ev.step (fun k => ?_) ht⟩
   show laws_markText.l0 (k + 1) (n : Int) x = _
   have e : wrap64 (Int.tdiv (n : Int) 10) = ((n / 10 : Nat) : Int) := by
    have e1 : Int.tdiv (n : Int) 10 = ((n / 10 : Nat) : Int) := rfl
    rw [e1]
    exact wrap_id (by omega) (by omega)
   rw [laws_markText.l0, if_pos (by omega), Option.bind_some, if_pos (by rw [strOfNums_size]; simp only [List.length_cons, List.length_nil]; omega), e]
theorem markText_ex (n : Nat) (h : n ≤ 100000000000000) : ∃ t, Ev (fun k => laws_markText.f k (n : Int)) t := by
 unfold laws_markText.f
 by_cases h0 : (n : Int) ≤ 0
 ·exact ⟨_, Ev.ifp h0 (Ev.now _)⟩
 ·obtain ⟨t, ht⟩ := markText_l n (⟨#[]⟩ : ByteArray) (by show 0 + n ≤ _; omega)
  exact ⟨t, Ev.ifn h0 ht⟩
open Classical in
noncomputable def mtx (n : Nat) : ByteArray := if h : ∃ t, Ev (fun k => laws_markText.f k (n : Int)) t then Classical.choose h else ByteArray.empty
theorem mtx_ev (n : Nat) (h : n ≤ 100000000000000) : Ev (fun k => laws_markText.f k (n : Int)) (mtx n) := by
 unfold mtx
 rw [dif_pos (markText_ex n h)]
 exact Classical.choose_spec (markText_ex n h)

noncomputable def SOl : List (List S43) → List S65 → Int → List S65 × Int
 | [], g, n => (g, n)
 | l :: r, g, n => SOl r (g ++ [sgO l n]) (nxO l n)
theorem SO_list (L : List (List S43)) : ∀ d i g n, i + d = L.length → SO L d i g n = SOl (L.drop i) g n
 | 0, i, g, n, h => by
  rw [List.drop_of_length_le (by omega)]
  rfl
 | d + 1, i, g, n, h => by
  have hi : i < L.length := by omega
  rw [List.drop_eq_getElem_cons hi, SO, SO_list L d (i + 1) _ _ (by omega), SOl, List.getD_eq_getElem?_getD, List.getElem?_eq_getElem hi]
  rfl
theorem ends_ge (l : List S43) (hg : ∀ j, j < l.length → GBx (l.getD j z43)) (n e : Int) (hq : ∀ q, q < l.length → INQ l n e q) : ∀ q, q < l.length → endB (l.getD 0 z43) ≤ endB (l.getD q z43)
 | 0, _ => Int.le_refl _
 | q + 1, h => by
  have ih := ends_ge l hg n e hq q (by omega)
  have := (hq (q + 1) h).1
  rw [if_neg (Nat.succ_ne_zero q), Nat.add_sub_cancel] at this
  have h2 := endB_eq _ (hg (q + 1) h)
  omega
theorem keep_head (l : List S43) (off : Int) (hg : ∀ j, j < l.length → GBx (l.getD j z43)) (n e : Int) (hq : ∀ q, q < l.length → INQ l n e q) (h : 0 < (impl_TruncateTo.keep off l).length) : ((impl_TruncateTo.keep off l).getD 0 z43).f0 = n := by
 have hm := getD_mem h z43
 obtain ⟨m1, m2⟩ := List.mem_filter.1 hm
 obtain ⟨q, hql, e1⟩ := List.getElem_of_mem m1
 have h0 : 0 < l.length := by omega
 have e2 : l.getD q z43 = (impl_TruncateTo.keep off l).getD 0 z43 := by
  rw [← e1, List.getD_eq_getElem?_getD, List.getElem?_eq_getElem hql]
  rfl
 have h1 := ends_ge l hg n e hq q hql
 rw [e2] at h1
 have h2 : endB ((impl_TruncateTo.keep off l).getD 0 z43) ≤ off := by
  have m3 : (!(decide (endB ((impl_TruncateTo.keep off l).getD 0 z43) > off))) = true := m2
  generalize endB ((impl_TruncateTo.keep off l).getD 0 z43) = y at m3
  have : ¬ y > off := by simpa using m3
  omega
 have h3 := (hq 0 h0).1
 rw [if_pos rfl] at h3
 have e3 : l = l.getD 0 z43 :: l.drop 1 := by
  have := drop_cons (l := l) (i := 0) h0
  rwa [List.drop_zero] at this
 have e4 : impl_TruncateTo.keep off l = l.getD 0 z43 :: impl_TruncateTo.keep off (l.drop 1) := by
  have key : ∀ (x : S43) (r : List S43), endB x ≤ off → impl_TruncateTo.keep off (x :: r) = x :: impl_TruncateTo.keep off r := fun x r hx => by
   unfold impl_TruncateTo.keep
   rw [List.filter_cons]
   refine if_pos (show (!(decide (endB x > off))) = true from ?_)
   rw [decide_eq_false (show ¬ endB x > off by omega)]
   rfl
  have := key (l.getD 0 z43) (l.drop 1) (by omega)
  rwa [← e3] at this
 rw [e4]
 exact h3
theorem keep_sub (off : Int) (l : List S43) : (impl_TruncateTo.keep off l).length ≤ l.length ∧ ∀ b ∈ impl_TruncateTo.keep off l, b ∈ l := ⟨List.length_filter_le _ _, fun _ h => (List.mem_filter.1 h).1⟩
theorem rows_sub (off : Int) : ∀ (t : List (List S43)) (i : Nat), (impl_TruncateTo.rows off i t).length ≤ t.length ∧ ∀ r ∈ impl_TruncateTo.rows off i t, ∃ l ∈ t, r = impl_TruncateTo.keep off l
 | [], i => ⟨Nat.le_refl _, fun r h => by cases h⟩
 | l :: t, i => by
  obtain ⟨h1, h2⟩ := rows_sub off t (i + 1)
  rw [impl_TruncateTo.rows]
  split
  ·refine ⟨by simpa using h1, fun r hr => ?_⟩
   rcases List.mem_cons.1 hr with h | h
   ·exact ⟨l, List.mem_cons_self, h⟩
   ·obtain ⟨x, hx, e⟩ := h2 r h
    exact ⟨x, List.mem_cons_of_mem _ hx, e⟩
  ·refine ⟨by rw [List.length_cons]; omega, fun r hr => ?_⟩
   obtain ⟨x, hx, e⟩ := h2 r hr
   exact ⟨x, List.mem_cons_of_mem _ hx, e⟩
theorem keep_snoc (off : Int) (l : List S43) (i : Nat) (h : i < l.length) : impl_TruncateTo.keep off (l.take (i + 1)) = if endB (l.getD i z43) ≤ off then impl_TruncateTo.keep off (l.take i) ++ [l.getD i z43] else impl_TruncateTo.keep off (l.take i) := by
 rw [take_snoc h]
 unfold impl_TruncateTo.keep
 rw [List.filter_append, List.filter_cons]
 by_cases c : endB (l.getD i z43) ≤ off
 ·have hk : (!(decide (endB (l.getD i z43) > off))) = true := by
   have : ¬ endB (l.getD i z43) > off := by omega
   simpa using this
  rw [if_pos c]
  congr 1
  exact if_pos hk
 ·have hk : ¬ (!(decide (endB (l.getD i z43) > off))) = true := by
   have : endB (l.getD i z43) > off := by omega
   simpa using this
  rw [if_neg c]
  have e : (if (!(decide (endB (l.getD i z43) > off))) = true then l.getD i z43 :: List.filter (fun x => !(decide (wrap64 (x.f0 + (x.f4.length : Int)) > off))) [] else List.filter (fun x => !(decide (wrap64 (x.f0 + (x.f4.length : Int)) > off))) ([] : List S43)) = [] := if_neg hk
  exact (congrArg _ e).trans (List.append_nil _)
theorem nxO_snoc (o : List S43) (b : S43) (n : Int) : nxO (o ++ [b]) n = endB b := by
 unfold nxO endB
 rw [if_neg (by simp), List.length_append, List.length_singleton, Nat.add_sub_cancel]
 have e : (o ++ [b]).getD o.length z43 = b := by simp [List.getD]
 rw [e]
theorem sMk_ev (b : Int) (l : List S43) (hl : l.length ≤ 1000000) (hg : ∀ j, j < l.length → GBx (l.getD j z43)) : Ev (fun k => spec_l2Make.f k b l) (b, lgb l ⟨#[]⟩, ixs l) := by
 have h3 := sLogS_l l (by omega) hg l.length 0 (by omega) (⟨#[]⟩ : ByteArray) (by show 0 ≤ _; omega)
 rw [List.drop_zero] at h3
 have h3' : Ev (fun k => spec_l1Log.f k l) (lgb l (⟨#[]⟩ : ByteArray)) := h3
 unfold spec_l2Make.f
 exact Ev.bind h3' (Ev.bind (sIX_ev l hl hg) (Ev.now _))
theorem keep_gb (off : Int) (l : List S43) (hg : ∀ j, j < l.length → GBx (l.getD j z43)) : ∀ j, j < (impl_TruncateTo.keep off l).length → GBx ((impl_TruncateTo.keep off l).getD j z43) := fun j hj => by
 have hm := (keep_sub off l).2 _ (getD_mem hj z43)
 obtain ⟨q, hq, e⟩ := List.getElem_of_mem hm
 have := hg q hq
 rw [List.getD_eq_getElem?_getD, List.getElem?_eq_getElem hq] at this
 rw [← e]
 exact this
theorem sTr_l (S : List S65) (off : Int) (hS : S.length ≤ 8) (hz : ∀ i, i < S.length → (S.getD i z65).f1.size ≤ 1048576) (ht : ∀ i, i < S.length → TT S i) : ∀ d i (g : List S65) (n : Int), i + d = S.length → g.length ≤ i → (i = 0 → n = (S.getD 0 z65).f0) →
  Ev (fun k => spec_TruncateTo.l0 k off S (S.length : Int) (i : Int) g n) ((SOl (impl_TruncateTo.rows off i ((LL S).drop i)) g n).1, (SOl (impl_TruncateTo.rows off i ((LL S).drop i)) g n).2, true)
 | 0, i, g, n, h, _, _ => by
  rw [List.drop_of_length_le (by rw [LL_len]; omega)]
  exact Ev.step (f := fun _ => some (g, n, true)) (fun k => by rw [spec_TruncateTo.l0, if_neg (by omega)]) (Ev.now _)
 | d + 1, i, g, n, h, hgl, hn => by
  have hi : i < S.length := by omega
  have hlen := LS_len S i (hz i hi)
  have hgb : ∀ j, j < (LS S i).length → GBx ((LS S i).getD j z43) := RDx_gb _
  have hq := (ht i hi).2.2.2.2.2.2
  have e : (LL S).drop i = LS S i :: (LL S).drop (i + 1) := by
   rw [List.drop_eq_getElem_cons (by rw [LL_len]; exact hi)]
   congr 1
   have := LL_get S i hi
   rw [List.getD_eq_getElem?_getD, List.getElem?_eq_getElem (by rw [LL_len]; exact hi)] at this
   exact this
  rw [e, impl_TruncateTo.rows]
  have hr : Ev (fun k => spec_l1Read.f k (S.getD i z65).f1) (LS S i, (RS S i : Int)) := sRead_ev _ (by have := hz i hi; omega)
  have hkh := keep_head (LS S i) off hgb _ _ hq
  have hkl := (keep_sub off (LS S i)).1
  have hkg := keep_gb off (LS S i) hgb
  have hks := fun q => keep_snoc off (LS S i) q
  generalize LS S i = l at hlen hgb hr hkh hkl hkg hks
  refine Ev.succ ?_
  simp only [spec_TruncateTo.l0]
  refine Ev.ifp (by omega) (Ev.ifp (by omega) (Ev.ifp (by omega) ?_))
  rw [sg_z]
  refine Ev.bind hr ?_
  dsimp only
  have hmk := sMk_ev (S.getD i z65).f0 (impl_TruncateTo.keep off l) (by omega) hkg
  have fin : ∀ {R : List S65 × Int × Bool}, R = ((SOl (if i = 0 ∨ 0 < (impl_TruncateTo.keep off l).length then impl_TruncateTo.keep off l :: impl_TruncateTo.rows off (i + 1) ((LL S).drop (i + 1)) else impl_TruncateTo.rows off (i + 1) ((LL S).drop (i + 1))) g n).1, (SOl (if i = 0 ∨ 0 < (impl_TruncateTo.keep off l).length then impl_TruncateTo.keep off l :: impl_TruncateTo.rows off (i + 1) ((LL S).drop (i + 1)) else impl_TruncateTo.rows off (i + 1) ((LL S).drop (i + 1))) g n).2, true) →
    Ev (fun k => if ((impl_TruncateTo.keep off l).length : Int) > 0 then ((spec_l2Make.f k (S.getD i z65).f0 (impl_TruncateTo.keep off l)).bind fun t => if g.length < 2932031007402 then spec_TruncateTo.l0 k off S (S.length : Int) (wrap64 ((i : Int) + 1)) (g ++ [(⟨t.1, t.2.1, t.2.2⟩ : S65)]) (nxO (impl_TruncateTo.keep off l) n) else none) else if (i : Int) = 0 then ((spec_l2Make.f k (S.getD i z65).f0 (impl_TruncateTo.keep off l)).bind fun t => if g.length < 2932031007402 then spec_TruncateTo.l0 k off S (S.length : Int) (wrap64 ((i : Int) + 1)) (g ++ [(⟨t.1, t.2.1, t.2.2⟩ : S65)]) (nxO (impl_TruncateTo.keep off l) n) else none) else spec_TruncateTo.l0 k off S (S.length : Int) (wrap64 ((i : Int) + 1)) g (nxO (impl_TruncateTo.keep off l) n)) R := by
   intro R hR
   rw [hR, succ_wrap (by omega)]
   have yes : (i = 0 ∨ 0 < (impl_TruncateTo.keep off l).length) → Ev (fun k => (spec_l2Make.f k (S.getD i z65).f0 (impl_TruncateTo.keep off l)).bind fun t => if g.length < 2932031007402 then spec_TruncateTo.l0 k off S (S.length : Int) ((i + 1 : Nat) : Int) (g ++ [(⟨t.1, t.2.1, t.2.2⟩ : S65)]) (nxO (impl_TruncateTo.keep off l) n) else none) ((SOl (impl_TruncateTo.keep off l :: impl_TruncateTo.rows off (i + 1) ((LL S).drop (i + 1))) g n).1, (SOl (impl_TruncateTo.keep off l :: impl_TruncateTo.rows off (i + 1) ((LL S).drop (i + 1))) g n).2, true) := by
    intro hc
    have hsg : (⟨(S.getD i z65).f0, lgb (impl_TruncateTo.keep off l) ⟨#[]⟩, ixs (impl_TruncateTo.keep off l)⟩ : S65) = sgO (impl_TruncateTo.keep off l) n := by
     refine sg_ext ?_ rfl rfl
     show (S.getD i z65).f0 = if (impl_TruncateTo.keep off l).length = 0 then n else ((impl_TruncateTo.keep off l).getD 0 z43).f0
     by_cases c : (impl_TruncateTo.keep off l).length = 0
     ·rw [if_pos c]
      have h0 : i = 0 := hc.resolve_right (by omega)
      rw [hn h0, h0]
     ·rw [if_neg c]
      exact (hkh (by omega)).symm
    refine Ev.bind hmk (Ev.ifp (by omega) ?_)
    dsimp only
    rw [hsg, SOl]
    exact sTr_l S off hS hz ht d (i + 1) _ _ (by omega) (by rw [List.length_append, List.length_singleton]; omega) (fun h0 => by omega)
   by_cases c1 : 0 < (impl_TruncateTo.keep off l).length
   ·have := yes (.inr c1)
    rw [if_pos (show i = 0 ∨ 0 < (impl_TruncateTo.keep off l).length from .inr c1)]
    exact Ev.ifp (by omega) this
   ·refine Ev.ifn (by omega) ?_
    by_cases c2 : i = 0
    ·have := yes (.inl c2)
     rw [if_pos (show i = 0 ∨ 0 < (impl_TruncateTo.keep off l).length from .inl c2)]
     exact Ev.ifp (by omega) this
    ·rw [if_neg (show ¬ (i = 0 ∨ 0 < (impl_TruncateTo.keep off l).length) from fun h => h.elim c2 c1)]
     refine Ev.ifn (by omega) ?_
     have hnx : nxO (impl_TruncateTo.keep off l) n = n := by unfold nxO; rw [if_pos (by omega)]
     rw [hnx]
     exact sTr_l S off hS hz ht d (i + 1) g n (by omega) (by omega) (fun h0 => by omega)
  have inner : ∀ dd q, q + dd = l.length → Ev (fun k => spec_TruncateTo.l1 k off (i : Int) (impl_TruncateTo.keep off (l.take q)) S (S.length : Int) (i : Int) l (l.length : Int) (q : Int) g (nxO (impl_TruncateTo.keep off (l.take q)) n) (S.getD i z65).f0 (S.getD i z65).f1 (S.getD i z65).f2) ((SOl (if i = 0 ∨ 0 < (impl_TruncateTo.keep off l).length then impl_TruncateTo.keep off l :: impl_TruncateTo.rows off (i + 1) ((LL S).drop (i + 1)) else impl_TruncateTo.rows off (i + 1) ((LL S).drop (i + 1))) g n).1, (SOl (if i = 0 ∨ 0 < (impl_TruncateTo.keep off l).length then impl_TruncateTo.keep off l :: impl_TruncateTo.rows off (i + 1) ((LL S).drop (i + 1)) else impl_TruncateTo.rows off (i + 1) ((LL S).drop (i + 1))) g n).2, true) := by
   intro dd
   induction dd with
   | zero =>
    intro q hq
    obtain rfl : q = l.length := by omega
    rw [List.take_length]
    refine Ev.succ ?_
    simp only [spec_TruncateTo.l1]
    exact Ev.ifn (by omega) (fin rfl)
   | succ dd ih =>
    intro q hq
    have hql : q < l.length := by omega
    have ih' := ih (q + 1) (by omega)
    have hk1 := (keep_sub off (l.take q)).1
    rw [List.length_take] at hk1
    refine Ev.succ ?_
    simp only [spec_TruncateTo.l1]
    refine Ev.ifp (by omega) (Ev.ifp (by omega) (Ev.ifp (by omega) ?_))
    rw [bt_z, succ_wrap (by omega)]
    rw [hks q hql] at ih'
    by_cases c : endB (l.getD q z43) ≤ off
    ·rw [if_pos c, nxO_snoc] at ih'
     exact Ev.ifp c (Ev.ifp (by omega) ih')
    ·rw [if_neg c] at ih'
     exact Ev.ifn c ih'
  have := inner l.length 0 (by omega)
  rw [List.take_zero] at this
  exact this
theorem SOl_sz : ∀ (L : List (List S43)) (g : List S65) (n : Int), (∀ r ∈ L, r.length ≤ 1048576) → (∀ x ∈ g, x.f2.length ≤ 1048576) → (SOl L g n).1.length = g.length + L.length ∧ ∀ x ∈ (SOl L g n).1, x.f2.length ≤ 1048576
 | [], g, n, _, hg => ⟨rfl, hg⟩
 | l :: r, g, n, hL, hg => by
  have := SOl_sz r (g ++ [sgO l n]) (nxO l n) (fun x hx => hL x (List.mem_cons_of_mem _ hx)) (fun x hx => by
   rcases List.mem_append.1 hx with h | h
   ·exact hg x h
   ·rw [List.mem_singleton.1 h]
    have h1 := ixs_len l
    have h2 := hL l List.mem_cons_self
    show (ixs l).length ≤ _
    omega)
  rw [SOl]
  refine ⟨?_, this.2⟩
  rw [this.1, List.length_append, List.length_singleton, List.length_cons]
  omega
theorem iTr_ev (S : List S65) (N off b : Int) (hS : S.length ≤ 8) (hz : ∀ i, i < S.length → (S.getD i z65).f1.size ≤ 1048576) : Ev (fun k => impl_storeOf.f k (impl_TruncateTo.rows off 0 (LL S)) b) (SOl (impl_TruncateTo.rows off 0 (LL S)) [] b) := by
 obtain ⟨h1, h2⟩ := rows_sub off (LL S) 0
 rw [LL_len] at h1
 have := iSO_ev (impl_TruncateTo.rows off 0 (LL S)) b (by omega) (fun i hi => by
  obtain ⟨l, hl, e⟩ := h2 _ (getD_mem hi [])
  rw [e]
  obtain ⟨q, hq, e2⟩ := List.getElem_of_mem hl
  have hq' : q < S.length := by rw [LL_len] at hq; exact hq
  have e3 : l = LS S q := by rw [← e2, ← LL_get S q hq', List.getD_eq_getElem?_getD, List.getElem?_eq_getElem hq]; rfl
  have hl2 := LS_len S q (hz q hq')
  have hk := (keep_sub off l).1
  rw [e3] at hk ⊢
  exact ⟨by omega, keep_gb off _ (RDx_gb _)⟩)
 rw [SO_list _ _ 0 _ _ (by omega), List.drop_zero] at this
 exact this
theorem rows_sz (S : List S65) (off : Int) (hz : ∀ i, i < S.length → (S.getD i z65).f1.size ≤ 1048576) : ∀ r ∈ impl_TruncateTo.rows off 0 (LL S), r.length ≤ 1048576 := fun r hr => by
 obtain ⟨l, hl, e⟩ := (rows_sub off (LL S) 0).2 r hr
 obtain ⟨q, hq, e2⟩ := List.getElem_of_mem hl
 have hq' : q < S.length := by rw [LL_len] at hq; exact hq
 have e3 : l = LS S q := by rw [← e2, ← LL_get S q hq', List.getD_eq_getElem?_getD, List.getElem?_eq_getElem hq]; rfl
 have hl2 := LS_len S q (hz q hq')
 have hk := (keep_sub off l).1
 rw [e, e3]
 rw [e3] at hk
 omega

def cvM (x : S140) : S89 := ⟨x.f0, x.f1⟩
def cvG (x : S117) : S65 := ⟨x.f0, x.f1, x.f2.map cvM⟩
theorem szG_ev (o : Int) (b : ByteArray) (l : List S140) (hb : b.size ≤ maxLen) (hl : l.length ≤ maxLen) (m : Int) (h0 : 0 ≤ m) (h1 : m ≤ 1048576) :
  ∃ r : Int, laws_szSegment.f o b l m = some r ∧ -1 ≤ r ∧ r ≤ m ∧ (0 ≤ r → b.size ≤ 1048576 ∧ l.length ≤ 1048576) := by
 have hb' : b.size ≤ 9223372036854775807 := hb
 have hl' : l.length ≤ 9223372036854775807 := hl
 unfold laws_szSegment.f laws_szMarkS.f
 rw [wrap_id (x := m - (b.size : Int)) (by omega) (by omega)]
 by_cases c : m - (b.size : Int) < 0
 ·rw [if_pos c]
  exact ⟨-1, rfl, by omega, by omega, fun h => by omega⟩
 ·rw [if_neg c, wrap_id (x := m - (b.size : Int) - (l.length : Int)) (by omega) (by omega)]
  by_cases c2 : m - (b.size : Int) - (l.length : Int) < 0
  ·rw [if_pos c2, Option.bind_some, if_pos (by decide)]
   exact ⟨-1, rfl, by omega, by omega, fun h => by omega⟩
  ·rw [if_neg c2, Option.bind_some, if_neg c2]
   exact ⟨_, rfl, by omega, by omega, fun _ => ⟨by omega, by omega⟩⟩
theorem szGS_l (l : List S117) (hl : l.length ≤ 1048576) (hs : ∀ x ∈ l, x.f1.size ≤ maxLen ∧ x.f2.length ≤ maxLen) : ∀ d i : Nat, i + d = l.length → ∀ m : Int, 0 ≤ m → m ≤ 1048576 →
  ∃ r : Int, Ev (fun k => laws_szSegmentS.l0 k l m (i : Int)) r ∧ -1 ≤ r ∧ r ≤ m ∧ (0 ≤ r → ∀ j, i ≤ j → j < l.length → (l.getD j z117).f1.size ≤ 1048576 ∧ (l.getD j z117).f2.length ≤ 1048576)
 | 0, i, hd => fun m h0 h1 => ⟨m, Ev.step (f := fun _ => some m) (fun k => by rw [laws_szSegmentS.l0, if_neg (by omega)]) (Ev.now _), by omega, Int.le_refl _, fun _ j h2 h3 => by omega⟩
 | d + 1, i, hd => fun m h0 h1 => by
  obtain ⟨hz1, hz2⟩ := hs _ (getD_mem (l := l) (i := i) (by omega) z117)
  obtain ⟨r, h2, h3, h4, h5⟩ := szG_ev (l.getD i z117).f0 (l.getD i z117).f1 (l.getD i z117).f2 hz1 hz2 m h0 h1
  have hst : ∀ k, laws_szSegmentS.l0 (k + 1) l m (i : Int) = if r < 0 then some (-1) else laws_szSegmentS.l0 k l r ((i + 1 : Nat) : Int) := fun k => by
   rw [laws_szSegmentS.l0, if_pos (by omega), if_pos (by omega), succ_wrap (by omega)]
   show (laws_szSegment.f (l.getD i z117).f0 (l.getD i z117).f1 (l.getD i z117).f2 m).bind _ = _
   rw [h2]
   rfl
  by_cases hn : r < 0
  ·exact ⟨-1, Ev.step hst (Ev.ifp hn (Ev.now _)), by omega, by omega, fun h => by omega⟩
  ·obtain ⟨q, h6, h7, h8, h9⟩ := szGS_l l hl hs d (i + 1) (by omega) r (by omega) (by omega)
   refine ⟨q, Ev.step hst (Ev.ifn hn h6), h7, by omega, fun h j h10 h11 => ?_⟩
   by_cases e : j = i
   ·rw [e]
    exact h5 (by omega)
   ·exact h9 h j (by omega) h11
theorem szST_ev (l : List S117) (n : Int) (hl : l.length ≤ maxLen) (hs : ∀ x ∈ l, x.f1.size ≤ maxLen ∧ x.f2.length ≤ maxLen) (m : Int) (h0 : 0 ≤ m) (h1 : m ≤ 1048576) :
  ∃ r : Int, Ev (fun k => laws_szStore.f k l n m) r ∧ -1 ≤ r ∧ r ≤ m ∧ (0 ≤ r → l.length ≤ 1048576 ∧ ∀ j, j < l.length → (l.getD j z117).f1.size ≤ 1048576 ∧ (l.getD j z117).f2.length ≤ 1048576) := by
 have hl' : l.length ≤ 9223372036854775807 := hl
 have hw : wrap64 (m - (l.length : Int)) = m - (l.length : Int) := wrap_id (by omega) (by omega)
 have main : ∃ r : Int, Ev (fun k => laws_szSegmentS.f k l m) r ∧ -1 ≤ r ∧ r ≤ m ∧ (0 ≤ r → l.length ≤ 1048576 ∧ ∀ j, j < l.length → (l.getD j z117).f1.size ≤ 1048576 ∧ (l.getD j z117).f2.length ≤ 1048576) := by
  unfold laws_szSegmentS.f
  rw [hw]
  by_cases hn : m - (l.length : Int) < 0
  ·exact ⟨-1, Ev.ifp hn (Ev.now _), by omega, by omega, fun h => by omega⟩
  ·obtain ⟨r, h2, h3, h4, h5⟩ := szGS_l l (by omega) hs l.length 0 (by omega) (m - (l.length : Int)) (by omega) (by omega)
   exact ⟨r, Ev.ifn hn h2, h3, by omega, fun h => ⟨by omega, fun j hj => h5 h j (Nat.zero_le _) hj⟩⟩
 obtain ⟨r, h2, h3, h4, h5⟩ := main
 unfold laws_szStore.f
 by_cases hn : r < 0
 ·exact ⟨-1, Ev.bind h2 (Ev.ifp hn (Ev.now _)), by omega, by omega, fun h => by omega⟩
 ·exact ⟨r, Ev.bind h2 (Ev.ifn hn (Ev.now _)), h3, h4, h5⟩
theorem toM_ev (l : List S140) (hl : l.length ≤ 1048576) : Ev (fun k => laws_toMarkS.f k l) (l.map cvM) := by
 have h := conv_ev l.length (fun x i k => laws_toMarkS.l0 k l x (i : Int)) (fun i => cvM (l.getD i z140))
  (fun x hx => Ev.step (f := fun _ => some x) (fun k => by
   show laws_toMarkS.l0 (k + 1) l x ((l.length : Nat) : Int) = some x
   rw [laws_toMarkS.l0, if_neg (by omega)]) (Ev.now _))
  (fun x i hi hx r hr => by
   refine Ev.step (fun k => ?_) hr
   show laws_toMarkS.l0 (k + 1) l x (i : Int) = laws_toMarkS.l0 k l (x.set i (cvM (l.getD i z140))) ((i + 1 : Nat) : Int)
   rw [laws_toMarkS.l0, if_pos (by omega), if_pos (by omega)]
   unfold laws_toMark.f
   rw [Option.bind_some, if_pos (by omega), succ_wrap (by omega)]
   rfl)
  (List.replicate l.length z89) (by simp)
 rw [map_range_getD] at h
 refine Ev.congr (fun k => ?_) h
 unfold laws_toMarkS.f
 rw [if_pos (by omega), if_pos (by rw [tn_nat]; omega)]
 rfl
theorem toG_ev (l : List S117) (hl : l.length ≤ 1048576) (hs : ∀ j, j < l.length → (l.getD j z117).f2.length ≤ 1048576) : Ev (fun k => laws_toSegmentS.f k l) (l.map cvG) := by
 have h := conv_ev l.length (fun x i k => laws_toSegmentS.l0 k l x (i : Int)) (fun i => cvG (l.getD i z117))
  (fun x hx => Ev.step (f := fun _ => some x) (fun k => by
   show laws_toSegmentS.l0 (k + 1) l x ((l.length : Nat) : Int) = some x
   rw [laws_toSegmentS.l0, if_neg (by omega)]) (Ev.now _))
  (fun x i hi hx r hr => by
   refine Ev.step (f := fun k => (laws_toSegment.f k (l.getD i z117).f0 (l.getD i z117).f1 (l.getD i z117).f2).bind fun t => laws_toSegmentS.l0 k l (x.set i ⟨t.1, t.2.1, t.2.2⟩) ((i + 1 : Nat) : Int)) (fun k => ?_) (Ev.bind (Ev.bind (toM_ev _ (hs i hi)) (Ev.now _)) hr)
   show laws_toSegmentS.l0 (k + 1) l x (i : Int) = _
   rw [laws_toSegmentS.l0, if_pos (by omega), if_pos (by omega)]
   refine congrArg _ (funext fun t => ?_)
   rw [if_pos (by omega), succ_wrap (by omega)]
   rfl)
  (List.replicate l.length z65) (by simp)
 rw [map_range_getD] at h
 refine Ev.congr (fun k => ?_) h
 unfold laws_toSegmentS.f
 rw [if_pos (by omega), if_pos (by rw [tn_nat]; omega)]
 rfl
theorem toST_ev (l : List S117) (n : Int) (hl : l.length ≤ 1048576) (hs : ∀ j, j < l.length → (l.getD j z117).f2.length ≤ 1048576) : Ev (fun k => laws_toStore.f k l n) (l.map cvG, n) := by
 unfold laws_toStore.f
 exact Ev.bind (toG_ev l hl hs) (Ev.now _)
theorem cvG_len (l : List S117) (P : ByteArray → Nat → Prop) (hs : ∀ j, j < l.length → P (l.getD j z117).f1 (l.getD j z117).f2.length) : ∀ j, j < (l.map cvG).length → P ((l.map cvG).getD j z65).f1 ((l.map cvG).getD j z65).f2.length := fun j hj => by
 rw [List.length_map] at hj
 have := hs j hj
 rw [List.getD_eq_getElem?_getD, List.getElem?_map, List.getElem?_eq_getElem hj]
 rw [List.getD_eq_getElem?_getD, List.getElem?_eq_getElem hj] at this
 show P _ (List.map cvM _).length
 rw [List.length_map]
 exact this
theorem eqM_ev (l : List S89) (hl : l.length ≤ 1048576) : Ev (fun k => laws_eqMarkS.f k l l) true := by
 have h := all_ev l.length (fun i k => laws_eqMarkS.l0 k l l (i : Int))
  (Ev.step (f := fun _ => some true) (fun k => by
   show laws_eqMarkS.l0 (k + 1) l l ((l.length : Nat) : Int) = some true
   rw [laws_eqMarkS.l0, if_neg (by omega)]) (Ev.now _))
  (fun i hi hr => Ev.step (fun k => by
   show laws_eqMarkS.l0 (k + 1) l l (i : Int) = laws_eqMarkS.l0 k l l ((i + 1 : Nat) : Int)
   rw [laws_eqMarkS.l0, if_pos (by omega), if_pos (by omega), if_pos (by omega)]
   unfold laws_eqMark.f
   rw [if_pos rfl, if_pos rfl, Option.bind_some, if_pos rfl, succ_wrap (by omega)]) hr)
 refine Ev.congr (fun k => ?_) h
 unfold laws_eqMarkS.f
 rw [if_pos rfl]
 rfl
theorem eqST_ev (l : List S65) (n : Int) (hl : l.length ≤ 1048576) (hs : ∀ j, j < l.length → (l.getD j z65).f2.length ≤ 1048576) : Ev (fun k => laws_eqStore.f k l n l n) true := by
 have h := all_ev l.length (fun i k => laws_eqSegmentS.l0 k l l (i : Int))
  (Ev.step (f := fun _ => some true) (fun k => by
   show laws_eqSegmentS.l0 (k + 1) l l ((l.length : Nat) : Int) = some true
   rw [laws_eqSegmentS.l0, if_neg (by omega)]) (Ev.now _))
  (fun i hi hr => by
   have e : Ev (fun k => laws_eqSegment.f k (l.getD i z65).f0 (l.getD i z65).f1 (l.getD i z65).f2 (l.getD i z65).f0 (l.getD i z65).f1 (l.getD i z65).f2) true := by
    unfold laws_eqSegment.f
    exact Ev.ifp rfl (Ev.ifp rfl (Ev.bind (eqM_ev _ (hs i hi)) (Ev.ifp rfl (Ev.now _))))
   refine Ev.step (f := fun k => (laws_eqSegment.f k (l.getD i z65).f0 (l.getD i z65).f1 (l.getD i z65).f2 (l.getD i z65).f0 (l.getD i z65).f1 (l.getD i z65).f2).bind fun t => if t = true then laws_eqSegmentS.l0 k l l ((i + 1 : Nat) : Int) else some false) (fun k => ?_) (Ev.bind e (Ev.ifp rfl hr))
   show laws_eqSegmentS.l0 (k + 1) l l (i : Int) = _
   rw [laws_eqSegmentS.l0, if_pos (by omega), if_pos (by omega), if_pos (by omega), sg_z, succ_wrap (by omega)])
 unfold laws_eqStore.f
 refine Ev.bind (Ev.congr (fun k => ?_) h) (Ev.ifp rfl (Ev.ifp rfl (Ev.now _)))
 unfold laws_eqSegmentS.f
 rw [if_pos rfl]
 rfl

def mkM (_ : S89) (n : Nat) : S89 := ⟨(n : Int), ((n + 1 : Nat) : Int)⟩
theorem markMS_ev (l : List S89) (hl : l.length ≤ 1048576) (m : Nat) (hm : m ≤ 10000000000000) :
  Ev (fun k => laws_markMarkS.f k l (m : Int)) (((m + cntL (fun _ => 2) l : Nat) : Int), markL mkM (fun _ => 2) l m) := by
 have hc := cntL_le (fun _ : S89 => 2) 2 l (fun _ _ => Nat.le_refl _)
 exact mark_ev z89 mkM (fun _ => 2) 20000000000000 l.length (fun x m i k => laws_markMarkS.l0 k x (m : Int) (i : Int))
  (fun x m hx => Ev.step (f := fun _ => some ((m : Int), x)) (fun k => by
   show laws_markMarkS.l0 (k + 1) x (m : Int) ((l.length : Nat) : Int) = _
   rw [laws_markMarkS.l0, if_neg (by omega)]) (Ev.now _))
  (fun x m i hx hi hb r hr => Ev.step (fun k => by
   show laws_markMarkS.l0 (k + 1) x (m : Int) (i : Int) = laws_markMarkS.l0 k (x.set i (mkM (x.getD i z89) m)) ((m + 2 : Nat) : Int) ((i + 1 : Nat) : Int)
   rw [laws_markMarkS.l0, if_pos (by omega), if_pos (by omega), Option.bind_some, succ_wrap (i := m) (by omega), succ_wrap (i := m + 1) (by omega), succ_wrap (i := i) (by omega), tn_nat, List.set_set]
   have e : (rd_T89 (x.set i (⟨(m : Int), (rd_T89 x (i : Int)).f1⟩ : S89)) (i : Int)).f0 = (m : Int) := by
    show ((x.set i (⟨(m : Int), (rd_T89 x (i : Int)).f1⟩ : S89)).getD i z89).f0 = _
    rw [List.getD_eq_getElem?_getD, List.getElem?_set_self (by omega)]
    rfl
   rw [e]
   rfl) hr) l m rfl (by omega)
theorem heldMS_ev (l : List S89) (hl : l.length ≤ 1048576) (m : Nat) (hm : m ≤ 10000000000000) :
  Ev (fun k => laws_heldMarkS.f k (markL mkM (fun _ => 2) l m) (m : Int)) ((m + cntL (fun _ => 2) l : Nat) : Int) := by
 have hc := cntL_le (fun _ : S89 => 2) 2 l (fun _ _ => Nat.le_refl _)
 exact held_ev z89 mkM (fun _ => 2) 20000000000000 l.length (fun x m i k => laws_heldMarkS.l0 k x (m : Int) (i : Int))
  (fun x m hx => Ev.step (f := fun _ => some (m : Int)) (fun k => by
   show laws_heldMarkS.l0 (k + 1) x (m : Int) ((l.length : Nat) : Int) = _
   rw [laws_heldMarkS.l0, if_neg (by omega)]) (Ev.now _))
  (fun x m i b hx hi hg hb r hr => Ev.step (fun k => by
   show laws_heldMarkS.l0 (k + 1) x (m : Int) (i : Int) = laws_heldMarkS.l0 k x ((m + 2 : Nat) : Int) ((i + 1 : Nat) : Int)
   have e : rd_T89 x (i : Int) = mkM b m := hg
   rw [laws_heldMarkS.l0, if_pos (by omega), if_pos (by omega), e, succ_wrap (i := m) (by omega), if_pos (show (mkM b m).f0 = (m : Int) from rfl), if_pos (show (mkM b m).f1 = ((m + 1 : Nat) : Int) from rfl), succ_wrap (i := m + 1) (by omega), succ_wrap (i := i) (by omega)]) hr) l m rfl (by omega)

noncomputable def mkG (g : S65) (m : Nat) : S65 := ⟨(m : Int), mtx (m + 1), markL mkM (fun _ => 2) g.f2 (m + 2)⟩
def cnG (g : S65) : Nat := 2 + cntL (fun _ : S89 => 2) g.f2
def LG (l : List S65) : Prop := l.length ≤ 1048576 ∧ ∀ j, j < l.length → (l.getD j z65).f2.length ≤ 1048576
theorem LG_mem {l : List S65} (h : LG l) : ∀ b ∈ l, b.f2.length ≤ 1048576 := fun b hb => by
 obtain ⟨j, hj, e⟩ := List.mem_iff_getElem.1 hb
 have h2 := h.2 j hj
 rw [List.getD_eq_getElem?_getD, List.getElem?_eq_getElem hj, Option.getD_some, e] at h2
 exact h2
theorem cnG_le (l : List S65) (h : LG l) : cntL cnG l ≤ 2097154 * l.length :=
 cntL_le cnG 2097154 l fun b hb => by
  have h2 := LG_mem h b hb
  have h1 := cntL_le (fun _ : S89 => 2) 2 b.f2 (fun _ _ => Nat.le_refl _)
  unfold cnG
  omega
theorem wr1 (m : Nat) (h : m ≤ 90000000000000) : wrap64 ((m : Int) + 1) = ((m + 1 : Nat) : Int) := succ_wrap (by omega)
theorem markST_ev (l : List S65) (n : Int) (h : LG l) (m0 : Nat) (hm0 : m0 ≤ 100000000000) : Ev (fun k => laws_markStore.f k l n (m0 : Int)) (((m0 + cntL cnG l : Nat) : Int), markL mkG cnG l m0) := by
 have h0 := cnG_le l h
 have h1 := h.1
 have key : ∀ (rest done : List S65) (m : Nat), (∀ b ∈ rest, b.f2.length ≤ 1048576) → m + cntL cnG rest ≤ 5000000000000 →
   Ev (fun k => laws_markSegmentS.l0 k (done ++ rest) (m : Int) done.length) (((m + cntL cnG rest : Nat) : Int), done ++ markL mkG cnG rest m) := by
  intro rest
  induction rest with
  | nil =>
   intro done m _ _
   rw [List.append_nil]
   show Ev _ (((m + 0 : Nat) : Int), done ++ [])
   rw [List.append_nil]
   exact Ev.step (f := fun _ => some ((m : Int), done)) (fun k => by rw [laws_markSegmentS.l0, if_neg (by omega)]) (Ev.now _)
  | cons b r ih =>
   intro done m hs hm
   have hm' : m + (cnG b + cntL cnG r) ≤ 5000000000000 := hm
   have hb := hs b List.mem_cons_self
   have hg : (done ++ b :: r).getD done.length z65 = b := by simp [List.getD]
   have hq : (done ++ b :: r).set done.length (mkG b m) = (done ++ [mkG b m]) ++ r := by simp [List.set_append]
   have hc : cnG b = 2 + cntL (fun _ : S89 => 2) b.f2 := rfl
   have ih' := ih (done ++ [mkG b m]) (m + cnG b) (fun y hy => hs y (List.mem_cons_of_mem _ hy)) (by omega)
   rw [List.length_append, List.length_singleton] at ih'
   have e1 : m + cnG b + cntL cnG r = m + (cnG b + cntL cnG r) := by omega
   have e2 : done ++ [mkG b m] ++ markL mkG cnG r (m + cnG b) = done ++ (mkG b m :: markL mkG cnG r (m + cnG b)) := by rw [List.append_assoc, List.singleton_append]
   rw [e1, e2] at ih'
   refine Ev.step (f := fun k => (laws_markText.f k ((m + 1 : Nat) : Int)).bind fun s => (laws_markMarkS.f k b.f2 ((m + 2 : Nat) : Int)).bind fun t => laws_markSegmentS.l0 k ((done ++ b :: r).set done.length ⟨(m : Int), s, t.2⟩) t.1 (done.length + 1)) (fun k => ?_) (Ev.bind (mtx_ev (m + 1) (by omega)) (Ev.bind (markMS_ev b.f2 hb (m + 2) (by omega)) ?_))
   ·rw [laws_markSegmentS.l0, if_pos (by simp), hg, wr1 m (by omega), wr1 (m + 1) (by omega)]
   ·show Ev (fun k => laws_markSegmentS.l0 k ((done ++ b :: r).set done.length (mkG b m)) ((m + 2 + cntL (fun _ => 2) b.f2 : Nat) : Int) (done.length + 1)) _
    rw [hq, show m + 2 + cntL (fun _ => 2) b.f2 = m + cnG b by omega]
    exact ih'
 exact key l [] m0 (LG_mem h) (by omega)
theorem heldST_ev (l : List S65) (n : Int) (h : LG l) (m0 : Nat) (hm0 : m0 ≤ 100000000000) : Ev (fun k => laws_heldStore.f k (markL mkG cnG l m0) n (m0 : Int)) ((m0 + cntL cnG l : Nat) : Int) := by
 have h0 := cnG_le l h
 have h1 := h.1
 have key : ∀ (rest done : List S65) (m : Nat), (∀ b ∈ rest, b.f2.length ≤ 1048576) → m + cntL cnG rest ≤ 5000000000000 → done.length + rest.length ≤ 1048576 →
   Ev (fun k => laws_heldSegmentS.l0 k (done ++ markL mkG cnG rest m) (m : Int) (done.length : Int)) ((m + cntL cnG rest : Nat) : Int) := by
  intro rest
  induction rest with
  | nil =>
   intro done m _ _ _
   show Ev (fun k => laws_heldSegmentS.l0 k (done ++ []) (m : Int) (done.length : Int)) ((m + 0 : Nat) : Int)
   rw [List.append_nil]
   exact Ev.step (f := fun _ => some (m : Int)) (fun k => by rw [laws_heldSegmentS.l0, if_neg (by omega)]) (Ev.now _)
  | cons b r ih =>
   intro done m hs hm hl
   have hm' : m + (cnG b + cntL cnG r) ≤ 5000000000000 := hm
   have hl' : done.length + (r.length + 1) ≤ 1048576 := hl
   have hb := hs b List.mem_cons_self
   have hc : cnG b = 2 + cntL (fun _ : S89 => 2) b.f2 := rfl
   have ih' := ih (done ++ [mkG b m]) (m + cnG b) (fun y hy => hs y (List.mem_cons_of_mem _ hy)) (by omega) (by rw [List.length_append, List.length_singleton]; omega)
   rw [List.length_append, List.length_singleton, List.append_assoc, List.singleton_append] at ih'
   have e1 : m + cnG b + cntL cnG r = m + (cnG b + cntL cnG r) := by omega
   rw [e1] at ih'
   show Ev (fun k => laws_heldSegmentS.l0 k (done ++ (mkG b m :: markL mkG cnG r (m + cnG b))) (m : Int) (done.length : Int)) _
   have hg : (done ++ (mkG b m :: markL mkG cnG r (m + cnG b))).getD done.length z65 = mkG b m := by simp [List.getD]
   refine Ev.step (f := fun k => (laws_markText.f k ((m + 1 : Nat) : Int)).bind fun t => if (mtx (m + 1)).toList = t.toList then ((laws_heldMarkS.f k (markL mkM (fun _ => 2) b.f2 (m + 2)) ((m + 2 : Nat) : Int)).bind fun t => if t < 0 then some (-1) else laws_heldSegmentS.l0 k (done ++ (mkG b m :: markL mkG cnG r (m + cnG b))) t ((done.length + 1 : Nat) : Int)) else some (-1)) (fun k => ?_) (Ev.bind (mtx_ev (m + 1) (by omega)) (Ev.ifp rfl (Ev.bind (heldMS_ev b.f2 hb (m + 2) (by omega)) (Ev.ifn (by omega) ?_))))
   ·rw [laws_heldSegmentS.l0, if_pos (by rw [List.length_append, List.length_cons]; omega), if_pos (by omega), sg_z, hg, wr1 m (by omega), wr1 (m + 1) (by omega), if_pos (show (mkG b m).f0 = (m : Int) from rfl), succ_wrap (i := done.length) (by omega)]
    rfl
   ·rw [show m + 2 + cntL (fun _ => 2) b.f2 = m + cnG b by omega]
    exact ih'
 unfold laws_heldStore.f
 have hk : Ev (fun k => laws_heldSegmentS.f k (markL mkG cnG l m0) (m0 : Int)) ((m0 + cntL cnG l : Nat) : Int) := key l [] m0 (LG_mem h) (by omega) (by simpa using h1)
 exact Ev.bind hk (Ev.ifn (by omega) (Ev.now _))

theorem FnExactTruncateTo : laws_FnExactTruncateTo.Pure := by
 intro x0 a1 hok _
 obtain ⟨⟨hl, hs⟩, _⟩ := hok
 apply Ev.rounds
 unfold laws_FnExactTruncateTo.f
 obtain ⟨r, h1, _, _, h4⟩ := szST_ev x0.f0 x0.f1 hl (fun x hx => ⟨(hs x hx).2.1, (hs x hx).2.2.1⟩) 1048576 (by decide) (by decide)
 refine Ev.bind h1 ?_
 by_cases hr : r < 0
 ·exact Ev.ifp hr (Ev.now _)
 ·refine Ev.ifn hr ?_
  obtain ⟨hb, hq⟩ := h4 (by omega)
  have hb' : (x0.f0.map cvG).length ≤ 1048576 := by rw [List.length_map]; exact hb
  have hq' := cvG_len x0.f0 (fun b n => b.size ≤ 1048576 ∧ n ≤ 1048576) hq
  have ht := toST_ev x0.f0 x0.f1 hb (fun j hj => (hq j hj).2)
  refine Ev.bind ht ?_
  dsimp only
  generalize x0.f0.map cvG = S at hb' hq'
  have hSL : LG S := ⟨hb', fun j hj => (hq' j hj).2⟩
  have key : ∃ (l : List S65) (n : Int) (c : Bool), LG l ∧ Ev (fun k => spec_TruncateTo.f k S x0.f1 a1) (l, n, c) ∧ Ev (fun k => impl_TruncateTo.f k S x0.f1 a1) (l, n, c) := by
   unfold spec_TruncateTo.f impl_TruncateTo.f
   have hno : LG ([] : List S65) := ⟨Nat.zero_le _, fun j hj => absurd hj (Nat.not_lt_zero _)⟩
   have sno : Ev (fun k => spec_TruncateTo.j0 k a1 true S x0.f1) ([], 0, false) := Ev.step (f := fun _ => some ([], 0, false)) (fun k => by rw [spec_TruncateTo.j0, if_pos rfl]) (Ev.now _)
   obtain ⟨b, hsp, him, hiff⟩ := both (sGS_ev S x0.f1 hb' hq') (EvB.iff (iIS_ev S x0.f1 (fun i hi => (hq' i hi).1)) (store_same _ _))
   cases b with
   | false => exact ⟨[], 0, false, hno, Ev.bind hsp (Ev.ifn (by decide) sno), Ev.bind him (Ev.ifn (by decide) (Ev.now _))⟩
   | true =>
    have hg := hiff.1 rfl
    have g5 := hg.2.1
    have h0 : 0 < (S.length : Int) := by omega
    have hz1 : ∀ i, i < S.length → (S.getD i z65).f1.size ≤ 1048576 := fun i hi => (hq' i hi).1
    have eb : (rd_T65 S 0).f0 = (S.getD 0 z65).f0 := rfl
    by_cases c : (S.getD 0 z65).f0 ≤ a1 ∧ a1 ≤ x0.f1
    ·have hs := sTr_l S a1 (by omega) hz1 hg.1 S.length 0 [] (S.getD 0 z65).f0 (by omega) (Nat.le_refl _) (fun _ => rfl)
     rw [List.drop_zero] at hs
     have hi := iTr_ev S x0.f1 a1 (S.getD 0 z65).f0 (by omega) hz1
     obtain ⟨z1, z2⟩ := SOl_sz (impl_TruncateTo.rows a1 0 (LL S)) [] (S.getD 0 z65).f0 (rows_sz S a1 hz1) (fun x hx => by cases hx)
     have hrl := (rows_sub a1 (LL S) 0).1
     rw [LL_len] at hrl
     refine ⟨_, _, true, ⟨by rw [z1]; show 0 + _ ≤ _; omega, fun j hj => z2 _ (getD_mem hj _)⟩, Ev.bind hsp (Ev.ifp rfl (Ev.ifp h0 (Ev.ifn (by rw [eb]; omega) (Ev.step (f := fun k => if 0 < (S.length : Int) then spec_TruncateTo.l0 k a1 S (S.length : Int) 0 ([] : List S65) ((rd_T65 S 0).f0) else none) (fun k => by rw [decide_eq_false (show ¬ a1 > x0.f1 by omega), spec_TruncateTo.j0, if_neg (by decide)]) (Ev.ifp h0 hs))))), ?_⟩
     refine Ev.bind him (Ev.ifp rfl (Ev.ifp h0 ?_))
     rw [iin]
     refine Ev.bind (Ev.now _) (Ev.ifp (decide_eq_true (by rw [eb]; exact c)) (Ev.bind (iLG_ev S x0.f1 (by omega) (fun j hj => by have := hz1 j hj; omega)) (Ev.ifp (by rw [LL_len]; omega) (Ev.bind hi (Ev.now _)))))
    ·refine ⟨[], 0, false, hno, Ev.bind hsp (Ev.ifp rfl (Ev.ifp h0 ?_)), Ev.bind him (Ev.ifp rfl (Ev.ifp h0 ?_))⟩
     ·by_cases c2 : a1 < (rd_T65 S 0).f0
      ·exact Ev.ifp c2 sno
      ·refine Ev.ifn c2 ?_
       rw [eb] at c2
       rw [decide_eq_true (show a1 > x0.f1 by omega)]
       exact sno
     ·rw [iin]
      refine Ev.bind (Ev.now _) (Ev.ifn (fun h => c (by have := of_decide_eq_true h; rwa [eb] at this)) (Ev.now _))
  obtain ⟨l, n, c, hL, hsp, him⟩ := key
  exact Ev.bind hsp (Ev.bind him (Ev.bind (eqST_ev l n hL.1 hL.2) (Ev.ifp ⟨rfl, rfl⟩ (Ev.bind (eqST_ev S x0.f1 hSL.1 hSL.2) (Ev.bind (markST_ev S x0.f1 hSL 1 (by decide)) (Ev.ifp ⟨rfl, by omega⟩ (Ev.bind (markST_ev l n hL 1 (by decide)) (Ev.bind (heldST_ev l n hL 1 (by decide)) (Ev.ifp ⟨by omega, rfl⟩ (Ev.now _))))))))))


end Go.Proofs.Ytffpeklekkpbjaa.Pure
