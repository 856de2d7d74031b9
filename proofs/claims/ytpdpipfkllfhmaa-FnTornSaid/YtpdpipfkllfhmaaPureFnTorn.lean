/- Whatever a crash leaves, what is recovered begins with all that was synced whole, and is the beginning of what was written: for all bytes that disks are drawn from. Conditions: none but the statement's own. -/
import Derived.Test.YtpdpipfkllfhmaaQFnTornx21
namespace Go.Proofs.Ytpdpipfkllfhmaa.Pure
open Go.RowKit Go.Proofs.Ytpdpipfkllfhmaa.QFnTorn Go.Proofs.YtpdpipfkllfhmaaW.PrintWords Go.Proofs.YtpdpipfkllfhmaaW.PrintLast Go.Proofs.YtpdpipfkllfhmaaW.PrintMore
set_option linter.unusedVariables false
set_option linter.unusedSimpArgs false
theorem Ev.succ {α : Type} {g : Nat → Option α} {r : α} (k : Ev (fun n => g (n + 1)) r) : Ev g r := Ev.step (fun _ => rfl) k
theorem Ev.ifp {α : Type} {c : Prop} [Decidable c] {f g : Nat → Option α} {r : α} (h : c) (k : Ev f r) : Ev (fun n => if c then f n else g n) r := Ev.congr (fun n => if_pos h) k
theorem Ev.ifn {α : Type} {c : Prop} [Decidable c] {f g : Nat → Option α} {r : α} (h : ¬ c) (k : Ev g r) : Ev (fun n => if c then f n else g n) r := Ev.congr (fun n => if_neg h) k
def EvB (g : Nat → Option Bool) (Q : Prop) : Prop := ∃ b : Bool, Ev g b ∧ (b = true ↔ Q)
theorem EvB.step {g f : Nat → Option Bool} {Q : Prop} (h : ∀ k, g (k + 1) = f k) (k : EvB f Q) : EvB g Q := by
 obtain ⟨b, hb, hq⟩ := k
 exact ⟨b, Ev.step h hb, hq⟩
theorem EvB.iff {g : Nat → Option Bool} {Q R : Prop} (k : EvB g Q) (h : Q ↔ R) : EvB g R := by
 obtain ⟨b, hb, hq⟩ := k
 exact ⟨b, hb, hq.trans h⟩
theorem EvB.no {g : Nat → Option Bool} {Q : Prop} (h : ∀ k, g (k + 1) = some false) (hq : ¬ Q) : EvB g Q := ⟨false, Ev.step (f := fun _ => some false) h (Ev.now _), Iff.intro (fun h => by cases h) (fun h => absurd h hq)⟩
theorem EvB.get {g : Nat → Option Bool} {Q : Prop} (k : EvB g Q) (h : Q) : Ev g true := by
 obtain ⟨b, hb, hq⟩ := k
 rw [← hq.2 h]
 exact hb
theorem wrap_id {x : Int} (h0 : -9223372036854775808 ≤ x) (h1 : x ≤ 9223372036854775807) : wrap64 x = x := by
 unfold wrap64
 omega
theorem succ_wrap {i : Nat} (h : i ≤ 9000000000000000000) : wrap64 ((i : Int) + 1) = ((i + 1 : Nat) : Int) := by
 rw [wrap_id (by omega) (by omega)]
 omega
theorem pred_wrap {i : Nat} (h0 : 0 < i) (h : i ≤ 9000000000000000000) : wrap64 ((i : Int) - 1) = ((i - 1 : Nat) : Int) := by
 rw [wrap_id (by omega) (by omega)]
 omega
theorem rd_nat (l : List Int) (i : Nat) : rd l (i : Int) = l.getD i 0 := rfl
theorem tn_nat (i : Nat) : ((i : Int)).toNat = i := rfl
theorem all_ev (n : Nat) (F : Nat → Nat → Option Bool) (h1 : Ev (F n) true) (h2 : ∀ i, i < n → Ev (F (i + 1)) true → Ev (F i) true) : Ev (F 0) true := by
 have key : ∀ d i, i + d = n → Ev (F i) true := by
  intro d
  induction d with
  | zero =>
   intro i hd
   have hi : i = n := by omega
   subst hi
   exact h1
  | succ d ih =>
   intro i hd
   exact h2 i (by omega) (ih (i + 1) (by omega))
 exact key n 0 (by omega)

theorem getD_mem {α : Type} {l : List α} {i : Nat} (h : i < l.length) (z : α) : l.getD i z ∈ l := by
 rw [List.getD_eq_getElem?_getD, List.getElem?_eq_getElem h, Option.getD_some]
 exact List.getElem_mem h

theorem iin (a b c : Int) : impl_in.f a b c = some (decide (b ≤ a ∧ a ≤ c)) := by
 unfold impl_in.f
 by_cases h : a ≥ b
 ·rw [if_pos h]
  have e : (b ≤ a ∧ a ≤ c) ↔ a ≤ c := ⟨fun h => h.2, fun h' => ⟨h, h'⟩⟩
  simp only [e]
 ·rw [if_neg h, decide_eq_false]
  intro h'
  exact h h'.1

theorem sin (a b c : Int) : spec_l1In.f a b c = some (decide (b ≤ a ∧ a ≤ c)) := by
 unfold spec_l1In.f
 by_cases h : a ≥ b
 ·rw [if_pos h]
  have e : (b ≤ a ∧ a ≤ c) ↔ a ≤ c := ⟨fun h => h.2, fun h' => ⟨h, h'⟩⟩
  simp only [e]
 ·rw [if_neg h, decide_eq_false]
  intro h'
  exact h h'.1

theorem EvB.and {P Q : Prop} [Decidable P] {g : Nat → Option Bool} (h : EvB g Q) : EvB (fun k => if decide P = true then g k else some false) (P ∧ Q) := by
 obtain ⟨b, hb, hq⟩ := h
 by_cases hp : P
 ·exact ⟨b, Ev.ifp (by rw [decide_eq_true hp]) hb, ⟨fun h => ⟨hp, hq.1 h⟩, fun h => hq.2 h.2⟩⟩
 ·exact ⟨false, Ev.ifn (by rw [decide_eq_false hp]; decide) (Ev.now _), Iff.intro (fun h => by cases h) (fun h => absurd h.1 hp)⟩
theorem EvB.dec {P : Prop} [Decidable P] : EvB (fun _ => some (decide P)) P := ⟨decide P, Ev.now _, decide_eq_true_iff⟩
theorem both {g f : Nat → Option Bool} {Q : Prop} (h : EvB g Q) (k : EvB f Q) : ∃ b : Bool, Ev g b ∧ Ev f b ∧ (b = true ↔ Q) := by
 obtain ⟨b, hb, hq⟩ := h
 obtain ⟨c, hc, hr⟩ := k
 obtain rfl : c = b := Bool.eq_iff_iff.2 (hr.trans hq.symm)
 exact ⟨c, hb, hc, hq⟩

theorem fl_nat'' (l : List S56) (i : Nat) : rd_T56 l (i : Int) = l.getD i z56 := rfl
theorem ixD_iff (q : Nat → Bool) : ∀ d i, (0 ≤ isDisk_ix q i d) ↔ ∃ j, i ≤ j ∧ j < i + d ∧ q j = true
 | 0, i => by
  rw [isDisk_ix]
  exact ⟨fun h => by omega, fun ⟨j, h1, h2, _⟩ => by omega⟩
 | d + 1, i => by
  rw [isDisk_ix]
  by_cases h : q i = true
  ·rw [if_pos h]
   exact ⟨fun _ => ⟨i, Nat.le_refl _, by omega, h⟩, fun _ => by omega⟩
  ·rw [if_neg h, ixD_iff q d (i + 1)]
   refine ⟨fun ⟨j, h1, h2, h3⟩ => ⟨j, by omega, by omega, h3⟩, fun ⟨j, h1, h2, h3⟩ => ⟨j, ?_, by omega, h3⟩⟩
   by_cases e : j = i
   ·rw [e] at h3
    exact absurd h3 h
   ·omega
def GF (x : S56) : Prop := (x.f0.size : Int) ≤ 400 ∧ 0 ≤ x.f1 ∧ x.f1 ≤ (x.f0.size : Int)
def GD (l : List S56) : Prop := (∀ j, j < l.length → GF (l.getD j z56)) ∧ (1 ≤ (l.length : Int) ∧ (l.length : Int) ≤ 4)
theorem sGD_l (l : List S56) (hl : l.length ≤ 1048576) : ∀ d i : Nat, i + d = l.length →
  EvB (fun k => spec_GoodDisk.l0 k l (l.length : Int) (i : Int) l) ((∀ j, i ≤ j → j < l.length → GF (l.getD j z56)) ∧ (1 ≤ (l.length : Int) ∧ (l.length : Int) ≤ 4))
 | 0, i, hd => by
  refine EvB.step (f := fun _ => some (decide (1 ≤ (l.length : Int) ∧ (l.length : Int) ≤ 4))) (fun k => ?_) ?_
  ·rw [spec_GoodDisk.l0, if_neg (by omega)]
   simp only [sin, Option.bind_some]
  ·exact EvB.iff EvB.dec ⟨fun h => ⟨fun j h1 h2 => by omega, h⟩, fun h => h.2⟩
 | d + 1, i, hd => by
  by_cases h1 : ((l.getD i z56).f0.size : Int) > 400
  ·refine EvB.no (fun k => ?_) (fun h => ?_)
   ·rw [spec_GoodDisk.l0, if_pos (by omega), if_pos (by omega), if_pos (by omega), fl_nat'', if_pos h1]
   ·have := (h.1 i (Nat.le_refl _) (by omega)).1
    omega
  ·by_cases h2 : (l.getD i z56).f1 < 0
   ·refine EvB.no (fun k => ?_) (fun h => ?_)
    ·rw [spec_GoodDisk.l0, if_pos (by omega), if_pos (by omega), if_pos (by omega), fl_nat'', if_neg h1, if_pos h2]
    ·have := (h.1 i (Nat.le_refl _) (by omega)).2.1
     omega
   ·by_cases h3 : (l.getD i z56).f1 > ((l.getD i z56).f0.size : Int)
    ·refine EvB.no (fun k => ?_) (fun h => ?_)
     ·rw [spec_GoodDisk.l0, if_pos (by omega), if_pos (by omega), if_pos (by omega), fl_nat'', if_neg h1, if_neg h2, if_pos h3]
     ·have := (h.1 i (Nat.le_refl _) (by omega)).2.2
      omega
    ·refine EvB.step (fun k => ?_) (EvB.iff (sGD_l l hl d (i + 1) (by omega)) ?_)
     ·show spec_GoodDisk.l0 (k + 1) l (l.length : Int) (i : Int) l = spec_GoodDisk.l0 k l (l.length : Int) ((i + 1 : Nat) : Int) l
      rw [spec_GoodDisk.l0, if_pos (by omega), if_pos (by omega), if_pos (by omega), fl_nat'', if_neg h1, if_neg h2, if_neg h3, succ_wrap (by omega)]
     ·refine and_congr_left fun _ => ⟨fun h j h4 h5 => ?_, fun h j h4 h5 => h j (by omega) h5⟩
      by_cases e : j = i
      ·rw [e]
       exact ⟨by omega, by omega, by omega⟩
      ·exact h j (by omega) h5
theorem sGD_ev (l : List S56) (hl : l.length ≤ 1048576) : EvB (fun k => spec_GoodDisk.f k l) (GD l) := by
 have h := sGD_l l hl l.length 0 (by omega)
 exact h.iff ⟨fun h => ⟨fun j hj => h.1 j (Nat.zero_le _) hj, h.2⟩, fun h => ⟨fun j _ hj => h.1 j hj, h.2⟩⟩
theorem iGD_ev (l : List S56) : EvB (fun _ => impl_isDisk.f l) (GD l) := by
 have hq : ∀ j, impl_isDisk.q l j = true ↔ ¬ GF (l.getD j z56) := fun j => by
  unfold impl_isDisk.q impl_isDisk.q1 GF
  rw [fl_nat'']
  by_cases h1 : ((l.getD j z56).f0.size : Int) > 400
  ·rw [if_pos h1]
   exact ⟨fun _ h => by omega, fun _ => rfl⟩
  ·rw [if_neg h1, Bool.not_eq_true', decide_eq_false_iff_not]
   exact ⟨fun h h' => h ⟨h'.2.1, h'.2.2⟩, fun h h' => h ⟨by omega, h'.1, h'.2⟩⟩
 unfold impl_isDisk.f
 simp only [iin, Option.bind_some]
 refine EvB.iff (EvB.and ⟨_, Ev.now _, Iff.rfl⟩) ?_
 rw [Bool.not_eq_true', decide_eq_false_iff_not, ixD_iff]
 unfold GD
 constructor
 ·rintro ⟨h1, h3⟩
  refine ⟨fun j hj => ?_, h1⟩
  by_cases hz : GF (l.getD j z56)
  ·exact hz
  ·exact absurd ⟨j, Nat.zero_le _, by omega, (hq j).2 hz⟩ h3
 ·rintro ⟨h3, h1⟩
  exact ⟨h1, fun ⟨j, _, h5, h6⟩ => (hq j).1 h6 (h3 j (by omega))⟩

theorem sFile_ev (l : List S56) (a : Int) (hl : l.length ≤ 1048576) : EvB (fun k => spec_l3File.f k l a) (GD l ∧ 0 ≤ a ∧ a < (l.length : Int)) := by
 obtain ⟨b, hb, hq⟩ := sGD_ev l hl
 unfold spec_l3File.f
 cases b with
 | false => exact ⟨false, Ev.bind hb (Ev.ifn (by decide) (Ev.now _)), Iff.intro (fun h => by cases h) (fun h => absurd (hq.2 h.1) (by decide))⟩
 | true =>
  by_cases h0 : a ≥ 0
  ·refine ⟨decide (a < (l.length : Int)), Ev.bind hb (Ev.ifp rfl (Ev.ifp h0 (Ev.now _))), ?_⟩
   rw [decide_eq_true_iff]
   exact ⟨fun h => ⟨hq.1 rfl, h0, h⟩, fun h => h.2.2⟩
  ·exact ⟨false, Ev.bind hb (Ev.ifp rfl (Ev.ifn h0 (Ev.now _))), Iff.intro (fun h => by cases h) (fun h => absurd h.2.1 h0)⟩
theorem iHas_ev (l : List S56) (a : Int) (hl : l.length ≤ 1048576) : EvB (fun _ => impl_Disk_has.f l a) (GD l ∧ 0 ≤ a ∧ a < (l.length : Int)) := by
 obtain ⟨b, hb, hq⟩ := iGD_ev l
 unfold impl_Disk_has.f
 cases b with
 | false => exact ⟨false, Ev.bind hb (Ev.ifn (by decide) (Ev.now _)), Iff.intro (fun h => by cases h) (fun h => absurd (hq.2 h.1) (by decide))⟩
 | true =>
  have hw : wrap64 ((l.length : Int) - 1) = (l.length : Int) - 1 := wrap_id (by omega) (by omega)
  refine ⟨decide (0 ≤ a ∧ a ≤ (l.length : Int) - 1), Ev.bind hb (Ev.ifp rfl ?_), ?_⟩
  ·simp only [iin, Option.bind_some, hw]
   exact Ev.now _
  ·rw [decide_eq_true_iff]
   exact ⟨fun h => ⟨hq.1 rfl, h.1, by omega⟩, fun h => ⟨h.2.1, by omega⟩⟩

theorem sOwn (l : List S56) (hl : l.length ≤ 1048576) : spec_l3Own.f l = some l := by
 unfold spec_l3Own.f
 rw [Option.bind_some, if_pos (by simp only [List.length_nil]; omega), List.nil_append]

theorem iWith (l : List S56) (a : Int) (s : ByteArray) (m : Int) (hl : l.length ≤ 1048576) (h0 : 0 ≤ a) (h1 : a < (l.length : Int)) : impl_Disk_with.f l a s m = some (l.set a.toNat (⟨s, m⟩ : S56)) := by
 unfold impl_Disk_with.f
 rw [Option.bind_some, if_pos (by simp only [List.length_nil]; omega), List.nil_append, Option.bind_some, if_pos h0, if_pos h1]
theorem fl_tn (l : List S56) (a : Int) : rd_T56 l a = l.getD a.toNat z56 := rfl
theorem GD_at (l : List S56) (h : GD l) (a : Int) (h0 : 0 ≤ a) (h1 : a < (l.length : Int)) : GF (rd_T56 l a) := by
 rw [fl_tn]
 exact h.1 _ (by omega)

theorem wr64 (n : Int) (h₀ : 0 ≤ n) (h₁ : n < 2 ^ 62) : IntKind.i64.wrap n = n := by
 rw [IntKind.wrap_i64]
 omega
theorem xor_nat (a b : Nat) (ha : a < 2 ^ 62) (hb : b < 2 ^ 62) : Go.bits .xor .i64 (a : Int) (b : Int) = ((a ^^^ b : Nat) : Int) := by
 have hx : a ^^^ b < 2 ^ 62 := Nat.xor_lt_two_pow ha hb
 have h1 : (BitVec.ofInt 64 (a : Int)).toNat = a := by
  rw [BitVec.ofInt_natCast, BitVec.toNat_ofNat]
  exact Nat.mod_eq_of_lt (by omega)
 have h2 : (BitVec.ofInt 64 (b : Int)).toNat = b := by
  rw [BitVec.ofInt_natCast, BitVec.toNat_ofNat]
  exact Nat.mod_eq_of_lt (by omega)
 show IntKind.i64.wrap ((BitVec.ofInt 64 (a : Int) ^^^ BitVec.ofInt 64 (b : Int)).toNat : Int) = _
 rw [BitVec.toNat_xor, h1, h2]
 exact wr64 _ (Int.natCast_nonneg _) (by omega)
theorem and_low (m : Nat) (h : m < 2 ^ 62) : Go.bits .and .i64 (m : Int) 65535 = ((m % 65536 : Nat) : Int) := by
 show Go.bits .and .i64 (m : Int) ((65535 : Nat) : Int) = _
 rw [(bits_nat .i64 62 (by decide) wr64 m 65535 h (by decide)).1]
 exact congrArg _ (Nat.and_two_pow_sub_one_eq_mod m 16)
theorem and_top (c : Nat) (h : c < 65536) : Go.bits .and .i64 (c : Int) 32768 = 0 ↔ c < 32768 := by
 show Go.bits .and .i64 (c : Int) ((32768 : Nat) : Int) = 0 ↔ _
 rw [(bits_nat .i64 62 (by decide) wr64 c 32768 (by omega) (by decide)).1]
 constructor
 ·intro e
  by_cases hc : c < 32768
  ·exact hc
  ·have e' : c &&& 2 ^ 15 = 0 := by
    have : (2 : Nat) ^ 15 = 32768 := by decide
    rw [this]
    omega
   have t : (c &&& 2 ^ 15).testBit 15 = true := by
    rw [Nat.testBit_and, Nat.testBit_two_pow_self, Bool.and_true, Nat.testBit_eq_decide_div_mod_eq, decide_eq_true_iff]
    omega
   rw [e', Nat.zero_testBit] at t
   cases t
 ·intro hc
  have e : c &&& 2 ^ 15 = 0 := by
   refine Nat.eq_of_testBit_eq fun j => ?_
   rw [Nat.testBit_and, Nat.zero_testBit]
   by_cases hj : j = 15
   ·subst hj
    rw [Nat.testBit_lt_two_pow (x := c) (i := 15) (by omega), Bool.false_and]
   ·rw [Nat.testBit_two_pow_of_ne (fun e => hj e.symm), Bool.and_false]
  have : (2 : Nat) ^ 15 = 32768 := by decide
  rw [this] at e
  rw [e]
  rfl
theorem bt_bd (s : ByteArray) (i : Int) : ∃ b : Nat, bt s i = (b : Int) ∧ b ≤ 255 := by
 unfold bt
 split
 ·rename_i h
  have := UInt8.toNat_lt (s[i.toNat]'h)
  exact ⟨_, rfl, by omega⟩
 ·exact ⟨0, rfl, by omega⟩
def stp (c : Nat) : Nat := if c < 32768 then c * 2 else (c * 2 % 65536) ^^^ 4129
theorem stp_lt (c : Nat) : stp c < 65536 := by
 unfold stp
 split
 ·omega
 ·exact Nat.xor_lt_two_pow (n := 16) (by omega) (by omega)
def stps : Nat → Nat → Nat
 | 0, c => c
 | d + 1, c => stps d (stp c)
theorem stps_lt : ∀ d c, c < 65536 → stps d c < 65536
 | 0, c, h => h
 | d + 1, c, _ => stps_lt d (stp c) (stp_lt c)
theorem sSum_in (x : ByteArray) (i : Int) (r : Int) : ∀ d j : Nat, j + d = 8 → ∀ c : Nat, c < 65536 → Ev (fun k => spec_l1Sum.l0 k x ((stps d c : Nat) : Int) (wrap64 (i + 1))) r → Ev (fun k => spec_l1Sum.l1 k x (c : Int) i (j : Int)) r
 | 0, j, hd => fun c hc h => Ev.step (fun k => by rw [spec_l1Sum.l1, if_neg (by omega)]; rfl) h
 | d + 1, j, hd => fun c hc h => by
  have w : wrap64 ((c : Int) * 2) = ((c * 2 : Nat) : Int) := by
   rw [wrap_id (by omega) (by omega)]
   omega
  refine Ev.step (fun k => ?_) (sSum_in x i r d (j + 1) (by omega) (stp c) (stp_lt c) h)
  show spec_l1Sum.l1 (k + 1) x (c : Int) i (j : Int) = spec_l1Sum.l1 k x ((stp c : Nat) : Int) i ((j + 1 : Nat) : Int)
  rw [spec_l1Sum.l1, if_pos (by omega), w, succ_wrap (by omega)]
  unfold stp
  by_cases hs : c < 32768
  ·rw [if_neg (by omega), if_pos hs]
  ·rw [if_pos (by omega), if_neg hs, and_low _ (by omega)]
   have e : Go.bits .xor .i64 ((c * 2 % 65536 : Nat) : Int) 4129 = ((c * 2 % 65536 ^^^ 4129 : Nat) : Int) := xor_nat _ 4129 (by omega) (by omega)
   rw [e]
theorem iSum_in (x : ByteArray) (n i : Int) (r : Int) : ∀ d j : Nat, j + d = 8 → ∀ c : Nat, c < 65536 → Ev (fun k => impl_sumOf.l0 k x ((stps d c : Nat) : Int) n (wrap64 (i + 1))) r → Ev (fun k => impl_sumOf.l1 k x (c : Int) n i (j : Int)) r
 | 0, j, hd => fun c hc h => Ev.step (fun k => by rw [impl_sumOf.l1, if_neg (by omega)]; rfl) h
 | d + 1, j, hd => fun c hc h => by
  have w : wrap64 ((c : Int) * 2) = ((c * 2 : Nat) : Int) := by
   rw [wrap_id (by omega) (by omega)]
   omega
  refine Ev.step (fun k => ?_) (iSum_in x n i r d (j + 1) (by omega) (stp c) (stp_lt c) h)
  show impl_sumOf.l1 (k + 1) x (c : Int) n i (j : Int) = impl_sumOf.l1 k x ((stp c : Nat) : Int) n i ((j + 1 : Nat) : Int)
  rw [impl_sumOf.l1, if_pos (by omega), w, succ_wrap (by omega), and_low _ (by omega)]
  unfold stp
  by_cases hs : c < 32768
  ·rw [if_pos ((and_top c hc).2 hs), if_pos hs]
   have e : c * 2 % 65536 = c * 2 := by omega
   rw [e]
  ·rw [if_neg (fun h => hs ((and_top c hc).1 h)), if_neg hs]
   have e : Go.bits .xor .i64 ((c * 2 % 65536 : Nat) : Int) 4129 = ((c * 2 % 65536 ^^^ 4129 : Nat) : Int) := xor_nat _ 4129 (by omega) (by omega)
   rw [e]
theorem sum_l (x : ByteArray) (hx : x.size ≤ 1000000000000000) : ∀ d i : Nat, i + d = x.size → ∀ c : Nat, c < 65536 →
  ∃ r : Nat, r < 65536 ∧ Ev (fun k => spec_l1Sum.l0 k x (c : Int) (i : Int)) (r : Int) ∧ Ev (fun k => impl_sumOf.l0 k x (c : Int) (x.size : Int) (i : Int)) (r : Int)
 | 0, i, hd => fun c hc => ⟨c, hc, Ev.step (f := fun _ => some (c : Int)) (fun k => by rw [spec_l1Sum.l0, if_neg (by omega)]) (Ev.now _), Ev.step (f := fun _ => some (c : Int)) (fun k => by rw [impl_sumOf.l0, if_neg (by omega)]) (Ev.now _)⟩
 | d + 1, i, hd => fun c hc => by
  obtain ⟨b, hb, hb2⟩ := bt_bd x (i : Int)
  have w1 : wrap64 (b : Int) = (b : Int) := wrap_id (by omega) (by omega)
  have w2 : wrap64 ((b : Int) * 256) = ((b * 256 : Nat) : Int) := by
   rw [wrap_id (by omega) (by omega)]
   omega
  have hx2 : c ^^^ b * 256 < 65536 := Nat.xor_lt_two_pow (n := 16) (by omega) (by omega)
  have e := xor_nat c (b * 256) (by omega) (by omega)
  obtain ⟨r, hr, h1, h2⟩ := sum_l x hx d (i + 1) (by omega) (stps 8 (c ^^^ b * 256)) (stps_lt 8 _ hx2)
  refine ⟨r, hr, ?_, ?_⟩
  ·refine Ev.step (fun k => ?_) (sSum_in x (i : Int) (r : Int) 8 0 rfl _ hx2 ?_)
   ·show spec_l1Sum.l0 (k + 1) x (c : Int) (i : Int) = spec_l1Sum.l1 k x ((c ^^^ b * 256 : Nat) : Int) (i : Int) 0
    rw [spec_l1Sum.l0, if_pos (by omega), if_pos (by omega), hb, w1, w2, e]
   ·rw [succ_wrap (by omega)]
    exact h1
  ·refine Ev.step (fun k => ?_) (iSum_in x (x.size : Int) (i : Int) (r : Int) 8 0 rfl _ hx2 ?_)
   ·show impl_sumOf.l0 (k + 1) x (c : Int) (x.size : Int) (i : Int) = impl_sumOf.l1 k x ((c ^^^ b * 256 : Nat) : Int) (x.size : Int) (i : Int) 0
    rw [impl_sumOf.l0, if_pos (by omega), if_pos (by omega), if_pos (by omega), hb, w1, w2, e]
   ·rw [succ_wrap (by omega)]
    exact h2
theorem sum_ev (x : ByteArray) (hx : x.size ≤ 1000000000000000) : ∃ r : Nat, r < 65536 ∧ Ev (fun k => spec_l1Sum.f k x) (r : Int) ∧ Ev (fun k => impl_sumOf.f k x) (r : Int) :=
 sum_l x hx x.size 0 (by omega) 65535 (by omega)

theorem st_nat (l : List ByteArray) (i : Nat) : rdOf ByteArray.empty l (i : Int) = l.getD i ByteArray.empty := rfl

theorem ixS_iff (q : Nat → Bool) : ∀ d i, (0 ≤ ixS q i d) ↔ ∃ j, i ≤ j ∧ j < i + d ∧ q j = true
 | 0, i => by
  rw [ixS]
  exact ⟨fun h => by omega, fun ⟨j, h1, h2, _⟩ => by omega⟩
 | d + 1, i => by
  rw [ixS]
  by_cases h : q i = true
  ·rw [if_pos h]
   exact ⟨fun _ => ⟨i, Nat.le_refl _, by omega, h⟩, fun _ => by omega⟩
  ·rw [if_neg h, ixS_iff q d (i + 1)]
   refine ⟨fun ⟨j, h1, h2, h3⟩ => ⟨j, by omega, by omega, h3⟩, fun ⟨j, h1, h2, h3⟩ => ⟨j, ?_, by omega, h3⟩⟩
   by_cases e : j = i
   ·rw [e] at h3
    exact absurd h3 h
   ·omega
def GB (o e p s : Int) (l : List ByteArray) : Prop :=
 (∀ j, j < l.length → (l.getD j ByteArray.empty).size ≤ 20) ∧ (0 ≤ o ∧ o ≤ 100000) ∧ (0 ≤ e ∧ e ≤ 1000) ∧ (0 ≤ p ∧ p ≤ 65535) ∧ (0 ≤ s ∧ s ≤ 65535) ∧ (1 ≤ (l.length : Int) ∧ (l.length : Int) ≤ 8)
theorem sGB_l (o e p s : Int) (l : List ByteArray) (hl : l.length ≤ 1048576) : ∀ d i : Nat, i + d = l.length →
  EvB (fun k => spec_GoodBatch.l0 k l (l.length : Int) (i : Int) o e p s l) ((∀ j, i ≤ j → j < l.length → (l.getD j ByteArray.empty).size ≤ 20) ∧ (0 ≤ o ∧ o ≤ 100000) ∧ (0 ≤ e ∧ e ≤ 1000) ∧ (0 ≤ p ∧ p ≤ 65535) ∧ (0 ≤ s ∧ s ≤ 65535) ∧ (1 ≤ (l.length : Int) ∧ (l.length : Int) ≤ 8))
 | 0, i, hd => by
  refine EvB.step (f := fun _ => if decide ((0 : Int) ≤ o ∧ o ≤ 100000) = true then (if decide ((0 : Int) ≤ e ∧ e ≤ 1000) = true then (if decide ((0 : Int) ≤ p ∧ p ≤ 65535) = true then (if decide ((0 : Int) ≤ s ∧ s ≤ 65535) = true then some (decide (1 ≤ (l.length : Int) ∧ (l.length : Int) ≤ 8)) else some false) else some false) else some false) else some false) (fun k => ?_) ?_
  ·rw [spec_GoodBatch.l0, if_neg (by omega)]
   simp only [sin, Option.bind_some]
  ·refine EvB.iff (EvB.and (EvB.and (EvB.and (EvB.and EvB.dec)))) ⟨fun h => ⟨fun j h1 h2 => by omega, h⟩, fun h => h.2⟩
 | d + 1, i, hd => by
  by_cases hz : ((l.getD i ByteArray.empty).size : Int) > 20
  ·refine EvB.no (fun k => ?_) (fun h => ?_)
   ·rw [spec_GoodBatch.l0, if_pos (by omega), if_pos (by omega), if_pos (by omega), st_nat, if_pos hz]
   ·have := h.1 i (Nat.le_refl _) (by omega)
    omega
  ·refine EvB.step (fun k => ?_) (EvB.iff (sGB_l o e p s l hl d (i + 1) (by omega)) ?_)
   ·show spec_GoodBatch.l0 (k + 1) l (l.length : Int) (i : Int) o e p s l = spec_GoodBatch.l0 k l (l.length : Int) ((i + 1 : Nat) : Int) o e p s l
    rw [spec_GoodBatch.l0, if_pos (by omega), if_pos (by omega), if_pos (by omega), st_nat, if_neg hz, succ_wrap (by omega)]
   ·refine and_congr_left fun _ => ⟨fun h j h1 h2 => ?_, fun h j h1 h2 => h j (by omega) h2⟩
    by_cases e : j = i
    ·rw [e]
     omega
    ·exact h j (by omega) h2
theorem sGB_ev (o e p s : Int) (l : List ByteArray) (hl : l.length ≤ 1048576) : EvB (fun k => spec_GoodBatch.f k o e p s l) (GB o e p s l) := by
 have h := sGB_l o e p s l hl l.length 0 (by omega)
 exact h.iff ⟨fun h => ⟨fun j hj => h.1 j (Nat.zero_le _) hj, h.2⟩, fun h => ⟨fun j _ hj => h.1 j hj, h.2⟩⟩
theorem iGB_ev (o e p s : Int) (l : List ByteArray) : EvB (fun _ => impl_isBatch.f o e p s l) (GB o e p s l) := by
 have hq : ∀ j, impl_areRecords.q l j = true ↔ ¬ (l.getD j ByteArray.empty).size ≤ 20 := fun j => by
  unfold impl_areRecords.q
  rw [decide_eq_true_iff, st_nat]
  omega
 have ha : EvB (fun _ : Nat => impl_areRecords.f l) ((1 ≤ (l.length : Int) ∧ (l.length : Int) ≤ 8) ∧ ∀ j, j < l.length → (l.getD j ByteArray.empty).size ≤ 20) := by
  unfold impl_areRecords.f
  simp only [iin, Option.bind_some]
  refine EvB.and ⟨_, Ev.now _, ?_⟩
  rw [Bool.not_eq_true', decide_eq_false_iff_not, ixS_iff]
  refine ⟨fun h j hj => ?_, fun h ⟨j, h1, h2, h3⟩ => (hq j).1 h3 (h j (by omega))⟩
  by_cases hz : (l.getD j ByteArray.empty).size ≤ 20
  ·exact hz
  ·exact absurd ⟨j, Nat.zero_le _, by omega, (hq j).2 hz⟩ h
 obtain ⟨b, hb, hbq⟩ := ha
 have hb' : impl_areRecords.f l = some b := by
  obtain ⟨K, hK⟩ := hb
  exact hK K (Nat.le_refl _)
 unfold impl_isBatch.f
 simp only [iin, Option.bind_some, hb']
 refine EvB.iff (EvB.and (EvB.and (EvB.and (EvB.and ⟨b, Ev.now _, hbq⟩)))) ?_
 unfold GB
 constructor
 ·rintro ⟨h1, h2, h3, h4, h5, h6⟩
  exact ⟨h6, h1, h2, h3, h4, h5⟩
 ·rintro ⟨h6, h1, h2, h3, h4, h5⟩
  exact ⟨h1, h2, h3, h4, h5, h6⟩

def bytF : Nat → Int → List Int → List Int
 | 0, _, x => x
 | d + 1, v, x => bytF d (v / 256) (x.set d (v % 256))
theorem bytF_len : ∀ (d : Nat) (v : Int) (x : List Int), (bytF d v x).length = x.length
 | 0, _, _ => rfl
 | d + 1, v, x => by rw [bytF, bytF_len d, List.length_set]
def byt (v : Int) (n : Nat) : ByteArray := strOfNums (bytF n v (List.replicate n 0))
theorem byt_size (v : Int) (n : Nat) : (byt v n).size = n := by
 unfold byt
 rw [strOfNums_size, bytF_len, List.length_replicate]
theorem sByt_l : ∀ (d : Nat) (v : Int) (x : List Int), d ≤ x.length → d ≤ 1000 → Ev (fun k => spec_l1Bytes.l0 k v x ((d : Int) - 1)) (strOfNums (bytF d v x))
 | 0, v, x, _, _ => Ev.step (f := fun _ => some (strOfNums x)) (fun k => by rw [spec_l1Bytes.l0, if_neg (by omega)]) (Ev.now _)
 | d + 1, v, x, h, h2 => by
  refine Ev.step (fun k => ?_) (sByt_l d (v / 256) (x.set d (v % 256)) (by rw [List.length_set]; omega) (by omega))
  have e : ((d + 1 : Nat) : Int) - 1 = (d : Int) := by omega
  show spec_l1Bytes.l0 (k + 1) v x (((d + 1 : Nat) : Int) - 1) = spec_l1Bytes.l0 k (v / 256) (x.set d (v % 256)) ((d : Int) - 1)
  rw [e, spec_l1Bytes.l0, if_pos (by omega), if_pos (by omega), if_pos (by omega), wrap_id (by omega) (by omega), tn_nat]
theorem iByt_l : ∀ (d : Nat) (v : Int) (x : List Int), d ≤ x.length → d ≤ 1000 → Ev (fun k => impl_put.l0 k v x ((d : Int) - 1)) (strOfNums (bytF d v x))
 | 0, v, x, _, _ => Ev.step (f := fun _ => some (strOfNums x)) (fun k => by rw [impl_put.l0, if_neg (by omega)]) (Ev.now _)
 | d + 1, v, x, h, h2 => by
  refine Ev.step (fun k => ?_) (iByt_l d (v / 256) (x.set d (v % 256)) (by rw [List.length_set]; omega) (by omega))
  have e : ((d + 1 : Nat) : Int) - 1 = (d : Int) := by omega
  show impl_put.l0 (k + 1) v x (((d + 1 : Nat) : Int) - 1) = impl_put.l0 k (v / 256) (x.set d (v % 256)) ((d : Int) - 1)
  rw [e, impl_put.l0, if_pos (by omega), if_pos (by omega), if_pos (by omega), wrap_id (by omega) (by omega), tn_nat]
theorem sByt_ev (v : Int) (n : Nat) (hn : n ≤ 1000) : Ev (fun k => spec_l1Bytes.f k v (n : Int)) (byt v n) := by
 unfold spec_l1Bytes.f
 rw [tn_nat, wrap_id (by omega) (by omega)]
 exact Ev.ifp (by omega) (Ev.ifp (by omega) (sByt_l n v _ (by rw [List.length_replicate]; omega) hn))
theorem iByt_ev (v : Int) (n : Nat) (hn : n ≤ 1000) : Ev (fun k => impl_put.f k v (n : Int)) (byt v n) := by
 unfold impl_put.f
 rw [tn_nat, wrap_id (by omega) (by omega)]
 exact Ev.ifp (by omega) (Ev.ifp (by omega) (iByt_l n v _ (by rw [List.length_replicate]; omega) hn))
open Classical in
noncomputable def sm (x : ByteArray) : Nat := if h : x.size ≤ 1000000000000000 then Classical.choose (sum_ev x h) else 0
theorem sm_ev (x : ByteArray) (h : x.size ≤ 1000000000000000) : Ev (fun k => spec_l1Sum.f k x) (sm x : Int) ∧ Ev (fun k => impl_sumOf.f k x) (sm x : Int) := by
 unfold sm
 rw [dif_pos h]
 exact (Classical.choose_spec (sum_ev x h)).2
def rcs : List ByteArray → ByteArray → ByteArray
 | [], b => b
 | x :: xs, b => rcs xs (b ++ (byt (x.size : Int) 1 ++ x))
def rcl : List ByteArray → Nat
 | [] => 0
 | x :: xs => 1 + x.size + rcl xs
theorem rcs_size : ∀ (l : List ByteArray) (b : ByteArray), (rcs l b).size = b.size + rcl l
 | [], b => rfl
 | x :: xs, b => by
  rw [rcs, rcs_size xs, rcl, ByteArray.size_append, ByteArray.size_append, byt_size]
  omega
noncomputable def fin (b : ByteArray) : ByteArray := (byt ((b.size + 2 : Nat) : Int) 2 ++ b) ++ byt (sm (byt ((b.size + 2 : Nat) : Int) 2 ++ b) : Int) 2
theorem fin_size (b : ByteArray) : (fin b).size = b.size + 4 := by
 unfold fin
 rw [ByteArray.size_append, ByteArray.size_append, byt_size, byt_size]
 omega
def hdr (o e p s : Int) (n : Nat) : ByteArray := (((byt o 3 ++ byt e 2) ++ byt p 2) ++ byt s 2) ++ byt (n : Int) 1
theorem hdr_size (o e p s : Int) (n : Nat) : (hdr o e p s n).size = 10 := by
 unfold hdr
 simp only [ByteArray.size_append, byt_size]
noncomputable def bb (o e p s : Int) (l : List ByteArray) : ByteArray := fin (rcs l (hdr o e p s l.length))
theorem bb_size (o e p s : Int) (l : List ByteArray) : (bb o e p s l).size = 14 + rcl l := by
 unfold bb
 rw [fin_size, rcs_size, hdr_size]
 omega
theorem sfin_ev (b : ByteArray) (hb : b.size ≤ 100000000) : Ev (fun k => (spec_l1Bytes.f k (wrap64 ((b.size : Int) + 2)) 2).bind fun t139 => (if t139.size + b.size ≤ 9223372036854775807 then ((spec_l1Sum.f k (t139 ++ b)).bind fun t140 => ((spec_l1Bytes.f k t140 2).bind fun t141 => (if (t139 ++ b).size + t141.size ≤ 9223372036854775807 then (some ((t139 ++ b) ++ t141)) else (none)))) else (none))) (fin b) := by
 have w : wrap64 ((b.size : Int) + 2) = ((b.size + 2 : Nat) : Int) := by
  rw [wrap_id (by omega) (by omega)]
  omega
 have hz : (byt ((b.size + 2 : Nat) : Int) 2 ++ b).size = 2 + b.size := by rw [ByteArray.size_append, byt_size]
 rw [w]
 refine Ev.bind (sByt_ev _ 2 (by omega)) (Ev.ifp (by rw [byt_size]; omega) (Ev.bind (sm_ev _ (by omega)).1 (Ev.bind (sByt_ev _ 2 (by omega)) (Ev.ifp (by rw [hz, byt_size]; omega) (Ev.now _)))))
theorem ifin_ev (b : ByteArray) (hb : b.size ≤ 100000000) : Ev (fun k => (impl_put.f k (wrap64 ((b.size : Int) + 2)) 2).bind fun t139 => (if t139.size + b.size ≤ 9223372036854775807 then ((impl_sumOf.f k (t139 ++ b)).bind fun t140 => ((impl_put.f k t140 2).bind fun t141 => (if (t139 ++ b).size + t141.size ≤ 9223372036854775807 then (some ((t139 ++ b) ++ t141)) else (none)))) else (none))) (fin b) := by
 have w : wrap64 ((b.size : Int) + 2) = ((b.size + 2 : Nat) : Int) := by
  rw [wrap_id (by omega) (by omega)]
  omega
 have hz : (byt ((b.size + 2 : Nat) : Int) 2 ++ b).size = 2 + b.size := by rw [ByteArray.size_append, byt_size]
 rw [w]
 refine Ev.bind (iByt_ev _ 2 (by omega)) (Ev.ifp (by rw [byt_size]; omega) (Ev.bind (sm_ev _ (by omega)).2 (Ev.bind (iByt_ev _ 2 (by omega)) (Ev.ifp (by rw [hz, byt_size]; omega) (Ev.now _)))))
theorem drop_getD {l : List ByteArray} {i : Nat} (h : i < l.length) : l.drop i = l.getD i ByteArray.empty :: l.drop (i + 1) := by
 rw [List.drop_eq_getElem_cons h, List.getD_eq_getElem?_getD, List.getElem?_eq_getElem h]
 rfl
theorem batch_l (l : List ByteArray) (hl : l.length ≤ 8) (hs : ∀ j, j < l.length → (l.getD j ByteArray.empty).size ≤ 20) : ∀ d i : Nat, i + d = l.length → ∀ b : ByteArray, b.size ≤ 1000 + 21 * i →
  Ev (fun k => spec_l1Batch.l0 k b l (l.length : Int) (i : Int)) (fin (rcs (l.drop i) b)) ∧ Ev (fun k => impl_batchBytes.l0 k b l (l.length : Int) (i : Int)) (fin (rcs (l.drop i) b))
 | 0, i, hd => fun b hb => by
  have e : i = l.length := by omega
  subst e
  rw [List.drop_length, rcs]
  exact ⟨Ev.step (fun k => by rw [spec_l1Batch.l0, if_neg (by omega)]) (sfin_ev b (by omega)), Ev.step (fun k => by rw [impl_batchBytes.l0, if_neg (by omega)]) (ifin_ev b (by omega))⟩
 | d + 1, i, hd => fun b hb => by
  have hz := hs i (by omega)
  have z1 : (byt ((l.getD i ByteArray.empty).size : Int) 1 ++ l.getD i ByteArray.empty).size = 1 + (l.getD i ByteArray.empty).size := by rw [ByteArray.size_append, byt_size]
  obtain ⟨h1, h2⟩ := batch_l l hl hs d (i + 1) (by omega) (b ++ (byt ((l.getD i ByteArray.empty).size : Int) 1 ++ l.getD i ByteArray.empty)) (by rw [ByteArray.size_append, z1]; omega)
  rw [drop_getD (show i < l.length by omega), rcs]
  constructor
  ·refine Ev.step (f := fun k => (spec_l1Bytes.f k ((l.getD i ByteArray.empty).size : Int) 1).bind fun t => (if t.size + (l.getD i ByteArray.empty).size ≤ 9223372036854775807 then (if b.size + (t ++ l.getD i ByteArray.empty).size ≤ 9223372036854775807 then (spec_l1Batch.l0 k (b ++ (t ++ l.getD i ByteArray.empty)) l (l.length : Int) ((i + 1 : Nat) : Int)) else (none)) else (none))) (fun k => ?_) (Ev.bind (sByt_ev _ 1 (by omega)) (Ev.ifp (by rw [byt_size]; omega) (Ev.ifp (by rw [z1]; omega) h1)))
   rw [spec_l1Batch.l0, if_pos (by omega), if_pos (by omega), if_pos (by omega), succ_wrap (by omega)]
   rfl
  ·refine Ev.step (f := fun k => (impl_put.f k ((l.getD i ByteArray.empty).size : Int) 1).bind fun t => (if t.size + (l.getD i ByteArray.empty).size ≤ 9223372036854775807 then (if b.size + (t ++ l.getD i ByteArray.empty).size ≤ 9223372036854775807 then (impl_batchBytes.l0 k (b ++ (t ++ l.getD i ByteArray.empty)) l (l.length : Int) ((i + 1 : Nat) : Int)) else (none)) else (none))) (fun k => ?_) (Ev.bind (iByt_ev _ 1 (by omega)) (Ev.ifp (by rw [byt_size]; omega) (Ev.ifp (by rw [z1]; omega) h2)))
   rw [impl_batchBytes.l0, if_pos (by omega), if_pos (by omega), if_pos (by omega), succ_wrap (by omega)]
   rfl
theorem rcl_le : ∀ (l : List ByteArray), (∀ j, j < l.length → (l.getD j ByteArray.empty).size ≤ 20) → rcl l ≤ 21 * l.length
 | [], _ => Nat.le_refl _
 | x :: xs, h => by
  have h0 : x.size ≤ 20 := h 0 (by simp)
  have h1 := rcl_le xs (fun j hj => h (j + 1) (by simp only [List.length_cons]; omega))
  rw [rcl, List.length_cons]
  omega
theorem batch_ev (o e p s : Int) (l : List ByteArray) (h : GB o e p s l) : Ev (fun k => spec_l1Batch.f k o e p s l) (bb o e p s l) ∧ Ev (fun k => impl_batchBytes.f k o e p s l) (bb o e p s l) := by
 obtain ⟨hs, _, _, _, _, hl⟩ := h
 obtain ⟨h1, h2⟩ := batch_l l (by omega) hs l.length 0 (by omega) (hdr o e p s l.length) (by rw [hdr_size]; omega)
 unfold spec_l1Batch.f impl_batchBytes.f
 constructor
 ·refine Ev.bind (sByt_ev _ 3 (by omega)) (Ev.bind (sByt_ev _ 2 (by omega)) (Ev.ifp ?_ (Ev.bind (sByt_ev _ 2 (by omega)) (Ev.ifp ?_ (Ev.bind (sByt_ev _ 2 (by omega)) (Ev.ifp ?_ (Ev.bind (sByt_ev _ 1 (by omega)) (Ev.ifp ?_ h1))))))))
  all_goals simp only [ByteArray.size_append, byt_size]
  all_goals omega
 ·refine Ev.bind (iByt_ev _ 3 (by omega)) (Ev.bind (iByt_ev _ 2 (by omega)) (Ev.ifp ?_ (Ev.bind (iByt_ev _ 2 (by omega)) (Ev.ifp ?_ (Ev.bind (iByt_ev _ 2 (by omega)) (Ev.ifp ?_ (Ev.bind (iByt_ev _ 1 (by omega)) (Ev.ifp ?_ h2))))))))
  all_goals simp only [ByteArray.size_append, byt_size]
  all_goals omega

def byN (s : ByteArray) (i : Nat) : Nat := (bt s (i : Int)).toNat
theorem bt_byN (s : ByteArray) (i : Nat) : bt s (i : Int) = (byN s i : Int) := by
 obtain ⟨b, hb, _⟩ := bt_bd s (i : Int)
 unfold byN
 rw [hb]
 rfl
theorem byN_le (s : ByteArray) (i : Nat) : byN s i ≤ 255 := by
 obtain ⟨b, hb, h⟩ := bt_bd s (i : Int)
 unfold byN
 rw [hb]
 exact h
theorem byN_get (s : ByteArray) (i : Nat) (h : i < s.size) : byN s i = (s[i]'h).toNat := by
 unfold byN bt
 rw [dif_pos (show ((i : Int)).toNat < s.size from h)]
 rfl
theorem byN_ext (s : ByteArray) (a b i : Nat) (h : a + i < b) (hb : b ≤ s.size) : byN (s.extract a b) i = byN s (a + i) := by
 have h1 : i < (s.extract a b).size := by
  rw [ByteArray.size_extract]
  omega
 rw [byN_get _ _ h1, byN_get _ _ (show a + i < s.size by omega), ByteArray.getElem_extract]
theorem byN_app (x y : ByteArray) (i : Nat) (h : i < x.size) : byN (x ++ y) i = byN x i := by
 have h1 : i < (x ++ y).size := by
  rw [ByteArray.size_append]
  omega
 rw [byN_get _ _ h1, byN_get _ _ h, ByteArray.getElem_append_left h]
def valF (s : ByteArray) : Nat → Nat → Nat → Nat
 | 0, _, v => v
 | d + 1, i, v => valF s d (i + 1) (v * 256 + byN s i)
def val (s : ByteArray) : Nat := valF s s.size 0 0
theorem or256 (s : ByteArray) (v i : Nat) (hv : v < 4294967296) : Go.bits .or .i64 (wrap64 ((v : Int) * 256)) (wrap64 (bt s (i : Int))) = ((v * 256 + byN s i : Nat) : Int) := by
 have hb := byN_le s i
 have w1 : wrap64 ((v : Int) * 256) = ((v * 256 : Nat) : Int) := by
  rw [wrap_id (by omega) (by omega)]
  omega
 have w2 : wrap64 (bt s (i : Int)) = ((byN s i : Nat) : Int) := by
  rw [bt_byN]
  exact wrap_id (by omega) (by omega)
 rw [w1, w2, (bits_nat .i64 62 (by decide) wr64 (v * 256) (byN s i) (by omega) (by omega)).2]
 have := Nat.two_pow_add_eq_or_of_lt (i := 8) (b := byN s i) (by omega) v
 have e : 2 ^ 8 * v = v * 256 := by omega
 rw [e] at this
 rw [this]
theorem step_lt (s : ByteArray) (v i : Nat) (h : v < 256 ^ i) : v * 256 + byN s i < 256 ^ (i + 1) := by
 have := byN_le s i
 rw [Nat.pow_succ]
 omega
theorem pow_le4 {i : Nat} (h : i ≤ 4) : 256 ^ i ≤ 4294967296 := Nat.le_trans (Nat.pow_le_pow_right (by decide) h) (by decide)
theorem sVal_l (s : ByteArray) (hs : s.size ≤ 4) : ∀ d i v : Nat, i + d = s.size → v < 256 ^ i → Ev (fun k => spec_l1Value.l0 k s (v : Int) (i : Int)) (valF s d i v : Int)
 | 0, i, v, hd, hv => Ev.step (f := fun _ => some (v : Int)) (fun k => by rw [spec_l1Value.l0, if_neg (by omega)]) (Ev.now _)
 | d + 1, i, v, hd, hv => by
  refine Ev.step (fun k => ?_) (sVal_l s hs d (i + 1) (v * 256 + byN s i) (by omega) (step_lt s v i hv))
  show spec_l1Value.l0 (k + 1) s (v : Int) (i : Int) = spec_l1Value.l0 k s ((v * 256 + byN s i : Nat) : Int) ((i + 1 : Nat) : Int)
  rw [spec_l1Value.l0, if_pos (by omega), if_pos (by omega), or256 s v i (Nat.lt_of_lt_of_le hv (pow_le4 (by omega))), succ_wrap (by omega)]
theorem iVal_l (s : ByteArray) (hs : s.size ≤ 4) : ∀ d i v : Nat, i + d = s.size → v < 256 ^ i → Ev (fun k => impl_get.l0 k s (v : Int) (s.size : Int) (i : Int)) (valF s d i v : Int)
 | 0, i, v, hd, hv => Ev.step (f := fun _ => some (v : Int)) (fun k => by rw [impl_get.l0, if_neg (by omega)]) (Ev.now _)
 | d + 1, i, v, hd, hv => by
  refine Ev.step (fun k => ?_) (iVal_l s hs d (i + 1) (v * 256 + byN s i) (by omega) (step_lt s v i hv))
  show impl_get.l0 (k + 1) s (v : Int) (s.size : Int) (i : Int) = impl_get.l0 k s ((v * 256 + byN s i : Nat) : Int) (s.size : Int) ((i + 1 : Nat) : Int)
  rw [impl_get.l0, if_pos (by omega), if_pos (by omega), if_pos (by omega), or256 s v i (Nat.lt_of_lt_of_le hv (pow_le4 (by omega))), succ_wrap (by omega)]
theorem sVal_ev (s : ByteArray) (hs : s.size ≤ 4) : Ev (fun k => spec_l1Value.f k s) (val s : Int) := sVal_l s hs s.size 0 0 (by omega) (by decide)
theorem iVal_ev (s : ByteArray) (hs : s.size ≤ 4) : Ev (fun k => impl_get.f k s) (val s : Int) := iVal_l s hs s.size 0 0 (by omega) (by decide)
theorem val1 (s : ByteArray) (a : Nat) (h : a + 1 ≤ s.size) : val (s.extract a (a + 1)) = byN s a := by
 unfold val
 have e : (s.extract a (a + 1)).size = 1 := by
  rw [ByteArray.size_extract]
  omega
 rw [e, valF, valF, byN_ext s a (a + 1) 0 (by omega) h, Nat.add_zero]
 omega
theorem val2 (s : ByteArray) (a : Nat) (h : a + 2 ≤ s.size) : val (s.extract a (a + 2)) = byN s a * 256 + byN s (a + 1) := by
 unfold val
 have e : (s.extract a (a + 2)).size = 2 := by
  rw [ByteArray.size_extract]
  omega
 rw [e, valF, valF, valF, byN_ext s a (a + 2) 0 (by omega) h, byN_ext s a (a + 2) (0 + 1) (by omega) h, Nat.add_zero]
 simp
theorem byt2 (v : Nat) (h : v < 65536) : byN (byt (v : Int) 2) 0 * 256 + byN (byt (v : Int) 2) 1 = v := by
 have e : byt (v : Int) 2 = strOfNums [((v / 256 % 256 : Nat) : Int), ((v % 256 : Nat) : Int)] := by
  have e1 : ((v / 256 % 256 : Nat) : Int) = (v : Int) / 256 % 256 := by omega
  have e2 : ((v % 256 : Nat) : Int) = (v : Int) % 256 := by omega
  rw [e1, e2]
  rfl
 have h0 : byN (strOfNums [((v / 256 % 256 : Nat) : Int), ((v % 256 : Nat) : Int)]) 0 = v / 256 % 256 % 256 := by
  rw [byN_get _ 0 (by rw [strOfNums_size]; simp)]
  show (UInt8.ofNat (v / 256 % 256)).toNat = _
  rw [UInt8.toNat_ofNat']
 have h1 : byN (strOfNums [((v / 256 % 256 : Nat) : Int), ((v % 256 : Nat) : Int)]) 1 = v % 256 % 256 := by
  rw [byN_get _ 1 (by rw [strOfNums_size]; simp)]
  show (UInt8.ofNat (v % 256)).toNat = _
  rw [UInt8.toNat_ofNat']
 rw [e, h0, h1]
 omega
theorem tl_inj {x y : ByteArray} : x.toList = y.toList ↔ x = y := by
 refine ⟨fun h => ?_, fun h => by rw [h]⟩
 rw [ByteArray.toList_eq, ByteArray.toList_eq] at h
 exact ByteArray.ext (Array.toList_inj.1 h)
def prs (s : ByteArray) (y : Nat) : Nat → Nat → List ByteArray → Option (List ByteArray × Nat)
 | 0, q, l => some (l, q)
 | c + 1, q, l => if q < y ∧ q + 1 + byN s q ≤ y then prs s y c (q + 1 + byN s q) (l ++ [s.extract (q + 1) (q + 1 + byN s q)]) else none
theorem rcl_app (l : List ByteArray) (x : ByteArray) : rcl (l ++ [x]) = rcl l + 1 + x.size := by
 induction l with
 | nil =>
  rw [List.nil_append, rcl, rcl, rcl]
  omega
 | cons z zs ih =>
  rw [List.cons_append, rcl, rcl, ih]
  omega
theorem prs_inv (s : ByteArray) (y : Nat) (hy : y ≤ s.size) : ∀ (c q : Nat) (l r : List ByteArray) (e : Nat), prs s y c q l = some (r, e) → q ≤ e ∧ (0 < c → e ≤ y) ∧ rcl r + q = rcl l + e ∧ r.length = l.length + c
 | 0, q, l, r, e, h => by
  rw [prs] at h
  obtain ⟨rfl, rfl⟩ := Prod.mk.inj (Option.some.inj h)
  exact ⟨Nat.le_refl _, fun h => absurd h (by omega), rfl, rfl⟩
 | c + 1, q, l, r, e, h => by
  rw [prs] at h
  by_cases hc : q < y ∧ q + 1 + byN s q ≤ y
  ·rw [if_pos hc] at h
   obtain ⟨h1, h2, h3, h4⟩ := prs_inv s y hy c _ _ r e h
   have hz : (s.extract (q + 1) (q + 1 + byN s q)).size = byN s q := by
    rw [ByteArray.size_extract]
    omega
   rw [rcl_app, hz] at h3
   rw [List.length_append] at h4
   simp only [List.length_cons, List.length_nil] at h4
   refine ⟨by omega, fun _ => ?_, by omega, by omega⟩
   by_cases hc0 : 0 < c
   ·exact h2 hc0
   ·have : c = 0 := by omega
    subst this
    rw [prs] at h
    obtain ⟨_, rfl⟩ := Prod.mk.inj (Option.some.inj h)
    exact hc.2
  ·rw [if_neg hc] at h
   cases h
theorem prs_mono (s : ByteArray) (y y' : Nat) : ∀ (c q : Nat) (l r : List ByteArray) (e : Nat), prs s y c q l = some (r, e) → e ≤ y' → y ≤ s.size → prs s y' c q l = some (r, e)
 | 0, q, l, r, e, h, _, _ => h
 | c + 1, q, l, r, e, h, he, hy => by
  rw [prs] at h
  by_cases hc : q < y ∧ q + 1 + byN s q ≤ y
  ·rw [if_pos hc] at h
   have hq := (prs_inv s y hy c _ _ r e h).1
   rw [prs, if_pos ⟨by omega, by omega⟩]
   exact prs_mono s y y' c _ _ r e h he hy
  ·rw [if_neg hc] at h
   cases h
abbrev TR := Int × Int × Int × Int × List ByteArray × Int
def zS : TR := (0, 0, 0, 0, [], 0)
def zI : Int × Int × Int × Int × List ByteArray × Int × Bool := (0, 0, 0, 0, [], 0, false)
theorem wr_add (a j : Nat) (h : a ≤ 100000000) (hj : j ≤ 100000000) : wrap64 ((a : Int) + (j : Int)) = ((a + j : Nat) : Int) := by
 rw [wrap_id (by omega) (by omega)]
 omega
theorem wr_sub1 (y q : Nat) (hy : y ≤ 100000000) (hq : q ≤ 100000000) : wrap64 (wrap64 ((y : Int) - (q : Int)) - 1) = (y : Int) - (q : Int) - 1 := by
 rw [wrap_id (x := (y : Int) - (q : Int)) (by omega) (by omega), wrap_id (by omega) (by omega)]
theorem wr_add1 (q b : Nat) (hq : q ≤ 100000000) (hb : b ≤ 100000000) : wrap64 ((q : Int) + wrap64 (1 + (b : Int))) = ((q + 1 + b : Nat) : Int) := by
 rw [wrap_id (x := 1 + (b : Int)) (by omega) (by omega), wrap_id (by omega) (by omega)]
 omega
theorem wr_add2 (a q : Nat) (ha : a ≤ 100000000) (hq : q ≤ 100000000) : wrap64 (wrap64 ((a : Int) + (q : Int)) + 2) = ((a + q + 2 : Nat) : Int) := by
 rw [wrap_id (x := (a : Int) + (q : Int)) (by omega) (by omega), wrap_id (by omega) (by omega)]
 omega
theorem wr_less (c : Nat) (h : c ≤ 100000000) : wrap64 (((c + 1 : Nat) : Int) - 1) = (c : Int) := by
 rw [wrap_id (by omega) (by omega)]
 omega
theorem wr_bt (x : ByteArray) (q : Nat) : wrap64 (bt x (q : Int)) = ((byN x q : Nat) : Int) := by
 have hbl := byN_le x q
 rw [bt_byN]
 exact wrap_id (by omega) (by omega)
open Classical in
noncomputable def finS (x : ByteArray) (a y : Nat) (o e p s : Int) (l : List ByteArray) : TR :=
 if GB o e p s l ∧ bb o e p s l = x.extract a y then (o, e, p, s, l, (y : Int)) else zS
open Classical in
noncomputable def finI (x : ByteArray) (a : Nat) (o e p s : Int) (l : List ByteArray) (q : Nat) : Int × Int × Int × Int × List ByteArray × Int × Bool :=
 if GB o e p s l ∧ a + (bb o e p s l).size ≤ x.size ∧ x.extract a (a + (bb o e p s l).size) = bb o e p s l then (o, e, p, s, l, ((q + 2 : Nat) : Int), true) else zI
theorem finS_pos (x : ByteArray) (a y : Nat) (o e p s : Int) (l : List ByteArray) (h1 : GB o e p s l) (h2 : bb o e p s l = x.extract a y) : finS x a y o e p s l = (o, e, p, s, l, (y : Int)) := by
 unfold finS
 exact if_pos ⟨h1, h2⟩
theorem finS_neg (x : ByteArray) (a y : Nat) (o e p s : Int) (l : List ByteArray) (h : ¬ (GB o e p s l ∧ bb o e p s l = x.extract a y)) : finS x a y o e p s l = zS := by
 unfold finS
 exact if_neg h
theorem finI_pos (x : ByteArray) (a : Nat) (o e p s : Int) (l : List ByteArray) (q : Nat) (h : GB o e p s l ∧ a + (bb o e p s l).size ≤ x.size ∧ x.extract a (a + (bb o e p s l).size) = bb o e p s l) : finI x a o e p s l q = (o, e, p, s, l, ((q + 2 : Nat) : Int), true) := by
 unfold finI
 exact if_pos h
theorem finI_neg (x : ByteArray) (a : Nat) (o e p s : Int) (l : List ByteArray) (q : Nat) (h : ¬ (GB o e p s l ∧ a + (bb o e p s l).size ≤ x.size ∧ x.extract a (a + (bb o e p s l).size) = bb o e p s l)) : finI x a o e p s l q = zI := by
 unfold finI
 exact if_neg h
set_option maxHeartbeats 4000000 in
theorem sTake_l (x : ByteArray) (hx : x.size ≤ 3000000) (a y : Nat) (hay : a ≤ y) (hy : y ≤ x.size) (o e p s : Int) : ∀ (c q : Nat) (l : List ByteArray), l.length + c ≤ 1000 → q ≤ 9000000 →
  Ev (fun k => spec_l1Take.l0 k x (a : Int) (y : Int) (q : Int) (c : Int) o e p s l) ((prs x y c q l).elim zS fun r => finS x a y o e p s r.1)
 | 0, q, l, hl, hq => by
  rw [prs]
  show Ev _ (finS x a y o e p s l)
  obtain ⟨b, hb, hg⟩ := sGB_ev o e p s l (by omega)
  refine Ev.step (f := fun k => (spec_GoodBatch.f k o e p s l).bind fun t138 => (if t138 = true then ((spec_l1Batch.f k o e p s l).bind fun t139 => (if t139.toList = (x.extract a y).toList then (some (o, e, p, s, l, (y : Int))) else (some (0, 0, 0, 0, ([] : List ByteArray), 0)))) else (some (0, 0, 0, 0, ([] : List ByteArray), 0)))) (fun k => ?_) (Ev.bind hb ?_)
  ·rw [spec_l1Take.l0, if_neg (by omega)]
   refine congrArg _ (funext fun t => ?_)
   refine ite_congr rfl (fun _ => ?_) (fun _ => rfl)
   refine congrArg _ (funext fun t => ?_)
   rw [if_pos (by omega), if_pos (by omega), if_pos (by omega), tn_nat, tn_nat]
  ·cases b with
   | false =>
    rw [finS_neg x a y o e p s l (fun h => absurd (hg.2 h.1) (by decide))]
    exact Ev.ifn (by decide) (Ev.now _)
   | true =>
    refine Ev.ifp rfl (Ev.bind (batch_ev o e p s l (hg.1 rfl)).1 ?_)
    by_cases h : bb o e p s l = x.extract a y
    ·rw [finS_pos x a y o e p s l (hg.1 rfl) h]
     exact Ev.ifp (by rw [h]) (Ev.now _)
    ·rw [finS_neg x a y o e p s l (fun h' => h h'.2)]
     exact Ev.ifn (fun h' => h (tl_inj.1 h')) (Ev.now _)
 | c + 1, q, l, hl, hq => by
  have hbl := byN_le x q
  rw [prs]
  by_cases h1 : q < y
  ·by_cases h2 : q + 1 + byN x q ≤ y
   ·rw [if_pos ⟨h1, h2⟩]
    refine Ev.step (fun k => ?_) (sTake_l x hx a y hay hy o e p s c (q + 1 + byN x q) (l ++ [x.extract (q + 1) (q + 1 + byN x q)]) (by rw [List.length_append]; simp only [List.length_cons, List.length_nil]; omega) (by omega))
    rw [spec_l1Take.l0, wr_bt x q, wr_sub1 y q (by omega) (by omega), succ_wrap (show q ≤ 9000000000000000000 by omega), wr_add (q + 1) (byN x q) (by omega) (by omega), wr_add1 q (byN x q) (by omega) (by omega), wr_less c (by omega), if_pos (by omega), if_neg (by omega), if_pos (by omega), if_pos (by omega), if_neg (by omega), if_pos (by omega), if_pos (by omega), if_pos (by omega), if_pos (by omega), tn_nat, tn_nat]
   ·rw [if_neg (fun h => h2 h.2)]
    refine Ev.step (f := fun _ => some zS) (fun k => ?_) (Ev.now _)
    rw [spec_l1Take.l0, wr_bt x q, wr_sub1 y q (by omega) (by omega), if_pos (by omega), if_neg (by omega), if_pos (by omega), if_pos (by omega), if_pos (by omega)]
    rfl
  ·rw [if_neg (fun h => h1 h.1)]
   refine Ev.step (f := fun _ => some zS) (fun k => ?_) (Ev.now _)
   rw [spec_l1Take.l0, if_pos (by omega), if_pos (by omega)]
   rfl
theorem ext2 (x : ByteArray) (a i j : Nat) (h : a + j ≤ x.size) : (x.extract a x.size).extract i j = x.extract (a + i) (a + j) := by
 rw [ByteArray.extract_extract, Nat.min_eq_left h]
theorem HP_eq (x t : ByteArray) (hx : x.size ≤ 3000000) (ht : t.size ≤ 100000000) : strings_HasPrefix.f x t = some (decide (t.size ≤ x.size ∧ x.extract 0 t.size = t)) := by
 unfold strings_HasPrefix.f stringslite_HasPrefix.f
 by_cases h : t.size ≤ x.size
 ·rw [if_pos (by omega), if_pos (by omega), if_pos (by omega), tn_nat, Option.bind_some]
  refine congrArg some ?_
  refine Bool.eq_iff_iff.2 ?_
  rw [beq_iff_eq, decide_eq_true_iff, tl_inj]
  exact ⟨fun h' => ⟨h, h'⟩, fun h' => h'.2⟩
 ·rw [if_neg (by omega), Option.bind_some, decide_eq_false (fun h' => h h'.1)]
set_option maxHeartbeats 4000000 in
theorem iTake_l (x : ByteArray) (hx : x.size ≤ 3000000) (a : Nat) (ha : a ≤ x.size) (cnt : Nat) (hcnt : cnt ≤ 255) (o e p s : Int) : ∀ (d i q : Nat) (l : List ByteArray), i + d = cnt → l.length + d ≤ 1000 → q ≤ 3000000 →
  Ev (fun k => impl_takeBatch.l0 k (a : Int) (x.extract a x.size) (q : Int) (cnt : Int) (i : Int) o e p s l) ((prs x x.size d (a + q) l).elim zI fun r => finI x a o e p s r.1 r.2)
 | 0, i, q, l, hd, hl, hq => by
  rw [prs]
  show Ev _ (finI x a o e p s l (a + q))
  obtain ⟨b, hb, hg⟩ := iGB_ev o e p s l
  have hsz : (x.extract a x.size).size = x.size - a := by rw [ByteArray.size_extract, Nat.min_self]
  refine Ev.step (f := fun k => (impl_isBatch.f o e p s l).bind fun t184 => (if t184 = true then ((impl_batchBytes.f k o e p s l).bind fun t185 => ((strings_HasPrefix.f (x.extract a x.size) t185).bind fun t186 => (if t186 = true then (some (o, e, p, s, l, ((a + q + 2 : Nat) : Int), true)) else (some (0, 0, 0, 0, ([] : List ByteArray), 0, false))))) else (some (0, 0, 0, 0, ([] : List ByteArray), 0, false)))) (fun k => ?_) (Ev.bind hb ?_)
  ·rw [impl_takeBatch.l0, if_neg (by omega), wr_add2 a q (by omega) (by omega)]
  ·cases b with
   | false =>
    rw [finI_neg x a o e p s l (a + q) (fun h => absurd (hg.2 h.1) (by decide))]
    exact Ev.ifn (by decide) (Ev.now _)
   | true =>
    have hgb := hg.1 rfl
    have hbs : (bb o e p s l).size ≤ 3000000 := by
     have := rcl_le l hgb.1
     have := hgb.2.2.2.2.2
     rw [bb_size]
     omega
    refine Ev.ifp rfl (Ev.bind (batch_ev o e p s l hgb).2 ?_)
    rw [HP_eq _ _ (by omega) (by omega)]
    by_cases h : a + (bb o e p s l).size ≤ x.size ∧ x.extract a (a + (bb o e p s l).size) = bb o e p s l
    ·rw [finI_pos x a o e p s l (a + q) ⟨hgb, h⟩, decide_eq_true (by
      refine ⟨by omega, ?_⟩
      rw [ext2 x a 0 _ h.1]
      exact h.2)]
     exact Ev.bind (Ev.now _) (Ev.ifp rfl (Ev.now _))
    ·rw [finI_neg x a o e p s l (a + q) (fun h' => h h'.2), decide_eq_false (fun h' => h (by
      have h1 : a + (bb o e p s l).size ≤ x.size := by omega
      refine ⟨h1, ?_⟩
      have h2 := h'.2
      rw [ext2 x a 0 _ h1] at h2
      exact h2))]
     exact Ev.bind (Ev.now _) (Ev.ifn (by decide) (Ev.now _))
 | d + 1, i, q, l, hd, hl, hq => by
  have hsz : (x.extract a x.size).size = x.size - a := by rw [ByteArray.size_extract, Nat.min_self]
  have hbl := byN_le x (a + q)
  rw [prs]
  by_cases h1 : a + q < x.size
  ·have hv : val ((x.extract a x.size).extract q (q + 1)) = byN x (a + q) := by
    rw [ext2 x a q (q + 1) (by omega)]
    exact val1 x (a + q) (by omega)
   have hz1 : ((x.extract a x.size).extract q (q + 1)).size ≤ 4 := by
    rw [ByteArray.size_extract]
    omega
   have hget := iVal_ev _ hz1
   rw [hv] at hget
   by_cases h2 : a + q + 1 + byN x (a + q) ≤ x.size
   ·rw [if_pos ⟨h1, h2⟩]
    have ih := iTake_l x hx a ha cnt hcnt o e p s d (i + 1) (q + 1 + byN x (a + q)) (l ++ [x.extract (a + q + 1) (a + q + 1 + byN x (a + q))]) (by omega) (by rw [List.length_append]; simp only [List.length_cons, List.length_nil]; omega) (by omega)
    have ea : a + (q + 1 + byN x (a + q)) = a + q + 1 + byN x (a + q) := by omega
    rw [ea] at ih
    refine Ev.step (f := fun k => (impl_get.f k ((x.extract a x.size).extract q (q + 1))).bind fun t179 => (if (wrap64 (((q + 1 : Nat) : Int) + t179)) > ((x.extract a x.size).size : Int) then (some (0, 0, 0, 0, ([] : List ByteArray), 0, false)) else ((impl_get.f k ((x.extract a x.size).extract q (q + 1))).bind fun t180 => (if (0 : Int) ≤ ((q + 1 : Nat) : Int) then (if ((q + 1 : Nat) : Int) ≤ (wrap64 (((q + 1 : Nat) : Int) + t180)) then (if (wrap64 (((q + 1 : Nat) : Int) + t180)) ≤ ((x.extract a x.size).size : Int) then (if l.length < 8796093022208 then (impl_takeBatch.l0 k (a : Int) (x.extract a x.size) (wrap64 (((q + 1 : Nat) : Int) + t180)) (cnt : Int) ((i + 1 : Nat) : Int) o e p s (l ++ [(x.extract a x.size).extract ((q + 1 : Nat) : Int).toNat ((wrap64 (((q + 1 : Nat) : Int) + t180)) : Int).toNat])) else (none)) else (none)) else (none)) else (none))))) (fun k => ?_) (Ev.bind hget ?_)
    ·rw [impl_takeBatch.l0, succ_wrap (i := q) (by omega), if_pos (by omega), if_neg (by omega), if_pos (by omega), if_pos (by omega), if_pos (by omega), succ_wrap (i := i) (by omega)]
     rfl
    ·refine Ev.ifn (by rw [wr_add (q + 1) (byN x (a + q)) (by omega) (by omega)]; omega) (Ev.bind hget (Ev.ifp (by omega) (Ev.ifp (by rw [wr_add (q + 1) (byN x (a + q)) (by omega) (by omega)]; omega) (Ev.ifp (by rw [wr_add (q + 1) (byN x (a + q)) (by omega) (by omega)]; omega) (Ev.ifp (by omega) ?_)))))
     rw [wr_add (q + 1) (byN x (a + q)) (by omega) (by omega), tn_nat, tn_nat, ext2 x a (q + 1) (q + 1 + byN x (a + q)) (by omega), ea, ← Nat.add_assoc]
     exact ih
   ·rw [if_neg (fun h => h2 h.2)]
    refine Ev.step (f := fun k => (impl_get.f k ((x.extract a x.size).extract q (q + 1))).bind fun t179 => (if (wrap64 (((q + 1 : Nat) : Int) + t179)) > ((x.extract a x.size).size : Int) then (some (0, 0, 0, 0, ([] : List ByteArray), 0, false)) else ((impl_get.f k ((x.extract a x.size).extract q (q + 1))).bind fun t180 => (if (0 : Int) ≤ ((q + 1 : Nat) : Int) then (if ((q + 1 : Nat) : Int) ≤ (wrap64 (((q + 1 : Nat) : Int) + t180)) then (if (wrap64 (((q + 1 : Nat) : Int) + t180)) ≤ ((x.extract a x.size).size : Int) then (if l.length < 8796093022208 then (impl_takeBatch.l0 k (a : Int) (x.extract a x.size) (wrap64 (((q + 1 : Nat) : Int) + t180)) (cnt : Int) ((i + 1 : Nat) : Int) o e p s (l ++ [(x.extract a x.size).extract ((q + 1 : Nat) : Int).toNat ((wrap64 (((q + 1 : Nat) : Int) + t180)) : Int).toNat])) else (none)) else (none)) else (none)) else (none))))) (fun k => ?_) (Ev.bind hget ?_)
    ·rw [impl_takeBatch.l0, succ_wrap (i := q) (by omega), if_pos (by omega), if_neg (by omega), if_pos (by omega), if_pos (by omega), if_pos (by omega), succ_wrap (i := i) (by omega)]
     rfl
    ·exact Ev.ifp (by rw [wr_add (q + 1) (byN x (a + q)) (by omega) (by omega)]; omega) (Ev.now _)
  ·rw [if_neg (fun h => h1 h.1)]
   refine Ev.step (f := fun _ => some zI) (fun k => ?_) (Ev.now _)
   rw [impl_takeBatch.l0, if_pos (by omega), if_pos (by omega)]
   rfl
theorem bb_val (o e p s : Int) (l : List ByteArray) (h : 12 + rcl l < 65536) : byN (bb o e p s l) 0 * 256 + byN (bb o e p s l) 1 = 12 + rcl l := by
 have hz : (rcs l (hdr o e p s l.length)).size = 10 + rcl l := by rw [rcs_size, hdr_size]
 have e1 : ∀ i, i < 2 → byN (bb o e p s l) i = byN (byt (((rcs l (hdr o e p s l.length)).size + 2 : Nat) : Int) 2) i := fun i hi => by
  unfold bb fin
  rw [byN_app _ _ i (by rw [ByteArray.size_append, byt_size]; omega), byN_app _ _ i (by rw [byt_size]; omega)]
 rw [e1 0 (by omega), e1 1 (by omega), byt2 _ (by omega)]
 omega
open Classical in
noncomputable def SV (x : ByteArray) (a c : Nat) (o e p s : Int) : TR :=
 if a + 2 + val (x.extract a (a + 2)) ≤ x.size then (prs x (a + 2 + val (x.extract a (a + 2))) c (a + 12) []).elim zS fun r => finS x a (a + 2 + val (x.extract a (a + 2))) o e p s r.1 else zS
noncomputable def IV (x : ByteArray) (a c : Nat) (o e p s : Int) : Int × Int × Int × Int × List ByteArray × Int × Bool := (prs x x.size c (a + 12) []).elim zI fun r => finI x a o e p s r.1 r.2
def okI (x : ByteArray) (a c : Nat) (o e p s : Int) (l : List ByteArray) (E : Nat) : Prop :=
 prs x x.size c (a + 12) [] = some (l, E) ∧ GB o e p s l ∧ a + (bb o e p s l).size ≤ x.size ∧ x.extract a (a + (bb o e p s l).size) = bb o e p s l
theorem IV_no (x : ByteArray) (a c : Nat) (o e p s : Int) (h : ∀ l E, ¬ okI x a c o e p s l E) : IV x a c o e p s = zI := by
 unfold IV
 cases hp : prs x x.size c (a + 12) [] with
 | none => rfl
 | some r =>
  exact finI_neg x a o e p s r.1 r.2 (fun h' => h r.1 r.2 ⟨hp, h'⟩)
set_option maxHeartbeats 4000000 in
theorem sTake_ev (x : ByteArray) (hx : x.size ≤ 2000000) (a : Nat) (ha : a + 14 ≤ x.size) :
  Ev (fun k => spec_l1Take.f k x (a : Int)) (SV x a (byN x (a + 11)) (val (x.extract (a + 2) (a + 5)) : Int) (val (x.extract (a + 5) (a + 7)) : Int) (val (x.extract (a + 7) (a + 9)) : Int) (val (x.extract (a + 9) (a + 11)) : Int)) := by
 have hsz : ∀ i j : Nat, j ≤ i + 4 → (x.extract i j).size ≤ 4 := fun i j h => by
  rw [ByteArray.size_extract]
  omega
 have a9 : a ≤ 3000000 := by omega
 have hv : val (x.extract a (a + 2)) ≤ 65535 := by
  have h1 := byN_le x a
  have h2 := byN_le x (a + 1)
  rw [val2 x a (by omega)]
  omega
 have wn : wrap64 ((x.size : Int) - (a : Int)) = (x.size : Int) - (a : Int) := wrap_id (by omega) (by omega)
 have w : ∀ j : Nat, j ≤ 12 → wrap64 ((a : Int) + (j : Int)) = ((a + j : Nat) : Int) := fun j hj => wr_add a j (by omega) (by omega)
 have w2 : wrap64 ((a : Int) + 2) = ((a + 2 : Nat) : Int) := w 2 (by decide)
 have w5 : wrap64 ((a : Int) + 5) = ((a + 5 : Nat) : Int) := w 5 (by decide)
 have w7 : wrap64 ((a : Int) + 7) = ((a + 7 : Nat) : Int) := w 7 (by decide)
 have w9 : wrap64 ((a : Int) + 9) = ((a + 9 : Nat) : Int) := w 9 (by decide)
 have w11 : wrap64 ((a : Int) + 11) = ((a + 11 : Nat) : Int) := w 11 (by decide)
 have w12 : wrap64 ((a : Int) + 12) = ((a + 12 : Nat) : Int) := w 12 (by decide)
 have hbt : wrap64 (bt x ((a + 11 : Nat) : Int)) = ((byN x (a + 11) : Nat) : Int) := wr_bt x (a + 11)
 unfold spec_l1Take.f
 simp only [w2, w5, w7, w9, w11, w12, wn, hbt, tn_nat]
 clear w w2 w5 w7 w9 w11 w12 wn hbt
 refine Ev.ifn (by omega) (Ev.ifp (by omega) (Ev.ifp (by omega) (Ev.ifp (by omega) (Ev.bind (sVal_ev _ (hsz _ _ (by omega))) ?_))))
 rw [wr_add (a + 2) (val (x.extract a (a + 2))) (by omega) (by omega)]
 unfold SV
 by_cases hy : a + 2 + val (x.extract a (a + 2)) ≤ x.size
 ·rw [if_pos hy]
  refine Ev.ifn (by omega) (Ev.ifp (by omega) (Ev.ifp (by omega) (Ev.ifp (by omega) (Ev.bind (sVal_ev _ (hsz _ _ (by omega))) (Ev.ifp (by omega) (Ev.ifp (by omega) (Ev.ifp (by omega) (Ev.bind (sVal_ev _ (hsz _ _ (by omega))) (Ev.ifp (by omega) (Ev.ifp (by omega) (Ev.ifp (by omega) (Ev.bind (sVal_ev _ (hsz _ _ (by omega))) (Ev.ifp (by omega) (Ev.ifp (by omega) (Ev.ifp (by omega) (Ev.bind (sVal_ev _ (hsz _ _ (by omega))) (Ev.ifp (by omega) (Ev.ifp (by omega) ?_))))))))))))))))))
  have := byN_le x (a + 11)
  exact sTake_l x (by omega) a _ (by omega) hy _ _ _ _ (byN x (a + 11)) (a + 12) [] (by simp only [List.length_nil]; omega) (by omega)
 ·rw [if_neg hy]
  exact Ev.ifp (by omega) (Ev.now _)
set_option maxHeartbeats 4000000 in
theorem iTake_ev (x : ByteArray) (hx : x.size ≤ 2000000) (a : Nat) (ha : a + 12 ≤ x.size) :
  Ev (fun k => impl_takeBatch.f k x (a : Int)) (IV x a (byN x (a + 11)) (val (x.extract (a + 2) (a + 5)) : Int) (val (x.extract (a + 5) (a + 7)) : Int) (val (x.extract (a + 7) (a + 9)) : Int) (val (x.extract (a + 9) (a + 11)) : Int)) := by
 have hs : (x.extract a x.size).size = x.size - a := by rw [ByteArray.size_extract, Nat.min_self]
 have hsz : ∀ i j : Nat, j ≤ i + 4 → (x.extract i j).size ≤ 4 := fun i j h => by
  rw [ByteArray.size_extract]
  omega
 have hcv : val (x.extract (a + 11) (a + 12)) = byN x (a + 11) := val1 x (a + 11) (by omega)
 unfold impl_takeBatch.f
 simp only [tn_nat, ext2 x a 2 5 (by omega), ext2 x a 5 7 (by omega), ext2 x a 7 9 (by omega), ext2 x a 9 11 (by omega), ext2 x a 11 12 (by omega), hs]
 refine Ev.ifp (by omega) (Ev.ifp (by omega) (Ev.ifn (by omega) ?_))
 refine Ev.ifp (by omega) (Ev.ifp (by omega) (Ev.bind (iVal_ev _ (hsz _ _ (by omega))) ?_))
 refine Ev.ifp (by omega) (Ev.ifp (by omega) (Ev.bind (iVal_ev _ (hsz _ _ (by omega))) ?_))
 refine Ev.ifp (by omega) (Ev.ifp (by omega) (Ev.bind (iVal_ev _ (hsz _ _ (by omega))) ?_))
 refine Ev.ifp (by omega) (Ev.ifp (by omega) (Ev.bind (iVal_ev _ (hsz _ _ (by omega))) ?_))
 refine Ev.ifp (by omega) (Ev.ifp (by omega) (Ev.bind (iVal_ev _ (hsz _ _ (by omega))) ?_))
 rw [hcv]
 have := byN_le x (a + 11)
 exact iTake_l x (by omega) a (by omega) (byN x (a + 11)) this _ _ _ _ (byN x (a + 11)) 0 12 [] (by omega) (by simp only [List.length_nil]; omega) (by omega)

theorem ba_nat (l : List S44) (i : Nat) : rd_T44 l (i : Int) = l.getD i z44 := rfl

def GBx (x : S44) : Prop := GB x.f0 x.f1 x.f2 x.f3 x.f4
def NX (a b : S44) : Prop := b.f0 = wrap64 (a.f0 + (a.f4.length : Int)) ∧ b.f1 ≥ a.f1
theorem sNX_ev (a b : S44) : EvB (fun _ => spec_l1Next.f a.f0 a.f1 a.f2 a.f3 a.f4 b.f0 b.f1 b.f2 b.f3 b.f4) (NX a b) := by
 unfold spec_l1Next.f NX
 by_cases h : b.f0 = wrap64 (a.f0 + (a.f4.length : Int))
 ·exact ⟨decide (b.f1 ≥ a.f1), Ev.ifp h (Ev.now _), by rw [decide_eq_true_iff]; exact ⟨fun h' => ⟨h, h'⟩, fun h' => h'.2⟩⟩
 ·exact ⟨false, Ev.ifn h (Ev.now _), Iff.intro (fun h => by cases h) (fun h' => absurd h'.1 h)⟩

noncomputable def bbx (x : S44) : ByteArray := bb x.f0 x.f1 x.f2 x.f3 x.f4
theorem bbx_size (x : S44) (h : GBx x) : 14 ≤ (bbx x).size ∧ (bbx x).size ≤ 182 := by
 obtain ⟨hs, _, _, _, _, hl⟩ := h
 have := rcl_le x.f4 hs
 unfold bbx
 rw [bb_size]
 omega

theorem cmp_take2 (x : ByteArray) (hx : x.size ≤ 2000000) (a c : Nat) (ha : a + 12 ≤ x.size) (hc : c ≤ 255) (o e p s : Int) :
  (∃ l E, okI x a c o e p s l E ∧ SV x a c o e p s = (o, e, p, s, l, ((a + (bb o e p s l).size : Nat) : Int)) ∧ IV x a c o e p s = (o, e, p, s, l, ((a + (bb o e p s l).size : Nat) : Int), true)) ∨
  ((∀ l E, ¬ okI x a c o e p s l E) ∧ SV x a c o e p s = zS ∧ IV x a c o e p s = zI) := by
 by_cases hI : ∃ l E, okI x a c o e p s l E
 ·obtain ⟨l, E, hp, hg, hb1, hb2⟩ := hI
  obtain ⟨i1, _, i3, i4⟩ := prs_inv x x.size (Nat.le_refl _) c (a + 12) [] l E hp
  have hz := bb_size o e p s l
  have r0 : rcl [] = 0 := rfl
  have hv : val (x.extract a (a + 2)) = 12 + rcl l := by
   have e0 := byN_ext x a (a + (bb o e p s l).size) 0 (by omega) hb1
   have e1 := byN_ext x a (a + (bb o e p s l).size) 1 (by omega) hb1
   rw [hb2, Nat.add_zero] at e0
   rw [hb2] at e1
   rw [val2 x a (by omega), ← e0, ← e1]
   exact bb_val o e p s l (by have := rcl_le l hg.1; have := hg.2.2.2.2.2.2; omega)
  have hy : a + 2 + val (x.extract a (a + 2)) = E + 2 := by omega
  have hE : E + 2 = a + (bb o e p s l).size := by omega
  refine .inl ⟨l, E, ⟨hp, hg, hb1, hb2⟩, ?_, ?_⟩
  ·rw [← hE]
   unfold SV
   rw [hy, if_pos (by omega), prs_mono x x.size (E + 2) c (a + 12) [] l E hp (by omega) (Nat.le_refl _)]
   exact finS_pos x a (E + 2) o e p s l hg (by rw [hE]; exact hb2.symm)
  ·rw [← hE]
   unfold IV
   rw [hp]
   exact finI_pos x a o e p s l E ⟨hg, hb1, hb2⟩
 ·refine .inr ⟨fun l E h => hI ⟨l, E, h⟩, ?_, IV_no x a c o e p s (fun l E h => hI ⟨l, E, h⟩)⟩
  unfold SV
  by_cases hy : a + 2 + val (x.extract a (a + 2)) ≤ x.size
  ·rw [if_pos hy]
   cases hp : prs x (a + 2 + val (x.extract a (a + 2))) c (a + 12) [] with
   | none => rfl
   | some r =>
    show finS x a (a + 2 + val (x.extract a (a + 2))) o e p s r.1 = zS
    by_cases h : GB o e p s r.1 ∧ bb o e p s r.1 = x.extract a (a + 2 + val (x.extract a (a + 2)))
    ·exfalso
     obtain ⟨i1, i2, i3, i4⟩ := prs_inv x _ hy c (a + 12) [] r.1 r.2 hp
     have r0 : rcl [] = 0 := rfl
     have hz := bb_size o e p s r.1
     have hz2 : (bb o e p s r.1).size = 2 + val (x.extract a (a + 2)) := by
      rw [h.2, ByteArray.size_extract]
      omega
     have hc0 : 0 < c := by
      have := h.1.2.2.2.2.2
      have l0 : ([] : List ByteArray).length = 0 := rfl
      omega
     have hE := i2 hc0
     have hs : a + (bb o e p s r.1).size = a + 2 + val (x.extract a (a + 2)) := by omega
     exact hI ⟨r.1, r.2, prs_mono x _ x.size c (a + 12) [] r.1 r.2 hp (by omega) hy, h.1, by omega, by rw [hs]; exact h.2.symm⟩
    ·exact finS_neg x a _ o e p s r.1 h
  ·rw [if_neg hy]
def vO (x : ByteArray) (a : Nat) : Int := (val (x.extract (a + 2) (a + 5)) : Int)
def vE (x : ByteArray) (a : Nat) : Int := (val (x.extract (a + 5) (a + 7)) : Int)
def vP (x : ByteArray) (a : Nat) : Int := (val (x.extract (a + 7) (a + 9)) : Int)
def vQ (x : ByteArray) (a : Nat) : Int := (val (x.extract (a + 9) (a + 11)) : Int)
def AT (x : ByteArray) (a : Nat) (b : S44) : Prop := ∃ E, okI x a (byN x (a + 11)) (vO x a) (vE x a) (vP x a) (vQ x a) b.f4 E ∧ a + 12 ≤ x.size ∧ b = ⟨vO x a, vE x a, vP x a, vQ x a, b.f4⟩
theorem AT_uniq {x : ByteArray} {a : Nat} {b c : S44} (h : AT x a b) (k : AT x a c) : b = c := by
 obtain ⟨E, h1, _, h2⟩ := h
 obtain ⟨F, k1, _, k2⟩ := k
 have e := (Prod.mk.inj (Option.some.inj (h1.1.symm.trans k1.1))).1
 rw [h2, k2, e]
theorem AT_good {x : ByteArray} {a : Nat} {b : S44} (h : AT x a b) : GBx b ∧ a + (bbx b).size ≤ x.size ∧ x.extract a (a + (bbx b).size) = bbx b := by
 obtain ⟨E, h1, _, h2⟩ := h
 have := h1.2
 unfold GBx bbx
 rw [h2]
 exact this
open Classical in
noncomputable def TK (x : ByteArray) (a : Nat) : Option S44 := if h : ∃ b, AT x a b then some (Classical.choose h) else none
theorem TK_some {x : ByteArray} {a : Nat} {b : S44} : TK x a = some b ↔ AT x a b := by
 unfold TK
 by_cases h : ∃ b, AT x a b
 ·rw [dif_pos h]
  refine ⟨fun e => ?_, fun e => by rw [AT_uniq (Classical.choose_spec h) e]⟩
  rw [← Option.some.inj e]
  exact Classical.choose_spec h
 ·rw [dif_neg h]
  exact ⟨(fun e => by cases e), fun e => absurd ⟨b, e⟩ h⟩
theorem TK_none {x : ByteArray} {a : Nat} : TK x a = none ↔ ∀ b, ¬ AT x a b := by
 rw [Option.eq_none_iff_forall_ne_some]
 exact ⟨fun h b hb => h b (TK_some.2 hb), fun h b hb => h b (TK_some.1 hb)⟩
noncomputable def tS (x : ByteArray) (a : Nat) : TR := (TK x a).elim zS fun b => (b.f0, b.f1, b.f2, b.f3, b.f4, ((a + (bbx b).size : Nat) : Int))
noncomputable def tI (x : ByteArray) (a : Nat) : Int × Int × Int × Int × List ByteArray × Int × Bool := (TK x a).elim zI fun b => (b.f0, b.f1, b.f2, b.f3, b.f4, ((a + (bbx b).size : Nat) : Int), true)
theorem take_both (x : ByteArray) (hx : x.size ≤ 2000000) (a : Nat) (ha : a ≤ x.size) : (a < x.size → Ev (fun k => spec_l1Take.f k x (a : Int)) (tS x a)) ∧ Ev (fun k => impl_takeBatch.f k x (a : Int)) (tI x a) := by
 by_cases h12 : a + 12 ≤ x.size
 ·have hi := iTake_ev x hx a h12
  rcases cmp_take2 x hx a (byN x (a + 11)) h12 (byN_le _ _) (vO x a) (vE x a) (vP x a) (vQ x a) with ⟨l, E, hok, e1, e2⟩ | ⟨hno, e1, e2⟩
  ·have hz := bb_size (vO x a) (vE x a) (vP x a) (vQ x a) l
   have h14 : a + 14 ≤ x.size := by have := hok.2.2.1; omega
   have hT : TK x a = some ⟨vO x a, vE x a, vP x a, vQ x a, l⟩ := TK_some.2 ⟨E, hok, h12, rfl⟩
   unfold tS tI
   rw [hT]
   refine ⟨fun _ => ?_, ?_⟩
   ·have hs := sTake_ev x hx a h14
    have h2 : Ev _ (SV x a (byN x (a + 11)) (vO x a) (vE x a) (vP x a) (vQ x a)) := hs
    rw [e1] at h2; exact h2
   ·have h2 : Ev _ (IV x a (byN x (a + 11)) (vO x a) (vE x a) (vP x a) (vQ x a)) := hi
    rw [e2] at h2; exact h2
  ·have hT : TK x a = none := TK_none.2 fun b ⟨E, h, _, _⟩ => hno _ _ h
   unfold tS tI
   rw [hT]
   refine ⟨fun _ => ?_, ?_⟩
   ·by_cases h14 : a + 14 ≤ x.size
    ·have hs := sTake_ev x hx a h14
     have h2 : Ev _ (SV x a (byN x (a + 11)) (vO x a) (vE x a) (vP x a) (vQ x a)) := hs
     rw [e1] at h2; exact h2
    ·show Ev _ zS
     unfold spec_l1Take.f
     exact Ev.ifp (by rw [wrap_id (by omega) (by omega)]; omega) (Ev.now _)
   ·have h2 : Ev _ (IV x a (byN x (a + 11)) (vO x a) (vE x a) (vP x a) (vQ x a)) := hi
    rw [e2] at h2; exact h2
 ·have hT : TK x a = none := TK_none.2 fun b ⟨E, _, h, _⟩ => h12 h
  unfold tS tI
  rw [hT]
  refine ⟨fun h1 => ?_, ?_⟩
  ·show Ev _ zS
   unfold spec_l1Take.f
   exact Ev.ifp (by rw [wrap_id (by omega) (by omega)]; omega) (Ev.now _)
  ·show Ev _ zI
   unfold impl_takeBatch.f
   exact Ev.ifp (by omega) (Ev.ifp (by omega) (Ev.ifp (by rw [tn_nat, ByteArray.size_extract]; omega) (Ev.now _)))

open Classical in
noncomputable def RD (x : ByteArray) : Nat → List S44 → Nat → List S44 × Nat
 | 0, l, a => (l, a)
 | d + 1, l, a => (TK x a).elim (l, a) fun b => if l.length = 0 ∨ NX (l.getD (l.length - 1) z44) b then RD x d (l ++ [b]) (a + (bbx b).size) else (l, a)
theorem RD_at (x : ByteArray) : ∀ (d : Nat) (l : List S44) (a : Nat), a ≤ x.size → (RD x d l a).2 ≤ x.size ∧ l.length ≤ (RD x d l a).1.length ∧ a + 14 * ((RD x d l a).1.length - l.length) ≤ (RD x d l a).2 ∧
  ((∀ b ∈ l, GBx b) → ∀ b ∈ (RD x d l a).1, GBx b)
 | 0, l, a, ha => ⟨ha, Nat.le_refl _, by show a + 14 * (l.length - l.length) ≤ a; omega, fun h => h⟩
 | d + 1, l, a, ha => by
  rw [RD]
  cases hT : TK x a with
  | none => exact ⟨ha, Nat.le_refl _, by show a + 14 * (l.length - l.length) ≤ a; omega, fun h => h⟩
  | some b =>
   show _
   simp only [Option.elim_some]
   by_cases hn : l.length = 0 ∨ NX (l.getD (l.length - 1) z44) b
   ·rw [if_pos hn]
    have hg := AT_good (TK_some.1 hT)
    have hz := bbx_size b hg.1
    obtain ⟨h1, h2, h3, h4⟩ := RD_at x d (l ++ [b]) (a + (bbx b).size) hg.2.1
    rw [List.length_append, List.length_singleton] at h2 h3
    refine ⟨h1, by omega, by omega, fun h => h4 fun y hy => ?_⟩
    rcases List.mem_append.1 hy with hy | hy
    ·exact h y hy
    ·rw [List.mem_singleton.1 hy]
     exact hg.1
   ·rw [if_neg hn]
    exact ⟨ha, Nat.le_refl _, by show a + 14 * (l.length - l.length) ≤ a; omega, fun h => h⟩
theorem iFW2 (l : List S44) (hl : l.length ≤ 1048576) (b : S44) : EvB (fun _ => impl_follows.f l b.f0 b.f1 b.f2 b.f3 b.f4) (l.length = 0 ∨ NX (l.getD (l.length - 1) z44) b) := by
 unfold impl_follows.f impl_Batch_end.f
 by_cases h0 : l.length = 0
 ·exact ⟨true, Ev.ifp (by omega) (Ev.now _), ⟨fun _ => .inl h0, fun _ => rfl⟩⟩
 ·rw [pred_wrap (by omega) (by omega), ba_nat]
  unfold NX
  by_cases h : b.f0 = wrap64 ((l.getD (l.length - 1) z44).f0 + ((l.getD (l.length - 1) z44).f4.length : Int))
  ·exact ⟨decide (b.f1 ≥ (l.getD (l.length - 1) z44).f1), Ev.ifn (by omega) (Ev.ifp (by omega) (Ev.ifp (by omega) (Ev.bind (Ev.now _) (Ev.ifp h (Ev.now _))))), by rw [decide_eq_true_iff]; exact ⟨fun h' => .inr ⟨h, h'⟩, fun h' => (h'.resolve_left h0).2⟩⟩
  ·exact ⟨false, Ev.ifn (by omega) (Ev.ifp (by omega) (Ev.ifp (by omega) (Ev.bind (Ev.now _) (Ev.ifn h (Ev.now _))))), Iff.intro (fun h => by cases h) (fun h' => absurd (h'.resolve_left h0).1 h)⟩
theorem read_both (x : ByteArray) (hx : x.size ≤ 2000000) : ∀ (d : Nat) (l : List S44) (a : Nat), a ≤ x.size → x.size - a ≤ d → 14 * l.length ≤ a →
  Ev (fun k => spec_l1Read.l0 k x l (a : Int)) ((RD x d l a).1, ((RD x d l a).2 : Int)) ∧ Ev (fun k => impl_readLog.l0 k x l (a : Int)) ((RD x d l a).1, ((RD x d l a).2 : Int))
 | 0, l, a, ha, hd, hl => by
  have e : a = x.size := by omega
  have hT : TK x a = none := TK_none.2 fun b ⟨E, _, h, _⟩ => by omega
  have hi := (take_both x hx a ha).2
  unfold tI at hi
  rw [hT] at hi
  refine ⟨Ev.step (f := fun _ => some (l, (a : Int))) (fun k => by rw [spec_l1Read.l0, if_neg (by omega)]) (Ev.now _), ?_⟩
  refine Ev.step (f := fun k => (impl_takeBatch.f k x (a : Int)).bind fun t => if t.2.2.2.2.2.2 = true then ((impl_follows.f l t.1 t.2.1 t.2.2.1 t.2.2.2.1 t.2.2.2.2.1).bind fun u => (if u = true then (if l.length < 2513169434916 then (impl_readLog.l0 k x (l ++ [(⟨t.1, t.2.1, t.2.2.1, t.2.2.2.1, t.2.2.2.2.1⟩ : S44)]) t.2.2.2.2.2.1) else none) else some (l, (a : Int)))) else some (l, (a : Int))) (fun k => by rw [impl_readLog.l0]) (Ev.bind hi ?_)
  exact Ev.ifn (show ¬ (false = true) by decide) (Ev.now _)
 | d + 1, l, a, ha, hd, hl => by
  obtain ⟨hs, hi⟩ := take_both x hx a ha
  have iSt : ∀ k, impl_readLog.l0 (k + 1) x l (a : Int) = (impl_takeBatch.f k x (a : Int)).bind fun t => if t.2.2.2.2.2.2 = true then ((impl_follows.f l t.1 t.2.1 t.2.2.1 t.2.2.2.1 t.2.2.2.2.1).bind fun u => (if u = true then (if l.length < 2513169434916 then (impl_readLog.l0 k x (l ++ [(⟨t.1, t.2.1, t.2.2.1, t.2.2.2.1, t.2.2.2.2.1⟩ : S44)]) t.2.2.2.2.2.1) else none) else some (l, (a : Int)))) else some (l, (a : Int)) := fun k => by rw [impl_readLog.l0]
  have sSt : a < x.size → ∀ k, spec_l1Read.l0 (k + 1) x l (a : Int) = (spec_l1Take.f k x (a : Int)).bind fun t => if t.2.2.2.2.2 = 0 then some (l, (a : Int)) else if (l.length : Int) > 0 then (if 0 ≤ (wrap64 ((l.length : Int) - 1)) then (if (wrap64 ((l.length : Int) - 1)) < (l.length : Int) then ((spec_l1Next.f (rd_T44 l (wrap64 ((l.length : Int) - 1))).f0 (rd_T44 l (wrap64 ((l.length : Int) - 1))).f1 (rd_T44 l (wrap64 ((l.length : Int) - 1))).f2 (rd_T44 l (wrap64 ((l.length : Int) - 1))).f3 (rd_T44 l (wrap64 ((l.length : Int) - 1))).f4 t.1 t.2.1 t.2.2.1 t.2.2.2.1 t.2.2.2.2.1).bind fun u => (if u = true then (if l.length < 2513169434916 then (spec_l1Read.l0 k x (l ++ [(⟨t.1, t.2.1, t.2.2.1, t.2.2.2.1, t.2.2.2.2.1⟩ : S44)]) t.2.2.2.2.2) else none) else some (l, (a : Int)))) else none) else none) else (if l.length < 2513169434916 then (spec_l1Read.l0 k x (l ++ [(⟨t.1, t.2.1, t.2.2.1, t.2.2.2.1, t.2.2.2.2.1⟩ : S44)]) t.2.2.2.2.2) else none) := fun h1 k => by
   rw [spec_l1Read.l0, if_pos (by omega)]
  rw [RD]
  unfold tS at hs
  unfold tI at hi
  cases hT : TK x a with
  | none =>
   rw [hT] at hs hi
   refine ⟨?_, Ev.step iSt (Ev.bind hi (Ev.ifn (show ¬ (false = true) by decide) (Ev.now _)))⟩
   by_cases h1 : a < x.size
   ·exact Ev.step (sSt h1) (Ev.bind (hs h1) (Ev.ifp rfl (Ev.now _)))
   ·exact Ev.step (f := fun _ => some (l, (a : Int))) (fun k => by rw [spec_l1Read.l0, if_neg (by omega)]) (Ev.now _)
  | some b =>
   rw [hT] at hs hi
   have hg := AT_good (TK_some.1 hT)
   have hz := bbx_size b hg.1
   have h1 : a < x.size := by omega
   have hne : ¬ (((a + (bbx b).size : Nat) : Int) = 0) := by omega
   have ih := read_both x hx d (l ++ [b]) (a + (bbx b).size) hg.2.1 (by omega)
   obtain ⟨c, hc, hq⟩ := iFW2 l (by omega) b
   simp only [Option.elim_some]
   by_cases h0 : l.length = 0
   ·have hcond : l.length = 0 ∨ NX (l.getD (l.length - 1) z44) b := .inl h0
    rw [if_pos hcond]
    obtain ⟨ih1, ih2⟩ := ih (by rw [List.length_append, List.length_singleton]; omega)
    have hct : c = true := hq.2 hcond
    rw [hct] at hc
    exact ⟨Ev.step (sSt h1) (Ev.bind (hs h1) (Ev.ifn hne (Ev.ifn (by omega) (Ev.ifp (by omega) ih1)))), Ev.step iSt (Ev.bind hi (Ev.ifp rfl (Ev.bind hc (Ev.ifp rfl (Ev.ifp (by omega) ih2)))))⟩
   ·have sSt2 := sSt h1
    rw [pred_wrap (show 0 < l.length by omega) (by omega), ba_nat] at sSt2
    obtain ⟨c', hc', hq'⟩ := sNX_ev (l.getD (l.length - 1) z44) b
    by_cases hn : NX (l.getD (l.length - 1) z44) b
    ·have hcond : l.length = 0 ∨ NX (l.getD (l.length - 1) z44) b := .inr hn
     rw [if_pos hcond]
     obtain ⟨ih1, ih2⟩ := ih (by rw [List.length_append, List.length_singleton]; omega)
     rw [show c = true from hq.2 hcond] at hc
     rw [show c' = true from hq'.2 hn] at hc'
     exact ⟨Ev.step sSt2 (Ev.bind (hs h1) (Ev.ifn hne (Ev.ifp (by omega) (Ev.ifp (by omega) (Ev.ifp (by omega) (Ev.bind hc' (Ev.ifp rfl (Ev.ifp (by omega) ih1)))))))), Ev.step iSt (Ev.bind hi (Ev.ifp rfl (Ev.bind hc (Ev.ifp rfl (Ev.ifp (by omega) ih2)))))⟩
    ·have hcond : ¬ (l.length = 0 ∨ NX (l.getD (l.length - 1) z44) b) := fun h => h.elim h0 hn
     rw [if_neg hcond]
     have e1 : c = false := Bool.eq_false_iff.2 fun h => hcond (hq.1 h)
     have e2 : c' = false := Bool.eq_false_iff.2 fun h => hn (hq'.1 h)
     rw [e1] at hc
     rw [e2] at hc'
     exact ⟨Ev.step sSt2 (Ev.bind (hs h1) (Ev.ifn hne (Ev.ifp (by omega) (Ev.ifp (by omega) (Ev.ifp (by omega) (Ev.bind hc' (Ev.ifn (by decide) (Ev.now _)))))))), Ev.step iSt (Ev.bind hi (Ev.ifp rfl (Ev.bind hc (Ev.ifn (by decide) (Ev.now _)))))⟩
noncomputable def RDx (x : ByteArray) : List S44 × Nat := RD x x.size [] 0
theorem sRead_ev (x : ByteArray) (hx : x.size ≤ 2000000) : Ev (fun k => spec_l1Read.f k x) ((RDx x).1, ((RDx x).2 : Int)) := (read_both x hx x.size [] 0 (Nat.zero_le _) (by omega) (by simp only [List.length_nil]; omega)).1
theorem iRead_ev (x : ByteArray) (hx : x.size ≤ 2000000) : Ev (fun k => impl_readLog.f k x) ((RDx x).1, ((RDx x).2 : Int)) := (read_both x hx x.size [] 0 (Nat.zero_le _) (by omega) (by simp only [List.length_nil]; omega)).2
theorem RDx_at (x : ByteArray) : (RDx x).2 ≤ x.size ∧ 14 * (RDx x).1.length ≤ (RDx x).2 ∧ (∀ b ∈ (RDx x).1, GBx b) := by
 obtain ⟨h1, _, h3, h4⟩ := RD_at x x.size [] 0 (Nat.zero_le _)
 refine ⟨h1, ?_, h4 (fun b hb => by cases hb)⟩
 have : ([] : List S44).length = 0 := rfl
 unfold RDx
 omega

theorem fl_nat (l : List S56) (i : Nat) : rd_T56 l (i : Int) = l.getD i z56 := rfl
def WQ (l : List S56) (a : Int) (b : S44) (y : List S56) : Prop := GD l ∧ GBx b ∧ ∃ i : Nat, a = (i : Int) ∧ i < l.length ∧ (RDx (l.getD i z56).f0).2 = (l.getD i z56).f0.size ∧ ((RDx (l.getD i z56).f0).1.length = 0 ∨ NX ((RDx (l.getD i z56).f0).1.getD ((RDx (l.getD i z56).f0).1.length - 1) z44) b) ∧
 (l.getD i z56).f0.size + (bbx b).size ≤ 400 ∧ y = l.set i ⟨(l.getD i z56).f0 ++ bbx b, (l.getD i z56).f1⟩
theorem sAppendX (l : List S56) (a : Int) (s : ByteArray) (hl : l.length ≤ 1048576) (hz : s.size ≤ 1048576) : ∃ (r : List S56) (o : Bool), r.length ≤ 1048576 ∧ Ev (fun k => spec_AppendTo.f k l a s) (r, o) ∧ (o = true → GD l ∧ ∃ i : Nat, a = (i : Int) ∧ i < l.length ∧ (l.getD i z56).f0.size + s.size ≤ 400 ∧ r = l.set i ⟨(l.getD i z56).f0 ++ s, (l.getD i z56).f1⟩) := by
 obtain ⟨b, hs, hq⟩ := sFile_ev l a hl
 unfold spec_AppendTo.f
 cases b with
 | false => exact ⟨[], false, Nat.zero_le _, Ev.bind hs (Ev.ifn (by decide) (Ev.now _)), fun h => by cases h⟩
 | true =>
  obtain ⟨hg, h0, h1⟩ := hq.1 rfl
  have hf := (GD_at l hg a h0 h1).1
  have w1 : wrap64 (400 - ((rd_T56 l a).f0.size : Int)) = 400 - ((rd_T56 l a).f0.size : Int) := wrap_id (by omega) (by omega)
  have w2 : wrap64 (((rd_T56 l a).f0.size : Int) + (s.size : Int)) = ((rd_T56 l a).f0.size : Int) + (s.size : Int) := wrap_id (by omega) (by omega)
  rw [sOwn l hl, w1]
  by_cases hn : (s.size : Int) > 400 - ((rd_T56 l a).f0.size : Int)
  ·exact ⟨[], false, Nat.zero_le _, Ev.bind hs (Ev.ifp rfl (Ev.ifp h0 (Ev.ifp h1 (Ev.ifp hn (Ev.now _))))), fun h => by cases h⟩
  ·refine ⟨_, true, ?_, Ev.bind hs (Ev.ifp rfl (Ev.ifp h0 (Ev.ifp h1 (Ev.ifn hn (Ev.bind (Ev.now _) (Ev.ifp h1 (Ev.ifp (by omega) (Ev.now _)))))))), fun _ => ⟨hg, a.toNat, by omega, by omega, ?_, rfl⟩⟩
   ·rw [List.length_set]
    exact hl
   ·rw [fl_tn] at hn hf
    omega
theorem sSyncX (l : List S56) (a : Int) (hl : l.length ≤ 1048576) : ∃ (r : List S56) (o : Bool), r.length ≤ 1048576 ∧ Ev (fun k => spec_SyncFile.f k l a) (r, o) ∧ (o = true → GD l ∧ ∃ i : Nat, a = (i : Int) ∧ i < l.length ∧ r = l.set i ⟨(l.getD i z56).f0, ((l.getD i z56).f0.size : Int)⟩) := by
 obtain ⟨b, hs, hq⟩ := sFile_ev l a hl
 unfold spec_SyncFile.f
 cases b with
 | false => exact ⟨[], false, Nat.zero_le _, Ev.bind hs (Ev.ifn (by decide) (Ev.now _)), fun h => by cases h⟩
 | true =>
  obtain ⟨hg, h0, h1⟩ := hq.1 rfl
  rw [sOwn l hl]
  refine ⟨_, true, ?_, Ev.bind hs (Ev.ifp rfl (Ev.ifp h0 (Ev.ifp h1 (Ev.now _)))), fun _ => ⟨hg, a.toNat, by omega, by omega, rfl⟩⟩
  rw [List.length_set]
  exact hl
theorem sWriteX (l : List S56) (a : Int) (b : S44) (hl : l.length ≤ 1048576) (hb : b.f4.length ≤ 1048576) :
  ∃ (y : List S56) (o : Bool), y.length ≤ 1048576 ∧ Ev (fun k => spec_WriteBatch.f k l a b.f0 b.f1 b.f2 b.f3 b.f4) (y, o) ∧ (o = true → WQ l a b y) := by
 obtain ⟨x, hs, hq⟩ := sFile_ev l a hl
 have sno : Ev (fun k => spec_WriteBatch.j0 k a true l b.f0 b.f1 b.f2 b.f3 b.f4) ([], false) := Ev.step (f := fun _ => some ([], false)) (fun k => by rw [spec_WriteBatch.j0, if_pos rfl]) (Ev.now _)
 have sno1 : Ev (fun k => spec_WriteBatch.j1 k a true l b.f0 b.f1 b.f2 b.f3 b.f4) ([], false) := Ev.step (f := fun _ => some ([], false)) (fun k => by rw [spec_WriteBatch.j1, if_pos rfl]) (Ev.now _)
 unfold spec_WriteBatch.f
 cases x with
 | false => exact ⟨[], false, Nat.zero_le _, Ev.bind hs (Ev.ifn (by decide) sno), fun h => by cases h⟩
 | true =>
  obtain ⟨g, gs, hgq⟩ := sGB_ev b.f0 b.f1 b.f2 b.f3 b.f4 hb
  cases g with
  | false => exact ⟨[], false, Nat.zero_le _, Ev.bind hs (Ev.ifp rfl (Ev.bind gs sno)), fun h => by cases h⟩
  | true =>
   have hG : GBx b := hgq.1 rfl
   obtain ⟨hg, h0, h1⟩ := hq.1 rfl
   obtain ⟨i, rfl⟩ := Int.eq_ofNat_of_zero_le h0
   obtain ⟨g1, g2, g3⟩ := hg.1 i (by omega)
   have hr := RDx_at (l.getD i z56).f0
   have sr := sRead_ev (l.getD i z56).f0 (by omega)
   generalize ex : (RDx (l.getD i z56).f0).1 = x at sr hr
   generalize en : (RDx (l.getD i z56).f0).2 = n at sr hr
   have EX := Aside0.mk ex
   have EN := Aside0.mk en
   clear ex en
   obtain ⟨bs, bi⟩ := batch_ev b.f0 b.f1 b.f2 b.f3 b.f4 hG
   have hz := bbx_size b hG
   have ez : bb b.f0 b.f1 b.f2 b.f3 b.f4 = bbx b := rfl
   rw [ez] at bs bi
   obtain ⟨fw, hfw, hfq⟩ := iFW2 x (by omega) b
   have hfw' := hfw
   have skip : ∀ (y : List S56) (o : Bool), y.length ≤ 1048576 → (o = true → WQ l (i : Int) b y) → Ev (fun k => spec_WriteBatch.j0 k (i : Int) false l b.f0 b.f1 b.f2 b.f3 b.f4) (y, o) →
     ∃ (y : List S56) (o : Bool), y.length ≤ 1048576 ∧ Ev (fun k => (spec_l3File.f k l (i : Int)).bind fun t227 => (if t227 = true then ((spec_GoodBatch.f k b.f0 b.f1 b.f2 b.f3 b.f4).bind fun t228 => (spec_WriteBatch.j0 k (i : Int) (!t228) l b.f0 b.f1 b.f2 b.f3 b.f4)) else (spec_WriteBatch.j0 k (i : Int) true l b.f0 b.f1 b.f2 b.f3 b.f4))) (y, o) ∧ (o = true → WQ l (i : Int) b y) :=
    fun y o hy hw e1 => ⟨y, o, hy, Ev.bind hs (Ev.ifp rfl (Ev.bind gs e1)), hw⟩
   have sgo : ∀ (y : List S56) (o : Bool) (c : Bool), Ev (fun k => spec_WriteBatch.j1 k (i : Int) c l b.f0 b.f1 b.f2 b.f3 b.f4) (y, o) → ((n : Int) = ((l.getD i z56).f0.size : Int) → c = !fw) → (¬ (n : Int) = ((l.getD i z56).f0.size : Int) → c = true) → Ev (fun k => spec_WriteBatch.j0 k (i : Int) false l b.f0 b.f1 b.f2 b.f3 b.f4) (y, o) := fun y o c e hc1 hc2 => by
    refine Ev.succ ?_
    simp only [spec_WriteBatch.j0, fl_nat]
    refine Ev.ifn (by decide) (Ev.ifp h0 (Ev.ifp h1 (Ev.bind sr ?_)))
    dsimp only
    by_cases hn : (n : Int) = ((l.getD i z56).f0.size : Int)
    ·have hc := hc1 hn
     refine Ev.ifp hn ?_
     by_cases hx : (x.length : Int) > 0
     ·have hw : wrap64 ((x.length : Int) - 1) = ((x.length - 1 : Nat) : Int) := pred_wrap (by omega) (by omega)
      refine Ev.ifp hx (Ev.ifp (by omega) (Ev.ifp (by omega) ?_))
      rw [hw, ba_nat]
      obtain ⟨nb, hnb, hnq⟩ := sNX_ev (x.getD (x.length - 1) z44) b
      have e2 : nb = fw := Bool.eq_iff_iff.2 (hnq.trans ⟨fun h => hfq.2 (.inr h), fun h => (hfq.1 h).resolve_left (by omega)⟩)
      subst e2
      refine Ev.bind hnb ?_
      rw [← hc]
      exact e
     ·have e2 : fw = true := hfq.2 (.inl (by omega))
      subst e2
      refine Ev.ifn hx ?_
      rw [hc] at e
      exact e
    ·rw [hc2 hn] at e
     exact Ev.ifn hn e
   by_cases hn : (n : Int) = ((l.getD i z56).f0.size : Int)
   ·cases fw with
    | false => exact skip [] false (Nat.zero_le _) (fun h => by cases h) (sgo [] false true sno1 (fun _ => rfl) (fun _ => rfl))
    | true =>
     have hWQ : (n : Int) = ((l.getD i z56).f0.size : Int) → ¬ ((bbx b).size : Int) > 400 - ((l.getD i z56).f0.size : Int) → WQ l (i : Int) b (l.set i ⟨(l.getD i z56).f0 ++ bbx b, (l.getD i z56).f1⟩) := fun k1 k2 => ⟨hg, hG, i, rfl, by omega, by rw [EN.out]; omega, by rw [EX.out]; exact hfq.1 rfl, by omega, rfl⟩
     have hw1 : wrap64 (400 - ((l.getD i z56).f0.size : Int)) = 400 - ((l.getD i z56).f0.size : Int) := wrap_id (by omega) (by omega)
     by_cases hf : ((bbx b).size : Int) > 400 - ((l.getD i z56).f0.size : Int)
     ·refine skip [] false (Nat.zero_le _) (fun h => by cases h) (sgo [] false false (Ev.succ ?_) (fun _ => rfl) (fun h => absurd hn h))
      simp only [spec_WriteBatch.j1]
      refine Ev.ifn (by decide) (Ev.bind bs (Ev.bind (a := (([] : List S56), false)) ?_ (Ev.now _)))
      unfold spec_AppendTo.f
      simp only [fl_nat, hw1]
      exact Ev.bind hs (Ev.ifp rfl (Ev.ifp h0 (Ev.ifp h1 (Ev.ifp hf (Ev.now _)))))
     ·refine skip (l.set i ⟨(l.getD i z56).f0 ++ bbx b, (l.getD i z56).f1⟩) true (by rw [List.length_set]; exact hl) (fun _ => hWQ hn hf) (sgo _ true false (Ev.succ ?_) (fun _ => rfl) (fun h => absurd hn h))
      simp only [spec_WriteBatch.j1]
      refine Ev.ifn (by decide) (Ev.bind bs (Ev.bind (a := (l.set i ⟨(l.getD i z56).f0 ++ bbx b, (l.getD i z56).f1⟩, true)) ?_ (Ev.now _)))
      unfold spec_AppendTo.f
      simp only [fl_nat, hw1, sOwn l hl]
      exact Ev.bind hs (Ev.ifp rfl (Ev.ifp h0 (Ev.ifp h1 (Ev.ifn hf (Ev.bind (Ev.now _) (Ev.ifp h1 (Ev.ifp (by omega) (Ev.now _))))))))
   ·exact skip [] false (Nat.zero_le _) (fun h => by cases h) (sgo [] false true sno1 (fun h => absurd h hn) (fun _ => rfl))

def BY (s : List Int) : Prop := ∀ x ∈ s, 0 ≤ x ∧ x ≤ 255
theorem BY_of {s : List Int} (h : ∀ x ∈ s, (Lit.int .u8 x).wf = true) : BY s := fun x hx => by
 have := h x hx
 simp [Lit.wf, IntKind.min, IntKind.max, IntKind.bits, IntKind.signed] at this
 omega
theorem u64_rng (n : Int) : 0 ≤ IntKind.u64.wrap n ∧ IntKind.u64.wrap n < 18446744073709551616 := by
 simp [IntKind.wrap, IntKind.bits, IntKind.signed]
 omega
theorem and255 (n : Int) : 0 ≤ wrap64 (Go.bits .and .u64 (IntKind.u64.wrap n / 1099511627776) 255) ∧ wrap64 (Go.bits .and .u64 (IntKind.u64.wrap n / 1099511627776) 255) ≤ 255 := by
 have hr := u64_rng n
 have h1 : 0 ≤ IntKind.u64.wrap n / 1099511627776 := by omega
 have h2 : IntKind.u64.wrap n / 1099511627776 < 2 ^ 24 := by omega
 have := bits_mask .u64 24 (by decide) (fun n h0 h1 => by simp [IntKind.wrap, IntKind.bits, IntKind.signed]; omega) 8 (by decide) _ h1 h2
 rw [show ((2 : Int) ^ 8 - 1) = 255 by decide, show ((2 : Int) ^ 8) = 256 by decide] at this
 rw [this, wrap_id (by omega) (by omega)]
 omega
theorem rd_mem {l : List Int} {i : Int} (h0 : 0 ≤ i) (h1 : i < l.length) : rd l i ∈ l := by
 obtain ⟨n, rfl⟩ := Int.eq_ofNat_of_zero_le h0
 rw [rd_nat]
 exact getD_mem (by omega) 0
theorem next_eq (s : List Int) (hb : BY s) (a q : Int) (h0 : 0 ≤ a) (h1 : a ≤ 1000000000000000) : ∃ r q', spec_l1Cur_next.f s a q = some (r, a + 1, q') ∧ 0 ≤ r ∧ r ≤ 255 := by
 have hw : wrap64 (a + 1) = a + 1 := wrap_id (by omega) (by omega)
 unfold spec_l1Cur_next.f
 rw [hw]
 by_cases h2 : a < (s.length : Int)
 ·rw [if_pos h2, if_pos h0, if_pos (by omega)]
  have hm := hb _ (rd_mem h0 h2)
  exact ⟨_, _, rfl, by rw [wrap_id (by omega) (by omega)]; omega, by rw [wrap_id (by omega) (by omega)]; omega⟩
 ·rw [if_neg h2, if_neg (by omega)]
  exact ⟨_, _, rfl, and255 _⟩
theorem pick_eq (s : List Int) (hb : BY s) (a q n : Int) (h0 : 0 ≤ a) (h1 : a ≤ 900000000000000) (hn : n ≤ 1000000) :
  ∃ r a' q', spec_l1Cur_pick.f s a q n = some (r, a', q') ∧ 0 ≤ r ∧ (1 ≤ n → r < n) ∧ a ≤ a' ∧ a' ≤ a + 2 := by
 unfold spec_l1Cur_pick.f
 by_cases h2 : n ≤ 1
 ·rw [if_pos h2]
  exact ⟨_, _, _, rfl, by omega, fun h => by omega, by omega, by omega⟩
 ·obtain ⟨x, q1, e1, x0, x1⟩ := next_eq s hb a q h0 (by omega)
  rw [if_neg h2, e1, Option.bind_some]
  by_cases h3 : n > 200
  ·obtain ⟨y, q2, e2, y0, y1⟩ := next_eq s hb (a + 1) q1 (by omega) (by omega)
   rw [if_pos h3, e2, Option.bind_some, if_neg (by omega)]
   have hw : wrap64 (wrap64 (x * 256) + y) = x * 256 + y := by rw [wrap_id (x := x * 256) (by omega) (by omega), wrap_id (by omega) (by omega)]
   refine ⟨_, _, _, rfl, ?_, fun _ => ?_, by dsimp only; omega, by dsimp only; omega⟩
   ·show 0 ≤ Int.tmod (wrap64 (wrap64 (x * 256) + y)) n
    rw [hw]
    exact Int.tmod_nonneg _ (by omega)
   ·show Int.tmod (wrap64 (wrap64 (x * 256) + y)) n < n
    rw [hw]
    exact Int.tmod_lt_of_pos _ (by omega)
  ·rw [if_neg h3, if_neg (by omega)]
   refine ⟨_, _, _, rfl, ?_, fun _ => ?_, by dsimp only; omega, by dsimp only; omega⟩
   ·exact Int.tmod_nonneg _ (by omega)
   ·exact Int.tmod_lt_of_pos _ (by omega)

theorem one_eq (s : List Int) (hb : BY s) (a q n : Int) (h0 : 0 ≤ a) (h1 : a ≤ 900000000000000) (hn : n ≤ 1000000) :
  ∃ b a' q', spec_l1Cur_one.f s a q n = some (b, a', q') ∧ a ≤ a' ∧ a' ≤ a + 2 := by
 obtain ⟨r, a', q', e, _, _, h2, h3⟩ := pick_eq s hb a q n h0 h1 hn
 unfold spec_l1Cur_one.f
 rw [e]
 exact ⟨_, _, _, rfl, h2, h3⟩

theorem among_eq (s : List Int) (hb : BY s) (a q : Int) (l : List Int) (h0 : 0 ≤ a) (h1 : a ≤ 900000000000000) (hn : 0 < l.length) (hn2 : l.length ≤ 1000) :
  ∃ r a' q', spec_l1Cur_among.f s a q l = some (r, a', q') ∧ r ∈ l ∧ a ≤ a' ∧ a' ≤ a + 2 := by
 obtain ⟨r, a', q', e, r0, r1, h2, h3⟩ := pick_eq s hb a q (l.length : Int) h0 h1 (by omega)
 have r2 := r1 (by omega)
 unfold spec_l1Cur_among.f
 rw [e, Option.bind_some, if_pos r0, if_pos r2]
 exact ⟨_, _, _, rfl, rd_mem r0 r2, h2, h3⟩

def GLi (l : List S44) (i : Nat) : Prop := ∀ j, i ≤ j → j < l.length → GBx (l.getD j z44) ∧ (0 < j → NX (l.getD (j - 1) z44) (l.getD j z44))
noncomputable def lgb : List S44 → ByteArray → ByteArray
 | [], b => b
 | x :: xs, b => lgb xs (b ++ bbx x)
theorem of_eq (s : List Int) (hb : BY s) (a q : Int) (l : List ByteArray) (h0 : 0 ≤ a) (h1 : a ≤ 900000000000000) (hn : 0 < l.length) (hn2 : l.length ≤ 1000) :
  ∃ r a' q', spec_l1Cur_of.f s a q l = some (r, a', q') ∧ r ∈ l ∧ a ≤ a' ∧ a' ≤ a + 2 := by
 obtain ⟨r, a', q', e, r0, r1, h2, h3⟩ := pick_eq s hb a q (l.length : Int) h0 h1 (by omega)
 have r2 := r1 (by omega)
 obtain ⟨i, rfl⟩ := Int.eq_ofNat_of_zero_le r0
 unfold spec_l1Cur_of.f
 rw [e, Option.bind_some, if_pos r0, if_pos r2]
 exact ⟨_, _, _, rfl, getD_mem (show i < l.length by omega) _, h2, h3⟩
theorem rec_eq (s : List Int) (hb : BY s) (a q : Int) (h0 : 0 ≤ a) (h1 : a ≤ 900000000000000) :
  ∃ r a' q', spec_l1Cur_recordText.f s a q = some (r, a', q') ∧ r.size ≤ 22 ∧ a ≤ a' ∧ a' ≤ a + 2 := by
 obtain ⟨r, a', q', e, hm, h2, h3⟩ := of_eq s hb a q [(⟨#[]⟩ : ByteArray), (⟨#[97]⟩ : ByteArray), (⟨#[114, 101, 99]⟩ : ByteArray), (⟨#[0, 255]⟩ : ByteArray), (⟨#[115, 111, 109, 101, 32, 109, 111, 114, 101, 32, 116, 101, 120, 116, 32, 111, 102, 32, 105, 116]⟩ : ByteArray)] h0 h1 (by decide) (by decide)
 unfold spec_l1Cur_recordText.f
 rw [e, Option.bind_some]
 refine ⟨_, _, _, rfl, ?_, h2, h3⟩
 simp only [List.mem_cons, List.not_mem_nil, or_false] at hm
 rcases hm with rfl | rfl | rfl | rfl | rfl <;> exact Nat.le_of_ble_eq_true rfl
def RB (l : List ByteArray) : Prop := l.length ≤ 4 ∧ ∀ x ∈ l, x.size ≤ 22
theorem RB_big {l : List ByteArray} (h : RB l) : l.length ≤ 1048576 := Nat.le_trans h.1 (by decide)
theorem dbatch_l (s : List Int) (hb : BY s) (o e p u : Int) : ∀ (d : Nat) (l : List ByteArray) (a q : Int), l.length + d ≤ 4 → 0 < l.length + d → (∀ x ∈ l, x.size ≤ 22) → 0 ≤ a → a + 2 * (d : Int) ≤ 800000000000000 →
  ∃ o' e' l' a' q', Ev (fun k => spec_l1Cur_batch.l0 k (d : Int) s a q o e p u l) (o', e', p, u, l', a', q') ∧ RB l' ∧ a ≤ a' ∧ a' ≤ a + 2 * (d : Int) + 4 := by
 intro d
 induction d with
 | zero =>
  intro l a q hl h1 hx h0 h2
  obtain ⟨r, a1, q1, ep, r0, r1, p1, p2⟩ := pick_eq s hb a q 40 h0 (by omega) (by decide)
  by_cases c0 : r = 0
  ·obtain ⟨x, a2, q2, e2, _, p3, p4⟩ := among_eq s hb a1 q1 [(-1), 100000, 100001] (by omega) (by omega) (by decide) (by decide)
   refine ⟨x, e, l, a2, q2, Ev.step (f := fun _ => some (x, e, p, u, l, a2, q2)) (fun k => ?_) (Ev.now _), ⟨by omega, hx⟩, by omega, by omega⟩
   rw [spec_l1Cur_batch.l0, if_neg (by omega), ep, Option.bind_some, if_pos c0, e2, Option.bind_some]
  ·by_cases c1 : r = 1
   ·refine ⟨o, e, [], a1, q1, Ev.step (f := fun _ => some (o, e, p, u, [], a1, q1)) (fun k => ?_) (Ev.now _), ⟨Nat.zero_le _, fun x h => by cases h⟩, by omega, by omega⟩
    rw [spec_l1Cur_batch.l0, if_neg (by omega), ep, Option.bind_some, if_neg c0, if_pos c1]
   ·by_cases c2 : r = 2
    ·obtain ⟨x, a2, q2, e2, _, p3, p4⟩ := among_eq s hb a1 q1 [(-1), 1000, 1001] (by omega) (by omega) (by decide) (by decide)
     refine ⟨o, x, l, a2, q2, Ev.step (f := fun _ => some (o, x, p, u, l, a2, q2)) (fun k => ?_) (Ev.now _), ⟨by omega, hx⟩, by omega, by omega⟩
     rw [spec_l1Cur_batch.l0, if_neg (by omega), ep, Option.bind_some, if_neg c0, if_neg c1, if_pos c2, e2, Option.bind_some]
    ·by_cases c3 : r = 3
     ·refine ⟨o, e, l.set (0 : Int).toNat (⟨#[97, 32, 116, 101, 120, 116, 32, 111, 102, 32, 109, 111, 114, 101, 32, 116, 104, 97, 110, 32, 50, 48]⟩ : ByteArray), a1, q1, Ev.step (f := fun _ => some (o, e, p, u, l.set (0 : Int).toNat (⟨#[97, 32, 116, 101, 120, 116, 32, 111, 102, 32, 109, 111, 114, 101, 32, 116, 104, 97, 110, 32, 50, 48]⟩ : ByteArray), a1, q1)) (fun k => ?_) (Ev.now _), ⟨by rw [List.length_set]; omega, fun y hy => ?_⟩, by omega, by omega⟩
      ·rw [spec_l1Cur_batch.l0, if_neg (by omega), ep, Option.bind_some, if_neg c0, if_neg c1, if_neg c2, if_pos c3, if_pos (by omega)]
      ·rcases List.mem_or_eq_of_mem_set hy with hy | hy
       ·exact hx y hy
       ·rw [hy]
        decide
     ·refine ⟨o, e, l, a1, q1, Ev.step (f := fun _ => some (o, e, p, u, l, a1, q1)) (fun k => ?_) (Ev.now _), ⟨by omega, hx⟩, by omega, by omega⟩
      rw [spec_l1Cur_batch.l0, if_neg (by omega), ep, Option.bind_some, if_neg c0, if_neg c1, if_neg c2, if_neg c3]
 | succ d ih =>
  intro l a q hl h1 hx h0 h2
  obtain ⟨r, a1, q1, e1, hr, p1, p2⟩ := rec_eq s hb a q h0 (by omega)
  have hw2 : wrap64 (((d + 1 : Nat) : Int) - 1) = (d : Int) := by rw [wrap_id (by omega) (by omega)]; omega
  obtain ⟨o', e', l', a', q', e2, h3, p3, p4⟩ := ih (l ++ [r]) a1 q1 (by rw [List.length_append, List.length_singleton]; omega) (by rw [List.length_append, List.length_singleton]; omega)
   (fun y hy => by
    rcases List.mem_append.1 hy with hy | hy
    ·exact hx y hy
    ·rw [List.mem_singleton.1 hy]; exact hr) (by omega) (by omega)
  refine ⟨o', e', l', a', q', Ev.step (fun k => ?_) e2, h3, by omega, by omega⟩
  rw [spec_l1Cur_batch.l0, if_pos (by omega), e1, Option.bind_some, if_pos (by omega), hw2]
theorem dbatch_ev (s : List Int) (hb : BY s) (a q : Int) (h0 : 0 ≤ a) (h1 : a ≤ 700000000000000) :
  ∃ o e p u l a' q', Ev (fun k => spec_l1Cur_batch.f k s a q) (o, e, p, u, l, a', q') ∧ RB l ∧ a ≤ a' ∧ a' ≤ a + 50 := by
 obtain ⟨r1, a1, q1, e1, _, _, p1, p2⟩ := pick_eq s hb a q 50 h0 (by omega) (by decide)
 obtain ⟨r2, a2, q2, e2, _, _, p3, p4⟩ := pick_eq s hb a1 q1 4 (by omega) (by omega) (by decide)
 obtain ⟨r3, a3, q3, e3, _, _, p5, p6⟩ := pick_eq s hb a2 q2 3 (by omega) (by omega) (by decide)
 obtain ⟨r4, a4, q4, e4, _, _, p7, p8⟩ := pick_eq s hb a3 q3 9 (by omega) (by omega) (by decide)
 obtain ⟨n, a5, q5, e5, n0, n1, p9, p10⟩ := pick_eq s hb a4 q4 3 (by omega) (by omega) (by decide)
 have n2 := n1 (by decide)
 obtain ⟨m, rfl⟩ := Int.eq_ofNat_of_zero_le n0
 obtain ⟨o', e', l', a', q', e6, h6, p11, p12⟩ := dbatch_l s hb r1 r2 r3 r4 (1 + m) [] a5 q5 (by simp only [List.length_nil]; omega) (by omega) (fun x h => by cases h) (by omega) (by omega)
 have fin : a ≤ a' ∧ a' ≤ a + 50 := ⟨by omega, by omega⟩
 refine ⟨o', e', r3, r4, l', a', q', Ev.congr (fun k => ?_) e6, h6, fin⟩
 have hw : wrap64 (1 + (m : Int)) = ((1 + m : Nat) : Int) := by rw [wrap_id (by omega) (by omega)]; omega
 simp only [spec_l1Cur_batch.f, e1, Option.bind_some, e2, e3, e4, e5, hw]

theorem EvB.ifp {c : Prop} [Decidable c] {f g : Nat → Option Bool} {Q : Prop} (h : c) (k : EvB f Q) : EvB (fun n => if c then f n else g n) Q := by
 obtain ⟨b, hb, hq⟩ := k
 exact ⟨b, Ev.ifp h hb, hq⟩
theorem EvB.ifn {c : Prop} [Decidable c] {f g : Nat → Option Bool} {Q : Prop} (h : ¬ c) (k : EvB g Q) : EvB (fun n => if c then f n else g n) Q := by
 obtain ⟨b, hb, hq⟩ := k
 exact ⟨b, Ev.ifn h hb, hq⟩
theorem byN_eq {x y : ByteArray} (hs : x.size = y.size) (h : ∀ i, i < x.size → byN x i = byN y i) : x = y := by
 refine ByteArray.ext (Array.ext hs fun i h1 h2 => ?_)
 have := h i h1
 rw [byN_get x i h1, byN_get y i h2] at this
 exact UInt8.toNat_inj.1 this
theorem byN_app2 (x y : ByteArray) (i : Nat) (h : i < y.size) : byN (x ++ y) (x.size + i) = byN y i := by
 have h1 : x.size + i < (x ++ y).size := by
  rw [ByteArray.size_append]
  omega
 rw [byN_get _ _ h1, byN_get _ _ h, ByteArray.getElem_append_right (by omega)]
 simp only [Nat.add_sub_cancel_left]
theorem byN_num (l : List Int) (i : Nat) (h : i < l.length) (n : Nat) (e : l[i]'h = (n : Int)) : byN (strOfNums l) i = n % 256 := by
 rw [byN_get _ i (by rw [strOfNums_size]; exact h)]
 have : (strOfNums l)[i]'(by rw [strOfNums_size]; exact h) = UInt8.ofNat n := by
  unfold strOfNums
  simp only [ByteArray.getElem_eq_getElem_data]
  simp [e]
 rw [this, UInt8.toNat_ofNat']
theorem byt1_at (v : Nat) (h : v < 256) : byN (byt (v : Int) 1) 0 = v := by
 have := byN_num [(v : Int) % 256] 0 (by simp) (v % 256) (by show (v : Int) % 256 = _; omega)
 have e : byt (v : Int) 1 = strOfNums [(v : Int) % 256] := rfl
 rw [e, this]
 omega
theorem byt3_at (v : Nat) (h : v < 16777216) : (byN (byt (v : Int) 3) 0 * 256 + byN (byt (v : Int) 3) 1) * 256 + byN (byt (v : Int) 3) 2 = v := by
 have e : byt (v : Int) 3 = strOfNums [(v : Int) / 256 / 256 % 256, (v : Int) / 256 % 256, (v : Int) % 256] := rfl
 rw [e, byN_num _ 0 (by simp) (v / 256 / 256 % 256) (by show (v : Int) / 256 / 256 % 256 = _; omega), byN_num _ 1 (by simp) (v / 256 % 256) (by show (v : Int) / 256 % 256 = _; omega), byN_num _ 2 (by simp) (v % 256) (by show (v : Int) % 256 = _; omega)]
 omega
theorem val3 (s : ByteArray) (a : Nat) (h : a + 3 ≤ s.size) : val (s.extract a (a + 3)) = (byN s a * 256 + byN s (a + 1)) * 256 + byN s (a + 2) := by
 unfold val
 have e : (s.extract a (a + 3)).size = 3 := by
  rw [ByteArray.size_extract]
  omega
 rw [e, valF, valF, valF, valF, byN_ext s a (a + 3) 0 (by omega) h, byN_ext s a (a + 3) (0 + 1) (by omega) h, byN_ext s a (a + 3) (0 + 1 + 1) (by omega) h, Nat.add_zero]
 simp
theorem rcs_app : ∀ (l : List ByteArray) (b : ByteArray), rcs l b = b ++ rcs l ⟨#[]⟩
 | [], b => by
  show b = b ++ ByteArray.empty
  rw [ByteArray.append_empty]
 | x :: xs, b => by
  rw [rcs, rcs, rcs_app xs (b ++ _), rcs_app xs ((⟨#[]⟩ : ByteArray) ++ _)]
  have e : (⟨#[]⟩ : ByteArray) ++ (byt (x.size : Int) 1 ++ x) = byt (x.size : Int) 1 ++ x := ByteArray.empty_append
  rw [e, ByteArray.append_assoc]
theorem hdr_at (o e p s n : Nat) (ho : o < 16777216) (he : e < 65536) (hp : p < 65536) (hs : s < 65536) (hn : n < 256) :
  ((byN (hdr (o : Int) (e : Int) (p : Int) (s : Int) n) 0 * 256 + byN (hdr (o : Int) (e : Int) (p : Int) (s : Int) n) 1) * 256 + byN (hdr (o : Int) (e : Int) (p : Int) (s : Int) n) 2 = o) ∧
  byN (hdr (o : Int) (e : Int) (p : Int) (s : Int) n) 3 * 256 + byN (hdr (o : Int) (e : Int) (p : Int) (s : Int) n) 4 = e ∧
  byN (hdr (o : Int) (e : Int) (p : Int) (s : Int) n) 5 * 256 + byN (hdr (o : Int) (e : Int) (p : Int) (s : Int) n) 6 = p ∧
  byN (hdr (o : Int) (e : Int) (p : Int) (s : Int) n) 7 * 256 + byN (hdr (o : Int) (e : Int) (p : Int) (s : Int) n) 8 = s ∧
  byN (hdr (o : Int) (e : Int) (p : Int) (s : Int) n) 9 = n := by
 have z3 : (byt (o : Int) 3).size = 3 := byt_size _ _
 have z5 : (byt (o : Int) 3 ++ byt (e : Int) 2).size = 5 := by rw [ByteArray.size_append, byt_size, byt_size]
 have z7 : ((byt (o : Int) 3 ++ byt (e : Int) 2) ++ byt (p : Int) 2).size = 7 := by rw [ByteArray.size_append, z5, byt_size]
 have z9 : (((byt (o : Int) 3 ++ byt (e : Int) 2) ++ byt (p : Int) 2) ++ byt (s : Int) 2).size = 9 := by rw [ByteArray.size_append, z7, byt_size]
 have s2 : ∀ v : Int, (byt v 2).size = 2 := fun v => byt_size v 2
 have s1 : (byt (n : Int) 1).size = 1 := byt_size _ 1
 unfold hdr
 have a9 := byN_app2 (((byt (o : Int) 3 ++ byt (e : Int) 2) ++ byt (p : Int) 2) ++ byt (s : Int) 2) (byt (n : Int) 1) 0 (by omega)
 have l9 : ∀ i, i < 9 → byN ((((byt (o : Int) 3 ++ byt (e : Int) 2) ++ byt (p : Int) 2) ++ byt (s : Int) 2) ++ byt (n : Int) 1) i = byN (((byt (o : Int) 3 ++ byt (e : Int) 2) ++ byt (p : Int) 2) ++ byt (s : Int) 2) i := fun i hi => byN_app _ _ i (by omega)
 have l7 : ∀ i, i < 7 → byN (((byt (o : Int) 3 ++ byt (e : Int) 2) ++ byt (p : Int) 2) ++ byt (s : Int) 2) i = byN ((byt (o : Int) 3 ++ byt (e : Int) 2) ++ byt (p : Int) 2) i := fun i hi => byN_app _ _ i (by omega)
 have l5 : ∀ i, i < 5 → byN ((byt (o : Int) 3 ++ byt (e : Int) 2) ++ byt (p : Int) 2) i = byN (byt (o : Int) 3 ++ byt (e : Int) 2) i := fun i hi => byN_app _ _ i (by omega)
 have l3 : ∀ i, i < 3 → byN (byt (o : Int) 3 ++ byt (e : Int) 2) i = byN (byt (o : Int) 3) i := fun i hi => byN_app _ _ i (by omega)
 have r3 : ∀ i, i < 2 → byN (byt (o : Int) 3 ++ byt (e : Int) 2) (3 + i) = byN (byt (e : Int) 2) i := fun i hi => by
  have := byN_app2 (byt (o : Int) 3) (byt (e : Int) 2) i (by rw [s2]; exact hi)
  rw [z3] at this
  exact this
 have r5 : ∀ i, i < 2 → byN ((byt (o : Int) 3 ++ byt (e : Int) 2) ++ byt (p : Int) 2) (5 + i) = byN (byt (p : Int) 2) i := fun i hi => by
  have := byN_app2 (byt (o : Int) 3 ++ byt (e : Int) 2) (byt (p : Int) 2) i (by rw [s2]; exact hi)
  rw [z5] at this
  exact this
 have r7 : ∀ i, i < 2 → byN (((byt (o : Int) 3 ++ byt (e : Int) 2) ++ byt (p : Int) 2) ++ byt (s : Int) 2) (7 + i) = byN (byt (s : Int) 2) i := fun i hi => by
  have := byN_app2 ((byt (o : Int) 3 ++ byt (e : Int) 2) ++ byt (p : Int) 2) (byt (s : Int) 2) i (by rw [s2]; exact hi)
  rw [z7] at this
  exact this
 rw [z9] at a9
 refine ⟨?_, ?_, ?_, ?_, ?_⟩
 ·rw [l9 0 (by omega), l9 1 (by omega), l9 2 (by omega), l7 0 (by omega), l7 1 (by omega), l7 2 (by omega), l5 0 (by omega), l5 1 (by omega), l5 2 (by omega), l3 0 (by omega), l3 1 (by omega), l3 2 (by omega)]
  exact byt3_at o ho
 ·rw [l9 3 (by omega), l9 4 (by omega), l7 3 (by omega), l7 4 (by omega), l5 3 (by omega), l5 4 (by omega), r3 0 (by omega), r3 1 (by omega)]
  exact byt2 e he
 ·rw [l9 5 (by omega), l9 6 (by omega), l7 5 (by omega), l7 6 (by omega), r5 0 (by omega), r5 1 (by omega)]
  exact byt2 p hp
 ·rw [l9 7 (by omega), l9 8 (by omega), r7 0 (by omega), r7 1 (by omega)]
  exact byt2 s hs
 ·exact a9.trans (byt1_at n hn)
theorem bb_at (o e p s : Int) (l : List ByteArray) : (∀ i, i < 10 → byN (bb o e p s l) (2 + i) = byN (hdr o e p s l.length) i) ∧ (∀ i, i < rcl l → byN (bb o e p s l) (12 + i) = byN (rcs l ⟨#[]⟩) i) := by
 have zh := hdr_size o e p s l.length
 have zr : (rcs l (⟨#[]⟩ : ByteArray)).size = rcl l := by
  rw [rcs_size]
  show 0 + rcl l = rcl l
  omega
 have zb : (rcs l (hdr o e p s l.length)).size = 10 + rcl l := by rw [rcs_size, hdr_size]
 have z2 : (byt (((rcs l (hdr o e p s l.length)).size + 2 : Nat) : Int) 2).size = 2 := byt_size _ 2
 have body : ∀ i, i < 10 + rcl l → byN (bb o e p s l) (2 + i) = byN (rcs l (hdr o e p s l.length)) i := fun i hi => by
  unfold bb fin
  rw [byN_app _ _ (2 + i) (by rw [ByteArray.size_append, z2, zb]; omega)]
  have := byN_app2 (byt (((rcs l (hdr o e p s l.length)).size + 2 : Nat) : Int) 2) (rcs l (hdr o e p s l.length)) i (by omega)
  rw [z2] at this
  exact this
 refine ⟨fun i hi => ?_, fun i hi => ?_⟩
 ·rw [body i (by omega), rcs_app, byN_app _ _ i (by omega)]
 ·have e12 : 12 + i = 2 + (10 + i) := by omega
  rw [e12, body (10 + i) (by omega), rcs_app]
  have := byN_app2 (hdr o e p s l.length) (rcs l ⟨#[]⟩) i (by omega)
  rw [zh] at this
  exact this
theorem prs_back (x : ByteArray) (Y : Nat) (hY : Y ≤ x.size) : ∀ (l : List ByteArray) (q : Nat) (acc : List ByteArray), (∀ r ∈ l, r.size ≤ 255) → q + rcl l ≤ Y → (∀ i, i < rcl l → byN x (q + i) = byN (rcs l ⟨#[]⟩) i) →
  prs x Y l.length q acc = some (acc ++ l, q + rcl l)
 | [], q, acc, _, _, _ => by
  rw [List.append_nil]
  rfl
 | r :: rs, q, acc, hr, hq, hE => by
  have hz := hr r List.mem_cons_self
  have hc : rcl (r :: rs) = 1 + r.size + rcl rs := rfl
  have e0 : rcs (r :: rs) (⟨#[]⟩ : ByteArray) = (byt (r.size : Int) 1 ++ r) ++ rcs rs ⟨#[]⟩ := by
   rw [rcs, rcs_app rs]
   have e : (⟨#[]⟩ : ByteArray) ++ (byt (r.size : Int) 1 ++ r) = byt (r.size : Int) 1 ++ r := ByteArray.empty_append
   rw [e]
  have z1 : (byt (r.size : Int) 1).size = 1 := byt_size _ 1
  have z2 : (byt (r.size : Int) 1 ++ r).size = 1 + r.size := by rw [ByteArray.size_append, z1]
  have zr : (rcs rs (⟨#[]⟩ : ByteArray)).size = rcl rs := by
   rw [rcs_size]
   show 0 + rcl rs = rcl rs
   omega
  rw [e0] at hE
  have h0 : byN x q = r.size := by
   have := hE 0 (by omega)
   rw [Nat.add_zero, byN_app _ _ 0 (by omega), byN_app _ _ 0 (by omega), byt1_at r.size (by omega)] at this
   exact this
  have h1 : x.extract (q + 1) (q + 1 + r.size) = r := by
   have zx : (x.extract (q + 1) (q + 1 + r.size)).size = r.size := by
    rw [ByteArray.size_extract]
    omega
   refine byN_eq zx fun i hi => ?_
   rw [byN_ext x (q + 1) (q + 1 + r.size) i (by omega) (by omega)]
   have := hE (1 + i) (by omega)
   rw [byN_app _ _ (1 + i) (by omega)] at this
   have t := byN_app2 (byt (r.size : Int) 1) r i (by omega)
   rw [z1] at t
   rw [t] at this
   have e : q + 1 + i = q + (1 + i) := by omega
   rw [e]
   exact this
  have ih := prs_back x Y hY rs (q + 1 + r.size) (acc ++ [r]) (fun y hy => hr y (List.mem_cons_of_mem _ hy)) (by omega) (fun i hi => by
   have := hE (1 + r.size + i) (by omega)
   have t := byN_app2 (byt (r.size : Int) 1 ++ r) (rcs rs ⟨#[]⟩) i (by omega)
   rw [z2] at t
   rw [t] at this
   have e : q + 1 + r.size + i = q + (1 + r.size + i) := by omega
   rw [e]
   exact this)
  rw [List.length_cons, prs, h0, if_pos ⟨by omega, by omega⟩, h1, ih, List.append_assoc, hc]
  have e : q + 1 + r.size + rcl rs = q + (1 + r.size + rcl rs) := by omega
  rw [e]
  rfl
theorem AT_back {x : ByteArray} {a : Nat} {b : S44} (hb : GBx b) (hs : a + (bbx b).size ≤ x.size) (he : x.extract a (a + (bbx b).size) = bbx b) : AT x a b := by
 have hz : (bbx b).size = 14 + rcl b.f4 := bb_size _ _ _ _ _
 have hat : ∀ i, i < (bbx b).size → byN x (a + i) = byN (bbx b) i := fun i hi => by
  have := byN_ext x a (a + (bbx b).size) i (by omega) hs
  rw [he] at this
  exact this.symm
 obtain ⟨B1, B2⟩ := bb_at b.f0 b.f1 b.f2 b.f3 b.f4
 have B1 : ∀ i, i < 10 → byN (bbx b) (2 + i) = byN (hdr b.f0 b.f1 b.f2 b.f3 b.f4.length) i := B1
 have B2 : ∀ i, i < rcl b.f4 → byN (bbx b) (12 + i) = byN (rcs b.f4 ⟨#[]⟩) i := B2
 obtain ⟨g0, ⟨o0, o1⟩, ⟨e0, e1⟩, ⟨p0, p1⟩, ⟨s0, s1⟩, n0, n1⟩ := hb
 obtain ⟨o, ho⟩ := Int.eq_ofNat_of_zero_le o0
 obtain ⟨e, he'⟩ := Int.eq_ofNat_of_zero_le e0
 obtain ⟨p, hp⟩ := Int.eq_ofNat_of_zero_le p0
 obtain ⟨s, hs'⟩ := Int.eq_ofNat_of_zero_le s0
 have H := hdr_at o e p s b.f4.length (by omega) (by omega) (by omega) (by omega) (by omega)
 rw [← ho, ← he', ← hp, ← hs'] at H
 obtain ⟨H1, H2, H3, H4, H5⟩ := H
 have X : ∀ i, i < 10 → byN x (a + (2 + i)) = byN (hdr b.f0 b.f1 b.f2 b.f3 b.f4.length) i := fun i hi => (hat (2 + i) (by omega)).trans (B1 i hi)
 have x11 : byN x (a + 11) = b.f4.length := (X 9 (by omega)).trans H5
 have vo : vO x a = b.f0 := by
  unfold vO
  rw [val3 x (a + 2) (by omega), X 0 (by omega), show a + 2 + 1 = a + (2 + 1) by omega, X 1 (by omega), show a + 2 + 2 = a + (2 + 2) by omega, X 2 (by omega), H1, ho]
 have ve : vE x a = b.f1 := by
  unfold vE
  rw [val2 x (a + 5) (by omega), show a + 5 = a + (2 + 3) by omega, X 3 (by omega), show a + (2 + 3) + 1 = a + (2 + 4) by omega, X 4 (by omega), H2, he']
 have vp : vP x a = b.f2 := by
  unfold vP
  rw [val2 x (a + 7) (by omega), show a + 7 = a + (2 + 5) by omega, X 5 (by omega), show a + (2 + 5) + 1 = a + (2 + 6) by omega, X 6 (by omega), H3, hp]
 have vq : vQ x a = b.f3 := by
  unfold vQ
  rw [val2 x (a + 9) (by omega), show a + 9 = a + (2 + 7) by omega, X 7 (by omega), show a + (2 + 7) + 1 = a + (2 + 8) by omega, X 8 (by omega), H4, hs']
 have hr : ∀ r ∈ b.f4, r.size ≤ 255 := fun r hr => by
  obtain ⟨j, hj, e'⟩ := List.getElem_of_mem hr
  have := g0 j hj
  rw [List.getD_eq_getElem?_getD, List.getElem?_eq_getElem hj] at this
  rw [← e']
  exact Nat.le_trans this (by decide)
 have hp2 := prs_back x x.size (Nat.le_refl _) b.f4 (a + 12) [] hr (by omega) (fun i hi => by
  rw [show a + 12 + i = a + (12 + i) by omega, hat (12 + i) (by omega)]
  exact B2 i hi)
 refine ⟨a + 12 + rcl b.f4, ⟨?_, ?_, ?_, ?_⟩, by omega, by rw [vo, ve, vp, vq]⟩
 ·rw [x11, hp2]
  rfl
 ·rw [vo, ve, vp, vq]
  exact ⟨g0, ⟨o0, o1⟩, ⟨e0, e1⟩, ⟨p0, p1⟩, ⟨s0, s1⟩, n0, n1⟩
 ·rw [vo, ve, vp, vq]
  exact hs
 ·rw [vo, ve, vp, vq]
  exact he

theorem lgb_app : ∀ (l r : List S44) (s : ByteArray), lgb (l ++ r) s = lgb r (lgb l s)
 | [], r, s => rfl
 | x :: xs, r, s => by rw [List.cons_append, lgb, lgb, lgb_app xs r]
theorem lgb_pre : ∀ (l : List S44) (s : ByteArray), lgb l s = s ++ lgb l ⟨#[]⟩
 | [], s => by
  show s = s ++ ByteArray.empty
  rw [ByteArray.append_empty]
 | x :: xs, s => by
  have e : (⟨#[]⟩ : ByteArray) ++ bbx x = bbx x := ByteArray.empty_append
  rw [lgb, lgb, lgb_pre xs (s ++ bbx x), e, lgb_pre xs (bbx x), ByteArray.append_assoc]
noncomputable def PO (l : List S44) (i : Nat) : Nat := (lgb (l.take i) ⟨#[]⟩).size
theorem take_snoc {l : List S44} {i : Nat} (h : i < l.length) : l.take (i + 1) = l.take i ++ [l.getD i z44] := by
 rw [List.take_add_one, List.getD_eq_getElem?_getD, List.getElem?_eq_getElem h]
 rfl
theorem PO_succ {l : List S44} {i : Nat} (h : i < l.length) : PO l (i + 1) = PO l i + (bbx (l.getD i z44)).size := by
 unfold PO
 rw [take_snoc h, lgb_app, lgb, lgb, ByteArray.size_append]
theorem PO_all (l : List S44) : PO l l.length = (lgb l ⟨#[]⟩).size := by
 unfold PO
 rw [List.take_length]
theorem lgb_cut {l : List S44} {i : Nat} (h : i < l.length) : lgb l ⟨#[]⟩ = (lgb (l.take i) ⟨#[]⟩ ++ bbx (l.getD i z44)) ++ lgb (l.drop (i + 1)) ⟨#[]⟩ := by
 have e : lgb l ⟨#[]⟩ = lgb (l.take (i + 1) ++ l.drop (i + 1)) ⟨#[]⟩ := by rw [List.take_append_drop]
 rw [e, lgb_app, lgb_pre (l.drop (i + 1)), take_snoc h, lgb_app, lgb, lgb]
theorem lgb_at {l : List S44} {i : Nat} (h : i < l.length) (j : Nat) (hj : j < (bbx (l.getD i z44)).size) : byN (lgb l ⟨#[]⟩) (PO l i + j) = byN (bbx (l.getD i z44)) j := by
 unfold PO
 rw [lgb_cut h, byN_app _ _ _ (by rw [ByteArray.size_append]; omega)]
 exact byN_app2 _ _ j hj
theorem PO_le {l : List S44} {i : Nat} (h : i < l.length) : PO l (i + 1) ≤ (lgb l ⟨#[]⟩).size := by
 rw [PO_succ h]
 unfold PO
 rw [lgb_cut h, ByteArray.size_append, ByteArray.size_append]
 omega
theorem getD_take {l : List S44} {i j : Nat} (h : j < i) (h2 : i ≤ l.length) : (l.take i).getD j z44 = l.getD j z44 := by
 rw [List.getD_eq_getElem?_getD, List.getD_eq_getElem?_getD, List.getElem?_take_of_lt h]
theorem RD_back (l : List S44) (hg : GLi l 0) (K : Nat) (hK : K ≤ (lgb l ⟨#[]⟩).size) : ∀ (d i : Nat), i ≤ l.length → PO l i ≤ K → K - PO l i ≤ d →
  ∃ m, m ≤ l.length ∧ PO l m ≤ K ∧ (m < l.length → K < PO l (m + 1)) ∧ RD ((lgb l ⟨#[]⟩).extract 0 K) d (l.take i) (PO l i) = (l.take m, PO l m) := by
 have zX : ((lgb l ⟨#[]⟩).extract 0 K).size = K := by rw [ByteArray.size_extract]; omega
 have atX : ∀ i, i < K → byN ((lgb l ⟨#[]⟩).extract 0 K) i = byN (lgb l ⟨#[]⟩) i := fun i hi => by
  rw [byN_ext _ 0 K i (by omega) hK, Nat.zero_add]
 have stay : ∀ (d i : Nat), i ≤ l.length → PO l i ≤ K → (i < l.length → K < PO l (i + 1)) → TK ((lgb l ⟨#[]⟩).extract 0 K) (PO l i) = none →
   ∃ m, m ≤ l.length ∧ PO l m ≤ K ∧ (m < l.length → K < PO l (m + 1)) ∧ RD ((lgb l ⟨#[]⟩).extract 0 K) d (l.take i) (PO l i) = (l.take m, PO l m) := fun d i h1 h2 h3 hT => by
  refine ⟨i, h1, h2, h3, ?_⟩
  cases d with
  | zero => rfl
  | succ d =>
   rw [RD, hT]
   rfl
 have none_ : ∀ i, i ≤ l.length → (i < l.length → K < PO l (i + 1)) → TK ((lgb l ⟨#[]⟩).extract 0 K) (PO l i) = none := fun i h1 h3 => TK_none.2 fun c hA => by
  have hg12 : PO l i + 12 ≤ K := by
   obtain ⟨_, _, h, _⟩ := hA
   omega
  obtain ⟨gc, sc, ec⟩ := AT_good hA
  by_cases hi : i < l.length
  ·have hb := (hg i (Nat.zero_le _) hi).1
   have hzb : (bbx (l.getD i z44)).size = 14 + rcl (l.getD i z44).f4 := bb_size _ _ _ _ _
   have hzc : (bbx c).size = 14 + rcl c.f4 := bb_size _ _ _ _ _
   have hbs := (bbx_size _ hb).2
   have hcs := (bbx_size c gc).2
   have l1 : byN (bbx (l.getD i z44)) 0 * 256 + byN (bbx (l.getD i z44)) 1 = 12 + rcl (l.getD i z44).f4 := bb_val _ _ _ _ _ (by omega)
   have l2 : byN (bbx c) 0 * 256 + byN (bbx c) 1 = 12 + rcl c.f4 := bb_val _ _ _ _ _ (by omega)
   have e : ∀ j, j < 2 → byN (bbx c) j = byN (bbx (l.getD i z44)) j := fun j hj => by
    rw [← ec, byN_ext _ _ _ j (by omega) sc, atX _ (by omega)]
    exact lgb_at hi j (by omega)
   rw [e 0 (by omega), e 1 (by omega)] at l2
   have := h3 hi
   rw [PO_succ hi] at this
   omega
  ·have e : i = l.length := by omega
   rw [e, PO_all] at hg12
   omega
 intro d
 induction d with
 | zero =>
  intro i h1 h2 h3
  refine stay 0 i h1 h2 (fun h => ?_) (none_ i h1 (fun h => ?_)) <;>
  ·have hz := (bbx_size _ (hg i (Nat.zero_le _) h).1).1
   rw [PO_succ h]
   omega
 | succ d ih =>
  intro i h1 h2 h3
  by_cases hi : i < l.length ∧ PO l (i + 1) ≤ K
  ·obtain ⟨hi, hn⟩ := hi
   have hb := (hg i (Nat.zero_le _) hi).1
   have hz := (bbx_size _ hb).1
   have hS := PO_succ hi
   have hA : AT ((lgb l ⟨#[]⟩).extract 0 K) (PO l i) (l.getD i z44) := by
    refine AT_back hb (by omega) ?_
    have z : (((lgb l ⟨#[]⟩).extract 0 K).extract (PO l i) (PO l i + (bbx (l.getD i z44)).size)).size = (bbx (l.getD i z44)).size := by rw [ByteArray.size_extract]; omega
    refine byN_eq z fun j hj => ?_
    rw [byN_ext _ _ _ j (by omega) (by omega), atX _ (by omega)]
    exact lgb_at hi j (by omega)
   obtain ⟨m, m1, m2, m3, m4⟩ := ih (i + 1) (by omega) hn (by omega)
   refine ⟨m, m1, m2, m3, ?_⟩
   have tl : (l.take i).length = i := by rw [List.length_take]; omega
   have hc : (l.take i).length = 0 ∨ NX ((l.take i).getD ((l.take i).length - 1) z44) (l.getD i z44) := by
    rw [tl]
    by_cases h0 : i = 0
    ·exact .inl h0
    ·refine .inr ?_
     rw [getD_take (show i - 1 < i by omega) (by omega)]
     exact (hg i (Nat.zero_le _) hi).2 (by omega)
   rw [RD, TK_some.2 hA]
   simp only [Option.elim_some]
   rw [if_pos hc, ← take_snoc hi, ← hS, m4]
  ·have h4 : i < l.length → K < PO l (i + 1) := fun h => by
    by_cases h5 : PO l (i + 1) ≤ K
    ·exact absurd ⟨h, h5⟩ hi
    ·omega
   exact stay (d + 1) i h1 h2 h4 (none_ i h1 h4)
theorem RD_good (x : ByteArray) : ∀ (d : Nat) (l : List S44) (a : Nat), GLi l 0 → GLi (RD x d l a).1 0
 | 0, l, a, h => h
 | d + 1, l, a, h => by
  rw [RD]
  cases hT : TK x a with
  | none => exact h
  | some b =>
   simp only [Option.elim_some]
   by_cases hn : l.length = 0 ∨ NX (l.getD (l.length - 1) z44) b
   ·rw [if_pos hn]
    refine RD_good x d (l ++ [b]) _ (fun j _ hj => ?_)
    rw [List.length_append, List.length_singleton] at hj
    by_cases hjl : j < l.length
    ·have e : ∀ i, i < l.length → (l ++ [b]).getD i z44 = l.getD i z44 := fun i hi => by
      rw [List.getD_eq_getElem?_getD, List.getD_eq_getElem?_getD, List.getElem?_append_left hi]
     rw [e j hjl]
     refine ⟨(h j (Nat.zero_le _) hjl).1, fun h0 => ?_⟩
     rw [e (j - 1) (by omega)]
     exact (h j (Nat.zero_le _) hjl).2 h0
    ·have e : j = l.length := by omega
     subst e
     have e1 : (l ++ [b]).getD l.length z44 = b := by
      rw [List.getD_eq_getElem?_getD, List.getElem?_append_right (Nat.le_refl _), Nat.sub_self]
      rfl
     rw [e1]
     refine ⟨(AT_good (TK_some.1 hT)).1, fun h0 => ?_⟩
     rw [List.getD_eq_getElem?_getD, List.getElem?_append_left (show l.length - 1 < l.length by omega), ← List.getD_eq_getElem?_getD]
     exact hn.resolve_left (by omega)
   ·rw [if_neg hn]
    exact h

theorem EvB.succ {g : Nat → Option Bool} {Q : Prop} (k : EvB (fun n => g (n + 1)) Q) : EvB g Q := EvB.step (fun _ => rfl) k
theorem ext_app (x : ByteArray) (a b c : Nat) (h1 : a ≤ b) (h2 : b ≤ c) (h3 : c ≤ x.size) : x.extract a b ++ x.extract b c = x.extract a c := by
 have z1 : (x.extract a b).size = b - a := by rw [ByteArray.size_extract]; omega
 have z2 : (x.extract b c).size = c - b := by rw [ByteArray.size_extract]; omega
 have z3 : (x.extract a c).size = c - a := by rw [ByteArray.size_extract]; omega
 refine byN_eq (by rw [ByteArray.size_append]; omega) fun j hj => ?_
 rw [ByteArray.size_append, z1, z2] at hj
 rw [byN_ext x a c j (by omega) h3]
 by_cases h : j < b - a
 ·rw [byN_app _ _ j (by omega), byN_ext x a b j (by omega) (by omega)]
 ·obtain ⟨q, rfl⟩ : ∃ q, j = (x.extract a b).size + q := ⟨j - (b - a), by omega⟩
  rw [byN_app2 _ _ q (by omega), byN_ext x b c q (by omega) h3, z1]
  congr 1
  omega
theorem ext_nil (x : ByteArray) (a : Nat) : x.extract a a = (⟨#[]⟩ : ByteArray) := byN_eq (by rw [ByteArray.size_extract]; show min a x.size - a = 0; omega) fun i hi => by
 rw [ByteArray.size_extract] at hi
 omega
theorem RD_bytes (x : ByteArray) : ∀ (d : Nat) (l : List S44) (a : Nat), a ≤ x.size → a ≤ (RD x d l a).2 ∧ lgb (RD x d l a).1 ⟨#[]⟩ = lgb l ⟨#[]⟩ ++ x.extract a (RD x d l a).2
 | 0, l, a, h => ⟨Nat.le_refl _, by
  show lgb l ⟨#[]⟩ = lgb l ⟨#[]⟩ ++ x.extract a a
  rw [ext_nil]
  exact ByteArray.append_empty.symm⟩
 | d + 1, l, a, h => by
  rw [RD]
  cases hT : TK x a with
  | none => exact ⟨Nat.le_refl _, by
    show lgb l ⟨#[]⟩ = lgb l ⟨#[]⟩ ++ x.extract a a
    rw [ext_nil]
    exact ByteArray.append_empty.symm⟩
  | some b =>
   simp only [Option.elim_some]
   by_cases hn : l.length = 0 ∨ NX (l.getD (l.length - 1) z44) b
   ·rw [if_pos hn]
    obtain ⟨g1, g2, g3⟩ := AT_good (TK_some.1 hT)
    obtain ⟨i1, i2⟩ := RD_bytes x d (l ++ [b]) (a + (bbx b).size) g2
    have i3 := (RD_at x d (l ++ [b]) (a + (bbx b).size) g2).1
    refine ⟨by omega, ?_⟩
    have e := ext_app x a (a + (bbx b).size) _ (by omega) i1 i3
    rw [g3] at e
    rw [i2, lgb_app, lgb, lgb, ByteArray.append_assoc, e]
   ·rw [if_neg hn]
    exact ⟨Nat.le_refl _, by
     show lgb l ⟨#[]⟩ = lgb l ⟨#[]⟩ ++ x.extract a a
     rw [ext_nil]
     exact ByteArray.append_empty.symm⟩
theorem RDx_bytes (x : ByteArray) : lgb (RDx x).1 ⟨#[]⟩ = x.extract 0 (RDx x).2 := by
 have := (RD_bytes x x.size [] 0 (Nat.zero_le _)).2
 rw [show lgb ([] : List S44) ⟨#[]⟩ = ByteArray.empty from rfl, ByteArray.empty_append] at this
 exact this
theorem RDx_log (x : ByteArray) : GLi (RDx x).1 0 := RD_good x x.size [] 0 (fun j _ h => absurd h (Nat.not_lt_zero _))
def DD (l : List S56) : Prop := 1 ≤ l.length ∧ l.length ≤ 4 ∧ ∀ j, j < l.length → (l.getD j z56).f0.size ≤ 400
theorem DD_of {l : List S56} (h : GD l) : DD l := ⟨by have := h.2.1; omega, by have := h.2.2; omega, fun j hj => by have := (h.1 j hj).1; omega⟩
theorem DD_big {l : List S56} (h : DD l) : l.length ≤ 1048576 := by have := h.2.1; omega
theorem set_getD (l : List S56) (i j : Nat) (x : S56) (hi : i < l.length) : (l.set i x).getD j z56 = if j = i then x else l.getD j z56 := by
 rw [List.getD_eq_getElem?_getD, List.getElem?_set]
 by_cases h : i = j
 ·rw [if_pos h, if_pos h.symm, if_pos (by omega)]
  rfl
 ·rw [if_neg h, if_neg (Ne.symm h), List.getD_eq_getElem?_getD]
theorem GD_set {l : List S56} (h : GD l) (i : Nat) (x : S56) (hi : i < l.length) (hx : GF x) : GD (l.set i x) := by
 refine ⟨fun j hj => ?_, by rw [List.length_set]; exact h.2⟩
 rw [List.length_set] at hj
 rw [set_getD l i j x hi]
 split
 ·exact hx
 ·exact h.1 j hj
theorem DD_set {l : List S56} (h : DD l) (i : Nat) (x : S56) (hi : i < l.length) (hx : x.f0.size ≤ 400) : DD (l.set i x) := by
 refine ⟨by rw [List.length_set]; exact h.1, by rw [List.length_set]; exact h.2.1, fun j hj => ?_⟩
 rw [List.length_set] at hj
 rw [set_getD l i j x hi]
 split
 ·exact hx
 ·exact h.2.2 j hj
theorem WQ_good {l : List S56} {a : Int} {b : S44} {y : List S56} (h : WQ l a b y) : GD y := by
 obtain ⟨hg, _, i, _, hi, _, _, hz, rfl⟩ := h
 obtain ⟨g1, g2, g3⟩ := hg.1 i hi
 exact GD_set hg i _ hi ⟨by show ((_ ++ _ : ByteArray).size : Int) ≤ 400; rw [ByteArray.size_append]; omega, g2, by show _ ≤ ((_ ++ _ : ByteArray).size : Int); rw [ByteArray.size_append]; show (l.getD i z56).f1 ≤ _; omega⟩
theorem ddisk_j2 (s : List Int) (hb : BY s) (l : List S56) (hl : DD l) (a q : Int) (h0 : 0 ≤ a) (h1 : a ≤ 800000000000000) :
  ∃ x a' q', Ev (fun k => spec_l1Cur_disk.j2 k s a q l) (x, a', q') ∧ DD x ∧ a ≤ a' ∧ a' ≤ a + 4 := by
 obtain ⟨o, a1, q1, e1, p1, p2⟩ := one_eq s hb a q 20 h0 (by omega) (by decide)
 cases o with
 | false =>
  refine ⟨l, a1, q1, Ev.step (f := fun _ => some (l, a1, q1)) (fun k => ?_) (Ev.now _), hl, p1, by omega⟩
  simp only [spec_l1Cur_disk.j2, e1, Option.bind_some]
  exact if_neg (by decide)
 | true =>
  have hl0 : 0 < (l.length : Int) := by have := hl.1; omega
  obtain ⟨r, a2, q2, e2, _, p3, p4⟩ := among_eq s hb a1 q1 [(-1), 0, ((rd_T56 l 0).f0.size : Int), wrap64 (((rd_T56 l 0).f0.size : Int) + 1)] (by omega) (by omega) (by simp) (by simp)
  have hs : (l.getD 0 z56).f0.size ≤ 400 := hl.2.2 0 hl.1
  refine ⟨l.set 0 ⟨(rd_T56 l 0).f0, r⟩, a2, q2, Ev.step (f := fun _ => some (l.set 0 ⟨(rd_T56 l 0).f0, r⟩, a2, q2)) (fun k => ?_) (Ev.now _), DD_set hl 0 _ hl.1 hs, by omega, by omega⟩
  simp only [spec_l1Cur_disk.j2, e1, e2, Option.bind_some]
  rw [if_pos trivial, if_pos hl0]
  rfl
theorem ddisk_l (s : List Int) (hb : BY s) : ∀ (d : Nat) (l : List S56) (z a q : Int), GD l → 0 ≤ a → a + 60 * (d : Int) ≤ 600000000000000 →
  ∃ x a' q', Ev (fun k => spec_l1Cur_disk.l0 k z (d : Int) s a q l) (x, a', q') ∧ DD x ∧ a ≤ a' ∧ a' ≤ a + 60 * (d : Int) + 20 := by
 intro d
 induction d with
 | zero =>
  intro l z a q hl h0 h1
  obtain ⟨f, a1, q1, e1, _, _, p1, p2⟩ := pick_eq s hb a q (l.length : Int) h0 (by omega) (by have := hl.2.2; omega)
  obtain ⟨t, a2, q2, e2, ht, p3, p4⟩ := of_eq s hb a1 q1 [(⟨#[]⟩ : ByteArray), (⟨#[]⟩ : ByteArray), (⟨#[116, 111, 114, 110]⟩ : ByteArray), (⟨#[0, 14, 0]⟩ : ByteArray)] (by omega) (by omega) (by simp) (by simp)
  have htz : t.size ≤ 1048576 := by
   simp only [List.mem_cons, List.not_mem_nil, or_false] at ht
   rcases ht with rfl | rfl | rfl | rfl <;> decide
  obtain ⟨y, o, _, hs, hq⟩ := sAppendX l f t (DD_big (DD_of hl)) htz
  have key : ∃ x a' q', Ev (fun k => if o = true then spec_l1Cur_disk.j2 k s a2 q2 y else spec_l1Cur_disk.j2 k s a2 q2 l) (x, a', q') ∧ DD x ∧ a2 ≤ a' ∧ a' ≤ a2 + 4 := by
   cases o with
   | true =>
    obtain ⟨_, i, _, hi, hz, hy⟩ := hq rfl
    obtain ⟨x, a', q', e3, h3⟩ := ddisk_j2 s hb y (by rw [hy]; exact DD_set (DD_of hl) i _ hi (by show (_ ++ _ : ByteArray).size ≤ 400; rw [ByteArray.size_append]; exact hz)) a2 q2 (by omega) (by omega)
    exact ⟨x, a', q', Ev.ifp rfl e3, h3⟩
   | false =>
    obtain ⟨x, a', q', e3, h3⟩ := ddisk_j2 s hb l (DD_of hl) a2 q2 (by omega) (by omega)
    exact ⟨x, a', q', Ev.ifn (by decide) e3, h3⟩
  obtain ⟨x, a', q', e3, hx, p5, p6⟩ := key
  refine ⟨x, a', q', Ev.succ ?_, hx, by omega, by omega⟩
  simp only [spec_l1Cur_disk.l0, e1, e2, Option.bind_some]
  exact Ev.ifn (by omega) (Ev.bind hs e3)
 | succ d ih =>
  intro l z a q hl h0 h1
  have hwd : wrap64 (((d + 1 : Nat) : Int) - 1) = (d : Int) := by rw [wrap_id (by omega) (by omega)]; omega
  obtain ⟨b0, b1, b2, b3, r, a1, q1, e1, hr, p1, p2⟩ := dbatch_ev s hb a q h0 (by omega)
  obtain ⟨g, hg, _⟩ := sGB_ev b0 b1 b2 b3 r (RB_big hr)
  have j1 : ∀ (y : List S56) (z : Int), GD y → ∃ x a' q', Ev (fun k => spec_l1Cur_disk.j1 k z ((d + 1 : Nat) : Int) s a1 q1 y) (x, a', q') ∧ DD x ∧ a1 ≤ a' ∧ a' ≤ a1 + 60 * (d : Int) + 22 := by
   intro y z hy
   obtain ⟨u, o, _, hs, hq⟩ := sSyncX y 0 (DD_big (DD_of hy))
   have stop : ∀ (v : List S56) (a2 q2 : Int), GD v → a1 ≤ a2 → a2 ≤ a1 + 2 → ∃ x a' q', Ev (fun k => spec_l1Cur_disk.l0 k z (d : Int) s a2 q2 v) (x, a', q') ∧ DD x ∧ a1 ≤ a' ∧ a' ≤ a1 + 60 * (d : Int) + 22 := fun v a2 q2 hv p3 p4 => by
    obtain ⟨x, a', q', e3, hx, p5, p6⟩ := ih v z a2 q2 hv (by omega) (by omega)
    exact ⟨x, a', q', e3, hx, by omega, by omega⟩
   cases o with
   | false =>
    obtain ⟨x, a', q', e3, h3⟩ := stop y a1 q1 hy (Int.le_refl _) (by omega)
    refine ⟨x, a', q', Ev.succ ?_, h3⟩
    simp only [spec_l1Cur_disk.j1, hwd]
    exact Ev.bind hs (Ev.ifn (by simp) e3)
   | true =>
    obtain ⟨_, i, _, hi, hu⟩ := hq rfl
    have hGu : GD u := by
     obtain ⟨g1, g2, g3⟩ := hy.1 i hi
     rw [hu]
     exact GD_set hy i _ hi ⟨g1, by show 0 ≤ ((y.getD i z56).f0.size : Int); omega, Int.le_refl _⟩
    obtain ⟨c, a2, q2, e2, p3, p4⟩ := one_eq s hb a1 q1 3 (by omega) (by omega) (by decide)
    cases c with
    | true =>
     obtain ⟨x, a', q', e3, h3⟩ := stop u a2 q2 hGu p3 p4
     refine ⟨x, a', q', Ev.succ ?_, h3⟩
     simp only [spec_l1Cur_disk.j1, hwd, e2, Option.bind_some]
     exact Ev.bind hs (Ev.ifp rfl (Ev.ifp (by first | rfl | trivial | simp) e3))
    | false =>
     obtain ⟨x, a', q', e3, h3⟩ := stop y a2 q2 hy p3 p4
     refine ⟨x, a', q', Ev.succ ?_, h3⟩
     simp only [spec_l1Cur_disk.j1, hwd, e2, Option.bind_some]
     exact Ev.bind hs (Ev.ifp rfl (Ev.ifn (by simp) e3))
  cases g with
  | false =>
   obtain ⟨x, a', q', e3, hx, p5, p6⟩ := ih l z a1 q1 hl (by omega) (by omega)
   refine ⟨x, a', q', Ev.succ ?_, hx, by omega, by omega⟩
   simp only [spec_l1Cur_disk.l0, hwd]
   exact Ev.ifp (by clear hwd; omega) (Ev.bind e1 (Ev.bind hg (Ev.ifn (by decide) e3)))
  | true =>
   obtain ⟨y, o, _, hs, hq⟩ := sWriteX l 0 ⟨z, 1, b2, b3, r⟩ (DD_big (DD_of hl)) (RB_big hr)
   cases o with
   | true =>
    obtain ⟨x, a', q', e3, hx, p5, p6⟩ := j1 y (wrap64 (z + (r.length : Int))) (WQ_good (hq rfl))
    refine ⟨x, a', q', Ev.succ ?_, hx, by omega, by omega⟩
    simp only [spec_l1Cur_disk.l0, hwd]
    exact Ev.ifp (by clear hwd; omega) (Ev.bind e1 (Ev.bind hg (Ev.ifp rfl (Ev.bind hs (Ev.ifp rfl e3)))))
   | false =>
    obtain ⟨x, a', q', e3, hx, p5, p6⟩ := j1 l z hl
    refine ⟨x, a', q', Ev.succ ?_, hx, by omega, by omega⟩
    simp only [spec_l1Cur_disk.l0, hwd]
    exact Ev.ifp (by clear hwd; omega) (Ev.bind e1 (Ev.bind hg (Ev.ifp rfl (Ev.bind hs (Ev.ifn (by simp) e3)))))
theorem ddisk_ev (s : List Int) (hb : BY s) : ∃ x a' q', Ev (fun k => spec_l1Cur_disk.f k s 0 0) (x, a', q') ∧ DD x ∧ 0 ≤ a' ∧ a' ≤ 1000 := by
 obtain ⟨n, a1, q1, e1, n0, n1, p1, p2⟩ := pick_eq s hb 0 0 3 (by omega) (by omega) (by decide)
 have n2 := n1 (by decide)
 obtain ⟨m, a2, q2, e2, m0, m1, p3, p4⟩ := pick_eq s hb a1 q1 8 (by omega) (by omega) (by decide)
 have m2 := m1 (by decide)
 obtain ⟨d, rfl⟩ := Int.eq_ofNat_of_zero_le m0
 have hw : wrap64 (1 + n) = 1 + n := wrap_id (by omega) (by omega)
 have hN : spec_NewDisk.f (1 + n) = some (List.replicate (1 + n).toNat z56, true) := by
  unfold spec_NewDisk.f
  rw [sin, decide_eq_true (show (1 : Int) ≤ 1 + n ∧ 1 + n ≤ 4 by omega), Option.bind_some, if_pos rfl, if_pos (by omega), if_pos (by omega)]
 have hG : GD (List.replicate (1 + n).toNat z56) := by
  refine ⟨fun j hj => ?_, by rw [List.length_replicate]; omega⟩
  rw [List.length_replicate] at hj
  have e : (List.replicate (1 + n).toNat z56).getD j z56 = z56 := by
   rw [List.getD_eq_getElem?_getD, List.getElem?_replicate, if_pos hj]
   rfl
  rw [e]
  exact ⟨by decide, by decide, by decide⟩
 obtain ⟨x, a', q', e3, hx, p5, p6⟩ := ddisk_l s hb d _ 0 a2 q2 hG (by omega) (by omega)
 refine ⟨x, a', q', Ev.congr (fun k => ?_) e3, hx, by omega, by omega⟩
 simp only [spec_l1Cur_disk.f, e1, e2, hw, hN, Option.bind_some]

def crF (x : S56) (n : Int) : S56 := ⟨x.f0.extract 0 (x.f1 + n).toNat, x.f1 + n⟩
theorem set_app {α : Type} {n i : Nat} {z : α} (x y : List α) (hx : x.length = n) (hy : y.length = i) (he : ∀ j, j < i → x.getD j z = y.getD j z) (hi : i < n) (v : α) : ∀ j, j < i + 1 → (x.set i v).getD j z = (y ++ [v]).getD j z := fun j hj => by
 by_cases e : j = i
 ·subst e
  have e1 : (x.set j v).getD j z = v := by
   rw [List.getD_eq_getElem?_getD, List.getElem?_set_self (by omega)]
   rfl
  have e2 : (y ++ [v]).getD j z = v := by
   rw [List.getD_eq_getElem?_getD, List.getElem?_append_right (by omega), hy, Nat.sub_self]
   rfl
  rw [e1, e2]
 ·have e1 : (x.set i v).getD j z = x.getD j z := by rw [List.getD_eq_getElem?_getD, List.getElem?_set_ne (fun h => e h.symm), ← List.getD_eq_getElem?_getD]
  have e2 : (y ++ [v]).getD j z = y.getD j z := by rw [List.getD_eq_getElem?_getD, List.getElem?_append_left (by omega), ← List.getD_eq_getElem?_getD]
  rw [e1, e2]
  exact he j (by omega)
theorem crashX_l (l : List S56) (c : List Int) (hl : l.length ≤ 4) (hc : c.length = l.length) (hg : ∀ j, j < l.length → GF (l.getD j z56)) : ∀ d i : Nat, i + d = l.length → ∀ (x y : List S56), x.length = l.length → y.length = i → (∀ j, j < i → x.getD j z56 = y.getD j z56) → (∀ j, j < i → (y.getD j z56 = crF (l.getD j z56) (c.getD j 0) ∧ 0 ≤ c.getD j 0 ∧ c.getD j 0 ≤ ((l.getD j z56).f0.size : Int) - (l.getD j z56).f1)) →
  ∃ (r : List S56) (o : Bool), r.length ≤ 1048576 ∧ Ev (fun k => spec_CrashDisk.l0 k c l (l.length : Int) (i : Int) x) (r, o) ∧ Ev (fun k => impl_CrashDisk.l0 k c l (l.length : Int) (i : Int) y) (r, o) ∧ (o = true → r.length = l.length ∧ ∀ j, j < l.length → (r.getD j z56 = crF (l.getD j z56) (c.getD j 0) ∧ 0 ≤ c.getD j 0 ∧ c.getD j 0 ≤ ((l.getD j z56).f0.size : Int) - (l.getD j z56).f1))
 | 0, i, hd => fun x y hx hy he hY => by
  have e : x = y := by
   refine List.ext_getElem (by omega) (fun j h1 h2 => ?_)
   have := he j (by omega)
   rw [List.getD_eq_getElem?_getD, List.getD_eq_getElem?_getD, List.getElem?_eq_getElem h1, List.getElem?_eq_getElem h2] at this
   exact this
  subst e
  refine ⟨x, true, by omega, Ev.step (f := fun _ => some (x, true)) (fun k => ?_) (Ev.now _), Ev.step (f := fun _ => some (x, true)) (fun k => ?_) (Ev.now _), fun _ => ⟨hx, fun j hj => hY j (by omega)⟩⟩
  ·rw [spec_CrashDisk.l0, if_neg (by omega)]
  ·rw [impl_CrashDisk.l0, if_neg (by omega)]
 | d + 1, i, hd => fun x y hx hy he hY => by
  obtain ⟨g1, g2, g3⟩ := hg i (by omega)
  have w1 : wrap64 (((l.getD i z56).f0.size : Int) - (l.getD i z56).f1) = ((l.getD i z56).f0.size : Int) - (l.getD i z56).f1 := wrap_id (by omega) (by omega)
  by_cases h0 : c.getD i 0 < 0
  ·refine ⟨[], false, Nat.zero_le _, Ev.step (f := fun _ => some ([], false)) (fun k => ?_) (Ev.now _), Ev.step (f := fun _ => some ([], false)) (fun k => ?_) (Ev.now _), fun h => by cases h⟩
   ·rw [spec_CrashDisk.l0, if_pos (by omega), if_pos (by omega), if_pos (by omega), if_pos (by omega), rd_nat, if_pos h0]
   ·rw [impl_CrashDisk.l0, if_pos (by omega), if_pos (by omega), if_pos (by omega), if_pos (by omega), rd_nat, fl_nat'', w1, iin, Option.bind_some, decide_eq_false (by omega), if_neg (by decide)]
  ·by_cases h1 : c.getD i 0 > ((l.getD i z56).f0.size : Int) - (l.getD i z56).f1
   ·refine ⟨[], false, Nat.zero_le _, Ev.step (f := fun _ => some ([], false)) (fun k => ?_) (Ev.now _), Ev.step (f := fun _ => some ([], false)) (fun k => ?_) (Ev.now _), fun h => by cases h⟩
    ·rw [spec_CrashDisk.l0, if_pos (by omega), if_pos (by omega), if_pos (by omega), if_pos (by omega), rd_nat, fl_nat'', w1, if_neg h0, if_pos h1]
    ·rw [impl_CrashDisk.l0, if_pos (by omega), if_pos (by omega), if_pos (by omega), if_pos (by omega), rd_nat, fl_nat'', w1, iin, Option.bind_some, decide_eq_false (by omega), if_neg (by decide)]
   ·have w2 : wrap64 ((l.getD i z56).f1 + c.getD i 0) = (l.getD i z56).f1 + c.getD i 0 := wrap_id (by omega) (by omega)
    have hY' : ∀ j, j < i + 1 → ((y ++ [crF (l.getD i z56) (c.getD i 0)]).getD j z56 = crF (l.getD j z56) (c.getD j 0) ∧ 0 ≤ c.getD j 0 ∧ c.getD j 0 ≤ ((l.getD j z56).f0.size : Int) - (l.getD j z56).f1) := fun j hj => by
     by_cases e : j = i
     ·rw [e]
      refine ⟨?_, by omega, by omega⟩
      rw [List.getD_eq_getElem?_getD, List.getElem?_append_right (by omega), hy, Nat.sub_self]
      rfl
     ·obtain ⟨y1, y2⟩ := hY j (by omega)
      refine ⟨?_, y2⟩
      rw [← y1, List.getD_eq_getElem?_getD, List.getElem?_append_left (by omega), ← List.getD_eq_getElem?_getD]
    obtain ⟨r, o, h2, h3, h4, h6⟩ := crashX_l l c hl hc hg d (i + 1) (by omega) (x.set i (crF (l.getD i z56) (c.getD i 0))) (y ++ [crF (l.getD i z56) (c.getD i 0)]) (by rw [List.length_set]; exact hx) (by rw [List.length_append]; simp only [List.length_cons, List.length_nil]; omega) (set_app x y hx hy he (by omega) _) hY'
    refine ⟨r, o, h2, Ev.step (fun k => ?_) h3, Ev.step (fun k => ?_) h4, h6⟩
    ·show spec_CrashDisk.l0 (k + 1) c l (l.length : Int) (i : Int) x = spec_CrashDisk.l0 k c l (l.length : Int) ((i + 1 : Nat) : Int) (x.set i (crF (l.getD i z56) (c.getD i 0)))
     rw [spec_CrashDisk.l0, if_pos (by omega), if_pos (by omega), if_pos (by omega), if_pos (by omega), rd_nat, fl_nat'', w1, w2, if_neg h0, if_neg h1, if_pos (by omega), if_pos (by omega), if_pos (by omega), succ_wrap (by omega)]
     rfl
    ·show impl_CrashDisk.l0 (k + 1) c l (l.length : Int) (i : Int) y = impl_CrashDisk.l0 k c l (l.length : Int) ((i + 1 : Nat) : Int) (y ++ [crF (l.getD i z56) (c.getD i 0)])
     rw [impl_CrashDisk.l0, if_pos (by omega), if_pos (by omega), if_pos (by omega), if_pos (by omega), rd_nat, fl_nat'', w1, w2, iin, Option.bind_some, decide_eq_true (by omega), if_pos rfl, if_pos (by omega), if_pos (by omega), if_pos (by omega), succ_wrap (by omega)]
     rfl
theorem CrashX_ev (l : List S56) (c : List Int) (hl : l.length ≤ 1048576) : ∃ (r : List S56) (o : Bool), r.length ≤ 1048576 ∧ Ev (fun k => spec_CrashDisk.f k l c) (r, o) ∧ Ev (fun k => impl_CrashDisk.f k l c) (r, o) ∧ (o = true → GD l ∧ r.length = l.length ∧ ∀ j, j < l.length → (r.getD j z56 = crF (l.getD j z56) (c.getD j 0) ∧ 0 ≤ c.getD j 0 ∧ c.getD j 0 ≤ ((l.getD j z56).f0.size : Int) - (l.getD j z56).f1)) := by
 obtain ⟨b, hs, hi, hq⟩ := both (sGD_ev l hl) (iGD_ev l)
 unfold spec_CrashDisk.f impl_CrashDisk.f
 cases b with
 | false =>
  refine ⟨[], false, Nat.zero_le _, Ev.bind hs (Ev.ifn (by decide) ?_), Ev.bind hi (Ev.ifn (by decide) ?_), fun h => by cases h⟩
  ·exact Ev.step (f := fun _ => some ([], false)) (fun k => by rw [spec_CrashDisk.j0, if_pos rfl]) (Ev.now _)
  ·exact Ev.step (f := fun _ => some ([], false)) (fun k => by rw [impl_CrashDisk.j0, if_pos rfl]) (Ev.now _)
 | true =>
  obtain ⟨hg, h4⟩ := hq.1 rfl
  by_cases hc : c.length = l.length
  ·have hb : ((c.length : Int) != (l.length : Int)) = false := by rw [hc]; simp
   obtain ⟨r, o, h2, h3, h5, h6⟩ := crashX_l l c (by omega) hc hg l.length 0 (by omega) l [] rfl rfl (fun j hj => by omega) (fun j hj => by omega)
   rw [hb]
   refine ⟨r, o, h2, Ev.bind hs (Ev.ifp rfl ?_), Ev.bind hi (Ev.ifp rfl ?_), fun h => ⟨⟨hg, h4⟩, h6 h⟩⟩
   ·refine Ev.step (f := fun k => spec_CrashDisk.l0 k c l (l.length : Int) 0 l) (fun k => ?_) h3
    rw [spec_CrashDisk.j0, if_neg (by decide), sOwn l hl]
    rfl
   ·exact Ev.step (f := fun k => impl_CrashDisk.l0 k c l (l.length : Int) 0 []) (fun k => by rw [impl_CrashDisk.j0, if_neg (by decide)]) h5
  ·have hb : ((c.length : Int) != (l.length : Int)) = true := by
    rw [bne_iff_ne]
    omega
   rw [hb]
   refine ⟨[], false, Nat.zero_le _, Ev.bind hs (Ev.ifp rfl ?_), Ev.bind hi (Ev.ifp rfl ?_), fun h => by cases h⟩
   ·exact Ev.step (f := fun _ => some ([], false)) (fun k => by rw [spec_CrashDisk.j0, if_pos rfl]) (Ev.now _)
   ·exact Ev.step (f := fun _ => some ([], false)) (fun k => by rw [impl_CrashDisk.j0, if_pos rfl]) (Ev.now _)

def LB (l : List S44) : Prop := l.length ≤ 1000 ∧ ∀ j, j < l.length → (l.getD j z44).f4.length ≤ 1048576
theorem LB_of (l : List S44) (hl : l.length ≤ 1000) (h : ∀ b ∈ l, GBx b) : LB l := by
 refine ⟨hl, fun j hj => ?_⟩
 have := (h _ (getD_mem hj z44)).2.2.2.2.2
 omega
theorem LB_nil : LB ([] : List S44) := ⟨Nat.zero_le _, fun j hj => absurd hj (Nat.not_lt_zero _)⟩

theorem Recover_ev (l : List S56) (a : Int) (hl : l.length ≤ 1048576) : ∃ (y : List S56) (x : List S44) (o : Bool), y.length ≤ 1048576 ∧ LB x ∧ Ev (fun k => spec_RecoverFile.f k l a) (y, x, o) ∧ Ev (fun k => impl_RecoverFile.f k l a) (y, x, o) := by
 obtain ⟨b, hs, hi, hq⟩ := both (sFile_ev l a hl) (iHas_ev l a hl)
 unfold spec_RecoverFile.f impl_RecoverFile.f
 cases b with
 | false => exact ⟨[], [], false, Nat.zero_le _, LB_nil, Ev.bind hs (Ev.ifn (by decide) (Ev.now _)), Ev.bind hi (Ev.ifn (by decide) (Ev.now _))⟩
 | true =>
  obtain ⟨hg, h0, h1⟩ := hq.1 rfl
  obtain ⟨i, rfl⟩ := Int.eq_ofNat_of_zero_le h0
  obtain ⟨g1, g2, g3⟩ := hg.1 i (by omega)
  have hr := RDx_at (l.getD i z56).f0
  have sr := sRead_ev (l.getD i z56).f0 (by omega)
  have ir := iRead_ev (l.getD i z56).f0 (by omega)
  generalize hx : (RDx (l.getD i z56).f0).1 = x at sr ir hr
  generalize hn : (RDx (l.getD i z56).f0).2 = n at sr ir hr
  have hcut : ∃ m, spec_l3Cut.f l (i : Int) (n : Int) = some (l.set i ⟨(l.getD i z56).f0.extract 0 n, m⟩) := by
   unfold spec_l3Cut.f
   rw [sOwn l hl, Option.bind_some, if_pos h0, if_pos h1, if_pos (by omega), fl_nat, if_pos (by omega)]
   by_cases hm : (l.getD i z56).f1 > (n : Int)
   ·exact ⟨_, by rw [if_pos hm]; rfl⟩
   ·exact ⟨_, by rw [if_neg hm]; rfl⟩
  obtain ⟨m, hcut⟩ := hcut
  have hgs : (l.set i ⟨(l.getD i z56).f0.extract 0 n, m⟩ : List S56).getD i z56 = ⟨(l.getD i z56).f0.extract 0 n, m⟩ := by
   rw [List.getD_eq_getElem?_getD, List.getElem?_set_self (by omega)]
   rfl
  refine ⟨l.set i ⟨(l.getD i z56).f0.extract 0 n, (n : Int)⟩, x, true, by rw [List.length_set]; exact hl, LB_of x (by omega) hr.2.2, ?_, ?_⟩
  ·refine Ev.bind hs (Ev.ifp rfl (Ev.ifp h0 (Ev.ifp h1 ?_)))
   rw [fl_nat]
   refine Ev.bind sr ?_
   rw [hcut]
   refine Ev.bind (Ev.now _) (Ev.ifp (by rw [List.length_set]; exact h1) ?_)
   rw [fl_nat, hgs, tn_nat, List.set_set]
   exact Ev.now _
  ·refine Ev.bind hi (Ev.ifp rfl (Ev.ifp h0 (Ev.ifp h1 ?_)))
   rw [fl_nat]
   refine Ev.bind ir (Ev.ifp (by omega) (Ev.ifp (by omega) ?_))
   rw [iWith l (i : Int) _ _ hl h0 h1]
   exact Ev.bind (Ev.now _) (Ev.now _)

theorem Survives_ev (l : List S56) (a : Int) (hl : l.length ≤ 1048576) : ∃ (x : List S44) (o : Bool), LB x ∧ Ev (fun k => spec_SurvivesIn.f k l a) (x, o) ∧ Ev (fun k => impl_SurvivesIn.f k l a) (x, o) := by
 obtain ⟨b, hs, hi, hq⟩ := both (sFile_ev l a hl) (iHas_ev l a hl)
 unfold spec_SurvivesIn.f impl_SurvivesIn.f
 cases b with
 | false => exact ⟨[], false, LB_nil, Ev.bind hs (Ev.ifn (by decide) (Ev.now _)), Ev.bind hi (Ev.ifn (by decide) (Ev.now _))⟩
 | true =>
  obtain ⟨hg, h0, h1⟩ := hq.1 rfl
  obtain ⟨i, rfl⟩ := Int.eq_ofNat_of_zero_le h0
  obtain ⟨g1, g2, g3⟩ := hg.1 i (by omega)
  obtain ⟨n, en⟩ := Int.eq_ofNat_of_zero_le g2
  have hsz : ((l.getD i z56).f0.extract 0 n).size ≤ 600 := by rw [ByteArray.size_extract]; omega
  have hr := RDx_at ((l.getD i z56).f0.extract 0 n)
  have sr := sRead_ev ((l.getD i z56).f0.extract 0 n) (by omega)
  have ir := iRead_ev ((l.getD i z56).f0.extract 0 n) (by omega)
  refine ⟨(RDx ((l.getD i z56).f0.extract 0 n)).1, true, LB_of _ (by omega) hr.2.2, ?_, ?_⟩
  ·refine Ev.bind hs (Ev.ifp rfl (Ev.ifp h0 (Ev.ifp h1 ?_)))
   simp only [fl_nat, en]
   exact Ev.ifp (by omega) (Ev.ifp (by omega) (Ev.bind sr (Ev.now _)))
  ·refine Ev.bind hi (Ev.ifp rfl (Ev.ifp h0 (Ev.ifp h1 ?_)))
   simp only [fl_nat, en]
   exact Ev.ifp (by omega) (Ev.ifp (by omega) (Ev.bind ir (Ev.now _)))

theorem RDx_lgb (l : List S44) (hl : GLi l 0) : RDx (lgb l ⟨#[]⟩) = (l, (lgb l ⟨#[]⟩).size) := by
 have p0 : PO l 0 = 0 := rfl
 obtain ⟨m, h1, h2, h3, h4⟩ := RD_back l hl (lgb l ⟨#[]⟩).size (Nat.le_refl _) (lgb l ⟨#[]⟩).size 0 (Nat.zero_le _) (by omega) (by omega)
 rw [p0, List.take_zero, ByteArray.extract_zero_size] at h4
 have hm : m = l.length := by
  by_cases c : m < l.length
  ·have h5 := h3 c
   have h6 := PO_le c
   omega
  ·omega
 unfold RDx
 rw [h4, hm, List.take_length, PO_all]
theorem RDx_again (x : ByteArray) : RDx (x.extract 0 (RDx x).2) = ((RDx x).1, (RDx x).2) := by
 have h := RDx_lgb (RDx x).1 (RDx_log x)
 have z : (x.extract 0 (RDx x).2).size = (RDx x).2 := by rw [ByteArray.size_extract]; have := (RDx_at x).1; omega
 rw [RDx_bytes x, z] at h
 exact h
theorem ext_ext (x : ByteArray) (K a c : Nat) (hc : c ≤ K) (hK : K ≤ x.size) : (x.extract 0 K).extract a c = x.extract a c := by
 have z1 : (x.extract 0 K).size = K := by rw [ByteArray.size_extract]; omega
 refine byN_eq (by rw [ByteArray.size_extract, z1, ByteArray.size_extract]; omega) fun j hj => ?_
 rw [ByteArray.size_extract, z1] at hj
 rw [byN_ext _ a c j (by omega) (by omega), byN_ext x 0 K (a + j) (by omega) hK, byN_ext x a c j (by omega) (by omega), Nat.zero_add]
theorem TK_pre (x : ByteArray) (K a : Nat) (b : S44) (hK : K ≤ x.size) (h : TK (x.extract 0 K) a = some b) : TK x a = some b ∧ a + (bbx b).size ≤ K := by
 obtain ⟨g1, g2, g3⟩ := AT_good (TK_some.1 h)
 have z1 : (x.extract 0 K).size = K := by rw [ByteArray.size_extract]; omega
 rw [z1] at g2
 rw [ext_ext x K a _ g2 hK] at g3
 exact ⟨TK_some.2 (AT_back g1 (by omega) g3), g2⟩
theorem RD_pre (x : ByteArray) : ∀ (d : Nat) (l : List S44) (a : Nat), l <+: (RD x d l a).1
 | 0, l, a => List.prefix_refl l
 | d + 1, l, a => by
  rw [RD]
  cases TK x a with
  | none => exact List.prefix_refl l
  | some b =>
   simp only [Option.elim_some]
   split
   ·exact (List.prefix_append l [b]).trans (RD_pre x d (l ++ [b]) (a + (bbx b).size))
   ·exact List.prefix_refl l
theorem RD_cut (x : ByteArray) (K : Nat) (hK : K ≤ x.size) : ∀ (d d' : Nat) (l : List S44) (a : Nat), x.size ≤ a + d' → (RD (x.extract 0 K) d l a).1 <+: (RD x d' l a).1
 | 0, d', l, a, _ => RD_pre x d' l a
 | d + 1, d', l, a, h => by
  rw [RD]
  cases hT : TK (x.extract 0 K) a with
  | none => exact RD_pre x d' l a
  | some b =>
   simp only [Option.elim_some]
   obtain ⟨t1, t2⟩ := TK_pre x K a b hK hT
   have hz := (bbx_size b (AT_good (TK_some.1 t1)).1).1
   split
   ·rename_i hc
    cases d' with
    | zero => omega
    | succ d'' =>
     have e : RD x (d'' + 1) l a = RD x d'' (l ++ [b]) (a + (bbx b).size) := by
      rw [RD, t1]
      simp only [Option.elim_some]
      rw [if_pos hc]
     rw [e]
     exact RD_cut x K hK d d'' (l ++ [b]) (a + (bbx b).size) (by omega)
   ·exact RD_pre x d' l a
theorem RDx_cut (x : ByteArray) (K : Nat) (hK : K ≤ x.size) : (RDx (x.extract 0 K)).1 <+: (RDx x).1 := RD_cut x K hK _ x.size [] 0 (by omega)
theorem pre_take {α : Type} {a b : List α} (h : a <+: b) : a.length ≤ b.length ∧ b.take a.length = a := ⟨h.length_le, (List.prefix_iff_eq_take.1 h).symm⟩
theorem RDx_sz (x : ByteArray) (hx : x.size ≤ 600) : (RDx x).1.length ≤ 1048576 ∧ ∀ j, j < (RDx x).1.length → ((RDx x).1.getD j z44).f4.length ≤ 1048576 := by
 obtain ⟨h1, h2, h3⟩ := RDx_at x
 refine ⟨by omega, fun j hj => ?_⟩
 have := (h3 _ (getD_mem hj z44)).2.2.2.2.2
 omega
theorem iSurv (l : List S56) (hl : GD l) (i : Nat) (hi : i < l.length) : Ev (fun k => impl_SurvivesIn.f k l (i : Int)) ((RDx ((l.getD i z56).f0.extract 0 (l.getD i z56).f1.toNat)).1, true) := by
 obtain ⟨g1, g2, g3⟩ := hl.1 i hi
 have hb := DD_big (DD_of hl)
 have ir := iRead_ev ((l.getD i z56).f0.extract 0 (l.getD i z56).f1.toNat) (by rw [ByteArray.size_extract]; omega)
 unfold impl_SurvivesIn.f
 refine Ev.bind ((iHas_ev l (i : Int) hb).get ⟨hl, by omega, by omega⟩) (Ev.ifp rfl (Ev.ifp (by omega) (Ev.ifp (by omega) ?_)))
 rw [fl_nat]
 exact Ev.ifp g2 (Ev.ifp g3 (Ev.bind ir (Ev.now _)))
noncomputable def rcF (x : S56) : S56 := ⟨x.f0.extract 0 (RDx x.f0).2, ((RDx x.f0).2 : Int)⟩
theorem iRec (l : List S56) (hl : GD l) (i : Nat) (hi : i < l.length) : Ev (fun k => impl_RecoverFile.f k l (i : Int)) (l.set i (rcF (l.getD i z56)), (RDx (l.getD i z56).f0).1, true) := by
 obtain ⟨g1, g2, g3⟩ := hl.1 i hi
 have hb := DD_big (DD_of hl)
 have hr := (RDx_at (l.getD i z56).f0).1
 have ir := iRead_ev (l.getD i z56).f0 (by omega)
 unfold impl_RecoverFile.f
 refine Ev.bind ((iHas_ev l (i : Int) hb).get ⟨hl, by omega, by omega⟩) (Ev.ifp rfl (Ev.ifp (by omega) (Ev.ifp (by omega) ?_)))
 rw [fl_nat]
 refine Ev.bind ir ?_
 dsimp only
 rw [iWith l (i : Int) _ _ hb (by omega) (by omega), tn_nat]
 exact Ev.ifp (by omega) (Ev.ifp (by omega) (Ev.bind (Ev.now _) (Ev.now _)))
theorem rcF_size (x : S56) : (rcF x).f0.size = (RDx x.f0).2 := by
 show (x.f0.extract 0 (RDx x.f0).2).size = _
 rw [ByteArray.size_extract]
 have := (RDx_at x.f0).1
 omega
theorem rcF_good {x : S56} (h : GF x) : GF (rcF x) := by
 have h1 := rcF_size x
 have h2 := (RDx_at x.f0).1
 have h3 := h.1
 refine ⟨by rw [h1]; omega, by show 0 ≤ ((RDx x.f0).2 : Int); omega, by rw [h1]; exact Int.le_refl _⟩
theorem rcF_again (x : S56) : rcF (rcF x) = rcF x ∧ (RDx (rcF x).f0).1 = (RDx x.f0).1 := by
 have h : RDx (rcF x).f0 = ((RDx x.f0).1, (RDx x.f0).2) := RDx_again x.f0
 refine ⟨?_, by rw [h]⟩
 have e : (rcF x).f0.extract 0 (RDx x.f0).2 = (rcF x).f0 := by
  rw [← rcF_size x]
  exact ByteArray.extract_zero_size
 show (⟨(rcF x).f0.extract 0 (RDx (rcF x).f0).2, ((RDx (rcF x).f0).2 : Int)⟩ : S56) = rcF x
 rw [h]
 show (⟨(rcF x).f0.extract 0 (RDx x.f0).2, ((RDx x.f0).2 : Int)⟩ : S56) = rcF x
 rw [e]
 rfl

theorem sameD_ev (l : List S56) (hl : l.length ≤ 1048576) : Ev (fun k => laws_sameDisks.f k l l) true := by
 have key : ∀ d i : Nat, i + d = l.length → Ev (fun k => laws_sameDisks.l0 k (l.length : Int) (i : Int) l l) true := by
  intro d
  induction d with
  | zero =>
   intro i h
   exact Ev.step (f := fun _ => some true) (fun k => by rw [laws_sameDisks.l0, if_neg (by omega)]) (Ev.now _)
  | succ d ih =>
   intro i h
   refine Ev.step (fun k => ?_) (ih (i + 1) (by omega))
   rw [laws_sameDisks.l0, if_pos (by omega), if_pos (by omega), if_pos (by omega), if_pos (by omega), if_neg (by simp), succ_wrap (by omega)]
 unfold laws_sameDisks.f
 exact Ev.ifp rfl (key l.length 0 (by omega))

theorem sameT_ev (l : List ByteArray) (hl : l.length ≤ 1048576) : Ev (fun k => laws_sameTexts.f k l l) true := by
 have h := all_ev l.length (fun i k => laws_sameTexts.l0 k l l (l.length : Int) (i : Int))
  (Ev.step (f := fun _ => some true) (fun k => by
   show laws_sameTexts.l0 (k + 1) l l (l.length : Int) ((l.length : Nat) : Int) = some true
   rw [laws_sameTexts.l0, if_neg (by omega)]) (Ev.now _))
  (fun i hi hr => Ev.step (fun k => by
   show laws_sameTexts.l0 (k + 1) l l (l.length : Int) (i : Int) = laws_sameTexts.l0 k l l (l.length : Int) ((i + 1 : Nat) : Int)
   rw [laws_sameTexts.l0, if_pos (by omega), if_pos (by omega), if_pos (by omega), if_pos (by omega), if_pos rfl, succ_wrap (by omega)]) hr)
 unfold laws_sameTexts.f
 exact Ev.ifp rfl h
theorem sameB_ev (o e p s : Int) (l : List ByteArray) (hl : l.length ≤ 1048576) : Ev (fun k => laws_sameBatch.f k o e p s l o e p s l) true := by
 unfold laws_sameBatch.f
 exact Ev.ifp rfl (Ev.ifp rfl (Ev.ifp rfl (Ev.ifp rfl (Ev.bind (sameT_ev l hl) (Ev.now _)))))

theorem sameBs_ev (l : List S44) (hl : l.length ≤ 1048576) (hs : ∀ j, j < l.length → (l.getD j z44).f4.length ≤ 1048576) : Ev (fun k => laws_sameBatches.f k l l) true := by
 have h := all_ev l.length (fun i k => laws_sameBatches.l0 k l l (l.length : Int) (i : Int))
  (Ev.step (f := fun _ => some true) (fun k => by
   show laws_sameBatches.l0 (k + 1) l l (l.length : Int) ((l.length : Nat) : Int) = some true
   rw [laws_sameBatches.l0, if_neg (by omega)]) (Ev.now _))
  (fun i hi hr => by
   refine Ev.succ ?_
   have e : wrap64 ((i : Int) + 1) = ((i + 1 : Nat) : Int) := succ_wrap (by omega)
   simp only [laws_sameBatches.l0]
   rw [e]
   clear e
   exact Ev.ifp (by omega) (Ev.ifp (by omega) (Ev.ifp (by omega) (Ev.ifp (by omega) (Ev.bind (sameB_ev _ _ _ _ _ (hs i hi)) (Ev.ifp rfl hr))))))
 unfold laws_sameBatches.f
 exact Ev.ifp rfl h

theorem DrawCD_l (s : List Int) (hb : BY s) (l : List S56) (hl : l.length ≤ 4) (v : List S56) : ∀ (d i : Nat) (c : List Int) (a q : Int), i + d = l.length → c.length = i → 0 < l.length → 0 ≤ a → a + 4 * (d : Int) ≤ 700000000000000 →
  ∃ c' a' q', Ev (fun k => spec_DrawCrashDisk.l0 k c l (l.length : Int) (i : Int) s a q v) (v, c', a', q')
 | 0, i, c, a, q, hd, hc, h0, ha, hm => by
  obtain ⟨o, a1, q1, e1, _⟩ := one_eq s hb a q 20 ha (by omega) (by decide)
  cases o with
  | true =>
   refine ⟨c.set (0 : Int).toNat (wrap64 (rd c 0 + 500)), a1, q1, Ev.succ ?_⟩
   ·simp only [spec_DrawCrashDisk.l0, e1, Option.bind_some]
    exact Ev.ifn (by omega) (Ev.ifp (by first | rfl | trivial) (Ev.ifp (by omega) (Ev.now _)))
  | false =>
   refine ⟨c, a1, q1, Ev.succ ?_⟩
   simp only [spec_DrawCrashDisk.l0, e1, Option.bind_some]
   exact Ev.ifn (by omega) (Ev.ifn (by simp) (Ev.now _))
 | d + 1, i, c, a, q, hd, hc, h0, ha, hm => by
  have go : ∀ n : Int, n ≤ 1000000 → ∃ r a1 q1, spec_l1Cur_pick.f s a q n = some (r, a1, q1) ∧ ∃ c' a' q', Ev (fun k => spec_DrawCrashDisk.l0 k (c ++ [r]) l (l.length : Int) ((i + 1 : Nat) : Int) s a1 q1 v) (v, c', a', q') := fun n hn => by
   obtain ⟨r, a1, q1, e1, _, _, p1, p2⟩ := pick_eq s hb a q n ha (by omega) hn
   obtain ⟨c', a', q', e2⟩ := DrawCD_l s hb l hl v d (i + 1) (c ++ [r]) a1 q1 (by omega) (by rw [List.length_append, List.length_singleton, hc]) h0 (by omega) (by omega)
   exact ⟨r, a1, q1, e1, c', a', q', e2⟩
  obtain ⟨n, hn⟩ : ∃ n, wrap64 (((rd_T56 l (i : Int)).f0.size : Int) - (rd_T56 l (i : Int)).f1) = n := ⟨_, rfl⟩
  by_cases c1 : n < 0
  ·obtain ⟨r, a1, q1, e1, c', a', q', e2⟩ := go (0 + 1) (by omega)
   refine ⟨c', a', q', Ev.succ ?_⟩
   simp only [spec_DrawCrashDisk.l0, hn, e1, Option.bind_some]
   rw [succ_wrap (by omega)]
   exact Ev.ifp (by omega) (Ev.ifp (by omega) (Ev.ifp (by omega) (Ev.ifp c1 (Ev.ifp (by omega) e2))))
  ·by_cases c2 : n > 400
   ·obtain ⟨r, a1, q1, e1, c', a', q', e2⟩ := go (0 + 1) (by omega)
    refine ⟨c', a', q', Ev.succ ?_⟩
    simp only [spec_DrawCrashDisk.l0, hn, e1, Option.bind_some]
    rw [succ_wrap (by omega)]
    exact Ev.ifp (by omega) (Ev.ifp (by omega) (Ev.ifp (by omega) (Ev.ifn c1 (Ev.ifp c2 (Ev.ifp (by omega) e2)))))
   ·obtain ⟨r, a1, q1, e1, c', a', q', e2⟩ := go (wrap64 (n + 1)) (by rw [wrap_id (by omega) (by omega)]; omega)
    refine ⟨c', a', q', Ev.succ ?_⟩
    simp only [spec_DrawCrashDisk.l0, hn, e1, Option.bind_some]
    rw [succ_wrap (by omega)]
    exact Ev.ifp (by omega) (Ev.ifp (by omega) (Ev.ifp (by omega) (Ev.ifn c1 (Ev.ifn c2 (Ev.ifp (by omega) e2)))))
theorem DrawCD_ev (s : List Int) (hb : BY s) : ∃ d c, Ev (fun k => spec_DrawCrashDisk.f k s) (d, c) ∧ DD d := by
 obtain ⟨d, a1, q1, e1, hd, p1, p2⟩ := ddisk_ev s hb
 obtain ⟨c, a', q', e2⟩ := DrawCD_l s hb d hd.2.1 d d.length 0 [] a1 q1 (by omega) rfl hd.1 p1 (by have := hd.2.1; omega)
 refine ⟨d, c, ?_, hd⟩
 unfold spec_DrawCrashDisk.f spec_DrawCrashDisk.m
 exact Ev.bind (a := (d, c, a', q')) (Ev.bind e1 e2) (Ev.now _)
theorem DrawRF_ev (s : List Int) (hb : BY s) : ∃ d f, Ev (fun k => spec_DrawRecoverFile.f k s) (d, f) ∧ DD d := by
 obtain ⟨d, a1, q1, e1, hd, p1, p2⟩ := ddisk_ev s hb
 have hd4 := hd.2.1
 obtain ⟨f, a2, q2, e2, _, _, p3, p4⟩ := pick_eq s hb a1 q1 (wrap64 ((d.length : Int) + 2)) p1 (by omega) (by rw [wrap_id (by omega) (by omega)]; omega)
 refine ⟨d, wrap64 (f - 1), ?_, hd⟩
 unfold spec_DrawRecoverFile.f spec_DrawSyncFile.f spec_DrawSyncFile.m
 refine Ev.bind (a := (d, wrap64 (f - 1))) (Ev.bind (a := (d, wrap64 (f - 1), a2, q2)) (Ev.bind e1 ?_) (Ev.now _)) (Ev.now _)
 dsimp only
 simp only [e2, Option.bind_some]
 exact Ev.now _
theorem Torn_j1 (s : List Int) (hb : BY s) : Ev (fun k => laws_FnTorn.j1 k s) true := by
 obtain ⟨d, f, e1, hd⟩ := DrawRF_ev s hb
 obtain ⟨y, x, o, hy, hx, sr, ir⟩ := Recover_ev d f (DD_big hd)
 obtain ⟨u, p, hu, ss, is⟩ := Survives_ev d f (DD_big hd)
 refine Ev.succ ?_
 simp only [laws_FnTorn.j1]
 refine Ev.bind e1 (Ev.bind ir (Ev.bind sr (Ev.bind is (Ev.bind ss ?_))))
 exact Ev.ifp (by simp) (Ev.bind (sameD_ev y hy) (Ev.ifp rfl (Ev.bind (sameBs_ev x (Nat.le_trans hx.1 (by decide)) hx.2) (Ev.ifp rfl (Ev.ifp (by simp) (Ev.bind (sameBs_ev u (Nat.le_trans hu.1 (by decide)) hu.2) (Ev.now _)))))))
theorem Torn_l (l1 : List Int) (d x : List S56) (hd : GD d) (hx : GD x) (hl : x.length = d.length) (hc : ∀ j, j < d.length → ∃ n : Nat, (x.getD j z56).f0 = (d.getD j z56).f0.extract 0 n ∧ n ≤ (d.getD j z56).f0.size ∧ (d.getD j z56).f1.toNat ≤ n) (tail : Ev (fun k => laws_FnTorn.j1 k l1) true) :
  ∀ m i : Nat, i + m = d.length → Ev (fun k => laws_FnTorn.l0 k l1 (d.length : Int) (i : Int) d x) true := by
 have hd4 := hd.2
 intro m
 induction m with
 | zero =>
  intro i h
  exact Ev.step (f := fun k => laws_FnTorn.j1 k l1) (fun k => by rw [laws_FnTorn.l0, if_neg (by omega)]) tail
 | succ m ih =>
  intro i h
  have hi : i < d.length := by omega
  have hi' : i < x.length := by omega
  obtain ⟨n, en, hn, hs⟩ := hc i hi
  obtain ⟨g1, g2, g3⟩ := hd.1 i hi
  have i1 := iSurv d hd i hi
  have i2 := iRec x hx i hi'
  have i3 := iRec d hd i hi
  have hGz : GD (x.set i (rcF (x.getD i z56))) := GD_set hx i _ hi' (rcF_good (hx.1 i hi'))
  have hzl : (x.set i (rcF (x.getD i z56))).length = x.length := List.length_set
  have hzi : (x.set i (rcF (x.getD i z56))).getD i z56 = rcF (x.getD i z56) := by rw [set_getD x i i _ hi', if_pos rfl]
  have i4 := iRec (x.set i (rcF (x.getD i z56))) hGz i (by omega)
  rw [hzi, (rcF_again (x.getD i z56)).1, (rcF_again (x.getD i z56)).2, List.set_set] at i4
  have hz := rcF_size (x.getD i z56)
  have hx4 := (hx.1 i hi').1
  have szs := RDx_sz ((d.getD i z56).f0.extract 0 (d.getD i z56).f1.toNat) (by rw [ByteArray.size_extract]; omega)
  have szl := RDx_sz (x.getD i z56).f0 (by omega)
  obtain ⟨a1, a2⟩ := pre_take (show (RDx ((d.getD i z56).f0.extract 0 (d.getD i z56).f1.toNat)).1 <+: (RDx (x.getD i z56).f0).1 from by
   have z : n ≤ (d.getD i z56).f0.size := hn
   have := RDx_cut ((d.getD i z56).f0.extract 0 n) (d.getD i z56).f1.toNat (by rw [ByteArray.size_extract]; omega)
   rw [ext_ext _ n 0 _ hs hn, ← en] at this
   exact this)
  obtain ⟨b1, b2⟩ := pre_take (show (RDx (x.getD i z56).f0).1 <+: (RDx (d.getD i z56).f0).1 from by
   have := RDx_cut (d.getD i z56).f0 n hn
   rwa [← en] at this)
  have ig : Ev (fun _ : Nat => impl_GoodDisk.f (x.set i (rcF (x.getD i z56)))) true := by
   unfold impl_GoodDisk.f
   exact Ev.bind ((iGD_ev _).get hGz) (Ev.now _)
  have sd := sameD_ev (x.set i (rcF (x.getD i z56))) (by omega)
  have hat : rd_T56 (x.set i (rcF (x.getD i z56))) (i : Int) = rcF (x.getD i z56) := hzi
  have hf1 : (rcF (x.getD i z56)).f1 = ((RDx (x.getD i z56).f0).2 : Int) := rfl
  have ihn := ih (i + 1) (by omega)
  generalize (RDx ((d.getD i z56).f0.extract 0 (d.getD i z56).f1.toNat)).1 = S at *
  generalize (RDx (x.getD i z56).f0).1 = L at *
  generalize (RDx (d.getD i z56).f0).1 = D at *
  refine Ev.succ ?_
  simp only [laws_FnTorn.l0]
  refine Ev.ifp (by omega) (Ev.bind i1 (Ev.bind i2 (Ev.bind i3 ?_)))
  refine Ev.ifp rfl (Ev.ifp rfl (Ev.ifp rfl (Ev.ifn (by dsimp only; omega) (Ev.ifp (by omega) (Ev.ifp (by dsimp only; omega) ?_)))))
  dsimp only
  rw [Int.toNat_natCast, Int.toNat_natCast, a2, b2]
  refine Ev.bind (sameBs_ev S szs.1 szs.2) (Ev.ifp rfl (Ev.ifn (by omega) (Ev.ifp (by omega) (Ev.ifp (by omega) (Ev.bind (sameBs_ev L szl.1 szl.2) (Ev.ifp rfl ?_))))))
  refine Ev.bind i4 (Ev.bind ig (Ev.ifp rfl (Ev.ifp rfl (Ev.bind sd (Ev.ifp rfl (Ev.bind (sameBs_ev L szl.1 szl.2) (Ev.ifp rfl ?_)))))))
  rw [hat, succ_wrap (by omega)]
  exact Ev.ifp (by omega) (Ev.ifp (by rw [hzl]; omega) (Ev.ifp (by rw [hf1, hz]) ihn))
theorem FnTorn : laws_FnTorn.Pure := by
 intro l0 l1 h0 h1
 have hb0 := BY_of h0.2
 have hb1 := BY_of h1.2
 apply Ev.rounds
 unfold laws_FnTorn.f
 by_cases hw : wrap64 ((l0.length : Int) + (l1.length : Int)) > 1048576
 ·exact Ev.ifp hw (Ev.now _)
 ·refine Ev.ifn hw ?_
  have tail := Torn_j1 l1 hb1
  obtain ⟨d, c, ed, hd⟩ := DrawCD_ev l0 hb0
  obtain ⟨x, o, hx, sc, ic, hq⟩ := CrashX_ev d c (DD_big hd)
  obtain ⟨g, gs, gi, _⟩ := both (sGD_ev d (DD_big hd)) (iGD_ev d)
  have gi' : Ev (fun _ : Nat => impl_GoodDisk.f d) g := by
   unfold impl_GoodDisk.f
   exact Ev.bind gi (Ev.now _)
  refine Ev.bind ed (Ev.bind ic (Ev.bind sc (Ev.ifn (by simp) (Ev.bind (sameD_ev x hx) (Ev.ifp rfl (Ev.bind gi' (Ev.bind gs (Ev.ifn (by simp) ?_))))))))
  dsimp only
  cases o with
  | false => exact Ev.ifn (by decide) tail
  | true =>
   obtain ⟨hg, hxl, hat⟩ := hq rfl
   have key : ∀ j, j < d.length → ∃ n : Nat, (x.getD j z56).f0 = (d.getD j z56).f0.extract 0 n ∧ n ≤ (d.getD j z56).f0.size ∧ (d.getD j z56).f1.toNat ≤ n ∧ (x.getD j z56).f1 = (n : Int) := fun j hj => by
    obtain ⟨e, c0, c1⟩ := hat j hj
    obtain ⟨g1, g2, g3⟩ := hg.1 j hj
    rw [e]
    exact ⟨((d.getD j z56).f1 + c.getD j 0).toNat, rfl, by omega, by omega, by show (d.getD j z56).f1 + c.getD j 0 = _; omega⟩
   have hGx : GD x := by
    refine ⟨fun j hj => ?_, by have := hg.2; omega⟩
    obtain ⟨n, e1, e2, _, e3⟩ := key j (by omega)
    have := (hg.1 j (by omega)).1
    refine ⟨?_, by omega, ?_⟩
    ·rw [e1, ByteArray.size_extract]; omega
    ·rw [e3, e1, ByteArray.size_extract]; omega
   exact Ev.ifp rfl (Torn_l l1 d x hg hGx hxl (fun j hj => by obtain ⟨n, e1, e2, e3, _⟩ := key j hj; exact ⟨n, e1, e2, e3⟩) tail d.length 0 (by omega))


end Go.Proofs.Ytpdpipfkllfhmaa.Pure
