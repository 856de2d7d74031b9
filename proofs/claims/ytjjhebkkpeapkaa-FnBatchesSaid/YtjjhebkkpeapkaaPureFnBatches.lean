/- Batches come back from their bytes, and of bytes of which one was turned none is told: for all bytes that a batch is drawn from. Conditions: none but the statement's own. -/
import Derived.Test.YtjjhebkkpeapkaaQFnBatchesx14
namespace Go.Proofs.Ytjjhebkkpeapkaa.Pure
open Go.RowKit Go.Proofs.Ytjjhebkkpeapkaa.QFnBatches Go.Proofs.YtjjhebkkpeapkaaW.PrintWords Go.Proofs.YtjjhebkkpeapkaaW.PrintLast Go.Proofs.YtjjhebkkpeapkaaW.PrintMore
set_option linter.unusedVariables false
set_option linter.unusedSimpArgs false
theorem Ev.succ {α : Type} {g : Nat → Option α} {r : α} (k : Ev (fun n => g (n + 1)) r) : Ev g r := Ev.step (fun _ => rfl) k
theorem Ev.ifp {α : Type} {c : Prop} [Decidable c] {f g : Nat → Option α} {r : α} (h : c) (k : Ev f r) : Ev (fun n => if c then f n else g n) r := Ev.congr (fun n => if_pos h) k
theorem Ev.ifn {α : Type} {c : Prop} [Decidable c] {f g : Nat → Option α} {r : α} (h : ¬ c) (k : Ev g r) : Ev (fun n => if c then f n else g n) r := Ev.congr (fun n => if_neg h) k
theorem Ev.uniq {α : Type} {g : Nat → Option α} {r q : α} (h : Ev g r) (k : Ev g q) : r = q := by
  obtain ⟨a, ha⟩ := h
  obtain ⟨b, hb⟩ := k
  have h1 := ha (max a b) (Nat.le_max_left _ _)
  have h2 := hb (max a b) (Nat.le_max_right _ _)
  rw [h1] at h2
  exact Option.some.inj h2
def EvB (g : Nat → Option Bool) (Q : Prop) : Prop := ∃ b : Bool, Ev g b ∧ (b = true ↔ Q)
theorem EvB.step {g f : Nat → Option Bool} {Q : Prop} (h : ∀ k, g (k + 1) = f k) (k : EvB f Q) : EvB g Q := by
  obtain ⟨b, hb, hq⟩ := k
  exact ⟨b, Ev.step h hb, hq⟩
theorem EvB.iff {g : Nat → Option Bool} {Q R : Prop} (k : EvB g Q) (h : Q ↔ R) : EvB g R := by
  obtain ⟨b, hb, hq⟩ := k
  exact ⟨b, hb, hq.trans h⟩
theorem EvB.no {g : Nat → Option Bool} {Q : Prop} (h : ∀ k, g (k + 1) = some false) (hq : ¬ Q) : EvB g Q := ⟨false, Ev.step (f := fun _ => some false) h (Ev.now _), Iff.intro (fun h => by cases h) (fun h => absurd h hq)⟩
theorem EvB.yes {g : Nat → Option Bool} {Q : Prop} (h : ∀ k, g (k + 1) = some true) (hq : Q) : EvB g Q := ⟨true, Ev.step (f := fun _ => some true) h (Ev.now _), ⟨fun _ => hq, fun _ => rfl⟩⟩
theorem wrap_id {x : Int} (h0 : -9223372036854775808 ≤ x) (h1 : x ≤ 9223372036854775807) : wrap64 x = x := by
  unfold wrap64
  omega
theorem succ_wrap {i : Nat} (h : i ≤ 9000000000000000000) : wrap64 ((i : Int) + 1) = ((i + 1 : Nat) : Int) := by
  rw [wrap_id (by omega) (by omega)]
  omega
theorem pred_wrap {i : Nat} (h0 : 0 < i) (h : i ≤ 9000000000000000000) : wrap64 ((i : Int) - 1) = ((i - 1 : Nat) : Int) := by
  rw [wrap_id (by omega) (by omega)]
  omega
theorem rd_nat (l : List Int) (i : Nat) : rd l (i : Int) = l.getD i 0 := rfl
theorem tn_nat (i : Nat) : ((i : Int)).toNat = i := rfl
theorem all_ev (n : Nat) (F : Nat → Nat → Option Bool) (h1 : Ev (F n) true) (h2 : ∀ i, i < n → Ev (F (i + 1)) true → Ev (F i) true) : Ev (F 0) true := by
  have key : ∀ d i, i + d = n → Ev (F i) true := by
    intro d
    induction d with
    | zero =>
      intro i hd
      have hi : i = n := by omega
      subst hi
      exact h1
    | succ d ih =>
      intro i hd
      exact h2 i (by omega) (ih (i + 1) (by omega))
  exact key n 0 (by omega)

theorem getD_mem {α : Type} {l : List α} {i : Nat} (h : i < l.length) (z : α) : l.getD i z ∈ l := by
  rw [List.getD_eq_getElem?_getD, List.getElem?_eq_getElem h, Option.getD_some]
  exact List.getElem_mem h

theorem Ev.eq {α : Type} {g : Option α} {r : α} (h : g = some r) : Ev (fun _ => g) r := Ev.congr (f := fun _ => some r) (fun _ => h) (Ev.now r)
def BY (s : List Int) : Prop := ∀ x ∈ s, 0 ≤ x ∧ x ≤ 255
theorem BY_of {s : List Int} (h : ∀ x ∈ s, (Lit.int .u8 x).wf = true) : BY s := fun x hx => by
  have := h x hx
  simp [Lit.wf, IntKind.min, IntKind.max, IntKind.bits, IntKind.signed] at this
  omega
theorem u64_rng (n : Int) : 0 ≤ IntKind.u64.wrap n ∧ IntKind.u64.wrap n < 18446744073709551616 := by
  simp [IntKind.wrap, IntKind.bits, IntKind.signed]
  omega
theorem and255 (n : Int) : 0 ≤ wrap64 (Go.bits .and .u64 (IntKind.u64.wrap n / 1099511627776) 255) ∧ wrap64 (Go.bits .and .u64 (IntKind.u64.wrap n / 1099511627776) 255) ≤ 255 := by
  have hr := u64_rng n
  have h1 : 0 ≤ IntKind.u64.wrap n / 1099511627776 := by omega
  have h2 : IntKind.u64.wrap n / 1099511627776 < 2 ^ 24 := by omega
  have := bits_mask .u64 24 (by decide) (fun n h0 h1 => by simp [IntKind.wrap, IntKind.bits, IntKind.signed]; omega) 8 (by decide) _ h1 h2
  rw [show ((2 : Int) ^ 8 - 1) = 255 by decide, show ((2 : Int) ^ 8) = 256 by decide] at this
  rw [this, wrap_id (by omega) (by omega)]
  omega
theorem rd_mem {l : List Int} {i : Int} (h0 : 0 ≤ i) (h1 : i < l.length) : rd l i ∈ l := by
  obtain ⟨n, rfl⟩ := Int.eq_ofNat_of_zero_le h0
  rw [rd_nat]
  exact getD_mem (by omega) 0
theorem next_eq (s : List Int) (hb : BY s) (a q : Int) (h0 : 0 ≤ a) (h1 : a ≤ 1000000000000000) : ∃ r q', spec_l1Cur_next.f s a q = some (r, a + 1, q') ∧ 0 ≤ r ∧ r ≤ 255 := by
  have hw : wrap64 (a + 1) = a + 1 := wrap_id (by omega) (by omega)
  unfold spec_l1Cur_next.f
  rw [hw]
  by_cases h2 : a < (s.length : Int)
  · rw [if_pos h2, if_pos h0, if_pos (by omega)]
    have hm := hb _ (rd_mem h0 h2)
    exact ⟨_, _, rfl, by rw [wrap_id (by omega) (by omega)]; omega, by rw [wrap_id (by omega) (by omega)]; omega⟩
  · rw [if_neg h2, if_neg (by omega)]
    exact ⟨_, _, rfl, and255 _⟩
theorem pick_eq (s : List Int) (hb : BY s) (a q n : Int) (h0 : 0 ≤ a) (h1 : a ≤ 900000000000000) (hn : n ≤ 1000000) :
    ∃ r a' q', spec_l1Cur_pick.f s a q n = some (r, a', q') ∧ 0 ≤ r ∧ (1 ≤ n → r < n) ∧ a ≤ a' ∧ a' ≤ a + 2 := by
  unfold spec_l1Cur_pick.f
  by_cases h2 : n ≤ 1
  · rw [if_pos h2]
    exact ⟨_, _, _, rfl, by omega, fun h => by omega, by omega, by omega⟩
  · obtain ⟨x, q1, e1, x0, x1⟩ := next_eq s hb a q h0 (by omega)
    rw [if_neg h2, e1, Option.bind_some]
    by_cases h3 : n > 200
    · obtain ⟨y, q2, e2, y0, y1⟩ := next_eq s hb (a + 1) q1 (by omega) (by omega)
      rw [if_pos h3, e2, Option.bind_some, if_neg (by omega)]
      have hw : wrap64 (wrap64 (x * 256) + y) = x * 256 + y := by rw [wrap_id (x := x * 256) (by omega) (by omega), wrap_id (by omega) (by omega)]
      refine ⟨_, _, _, rfl, ?_, fun _ => ?_, by dsimp only; omega, by dsimp only; omega⟩
      · show 0 ≤ Int.tmod (wrap64 (wrap64 (x * 256) + y)) n
        rw [hw]
        exact Int.tmod_nonneg _ (by omega)
      · show Int.tmod (wrap64 (wrap64 (x * 256) + y)) n < n
        rw [hw]
        exact Int.tmod_lt_of_pos _ (by omega)
    · rw [if_neg h3, if_neg (by omega)]
      refine ⟨_, _, _, rfl, ?_, fun _ => ?_, by dsimp only; omega, by dsimp only; omega⟩
      · exact Int.tmod_nonneg _ (by omega)
      · exact Int.tmod_lt_of_pos _ (by omega)

theorem one_eq (s : List Int) (hb : BY s) (a q n : Int) (h0 : 0 ≤ a) (h1 : a ≤ 900000000000000) (hn : n ≤ 1000000) :
    ∃ b a' q', spec_l1Cur_one.f s a q n = some (b, a', q') ∧ a ≤ a' ∧ a' ≤ a + 2 := by
  obtain ⟨r, a', q', e, _, _, h2, h3⟩ := pick_eq s hb a q n h0 h1 hn
  unfold spec_l1Cur_one.f
  rw [e]
  exact ⟨_, _, _, rfl, h2, h3⟩

theorem among_eq (s : List Int) (hb : BY s) (a q : Int) (l : List Int) (h0 : 0 ≤ a) (h1 : a ≤ 900000000000000) (hn : 0 < l.length) (hn2 : l.length ≤ 1000) :
    ∃ r a' q', spec_l1Cur_among.f s a q l = some (r, a', q') ∧ r ∈ l ∧ a ≤ a' ∧ a' ≤ a + 2 := by
  obtain ⟨r, a', q', e, r0, r1, h2, h3⟩ := pick_eq s hb a q (l.length : Int) h0 h1 (by omega)
  have r2 := r1 (by omega)
  unfold spec_l1Cur_among.f
  rw [e, Option.bind_some, if_pos r0, if_pos r2]
  exact ⟨_, _, _, rfl, rd_mem r0 r2, h2, h3⟩

theorem st_nat (l : List ByteArray) (i : Nat) : rdOf ByteArray.empty l (i : Int) = l.getD i ByteArray.empty := rfl

theorem iin (a b c : Int) : impl_in.f a b c = some (decide (b ≤ a ∧ a ≤ c)) := by
  unfold impl_in.f
  by_cases h : a ≥ b
  · rw [if_pos h]
    have e : (b ≤ a ∧ a ≤ c) ↔ a ≤ c := ⟨fun h => h.2, fun h' => ⟨h, h'⟩⟩
    simp only [e]
  · rw [if_neg h, decide_eq_false]
    intro h'
    exact h h'.1

theorem sin (a b c : Int) : spec_l1In.f a b c = some (decide (b ≤ a ∧ a ≤ c)) := by
  unfold spec_l1In.f
  by_cases h : a ≥ b
  · rw [if_pos h]
    have e : (b ≤ a ∧ a ≤ c) ↔ a ≤ c := ⟨fun h => h.2, fun h' => ⟨h, h'⟩⟩
    simp only [e]
  · rw [if_neg h, decide_eq_false]
    intro h'
    exact h h'.1

theorem EvB.and {P Q : Prop} [Decidable P] {g : Nat → Option Bool} (h : EvB g Q) : EvB (fun k => if decide P = true then g k else some false) (P ∧ Q) := by
  obtain ⟨b, hb, hq⟩ := h
  by_cases hp : P
  · exact ⟨b, Ev.ifp (by rw [decide_eq_true hp]) hb, ⟨fun h => ⟨hp, hq.1 h⟩, fun h => hq.2 h.2⟩⟩
  · exact ⟨false, Ev.ifn (by rw [decide_eq_false hp]; decide) (Ev.now _), Iff.intro (fun h => by cases h) (fun h => absurd h.1 hp)⟩
theorem EvB.dec {P : Prop} [Decidable P] : EvB (fun _ => some (decide P)) P := ⟨decide P, Ev.now _, decide_eq_true_iff⟩
theorem both {g f : Nat → Option Bool} {Q : Prop} (h : EvB g Q) (k : EvB f Q) : ∃ b : Bool, Ev g b ∧ Ev f b ∧ (b = true ↔ Q) := by
  obtain ⟨b, hb, hq⟩ := h
  obtain ⟨c, hc, hr⟩ := k
  obtain rfl : c = b := Bool.eq_iff_iff.2 (hr.trans hq.symm)
  exact ⟨c, hb, hc, hq⟩

theorem ixS_iff (q : Nat → Bool) : ∀ d i, (0 ≤ ixS q i d) ↔ ∃ j, i ≤ j ∧ j < i + d ∧ q j = true
  | 0, i => by
    rw [ixS]
    exact ⟨fun h => by omega, fun ⟨j, h1, h2, _⟩ => by omega⟩
  | d + 1, i => by
    rw [ixS]
    by_cases h : q i = true
    · rw [if_pos h]
      exact ⟨fun _ => ⟨i, Nat.le_refl _, by omega, h⟩, fun _ => by omega⟩
    · rw [if_neg h, ixS_iff q d (i + 1)]
      refine ⟨fun ⟨j, h1, h2, h3⟩ => ⟨j, by omega, by omega, h3⟩, fun ⟨j, h1, h2, h3⟩ => ⟨j, ?_, by omega, h3⟩⟩
      by_cases e : j = i
      · rw [e] at h3
        exact absurd h3 h
      · omega
def GB (o e p s : Int) (l : List ByteArray) : Prop :=
  (∀ j, j < l.length → (l.getD j ByteArray.empty).size ≤ 20) ∧ (0 ≤ o ∧ o ≤ 100000) ∧ (0 ≤ e ∧ e ≤ 1000) ∧ (0 ≤ p ∧ p ≤ 65535) ∧ (0 ≤ s ∧ s ≤ 65535) ∧ (1 ≤ (l.length : Int) ∧ (l.length : Int) ≤ 8)
theorem sGB_l (o e p s : Int) (l : List ByteArray) (hl : l.length ≤ 1048576) : ∀ d i : Nat, i + d = l.length →
    EvB (fun k => spec_GoodBatch.l0 k l (l.length : Int) (i : Int) o e p s l) ((∀ j, i ≤ j → j < l.length → (l.getD j ByteArray.empty).size ≤ 20) ∧ (0 ≤ o ∧ o ≤ 100000) ∧ (0 ≤ e ∧ e ≤ 1000) ∧ (0 ≤ p ∧ p ≤ 65535) ∧ (0 ≤ s ∧ s ≤ 65535) ∧ (1 ≤ (l.length : Int) ∧ (l.length : Int) ≤ 8))
  | 0, i, hd => by
    refine EvB.step (f := fun _ => if decide ((0 : Int) ≤ o ∧ o ≤ 100000) = true then (if decide ((0 : Int) ≤ e ∧ e ≤ 1000) = true then (if decide ((0 : Int) ≤ p ∧ p ≤ 65535) = true then (if decide ((0 : Int) ≤ s ∧ s ≤ 65535) = true then some (decide (1 ≤ (l.length : Int) ∧ (l.length : Int) ≤ 8)) else some false) else some false) else some false) else some false) (fun k => ?_) ?_
    · rw [spec_GoodBatch.l0, if_neg (by omega)]
      simp only [sin, Option.bind_some]
    · refine EvB.iff (EvB.and (EvB.and (EvB.and (EvB.and EvB.dec)))) ⟨fun h => ⟨fun j h1 h2 => by omega, h⟩, fun h => h.2⟩
  | d + 1, i, hd => by
    by_cases hz : ((l.getD i ByteArray.empty).size : Int) > 20
    · refine EvB.no (fun k => ?_) (fun h => ?_)
      · rw [spec_GoodBatch.l0, if_pos (by omega), if_pos (by omega), if_pos (by omega), st_nat, if_pos hz]
      · have := h.1 i (Nat.le_refl _) (by omega)
        omega
    · refine EvB.step (fun k => ?_) (EvB.iff (sGB_l o e p s l hl d (i + 1) (by omega)) ?_)
      · show spec_GoodBatch.l0 (k + 1) l (l.length : Int) (i : Int) o e p s l = spec_GoodBatch.l0 k l (l.length : Int) ((i + 1 : Nat) : Int) o e p s l
        rw [spec_GoodBatch.l0, if_pos (by omega), if_pos (by omega), if_pos (by omega), st_nat, if_neg hz, succ_wrap (by omega)]
      · refine and_congr_left fun _ => ⟨fun h j h1 h2 => ?_, fun h j h1 h2 => h j (by omega) h2⟩
        by_cases e : j = i
        · rw [e]
          omega
        · exact h j (by omega) h2
theorem sGB_ev (o e p s : Int) (l : List ByteArray) (hl : l.length ≤ 1048576) : EvB (fun k => spec_GoodBatch.f k o e p s l) (GB o e p s l) := by
  have h := sGB_l o e p s l hl l.length 0 (by omega)
  exact h.iff ⟨fun h => ⟨fun j hj => h.1 j (Nat.zero_le _) hj, h.2⟩, fun h => ⟨fun j _ hj => h.1 j hj, h.2⟩⟩
theorem iGB_ev (o e p s : Int) (l : List ByteArray) : EvB (fun _ => impl_isBatch.f o e p s l) (GB o e p s l) := by
  have hq : ∀ j, impl_areRecords.q l j = true ↔ ¬ (l.getD j ByteArray.empty).size ≤ 20 := fun j => by
    unfold impl_areRecords.q
    rw [decide_eq_true_iff, st_nat]
    omega
  have ha : EvB (fun _ : Nat => impl_areRecords.f l) ((1 ≤ (l.length : Int) ∧ (l.length : Int) ≤ 8) ∧ ∀ j, j < l.length → (l.getD j ByteArray.empty).size ≤ 20) := by
    unfold impl_areRecords.f
    simp only [iin, Option.bind_some]
    refine EvB.and ⟨_, Ev.now _, ?_⟩
    rw [Bool.not_eq_true', decide_eq_false_iff_not, ixS_iff]
    refine ⟨fun h j hj => ?_, fun h ⟨j, h1, h2, h3⟩ => (hq j).1 h3 (h j (by omega))⟩
    by_cases hz : (l.getD j ByteArray.empty).size ≤ 20
    · exact hz
    · exact absurd ⟨j, Nat.zero_le _, by omega, (hq j).2 hz⟩ h
  obtain ⟨b, hb, hbq⟩ := ha
  have hb' : impl_areRecords.f l = some b := by
    obtain ⟨K, hK⟩ := hb
    exact hK K (Nat.le_refl _)
  unfold impl_isBatch.f
  simp only [iin, Option.bind_some, hb']
  refine EvB.iff (EvB.and (EvB.and (EvB.and (EvB.and ⟨b, Ev.now _, hbq⟩)))) ?_
  unfold GB
  constructor
  · rintro ⟨h1, h2, h3, h4, h5, h6⟩
    exact ⟨h6, h1, h2, h3, h4, h5⟩
  · rintro ⟨h6, h1, h2, h3, h4, h5⟩
    exact ⟨h1, h2, h3, h4, h5, h6⟩

theorem wr64 (n : Int) (h₀ : 0 ≤ n) (h₁ : n < 2 ^ 62) : IntKind.i64.wrap n = n := by
  rw [IntKind.wrap_i64]
  omega
theorem xor_nat (a b : Nat) (ha : a < 2 ^ 62) (hb : b < 2 ^ 62) : Go.bits .xor .i64 (a : Int) (b : Int) = ((a ^^^ b : Nat) : Int) := by
  have hx : a ^^^ b < 2 ^ 62 := Nat.xor_lt_two_pow ha hb
  have h1 : (BitVec.ofInt 64 (a : Int)).toNat = a := by
    rw [BitVec.ofInt_natCast, BitVec.toNat_ofNat]
    exact Nat.mod_eq_of_lt (by omega)
  have h2 : (BitVec.ofInt 64 (b : Int)).toNat = b := by
    rw [BitVec.ofInt_natCast, BitVec.toNat_ofNat]
    exact Nat.mod_eq_of_lt (by omega)
  show IntKind.i64.wrap ((BitVec.ofInt 64 (a : Int) ^^^ BitVec.ofInt 64 (b : Int)).toNat : Int) = _
  rw [BitVec.toNat_xor, h1, h2]
  exact wr64 _ (Int.natCast_nonneg _) (by omega)
theorem and_low (m : Nat) (h : m < 2 ^ 62) : Go.bits .and .i64 (m : Int) 65535 = ((m % 65536 : Nat) : Int) := by
  show Go.bits .and .i64 (m : Int) ((65535 : Nat) : Int) = _
  rw [(bits_nat .i64 62 (by decide) wr64 m 65535 h (by decide)).1]
  exact congrArg _ (Nat.and_two_pow_sub_one_eq_mod m 16)
theorem and_top (c : Nat) (h : c < 65536) : Go.bits .and .i64 (c : Int) 32768 = 0 ↔ c < 32768 := by
  show Go.bits .and .i64 (c : Int) ((32768 : Nat) : Int) = 0 ↔ _
  rw [(bits_nat .i64 62 (by decide) wr64 c 32768 (by omega) (by decide)).1]
  constructor
  · intro e
    by_cases hc : c < 32768
    · exact hc
    · have e' : c &&& 2 ^ 15 = 0 := by
        have : (2 : Nat) ^ 15 = 32768 := by decide
        rw [this]
        omega
      have t : (c &&& 2 ^ 15).testBit 15 = true := by
        rw [Nat.testBit_and, Nat.testBit_two_pow_self, Bool.and_true, Nat.testBit_eq_decide_div_mod_eq, decide_eq_true_iff]
        omega
      rw [e', Nat.zero_testBit] at t
      cases t
  · intro hc
    have e : c &&& 2 ^ 15 = 0 := by
      refine Nat.eq_of_testBit_eq fun j => ?_
      rw [Nat.testBit_and, Nat.zero_testBit]
      by_cases hj : j = 15
      · subst hj
        rw [Nat.testBit_lt_two_pow (x := c) (i := 15) (by omega), Bool.false_and]
      · rw [Nat.testBit_two_pow_of_ne (fun e => hj e.symm), Bool.and_false]
    have : (2 : Nat) ^ 15 = 32768 := by decide
    rw [this] at e
    rw [e]
    rfl
theorem bt_bd (s : ByteArray) (i : Int) : ∃ b : Nat, bt s i = (b : Int) ∧ b ≤ 255 := by
  unfold bt
  split
  · rename_i h
    have := UInt8.toNat_lt (s[i.toNat]'h)
    exact ⟨_, rfl, by omega⟩
  · exact ⟨0, rfl, by omega⟩
def stp (c : Nat) : Nat := if c < 32768 then c * 2 else (c * 2 % 65536) ^^^ 4129
theorem stp_lt (c : Nat) : stp c < 65536 := by
  unfold stp
  split
  · omega
  · exact Nat.xor_lt_two_pow (n := 16) (by omega) (by omega)
def stps : Nat → Nat → Nat
  | 0, c => c
  | d + 1, c => stps d (stp c)
theorem stps_lt : ∀ d c, c < 65536 → stps d c < 65536
  | 0, c, h => h
  | d + 1, c, _ => stps_lt d (stp c) (stp_lt c)
theorem sSum_in (x : ByteArray) (i : Int) (r : Int) : ∀ d j : Nat, j + d = 8 → ∀ c : Nat, c < 65536 → Ev (fun k => spec_l1Sum.l0 k x ((stps d c : Nat) : Int) (wrap64 (i + 1))) r → Ev (fun k => spec_l1Sum.l1 k x (c : Int) i (j : Int)) r
  | 0, j, hd => fun c hc h => Ev.step (fun k => by rw [spec_l1Sum.l1, if_neg (by omega)]; rfl) h
  | d + 1, j, hd => fun c hc h => by
    have w : wrap64 ((c : Int) * 2) = ((c * 2 : Nat) : Int) := by
      rw [wrap_id (by omega) (by omega)]
      omega
    refine Ev.step (fun k => ?_) (sSum_in x i r d (j + 1) (by omega) (stp c) (stp_lt c) h)
    show spec_l1Sum.l1 (k + 1) x (c : Int) i (j : Int) = spec_l1Sum.l1 k x ((stp c : Nat) : Int) i ((j + 1 : Nat) : Int)
    rw [spec_l1Sum.l1, if_pos (by omega), w, succ_wrap (by omega)]
    unfold stp
    by_cases hs : c < 32768
    · rw [if_neg (by omega), if_pos hs]
    · rw [if_pos (by omega), if_neg hs, and_low _ (by omega)]
      have e : Go.bits .xor .i64 ((c * 2 % 65536 : Nat) : Int) 4129 = ((c * 2 % 65536 ^^^ 4129 : Nat) : Int) := xor_nat _ 4129 (by omega) (by omega)
      rw [e]
theorem iSum_in (x : ByteArray) (n i : Int) (r : Int) : ∀ d j : Nat, j + d = 8 → ∀ c : Nat, c < 65536 → Ev (fun k => impl_sumOf.l0 k x ((stps d c : Nat) : Int) n (wrap64 (i + 1))) r → Ev (fun k => impl_sumOf.l1 k x (c : Int) n i (j : Int)) r
  | 0, j, hd => fun c hc h => Ev.step (fun k => by rw [impl_sumOf.l1, if_neg (by omega)]; rfl) h
  | d + 1, j, hd => fun c hc h => by
    have w : wrap64 ((c : Int) * 2) = ((c * 2 : Nat) : Int) := by
      rw [wrap_id (by omega) (by omega)]
      omega
    refine Ev.step (fun k => ?_) (iSum_in x n i r d (j + 1) (by omega) (stp c) (stp_lt c) h)
    show impl_sumOf.l1 (k + 1) x (c : Int) n i (j : Int) = impl_sumOf.l1 k x ((stp c : Nat) : Int) n i ((j + 1 : Nat) : Int)
    rw [impl_sumOf.l1, if_pos (by omega), w, succ_wrap (by omega), and_low _ (by omega)]
    unfold stp
    by_cases hs : c < 32768
    · rw [if_pos ((and_top c hc).2 hs), if_pos hs]
      have e : c * 2 % 65536 = c * 2 := by omega
      rw [e]
    · rw [if_neg (fun h => hs ((and_top c hc).1 h)), if_neg hs]
      have e : Go.bits .xor .i64 ((c * 2 % 65536 : Nat) : Int) 4129 = ((c * 2 % 65536 ^^^ 4129 : Nat) : Int) := xor_nat _ 4129 (by omega) (by omega)
      rw [e]
theorem sum_l (x : ByteArray) (hx : x.size ≤ 1000000000000000) : ∀ d i : Nat, i + d = x.size → ∀ c : Nat, c < 65536 →
    ∃ r : Nat, r < 65536 ∧ Ev (fun k => spec_l1Sum.l0 k x (c : Int) (i : Int)) (r : Int) ∧ Ev (fun k => impl_sumOf.l0 k x (c : Int) (x.size : Int) (i : Int)) (r : Int)
  | 0, i, hd => fun c hc => ⟨c, hc, Ev.step (f := fun _ => some (c : Int)) (fun k => by rw [spec_l1Sum.l0, if_neg (by omega)]) (Ev.now _), Ev.step (f := fun _ => some (c : Int)) (fun k => by rw [impl_sumOf.l0, if_neg (by omega)]) (Ev.now _)⟩
  | d + 1, i, hd => fun c hc => by
    obtain ⟨b, hb, hb2⟩ := bt_bd x (i : Int)
    have w1 : wrap64 (b : Int) = (b : Int) := wrap_id (by omega) (by omega)
    have w2 : wrap64 ((b : Int) * 256) = ((b * 256 : Nat) : Int) := by
      rw [wrap_id (by omega) (by omega)]
      omega
    have hx2 : c ^^^ b * 256 < 65536 := Nat.xor_lt_two_pow (n := 16) (by omega) (by omega)
    have e := xor_nat c (b * 256) (by omega) (by omega)
    obtain ⟨r, hr, h1, h2⟩ := sum_l x hx d (i + 1) (by omega) (stps 8 (c ^^^ b * 256)) (stps_lt 8 _ hx2)
    refine ⟨r, hr, ?_, ?_⟩
    · refine Ev.step (fun k => ?_) (sSum_in x (i : Int) (r : Int) 8 0 rfl _ hx2 ?_)
      · show spec_l1Sum.l0 (k + 1) x (c : Int) (i : Int) = spec_l1Sum.l1 k x ((c ^^^ b * 256 : Nat) : Int) (i : Int) 0
        rw [spec_l1Sum.l0, if_pos (by omega), if_pos (by omega), hb, w1, w2, e]
      · rw [succ_wrap (by omega)]
        exact h1
    · refine Ev.step (fun k => ?_) (iSum_in x (x.size : Int) (i : Int) (r : Int) 8 0 rfl _ hx2 ?_)
      · show impl_sumOf.l0 (k + 1) x (c : Int) (x.size : Int) (i : Int) = impl_sumOf.l1 k x ((c ^^^ b * 256 : Nat) : Int) (x.size : Int) (i : Int) 0
        rw [impl_sumOf.l0, if_pos (by omega), if_pos (by omega), if_pos (by omega), hb, w1, w2, e]
      · rw [succ_wrap (by omega)]
        exact h2
theorem sum_ev (x : ByteArray) (hx : x.size ≤ 1000000000000000) : ∃ r : Nat, r < 65536 ∧ Ev (fun k => spec_l1Sum.f k x) (r : Int) ∧ Ev (fun k => impl_sumOf.f k x) (r : Int) :=
  sum_l x hx x.size 0 (by omega) 65535 (by omega)

def bytF : Nat → Int → List Int → List Int
  | 0, _, x => x
  | d + 1, v, x => bytF d (v / 256) (x.set d (v % 256))
theorem bytF_len : ∀ (d : Nat) (v : Int) (x : List Int), (bytF d v x).length = x.length
  | 0, _, _ => rfl
  | d + 1, v, x => by rw [bytF, bytF_len d, List.length_set]
def byt (v : Int) (n : Nat) : ByteArray := strOfNums (bytF n v (List.replicate n 0))
theorem byt_size (v : Int) (n : Nat) : (byt v n).size = n := by
  unfold byt
  rw [strOfNums_size, bytF_len, List.length_replicate]
theorem sByt_l : ∀ (d : Nat) (v : Int) (x : List Int), d ≤ x.length → d ≤ 1000 → Ev (fun k => spec_l1Bytes.l0 k v x ((d : Int) - 1)) (strOfNums (bytF d v x))
  | 0, v, x, _, _ => Ev.step (f := fun _ => some (strOfNums x)) (fun k => by rw [spec_l1Bytes.l0, if_neg (by omega)]) (Ev.now _)
  | d + 1, v, x, h, h2 => by
    refine Ev.step (fun k => ?_) (sByt_l d (v / 256) (x.set d (v % 256)) (by rw [List.length_set]; omega) (by omega))
    have e : ((d + 1 : Nat) : Int) - 1 = (d : Int) := by omega
    show spec_l1Bytes.l0 (k + 1) v x (((d + 1 : Nat) : Int) - 1) = spec_l1Bytes.l0 k (v / 256) (x.set d (v % 256)) ((d : Int) - 1)
    rw [e, spec_l1Bytes.l0, if_pos (by omega), if_pos (by omega), if_pos (by omega), wrap_id (by omega) (by omega), tn_nat]
theorem iByt_l : ∀ (d : Nat) (v : Int) (x : List Int), d ≤ x.length → d ≤ 1000 → Ev (fun k => impl_put.l0 k v x ((d : Int) - 1)) (strOfNums (bytF d v x))
  | 0, v, x, _, _ => Ev.step (f := fun _ => some (strOfNums x)) (fun k => by rw [impl_put.l0, if_neg (by omega)]) (Ev.now _)
  | d + 1, v, x, h, h2 => by
    refine Ev.step (fun k => ?_) (iByt_l d (v / 256) (x.set d (v % 256)) (by rw [List.length_set]; omega) (by omega))
    have e : ((d + 1 : Nat) : Int) - 1 = (d : Int) := by omega
    show impl_put.l0 (k + 1) v x (((d + 1 : Nat) : Int) - 1) = impl_put.l0 k (v / 256) (x.set d (v % 256)) ((d : Int) - 1)
    rw [e, impl_put.l0, if_pos (by omega), if_pos (by omega), if_pos (by omega), wrap_id (by omega) (by omega), tn_nat]
theorem sByt_ev (v : Int) (n : Nat) (hn : n ≤ 1000) : Ev (fun k => spec_l1Bytes.f k v (n : Int)) (byt v n) := by
  unfold spec_l1Bytes.f
  rw [tn_nat, wrap_id (by omega) (by omega)]
  exact Ev.ifp (by omega) (Ev.ifp (by omega) (sByt_l n v _ (by rw [List.length_replicate]; omega) hn))
theorem iByt_ev (v : Int) (n : Nat) (hn : n ≤ 1000) : Ev (fun k => impl_put.f k v (n : Int)) (byt v n) := by
  unfold impl_put.f
  rw [tn_nat, wrap_id (by omega) (by omega)]
  exact Ev.ifp (by omega) (Ev.ifp (by omega) (iByt_l n v _ (by rw [List.length_replicate]; omega) hn))
open Classical in
noncomputable def sm (x : ByteArray) : Nat := if h : x.size ≤ 1000000000000000 then Classical.choose (sum_ev x h) else 0
theorem sm_ev (x : ByteArray) (h : x.size ≤ 1000000000000000) : Ev (fun k => spec_l1Sum.f k x) (sm x : Int) ∧ Ev (fun k => impl_sumOf.f k x) (sm x : Int) := by
  unfold sm
  rw [dif_pos h]
  exact (Classical.choose_spec (sum_ev x h)).2
def rcs : List ByteArray → ByteArray → ByteArray
  | [], b => b
  | x :: xs, b => rcs xs (b ++ (byt (x.size : Int) 1 ++ x))
def rcl : List ByteArray → Nat
  | [] => 0
  | x :: xs => 1 + x.size + rcl xs
theorem rcs_size : ∀ (l : List ByteArray) (b : ByteArray), (rcs l b).size = b.size + rcl l
  | [], b => rfl
  | x :: xs, b => by
    rw [rcs, rcs_size xs, rcl, ByteArray.size_append, ByteArray.size_append, byt_size]
    omega
noncomputable def fin (b : ByteArray) : ByteArray := (byt ((b.size + 2 : Nat) : Int) 2 ++ b) ++ byt (sm (byt ((b.size + 2 : Nat) : Int) 2 ++ b) : Int) 2
theorem fin_size (b : ByteArray) : (fin b).size = b.size + 4 := by
  unfold fin
  rw [ByteArray.size_append, ByteArray.size_append, byt_size, byt_size]
  omega
def hdr (o e p s : Int) (n : Nat) : ByteArray := (((byt o 3 ++ byt e 2) ++ byt p 2) ++ byt s 2) ++ byt (n : Int) 1
theorem hdr_size (o e p s : Int) (n : Nat) : (hdr o e p s n).size = 10 := by
  unfold hdr
  simp only [ByteArray.size_append, byt_size]
noncomputable def bb (o e p s : Int) (l : List ByteArray) : ByteArray := fin (rcs l (hdr o e p s l.length))
theorem bb_size (o e p s : Int) (l : List ByteArray) : (bb o e p s l).size = 14 + rcl l := by
  unfold bb
  rw [fin_size, rcs_size, hdr_size]
  omega
theorem sfin_ev (b : ByteArray) (hb : b.size ≤ 100000000) : Ev (fun k => (spec_l1Bytes.f k (wrap64 ((b.size : Int) + 2)) 2).bind fun t139 => (if t139.size + b.size ≤ 9223372036854775807 then ((spec_l1Sum.f k (t139 ++ b)).bind fun t140 => ((spec_l1Bytes.f k t140 2).bind fun t141 => (if (t139 ++ b).size + t141.size ≤ 9223372036854775807 then (some ((t139 ++ b) ++ t141)) else (none)))) else (none))) (fin b) := by
  have w : wrap64 ((b.size : Int) + 2) = ((b.size + 2 : Nat) : Int) := by
    rw [wrap_id (by omega) (by omega)]
    omega
  have hz : (byt ((b.size + 2 : Nat) : Int) 2 ++ b).size = 2 + b.size := by rw [ByteArray.size_append, byt_size]
  rw [w]
  refine Ev.bind (sByt_ev _ 2 (by omega)) (Ev.ifp (by rw [byt_size]; omega) (Ev.bind (sm_ev _ (by omega)).1 (Ev.bind (sByt_ev _ 2 (by omega)) (Ev.ifp (by rw [hz, byt_size]; omega) (Ev.now _)))))
theorem ifin_ev (b : ByteArray) (hb : b.size ≤ 100000000) : Ev (fun k => (impl_put.f k (wrap64 ((b.size : Int) + 2)) 2).bind fun t139 => (if t139.size + b.size ≤ 9223372036854775807 then ((impl_sumOf.f k (t139 ++ b)).bind fun t140 => ((impl_put.f k t140 2).bind fun t141 => (if (t139 ++ b).size + t141.size ≤ 9223372036854775807 then (some ((t139 ++ b) ++ t141)) else (none)))) else (none))) (fin b) := by
  have w : wrap64 ((b.size : Int) + 2) = ((b.size + 2 : Nat) : Int) := by
    rw [wrap_id (by omega) (by omega)]
    omega
  have hz : (byt ((b.size + 2 : Nat) : Int) 2 ++ b).size = 2 + b.size := by rw [ByteArray.size_append, byt_size]
  rw [w]
  refine Ev.bind (iByt_ev _ 2 (by omega)) (Ev.ifp (by rw [byt_size]; omega) (Ev.bind (sm_ev _ (by omega)).2 (Ev.bind (iByt_ev _ 2 (by omega)) (Ev.ifp (by rw [hz, byt_size]; omega) (Ev.now _)))))
theorem drop_getD {l : List ByteArray} {i : Nat} (h : i < l.length) : l.drop i = l.getD i ByteArray.empty :: l.drop (i + 1) := by
  rw [List.drop_eq_getElem_cons h, List.getD_eq_getElem?_getD, List.getElem?_eq_getElem h]
  rfl
theorem batch_l (l : List ByteArray) (hl : l.length ≤ 8) (hs : ∀ j, j < l.length → (l.getD j ByteArray.empty).size ≤ 20) : ∀ d i : Nat, i + d = l.length → ∀ b : ByteArray, b.size ≤ 1000 + 21 * i →
    Ev (fun k => spec_l1Batch.l0 k b l (l.length : Int) (i : Int)) (fin (rcs (l.drop i) b)) ∧ Ev (fun k => impl_batchBytes.l0 k b l (l.length : Int) (i : Int)) (fin (rcs (l.drop i) b))
  | 0, i, hd => fun b hb => by
    have e : i = l.length := by omega
    subst e
    rw [List.drop_length, rcs]
    exact ⟨Ev.step (fun k => by rw [spec_l1Batch.l0, if_neg (by omega)]) (sfin_ev b (by omega)), Ev.step (fun k => by rw [impl_batchBytes.l0, if_neg (by omega)]) (ifin_ev b (by omega))⟩
  | d + 1, i, hd => fun b hb => by
    have hz := hs i (by omega)
    have z1 : (byt ((l.getD i ByteArray.empty).size : Int) 1 ++ l.getD i ByteArray.empty).size = 1 + (l.getD i ByteArray.empty).size := by rw [ByteArray.size_append, byt_size]
    obtain ⟨h1, h2⟩ := batch_l l hl hs d (i + 1) (by omega) (b ++ (byt ((l.getD i ByteArray.empty).size : Int) 1 ++ l.getD i ByteArray.empty)) (by rw [ByteArray.size_append, z1]; omega)
    rw [drop_getD (show i < l.length by omega), rcs]
    constructor
    · refine Ev.step (f := fun k => (spec_l1Bytes.f k ((l.getD i ByteArray.empty).size : Int) 1).bind fun t => (if t.size + (l.getD i ByteArray.empty).size ≤ 9223372036854775807 then (if b.size + (t ++ l.getD i ByteArray.empty).size ≤ 9223372036854775807 then (spec_l1Batch.l0 k (b ++ (t ++ l.getD i ByteArray.empty)) l (l.length : Int) ((i + 1 : Nat) : Int)) else (none)) else (none))) (fun k => ?_) (Ev.bind (sByt_ev _ 1 (by omega)) (Ev.ifp (by rw [byt_size]; omega) (Ev.ifp (by rw [z1]; omega) h1)))
      rw [spec_l1Batch.l0, if_pos (by omega), if_pos (by omega), if_pos (by omega), succ_wrap (by omega)]
      rfl
    · refine Ev.step (f := fun k => (impl_put.f k ((l.getD i ByteArray.empty).size : Int) 1).bind fun t => (if t.size + (l.getD i ByteArray.empty).size ≤ 9223372036854775807 then (if b.size + (t ++ l.getD i ByteArray.empty).size ≤ 9223372036854775807 then (impl_batchBytes.l0 k (b ++ (t ++ l.getD i ByteArray.empty)) l (l.length : Int) ((i + 1 : Nat) : Int)) else (none)) else (none))) (fun k => ?_) (Ev.bind (iByt_ev _ 1 (by omega)) (Ev.ifp (by rw [byt_size]; omega) (Ev.ifp (by rw [z1]; omega) h2)))
      rw [impl_batchBytes.l0, if_pos (by omega), if_pos (by omega), if_pos (by omega), succ_wrap (by omega)]
      rfl
theorem rcl_le : ∀ (l : List ByteArray), (∀ j, j < l.length → (l.getD j ByteArray.empty).size ≤ 20) → rcl l ≤ 21 * l.length
  | [], _ => Nat.le_refl _
  | x :: xs, h => by
    have h0 : x.size ≤ 20 := h 0 (by simp)
    have h1 := rcl_le xs (fun j hj => h (j + 1) (by simp only [List.length_cons]; omega))
    rw [rcl, List.length_cons]
    omega
theorem batch_ev (o e p s : Int) (l : List ByteArray) (h : GB o e p s l) : Ev (fun k => spec_l1Batch.f k o e p s l) (bb o e p s l) ∧ Ev (fun k => impl_batchBytes.f k o e p s l) (bb o e p s l) := by
  obtain ⟨hs, _, _, _, _, hl⟩ := h
  obtain ⟨h1, h2⟩ := batch_l l (by omega) hs l.length 0 (by omega) (hdr o e p s l.length) (by rw [hdr_size]; omega)
  unfold spec_l1Batch.f impl_batchBytes.f
  constructor
  · refine Ev.bind (sByt_ev _ 3 (by omega)) (Ev.bind (sByt_ev _ 2 (by omega)) (Ev.ifp ?_ (Ev.bind (sByt_ev _ 2 (by omega)) (Ev.ifp ?_ (Ev.bind (sByt_ev _ 2 (by omega)) (Ev.ifp ?_ (Ev.bind (sByt_ev _ 1 (by omega)) (Ev.ifp ?_ h1))))))))
    all_goals simp only [ByteArray.size_append, byt_size]
    all_goals omega
  · refine Ev.bind (iByt_ev _ 3 (by omega)) (Ev.bind (iByt_ev _ 2 (by omega)) (Ev.ifp ?_ (Ev.bind (iByt_ev _ 2 (by omega)) (Ev.ifp ?_ (Ev.bind (iByt_ev _ 2 (by omega)) (Ev.ifp ?_ (Ev.bind (iByt_ev _ 1 (by omega)) (Ev.ifp ?_ h2))))))))
    all_goals simp only [ByteArray.size_append, byt_size]
    all_goals omega

theorem EvB.andThen {g f : Nat → Option Bool} {P Q : Prop} (h : EvB g P) (k : P → EvB f Q) : EvB (fun n => (g n).bind fun t => if t = true then f n else some false) (P ∧ Q) := by
  obtain ⟨b, hb, hp⟩ := h
  cases b with
  | true =>
    obtain ⟨c, hc, hq⟩ := k (hp.1 rfl)
    exact ⟨c, Ev.bind hb (Ev.ifp rfl hc), ⟨fun h => ⟨hp.1 rfl, hq.1 h⟩, fun h => hq.2 h.2⟩⟩
  | false => exact ⟨false, Ev.bind hb (Ev.ifn (by decide) (Ev.now _)), Iff.intro (fun h => by cases h) (fun h => absurd (hp.2 h.1) (by decide))⟩

def GBx (x : S25) : Prop := GB x.f0 x.f1 x.f2 x.f3 x.f4
def NX (a b : S25) : Prop := b.f0 = wrap64 (a.f0 + (a.f4.length : Int)) ∧ b.f1 ≥ a.f1
theorem sNX_ev (a b : S25) : EvB (fun _ => spec_l1Next.f a.f0 a.f1 a.f2 a.f3 a.f4 b.f0 b.f1 b.f2 b.f3 b.f4) (NX a b) := by
  unfold spec_l1Next.f NX
  by_cases h : b.f0 = wrap64 (a.f0 + (a.f4.length : Int))
  · exact ⟨decide (b.f1 ≥ a.f1), Ev.ifp h (Ev.now _), by rw [decide_eq_true_iff]; exact ⟨fun h' => ⟨h, h'⟩, fun h' => h'.2⟩⟩
  · exact ⟨false, Ev.ifn h (Ev.now _), Iff.intro (fun h => by cases h) (fun h' => absurd h'.1 h)⟩

noncomputable def bbx (x : S25) : ByteArray := bb x.f0 x.f1 x.f2 x.f3 x.f4
theorem bbx_size (x : S25) (h : GBx x) : 14 ≤ (bbx x).size ∧ (bbx x).size ≤ 182 := by
  obtain ⟨hs, _, _, _, _, hl⟩ := h
  have := rcl_le x.f4 hs
  unfold bbx
  rw [bb_size]
  omega

def GLi (l : List S25) (i : Nat) : Prop := ∀ j, i ≤ j → j < l.length → GBx (l.getD j z25) ∧ (0 < j → NX (l.getD (j - 1) z25) (l.getD j z25))
theorem GLi_step (l : List S25) (i : Nat) (hi : i < l.length) : (GBx (l.getD i z25) ∧ (0 < i → NX (l.getD (i - 1) z25) (l.getD i z25)) ∧ GLi l (i + 1)) ↔ GLi l i := by
  refine ⟨fun ⟨h1, h2, h3⟩ j h4 h5 => ?_, fun h => ⟨(h i (Nat.le_refl _) hi).1, (h i (Nat.le_refl _) hi).2, fun j h4 h5 => h j (by omega) h5⟩⟩
  by_cases e : j = i
  · rw [e]
    exact ⟨h1, h2⟩
  · exact h3 j (by omega) h5
theorem sGL_l (l : List S25) (hl : l.length ≤ 1048576) (hs : ∀ j, j < l.length → (l.getD j z25).f4.length ≤ 1048576) : ∀ d i : Nat, i + d = l.length → EvB (fun k => spec_GoodLog.l0 k l l (l.length : Int) (i : Int)) (GLi l i)
  | 0, i, hd => EvB.yes (fun k => by rw [spec_GoodLog.l0, if_neg (by omega)]) (fun j h1 h2 => by omega)
  | d + 1, i, hd => by
    have hg := sGB_ev (l.getD i z25).f0 (l.getD i z25).f1 (l.getD i z25).f2 (l.getD i z25).f3 (l.getD i z25).f4 (hs i (by omega))
    have ih := sGL_l l hl hs d (i + 1) (by omega)
    by_cases h0 : 0 < i
    · refine EvB.step (fun k => ?_) (EvB.iff (EvB.andThen hg (fun _ => EvB.andThen (sNX_ev (l.getD (i - 1) z25) (l.getD i z25)) (fun _ => ih))) ?_)
      · rw [spec_GoodLog.l0, if_pos (by omega), if_pos (by omega), if_pos (by omega), pred_wrap h0 (by omega), succ_wrap (by omega)]
        refine congrArg _ (funext fun t => ?_)
        rw [if_pos (show (i : Int) > 0 by omega), if_pos (show (0 : Int) ≤ ((i - 1 : Nat) : Int) by omega), if_pos (show ((i - 1 : Nat) : Int) < (l.length : Int) by omega)]
        rfl
      · refine Iff.trans ?_ (GLi_step l i (by omega))
        exact ⟨fun h => ⟨h.1, fun _ => h.2.1, h.2.2⟩, fun h => ⟨h.1, h.2.1 h0, h.2.2⟩⟩
    · refine EvB.step (fun k => ?_) (EvB.iff (EvB.andThen hg (fun _ => ih)) ?_)
      · rw [spec_GoodLog.l0, if_pos (by omega), if_pos (by omega), if_pos (by omega), succ_wrap (by omega)]
        refine congrArg _ (funext fun t => ?_)
        rw [if_neg (show ¬ (i : Int) > 0 by omega)]
      · refine Iff.trans ?_ (GLi_step l i (by omega))
        exact ⟨fun h => ⟨h.1, fun h' => absurd h' h0, h.2⟩, fun h => ⟨h.1, h.2.2⟩⟩
theorem sGL_ev (l : List S25) (hl : l.length ≤ 1048576) (hs : ∀ j, j < l.length → (l.getD j z25).f4.length ≤ 1048576) : EvB (fun k => spec_GoodLog.f k l) (GLi l 0) := sGL_l l hl hs l.length 0 (by omega)
noncomputable def lgb : List S25 → ByteArray → ByteArray
  | [], b => b
  | x :: xs, b => lgb xs (b ++ bbx x)
theorem lgb_size : ∀ (l : List S25) (b : ByteArray), (∀ x ∈ l, GBx x) → b.size + 14 * l.length ≤ (lgb l b).size
  | [], b, _ => Nat.le_refl _
  | x :: xs, b, h => by
    have h1 := (bbx_size x (h x List.mem_cons_self)).1
    have h2 := lgb_size xs (b ++ bbx x) (fun y hy => h y (List.mem_cons_of_mem _ hy))
    rw [ByteArray.size_append] at h2
    rw [lgb, List.length_cons]
    omega
theorem drop_getB {l : List S25} {i : Nat} (h : i < l.length) : l.drop i = l.getD i z25 :: l.drop (i + 1) := by
  rw [List.drop_eq_getElem_cons h, List.getD_eq_getElem?_getD, List.getElem?_eq_getElem h]
  rfl
theorem of_eq (s : List Int) (hb : BY s) (a q : Int) (l : List ByteArray) (h0 : 0 ≤ a) (h1 : a ≤ 900000000000000) (hn : 0 < l.length) (hn2 : l.length ≤ 1000) :
    ∃ r a' q', spec_l1Cur_of.f s a q l = some (r, a', q') ∧ r ∈ l ∧ a ≤ a' ∧ a' ≤ a + 2 := by
  obtain ⟨r, a', q', e, r0, r1, h2, h3⟩ := pick_eq s hb a q (l.length : Int) h0 h1 (by omega)
  have r2 := r1 (by omega)
  obtain ⟨i, rfl⟩ := Int.eq_ofNat_of_zero_le r0
  unfold spec_l1Cur_of.f
  rw [e, Option.bind_some, if_pos r0, if_pos r2]
  exact ⟨_, _, _, rfl, getD_mem (show i < l.length by omega) _, h2, h3⟩
theorem rec_eq (s : List Int) (hb : BY s) (a q : Int) (h0 : 0 ≤ a) (h1 : a ≤ 900000000000000) :
    ∃ r a' q', spec_l1Cur_recordText.f s a q = some (r, a', q') ∧ r.size ≤ 22 ∧ a ≤ a' ∧ a' ≤ a + 2 := by
  obtain ⟨r, a', q', e, hm, h2, h3⟩ := of_eq s hb a q [(⟨#[]⟩ : ByteArray), (⟨#[97]⟩ : ByteArray), (⟨#[114, 101, 99]⟩ : ByteArray), (⟨#[0, 255]⟩ : ByteArray), (⟨#[115, 111, 109, 101, 32, 109, 111, 114, 101, 32, 116, 101, 120, 116, 32, 111, 102, 32, 105, 116]⟩ : ByteArray)] h0 h1 (by decide) (by decide)
  unfold spec_l1Cur_recordText.f
  rw [e, Option.bind_some]
  refine ⟨_, _, _, rfl, ?_, h2, h3⟩
  simp only [List.mem_cons, List.not_mem_nil, or_false] at hm
  rcases hm with rfl | rfl | rfl | rfl | rfl <;> exact Nat.le_of_ble_eq_true rfl
def RB (l : List ByteArray) : Prop := l.length ≤ 4 ∧ ∀ x ∈ l, x.size ≤ 22
theorem RB_big {l : List ByteArray} (h : RB l) : l.length ≤ 1048576 := Nat.le_trans h.1 (by decide)
theorem dbatch_l (s : List Int) (hb : BY s) (o e p u : Int) : ∀ (d : Nat) (l : List ByteArray) (a q : Int), l.length + d ≤ 4 → 0 < l.length + d → (∀ x ∈ l, x.size ≤ 22) → 0 ≤ a → a + 2 * (d : Int) ≤ 800000000000000 →
    ∃ o' e' l' a' q', Ev (fun k => spec_l1Cur_batch.l0 k (d : Int) s a q o e p u l) (o', e', p, u, l', a', q') ∧ RB l' ∧ a ≤ a' ∧ a' ≤ a + 2 * (d : Int) + 4 := by
  intro d
  induction d with
  | zero =>
    intro l a q hl h1 hx h0 h2
    obtain ⟨r, a1, q1, ep, r0, r1, p1, p2⟩ := pick_eq s hb a q 40 h0 (by omega) (by decide)
    by_cases c0 : r = 0
    · obtain ⟨x, a2, q2, e2, _, p3, p4⟩ := among_eq s hb a1 q1 [(-1), 100000, 100001] (by omega) (by omega) (by decide) (by decide)
      refine ⟨x, e, l, a2, q2, Ev.step (f := fun _ => some (x, e, p, u, l, a2, q2)) (fun k => ?_) (Ev.now _), ⟨by omega, hx⟩, by omega, by omega⟩
      rw [spec_l1Cur_batch.l0, if_neg (by omega), ep, Option.bind_some, if_pos c0, e2, Option.bind_some]
    · by_cases c1 : r = 1
      · refine ⟨o, e, [], a1, q1, Ev.step (f := fun _ => some (o, e, p, u, [], a1, q1)) (fun k => ?_) (Ev.now _), ⟨Nat.zero_le _, fun x h => by cases h⟩, by omega, by omega⟩
        rw [spec_l1Cur_batch.l0, if_neg (by omega), ep, Option.bind_some, if_neg c0, if_pos c1]
      · by_cases c2 : r = 2
        · obtain ⟨x, a2, q2, e2, _, p3, p4⟩ := among_eq s hb a1 q1 [(-1), 1000, 1001] (by omega) (by omega) (by decide) (by decide)
          refine ⟨o, x, l, a2, q2, Ev.step (f := fun _ => some (o, x, p, u, l, a2, q2)) (fun k => ?_) (Ev.now _), ⟨by omega, hx⟩, by omega, by omega⟩
          rw [spec_l1Cur_batch.l0, if_neg (by omega), ep, Option.bind_some, if_neg c0, if_neg c1, if_pos c2, e2, Option.bind_some]
        · by_cases c3 : r = 3
          · refine ⟨o, e, l.set (0 : Int).toNat (⟨#[97, 32, 116, 101, 120, 116, 32, 111, 102, 32, 109, 111, 114, 101, 32, 116, 104, 97, 110, 32, 50, 48]⟩ : ByteArray), a1, q1, Ev.step (f := fun _ => some (o, e, p, u, l.set (0 : Int).toNat (⟨#[97, 32, 116, 101, 120, 116, 32, 111, 102, 32, 109, 111, 114, 101, 32, 116, 104, 97, 110, 32, 50, 48]⟩ : ByteArray), a1, q1)) (fun k => ?_) (Ev.now _), ⟨by rw [List.length_set]; omega, fun y hy => ?_⟩, by omega, by omega⟩
            · rw [spec_l1Cur_batch.l0, if_neg (by omega), ep, Option.bind_some, if_neg c0, if_neg c1, if_neg c2, if_pos c3, if_pos (by omega)]
            · rcases List.mem_or_eq_of_mem_set hy with hy | hy
              · exact hx y hy
              · rw [hy]
                decide
          · refine ⟨o, e, l, a1, q1, Ev.step (f := fun _ => some (o, e, p, u, l, a1, q1)) (fun k => ?_) (Ev.now _), ⟨by omega, hx⟩, by omega, by omega⟩
            rw [spec_l1Cur_batch.l0, if_neg (by omega), ep, Option.bind_some, if_neg c0, if_neg c1, if_neg c2, if_neg c3]
  | succ d ih =>
    intro l a q hl h1 hx h0 h2
    obtain ⟨r, a1, q1, e1, hr, p1, p2⟩ := rec_eq s hb a q h0 (by omega)
    have hw2 : wrap64 (((d + 1 : Nat) : Int) - 1) = (d : Int) := by rw [wrap_id (by omega) (by omega)]; omega
    obtain ⟨o', e', l', a', q', e2, h3, p3, p4⟩ := ih (l ++ [r]) a1 q1 (by rw [List.length_append, List.length_singleton]; omega) (by rw [List.length_append, List.length_singleton]; omega)
      (fun y hy => by
        rcases List.mem_append.1 hy with hy | hy
        · exact hx y hy
        · rw [List.mem_singleton.1 hy]; exact hr) (by omega) (by omega)
    refine ⟨o', e', l', a', q', Ev.step (fun k => ?_) e2, h3, by omega, by omega⟩
    rw [spec_l1Cur_batch.l0, if_pos (by omega), e1, Option.bind_some, if_pos (by omega), hw2]
theorem dbatch_ev (s : List Int) (hb : BY s) (a q : Int) (h0 : 0 ≤ a) (h1 : a ≤ 700000000000000) :
    ∃ o e p u l a' q', Ev (fun k => spec_l1Cur_batch.f k s a q) (o, e, p, u, l, a', q') ∧ RB l ∧ a ≤ a' ∧ a' ≤ a + 50 := by
  obtain ⟨r1, a1, q1, e1, _, _, p1, p2⟩ := pick_eq s hb a q 50 h0 (by omega) (by decide)
  obtain ⟨r2, a2, q2, e2, _, _, p3, p4⟩ := pick_eq s hb a1 q1 4 (by omega) (by omega) (by decide)
  obtain ⟨r3, a3, q3, e3, _, _, p5, p6⟩ := pick_eq s hb a2 q2 3 (by omega) (by omega) (by decide)
  obtain ⟨r4, a4, q4, e4, _, _, p7, p8⟩ := pick_eq s hb a3 q3 9 (by omega) (by omega) (by decide)
  obtain ⟨n, a5, q5, e5, n0, n1, p9, p10⟩ := pick_eq s hb a4 q4 3 (by omega) (by omega) (by decide)
  have n2 := n1 (by decide)
  obtain ⟨m, rfl⟩ := Int.eq_ofNat_of_zero_le n0
  obtain ⟨o', e', l', a', q', e6, h6, p11, p12⟩ := dbatch_l s hb r1 r2 r3 r4 (1 + m) [] a5 q5 (by simp only [List.length_nil]; omega) (by omega) (fun x h => by cases h) (by omega) (by omega)
  have fin : a ≤ a' ∧ a' ≤ a + 50 := ⟨by omega, by omega⟩
  refine ⟨o', e', r3, r4, l', a', q', Ev.congr (fun k => ?_) e6, h6, fin⟩
  have hw : wrap64 (1 + (m : Int)) = ((1 + m : Nat) : Int) := by rw [wrap_id (by omega) (by omega)]; omega
  simp only [spec_l1Cur_batch.f, e1, Option.bind_some, e2, e3, e4, e5, hw]

theorem sLogS_l (l : List S25) (hl : l.length ≤ 1048576) (hg : ∀ j, j < l.length → GBx (l.getD j z25)) : ∀ d i : Nat, i + d = l.length → ∀ b : ByteArray, b.size ≤ 182 * i →
    Ev (fun k => spec_l1Log.l0 k b l (l.length : Int) (i : Int)) (lgb (l.drop i) b)
  | 0, i, hd => fun b hb => by
    have e : i = l.length := by omega
    subst e
    rw [List.drop_length, lgb]
    exact Ev.step (f := fun _ => some b) (fun k => by rw [spec_l1Log.l0, if_neg (by omega)]) (Ev.now _)
  | d + 1, i, hd => fun b hb => by
    have hx := hg i (by omega)
    have hz := bbx_size _ hx
    obtain ⟨h1, h2⟩ := batch_ev _ _ _ _ _ hx
    have h3 := sLogS_l l hl hg d (i + 1) (by omega) (b ++ bbx (l.getD i z25)) (by rw [ByteArray.size_append]; omega)
    rw [drop_getB (show i < l.length by omega), lgb]
    refine Ev.step (f := fun k => (spec_l1Batch.f k (l.getD i z25).f0 (l.getD i z25).f1 (l.getD i z25).f2 (l.getD i z25).f3 (l.getD i z25).f4).bind fun t => (if b.size + t.size ≤ 9223372036854775807 then (spec_l1Log.l0 k (b ++ t) l (l.length : Int) ((i + 1 : Nat) : Int)) else (none))) (fun k => ?_) (Ev.bind h1 (Ev.ifp (by show b.size + (bbx (l.getD i z25)).size ≤ _; omega) h3))
    rw [spec_l1Log.l0, if_pos (by omega), if_pos (by omega), if_pos (by omega), succ_wrap (by omega)]
    rfl
theorem GLi_good {l : List S25} (hg : GLi l 0) : ∀ x ∈ l, GBx x := fun x hx => by
  obtain ⟨j, hj, e⟩ := List.getElem_of_mem hx
  have := (hg j (Nat.zero_le _) hj).1
  rw [List.getD_eq_getElem?_getD, List.getElem?_eq_getElem hj] at this
  rw [← e]
  exact this
theorem sLB_ev (l : List S25) (hl : l.length ≤ 1048576) (hs : ∀ j, j < l.length → (l.getD j z25).f4.length ≤ 1048576) :
    ∃ (n : ByteArray) (b : Bool), Ev (fun k => spec_LogBytes.f k l) (n, b) ∧ n.size ≤ 600 ∧ (b = true → GLi l 0 ∧ n = lgb l ⟨#[]⟩) := by
  obtain ⟨b, hb, hq⟩ := sGL_ev l hl hs
  unfold spec_LogBytes.f
  cases b with
  | false => exact ⟨(⟨#[]⟩ : ByteArray), false, Ev.bind hb (Ev.ifn (by decide) (Ev.step (f := fun _ => some ((⟨#[]⟩ : ByteArray), false)) (fun k => by rw [spec_LogBytes.j0, if_pos rfl]) (Ev.now _))), Nat.zero_le _, fun h => by cases h⟩
  | true =>
    have hg := hq.1 rfl
    have hg1 : ∀ j, j < l.length → GBx (l.getD j z25) := fun j hj => (hg j (Nat.zero_le _) hj).1
    have h3 := sLogS_l l hl hg1 l.length 0 (by omega) (⟨#[]⟩ : ByteArray) (by show 0 ≤ _; omega)
    rw [List.drop_zero] at h3
    have h3' : Ev (fun k => spec_l1Log.f k l) (lgb l (⟨#[]⟩ : ByteArray)) := h3
    have hsz : 14 * l.length ≤ (lgb l (⟨#[]⟩ : ByteArray)).size := by
      have := lgb_size l (⟨#[]⟩ : ByteArray) (GLi_good hg)
      omega
    by_cases hz : (lgb l (⟨#[]⟩ : ByteArray)).size > 600
    · refine ⟨(⟨#[]⟩ : ByteArray), false, Ev.bind hb (Ev.ifp rfl ?_), Nat.zero_le _, fun h => by cases h⟩
      by_cases hn : (l.length : Int) > 600
      · rw [decide_eq_true hn]
        exact Ev.step (f := fun _ => some ((⟨#[]⟩ : ByteArray), false)) (fun k => by rw [spec_LogBytes.j0, if_pos rfl]) (Ev.now _)
      · rw [decide_eq_false hn]
        exact Ev.step (fun k => by rw [spec_LogBytes.j0, if_neg (by decide)]) (Ev.bind h3' (Ev.ifp (show ((lgb l (⟨#[]⟩ : ByteArray)).size : Int) > 600 by omega) (Ev.now _)))
    · refine ⟨_, true, Ev.bind hb (Ev.ifp rfl ?_), by omega, fun _ => ⟨hg, rfl⟩⟩
      rw [decide_eq_false (show ¬ (l.length : Int) > 600 by omega)]
      exact Ev.step (fun k => by rw [spec_LogBytes.j0, if_neg (by decide)]) (Ev.bind h3' (Ev.ifn (show ¬ ((lgb l (⟨#[]⟩ : ByteArray)).size : Int) > 600 by omega) (Ev.now _)))

theorem dspoilt_l (s : List Int) (hb : BY s) (z : ByteArray) (hz0 : 0 < z.size) (hz : z.size ≤ 100) : ∀ (d : Nat) (x : ByteArray) (a q : Int), x.size + d ≤ 1000 → 0 ≤ a → a + 10 * (d : Int) ≤ 800000000000000 →
    ∃ r a' q', Ev (fun k => spec_l1Cur_spoilt.l0 k x z (d : Int) s a q) (r, a', q') ∧ r.size ≤ 1000 ∧ a ≤ a' ∧ a' ≤ a + 10 * (d : Int) := by
  have stop : ∀ (x : ByteArray) (d a q : Int), x.size ≤ 1000 → ∃ r a' q', Ev (fun k => spec_l1Cur_spoilt.j1 k x z d false s a q) (r, a', q') ∧ r.size ≤ 1000 ∧ a ≤ a' ∧ a' ≤ a := fun x d a q hx =>
    ⟨x, a, q, Ev.step (f := fun _ => some (x, a, q)) (fun k => by rw [spec_l1Cur_spoilt.j1, if_neg (by decide)]) (Ev.now _), hx, Int.le_refl _, Int.le_refl _⟩
  intro d
  induction d with
  | zero =>
    intro x a q hx h0 h1
    obtain ⟨r, a', q', e, h2, h3, h4⟩ := stop x ((0 : Nat) : Int) a q (by omega)
    exact ⟨r, a', q', Ev.step (fun k => by rw [spec_l1Cur_spoilt.l0, if_neg (by omega)]) e, h2, by omega, by omega⟩
  | succ d ih =>
    intro x a q hx h0 h1
    by_cases hs : (x.size : Int) > 0
    · obtain ⟨i, a1, q1, e1, i0, i1, p1, p2⟩ := pick_eq s hb a q (x.size : Int) h0 (by omega) (by omega)
      obtain ⟨j, a2, q2, e2, j0, j1, p3, p4⟩ := pick_eq s hb a1 q1 (z.size : Int) (by omega) (by omega) (by omega)
      obtain ⟨c, a3, q3, e3, c0, c1, p5, p6⟩ := pick_eq s hb a2 q2 3 (by omega) (by omega) (by decide)
      have i2 := i1 (by omega)
      have j2 := j1 (by omega)
      clear i1 j1 c0 c1
      obtain ⟨i, rfl⟩ := Int.eq_ofNat_of_zero_le i0
      have zy : ∀ v : Int, (strOfNums [v]).size = 1 := fun v => rfl
      have go : ∀ y : ByteArray, y.size ≤ x.size + 1 → ∃ r a' q', Ev (fun k => spec_l1Cur_spoilt.l0 k y z (d : Int) s a3 q3) (r, a', q') ∧ r.size ≤ 1000 ∧ a ≤ a' ∧ a' ≤ a + 10 * ((d + 1 : Nat) : Int) := fun y hy => by
        obtain ⟨r, a', q', e, h2, h3, h4⟩ := ih y a3 q3 (by omega) (by omega) (by omega)
        exact ⟨r, a', q', e, h2, by omega, by omega⟩
      have sz1 : ∀ m n : Nat, (x.extract m n).size ≤ x.size := fun m n => by rw [ByteArray.size_extract]; omega
      have lift : ∀ y : ByteArray, y.size ≤ x.size + 1 → (∀ k, spec_l1Cur_spoilt.j1 (k + 1) x z ((d + 1 : Nat) : Int) true s a q = spec_l1Cur_spoilt.l0 k y z (d : Int) s a3 q3) →
          ∃ r a' q', Ev (fun k => spec_l1Cur_spoilt.l0 k x z ((d + 1 : Nat) : Int) s a q) (r, a', q') ∧ r.size ≤ 1000 ∧ a ≤ a' ∧ a' ≤ a + 10 * ((d + 1 : Nat) : Int) := fun y hy hk => by
        obtain ⟨r, a', q', e, h2⟩ := go y hy
        exact ⟨r, a', q', Ev.step (f := fun k => spec_l1Cur_spoilt.j1 k x z ((d + 1 : Nat) : Int) true s a q) (fun k => by rw [spec_l1Cur_spoilt.l0, if_pos (by omega), decide_eq_true hs]) (Ev.step hk e), h2⟩
      have b1 := sz1 0 i
      have b2 := sz1 i x.size
      have b3 := sz1 (i + 1) x.size
      have b4 : (x.extract 0 i).size = i := by rw [ByteArray.size_extract]; omega
      have b5 : (x.extract i x.size).size = x.size - i := by rw [ByteArray.size_extract]; omega
      have b6 : (x.extract (i + 1) x.size).size = x.size - (i + 1) := by rw [ByteArray.size_extract]; omega
      have hwi : wrap64 ((i : Int) + 1) = ((i + 1 : Nat) : Int) := succ_wrap (by omega)
      have hwd : wrap64 (((d + 1 : Nat) : Int) - 1) = (d : Int) := by rw [wrap_id (by omega) (by omega)]; omega
      have zz := zy (bt z j)
      by_cases k0 : c = 0
      · refine lift ((x.extract 0 i ++ strOfNums [bt z j]) ++ x.extract i x.size) (by rw [ByteArray.size_append, ByteArray.size_append, b4, b5, zz]; clear hwi hwd; omega) (fun k => ?_)
        simp only [spec_l1Cur_spoilt.j1, e1, e2, e3, Option.bind_some, tn_nat, hwd]
        rw [if_pos trivial, if_pos j0, if_pos j2, if_pos k0, if_pos i0, if_pos (by clear hwi hwd; omega), if_pos (by rw [b4, zz]; clear hwi hwd; omega), if_pos (by rw [ByteArray.size_append, b4, b5, zz]; clear hwi hwd; omega)]
      · by_cases k1 : c = 1
        · refine lift ((x.extract 0 i ++ strOfNums [bt z j]) ++ x.extract (i + 1) x.size) (by rw [ByteArray.size_append, ByteArray.size_append, b4, b6, zz]; clear hwi hwd; omega) (fun k => ?_)
          simp only [spec_l1Cur_spoilt.j1, e1, e2, e3, Option.bind_some, tn_nat, hwd, hwi]
          rw [if_pos trivial, if_pos j0, if_pos j2, if_neg k0, if_pos k1, if_pos i0, if_pos (by clear hwi hwd; omega), if_pos (by rw [b4, zz]; clear hwi hwd; omega), if_pos (by clear hwi hwd; omega), if_pos (by clear hwi hwd; omega), if_pos (by rw [ByteArray.size_append, b4, b6, zz]; clear hwi hwd; omega)]
        · refine lift (x.extract 0 i ++ x.extract (i + 1) x.size) (by rw [ByteArray.size_append, b4, b6]; clear hwi hwd; omega) (fun k => ?_)
          simp only [spec_l1Cur_spoilt.j1, e1, e2, e3, Option.bind_some, tn_nat, hwd, hwi]
          rw [if_pos trivial, if_pos j0, if_pos j2, if_neg k0, if_neg k1, if_pos i0, if_pos (by clear hwi hwd; omega), if_pos (by clear hwi hwd; omega), if_pos (by clear hwi hwd; omega), if_pos (by rw [b4, b6]; clear hwi hwd; omega)]
    · obtain ⟨r, a', q', e, h2, h3, h4⟩ := stop x ((d + 1 : Nat) : Int) a q (by omega)
      refine ⟨r, a', q', Ev.step (fun k => ?_) e, h2, by omega, by omega⟩
      rw [spec_l1Cur_spoilt.l0, if_pos (by omega), decide_eq_false hs]
theorem dspoilt_ev (s : List Int) (hb : BY s) (x z : ByteArray) (hz0 : 0 < z.size) (hz : z.size ≤ 100) (hx : x.size ≤ 900) (a q : Int) (h0 : 0 ≤ a) (h1 : a ≤ 700000000000000) :
    ∃ r a' q', Ev (fun k => spec_l1Cur_spoilt.f k s a q x z) (r, a', q') ∧ r.size ≤ 1000 ∧ a ≤ a' ∧ a' ≤ a + 50 := by
  obtain ⟨n, a1, q1, e1, n0, n1, p1, p2⟩ := pick_eq s hb a q 3 h0 (by omega) (by decide)
  have n2 := n1 (by decide)
  obtain ⟨m, rfl⟩ := Int.eq_ofNat_of_zero_le n0
  obtain ⟨r, a', q', e, h2, h3, h4⟩ := dspoilt_l s hb z hz0 hz m x a1 q1 (by omega) (by omega) (by omega)
  refine ⟨r, a', q', Ev.congr (fun k => ?_) e, h2, by omega, by omega⟩
  simp only [spec_l1Cur_spoilt.f, e1, Option.bind_some]
def DL (l : List S25) : Prop := l.length ≤ 5 ∧ ∀ x ∈ l, RB x.f4
theorem dbatches_j1 (s : List Int) (hb : BY s) (x : List S25) (hx : DL x) (b : Bool) (hb2 : b = true → 0 < x.length) (a q : Int) (h0 : 0 ≤ a) (h1 : a ≤ 800000000000000) :
    ∃ x' a' q', Ev (fun k => spec_l1Cur_batches.j1 k x b s a q) (x', a', q') ∧ DL x' ∧ a ≤ a' ∧ a' ≤ a + 4 := by
  cases b with
  | false => exact ⟨x, a, q, Ev.step (f := fun _ => some (x, a, q)) (fun k => by rw [spec_l1Cur_batches.j1, if_neg (by decide)]) (Ev.now _), hx, by omega, by omega⟩
  | true =>
    have hxl := hx.1
    have hx0 := hb2 rfl
    obtain ⟨i, a1, q1, e1, i0, i1, p1, p2⟩ := pick_eq s hb a q (x.length : Int) h0 (by omega) (by omega)
    obtain ⟨c, a2, q2, e2, _, _, p3, p4⟩ := pick_eq s hb a1 q1 3 (by omega) (by omega) (by decide)
    have i2 := i1 (by omega)
    obtain ⟨i, rfl⟩ := Int.eq_ofNat_of_zero_le i0
    refine ⟨x.set i (⟨wrap64 (((x.getD i z25).f0) + (wrap64 (c - 1))), (x.getD i z25).f1, (x.getD i z25).f2, (x.getD i z25).f3, (x.getD i z25).f4⟩), a2, q2, Ev.step (f := fun _ => some (_, a2, q2)) (fun k => ?_) (Ev.now _), ⟨by rw [List.length_set]; exact hxl, fun y hy => ?_⟩, by omega, by omega⟩
    · simp only [spec_l1Cur_batches.j1, e1, e2, Option.bind_some, tn_nat]
      rw [if_pos trivial, if_pos i0, if_pos i2]
      rfl
    · rcases List.mem_or_eq_of_mem_set hy with hy | hy
      · exact hx.2 y hy
      · rw [hy]
        exact (show RB (x.getD i z25).f4 from hx.2 _ (getD_mem (by omega) _))
theorem dbatches_l (s : List Int) (hb : BY s) : ∀ (d : Nat) (x : List S25) (o e a q : Int), x.length + d ≤ 5 → (∀ y ∈ x, RB y.f4) → 0 ≤ a → a + 60 * (d : Int) ≤ 600000000000000 →
    ∃ x' a' q', Ev (fun k => spec_l1Cur_batches.l0 k x o e (d : Int) s a q) (x', a', q') ∧ DL x' ∧ a ≤ a' ∧ a' ≤ a + 60 * (d : Int) + 10 := by
  intro d
  induction d with
  | zero =>
    intro x o e a q hl hx h0 h1
    have hD : DL x := ⟨by omega, hx⟩
    by_cases hl2 : (x.length : Int) > 0
    · obtain ⟨b, a1, q1, e1, p1, p2⟩ := one_eq s hb a q 20 h0 (by omega) (by decide)
      obtain ⟨x', a', q', e2, h2, p3, p4⟩ := dbatches_j1 s hb x hD b (fun _ => by omega) a1 q1 (by omega) (by omega)
      refine ⟨x', a', q', Ev.step (fun k => ?_) e2, h2, by omega, by omega⟩
      simp only [spec_l1Cur_batches.l0, e1, Option.bind_some]
      rw [if_neg (by omega), if_pos hl2]
    · obtain ⟨x', a', q', e2, h2, p3, p4⟩ := dbatches_j1 s hb x hD false (fun h => by cases h) a q (by omega) (by omega)
      refine ⟨x', a', q', Ev.step (fun k => ?_) e2, h2, by omega, by omega⟩
      rw [spec_l1Cur_batches.l0, if_neg (by omega), if_neg hl2]
  | succ d ih =>
    intro x o e a q hl hx h0 h1
    obtain ⟨b0, b1, b2, b3, l, a1, q1, e1, hr, p1, p2⟩ := dbatch_ev s hb a q h0 (by omega)
    obtain ⟨g, hg, _⟩ := sGB_ev b0 b1 b2 b3 l (RB_big hr)
    cases g with
    | true =>
      obtain ⟨c, a2, q2, e2, _, _, p3, p4⟩ := pick_eq s hb a1 q1 2 (by omega) (by omega) (by decide)
      obtain ⟨x', a', q', e3, h3, p5, p6⟩ := ih (x ++ [⟨o, wrap64 (e + c), b2, b3, l⟩]) (wrap64 (o + (l.length : Int))) (wrap64 (e + c)) a2 q2 (by rw [List.length_append, List.length_singleton]; omega)
        (fun y hy => by
          rcases List.mem_append.1 hy with hy | hy
          · exact hx y hy
          · rw [List.mem_singleton.1 hy]; exact hr) (by omega) (by omega)
      have fin : a ≤ a' ∧ a' ≤ a + 60 * ((d + 1 : Nat) : Int) + 10 := ⟨by omega, by omega⟩
      refine ⟨x', a', q', Ev.succ ?_, h3, fin⟩
      have hwd : wrap64 (((d + 1 : Nat) : Int) - 1) = (d : Int) := by rw [wrap_id (by omega) (by omega)]; omega
      simp only [spec_l1Cur_batches.l0, hwd]
      refine Ev.ifp (by clear hwd; omega) (Ev.bind e1 (Ev.bind hg (Ev.ifp rfl ?_)))
      simp only [e2, Option.bind_some]
      exact Ev.ifp (by clear hwd; omega) e3
    | false =>
      obtain ⟨x', a', q', e3, h3, p5, p6⟩ := ih x o e a1 q1 (by omega) hx (by omega) (by omega)
      have fin : a ≤ a' ∧ a' ≤ a + 60 * ((d + 1 : Nat) : Int) + 10 := ⟨by omega, by omega⟩
      refine ⟨x', a', q', Ev.succ ?_, h3, fin⟩
      have hwd : wrap64 (((d + 1 : Nat) : Int) - 1) = (d : Int) := by rw [wrap_id (by omega) (by omega)]; omega
      simp only [spec_l1Cur_batches.l0, hwd]
      exact Ev.ifp (by clear hwd; omega) (Ev.bind e1 (Ev.bind hg (Ev.ifn (by decide) e3)))
theorem dbatches_ev (s : List Int) (hb : BY s) (a q : Int) (h0 : 0 ≤ a) (h1 : a ≤ 500000000000000) :
    ∃ x a' q', Ev (fun k => spec_l1Cur_batches.f k s a q) (x, a', q') ∧ DL x ∧ a ≤ a' ∧ a' ≤ a + 400 := by
  obtain ⟨o, a1, q1, e1, _, _, p1, p2⟩ := pick_eq s hb a q 3 h0 (by omega) (by decide)
  obtain ⟨n, a2, q2, e2, n0, n1, p3, p4⟩ := pick_eq s hb a1 q1 6 (by omega) (by omega) (by decide)
  have n2 := n1 (by decide)
  obtain ⟨m, rfl⟩ := Int.eq_ofNat_of_zero_le n0
  obtain ⟨x, a', q', e3, h3, p5, p6⟩ := dbatches_l s hb m [] o 0 a2 q2 (by simp only [List.length_nil]; omega) (fun y h => by cases h) (by omega) (by omega)
  refine ⟨x, a', q', Ev.congr (fun k => ?_) e3, h3, by omega, by omega⟩
  simp only [spec_l1Cur_batches.f, e1, e2, Option.bind_some]
theorem DL_big {l : List S25} (h : DL l) : l.length ≤ 1048576 ∧ ∀ j, j < l.length → (l.getD j z25).f4.length ≤ 1048576 :=
  ⟨Nat.le_trans h.1 (by decide), fun _ hj => RB_big (h.2 _ (getD_mem hj _))⟩
theorem dlog_ev (s : List Int) (hb : BY s) (a q : Int) (h0 : 0 ≤ a) (h1 : a ≤ 400000000000000) :
    ∃ x a' q', Ev (fun k => spec_l1Cur_logText.f k s a q) (x, a', q') ∧ x.size ≤ 1000 ∧ a ≤ a' ∧ a' ≤ a + 600 := by
  obtain ⟨l, a1, q1, e1, hD, p1, p2⟩ := dbatches_ev s hb a q h0 (by omega)
  obtain ⟨n, b, e2, hn, _⟩ := sLB_ev l (DL_big hD).1 (DL_big hD).2
  obtain ⟨o, a2, q2, e3, p3, p4⟩ := one_eq s hb a1 q1 4 (by omega) (by omega) (by decide)
  unfold spec_l1Cur_logText.f
  cases o with
  | true =>
    obtain ⟨x, a', q', e4, h4, p5, p6⟩ := dspoilt_ev s hb n (⟨#[0, 1, 14, 255]⟩ : ByteArray) (by decide) (by decide) (by omega) a2 q2 (by omega) (by omega)
    refine ⟨x, a', q', Ev.bind e1 (Ev.bind e2 ?_), h4, by omega, by omega⟩
    simp only [e3, Option.bind_some]
    exact Ev.ifp trivial (Ev.bind e4 (Ev.now _))
  | false =>
    refine ⟨n, a2, q2, Ev.bind e1 (Ev.bind e2 ?_), by omega, by omega, by omega⟩
    simp only [e3, Option.bind_some]
    exact Ev.ifn (by decide) (Ev.now _)

def byN (s : ByteArray) (i : Nat) : Nat := (bt s (i : Int)).toNat
theorem bt_byN (s : ByteArray) (i : Nat) : bt s (i : Int) = (byN s i : Int) := by
  obtain ⟨b, hb, _⟩ := bt_bd s (i : Int)
  unfold byN
  rw [hb]
  rfl
theorem byN_le (s : ByteArray) (i : Nat) : byN s i ≤ 255 := by
  obtain ⟨b, hb, h⟩ := bt_bd s (i : Int)
  unfold byN
  rw [hb]
  exact h
theorem byN_get (s : ByteArray) (i : Nat) (h : i < s.size) : byN s i = (s[i]'h).toNat := by
  unfold byN bt
  rw [dif_pos (show ((i : Int)).toNat < s.size from h)]
  rfl
theorem byN_ext (s : ByteArray) (a b i : Nat) (h : a + i < b) (hb : b ≤ s.size) : byN (s.extract a b) i = byN s (a + i) := by
  have h1 : i < (s.extract a b).size := by
    rw [ByteArray.size_extract]
    omega
  rw [byN_get _ _ h1, byN_get _ _ (show a + i < s.size by omega), ByteArray.getElem_extract]
theorem byN_app (x y : ByteArray) (i : Nat) (h : i < x.size) : byN (x ++ y) i = byN x i := by
  have h1 : i < (x ++ y).size := by
    rw [ByteArray.size_append]
    omega
  rw [byN_get _ _ h1, byN_get _ _ h, ByteArray.getElem_append_left h]
def valF (s : ByteArray) : Nat → Nat → Nat → Nat
  | 0, _, v => v
  | d + 1, i, v => valF s d (i + 1) (v * 256 + byN s i)
def val (s : ByteArray) : Nat := valF s s.size 0 0
theorem or256 (s : ByteArray) (v i : Nat) (hv : v < 4294967296) : Go.bits .or .i64 (wrap64 ((v : Int) * 256)) (wrap64 (bt s (i : Int))) = ((v * 256 + byN s i : Nat) : Int) := by
  have hb := byN_le s i
  have w1 : wrap64 ((v : Int) * 256) = ((v * 256 : Nat) : Int) := by
    rw [wrap_id (by omega) (by omega)]
    omega
  have w2 : wrap64 (bt s (i : Int)) = ((byN s i : Nat) : Int) := by
    rw [bt_byN]
    exact wrap_id (by omega) (by omega)
  rw [w1, w2, (bits_nat .i64 62 (by decide) wr64 (v * 256) (byN s i) (by omega) (by omega)).2]
  have := Nat.two_pow_add_eq_or_of_lt (i := 8) (b := byN s i) (by omega) v
  have e : 2 ^ 8 * v = v * 256 := by omega
  rw [e] at this
  rw [this]
theorem step_lt (s : ByteArray) (v i : Nat) (h : v < 256 ^ i) : v * 256 + byN s i < 256 ^ (i + 1) := by
  have := byN_le s i
  rw [Nat.pow_succ]
  omega
theorem pow_le4 {i : Nat} (h : i ≤ 4) : 256 ^ i ≤ 4294967296 := Nat.le_trans (Nat.pow_le_pow_right (by decide) h) (by decide)
theorem sVal_l (s : ByteArray) (hs : s.size ≤ 4) : ∀ d i v : Nat, i + d = s.size → v < 256 ^ i → Ev (fun k => spec_l1Value.l0 k s (v : Int) (i : Int)) (valF s d i v : Int)
  | 0, i, v, hd, hv => Ev.step (f := fun _ => some (v : Int)) (fun k => by rw [spec_l1Value.l0, if_neg (by omega)]) (Ev.now _)
  | d + 1, i, v, hd, hv => by
    refine Ev.step (fun k => ?_) (sVal_l s hs d (i + 1) (v * 256 + byN s i) (by omega) (step_lt s v i hv))
    show spec_l1Value.l0 (k + 1) s (v : Int) (i : Int) = spec_l1Value.l0 k s ((v * 256 + byN s i : Nat) : Int) ((i + 1 : Nat) : Int)
    rw [spec_l1Value.l0, if_pos (by omega), if_pos (by omega), or256 s v i (Nat.lt_of_lt_of_le hv (pow_le4 (by omega))), succ_wrap (by omega)]
theorem iVal_l (s : ByteArray) (hs : s.size ≤ 4) : ∀ d i v : Nat, i + d = s.size → v < 256 ^ i → Ev (fun k => impl_get.l0 k s (v : Int) (s.size : Int) (i : Int)) (valF s d i v : Int)
  | 0, i, v, hd, hv => Ev.step (f := fun _ => some (v : Int)) (fun k => by rw [impl_get.l0, if_neg (by omega)]) (Ev.now _)
  | d + 1, i, v, hd, hv => by
    refine Ev.step (fun k => ?_) (iVal_l s hs d (i + 1) (v * 256 + byN s i) (by omega) (step_lt s v i hv))
    show impl_get.l0 (k + 1) s (v : Int) (s.size : Int) (i : Int) = impl_get.l0 k s ((v * 256 + byN s i : Nat) : Int) (s.size : Int) ((i + 1 : Nat) : Int)
    rw [impl_get.l0, if_pos (by omega), if_pos (by omega), if_pos (by omega), or256 s v i (Nat.lt_of_lt_of_le hv (pow_le4 (by omega))), succ_wrap (by omega)]
theorem sVal_ev (s : ByteArray) (hs : s.size ≤ 4) : Ev (fun k => spec_l1Value.f k s) (val s : Int) := sVal_l s hs s.size 0 0 (by omega) (by decide)
theorem iVal_ev (s : ByteArray) (hs : s.size ≤ 4) : Ev (fun k => impl_get.f k s) (val s : Int) := iVal_l s hs s.size 0 0 (by omega) (by decide)
theorem val1 (s : ByteArray) (a : Nat) (h : a + 1 ≤ s.size) : val (s.extract a (a + 1)) = byN s a := by
  unfold val
  have e : (s.extract a (a + 1)).size = 1 := by
    rw [ByteArray.size_extract]
    omega
  rw [e, valF, valF, byN_ext s a (a + 1) 0 (by omega) h, Nat.add_zero]
  omega
theorem val2 (s : ByteArray) (a : Nat) (h : a + 2 ≤ s.size) : val (s.extract a (a + 2)) = byN s a * 256 + byN s (a + 1) := by
  unfold val
  have e : (s.extract a (a + 2)).size = 2 := by
    rw [ByteArray.size_extract]
    omega
  rw [e, valF, valF, valF, byN_ext s a (a + 2) 0 (by omega) h, byN_ext s a (a + 2) (0 + 1) (by omega) h, Nat.add_zero]
  simp
theorem byt2 (v : Nat) (h : v < 65536) : byN (byt (v : Int) 2) 0 * 256 + byN (byt (v : Int) 2) 1 = v := by
  have e : byt (v : Int) 2 = strOfNums [((v / 256 % 256 : Nat) : Int), ((v % 256 : Nat) : Int)] := by
    have e1 : ((v / 256 % 256 : Nat) : Int) = (v : Int) / 256 % 256 := by omega
    have e2 : ((v % 256 : Nat) : Int) = (v : Int) % 256 := by omega
    rw [e1, e2]
    rfl
  have h0 : byN (strOfNums [((v / 256 % 256 : Nat) : Int), ((v % 256 : Nat) : Int)]) 0 = v / 256 % 256 % 256 := by
    rw [byN_get _ 0 (by rw [strOfNums_size]; simp)]
    show (UInt8.ofNat (v / 256 % 256)).toNat = _
    rw [UInt8.toNat_ofNat']
  have h1 : byN (strOfNums [((v / 256 % 256 : Nat) : Int), ((v % 256 : Nat) : Int)]) 1 = v % 256 % 256 := by
    rw [byN_get _ 1 (by rw [strOfNums_size]; simp)]
    show (UInt8.ofNat (v % 256)).toNat = _
    rw [UInt8.toNat_ofNat']
  rw [e, h0, h1]
  omega
theorem tl_inj {x y : ByteArray} : x.toList = y.toList ↔ x = y := by
  refine ⟨fun h => ?_, fun h => by rw [h]⟩
  rw [ByteArray.toList_eq, ByteArray.toList_eq] at h
  exact ByteArray.ext (Array.toList_inj.1 h)
def prs (s : ByteArray) (y : Nat) : Nat → Nat → List ByteArray → Option (List ByteArray × Nat)
  | 0, q, l => some (l, q)
  | c + 1, q, l => if q < y ∧ q + 1 + byN s q ≤ y then prs s y c (q + 1 + byN s q) (l ++ [s.extract (q + 1) (q + 1 + byN s q)]) else none
theorem rcl_app (l : List ByteArray) (x : ByteArray) : rcl (l ++ [x]) = rcl l + 1 + x.size := by
  induction l with
  | nil =>
    rw [List.nil_append, rcl, rcl, rcl]
    omega
  | cons z zs ih =>
    rw [List.cons_append, rcl, rcl, ih]
    omega
theorem prs_inv (s : ByteArray) (y : Nat) (hy : y ≤ s.size) : ∀ (c q : Nat) (l r : List ByteArray) (e : Nat), prs s y c q l = some (r, e) → q ≤ e ∧ (0 < c → e ≤ y) ∧ rcl r + q = rcl l + e ∧ r.length = l.length + c
  | 0, q, l, r, e, h => by
    rw [prs] at h
    obtain ⟨rfl, rfl⟩ := Prod.mk.inj (Option.some.inj h)
    exact ⟨Nat.le_refl _, fun h => absurd h (by omega), rfl, rfl⟩
  | c + 1, q, l, r, e, h => by
    rw [prs] at h
    by_cases hc : q < y ∧ q + 1 + byN s q ≤ y
    · rw [if_pos hc] at h
      obtain ⟨h1, h2, h3, h4⟩ := prs_inv s y hy c _ _ r e h
      have hz : (s.extract (q + 1) (q + 1 + byN s q)).size = byN s q := by
        rw [ByteArray.size_extract]
        omega
      rw [rcl_app, hz] at h3
      rw [List.length_append] at h4
      simp only [List.length_cons, List.length_nil] at h4
      refine ⟨by omega, fun _ => ?_, by omega, by omega⟩
      by_cases hc0 : 0 < c
      · exact h2 hc0
      · have : c = 0 := by omega
        subst this
        rw [prs] at h
        obtain ⟨_, rfl⟩ := Prod.mk.inj (Option.some.inj h)
        exact hc.2
    · rw [if_neg hc] at h
      cases h
theorem prs_mono (s : ByteArray) (y y' : Nat) : ∀ (c q : Nat) (l r : List ByteArray) (e : Nat), prs s y c q l = some (r, e) → e ≤ y' → y ≤ s.size → prs s y' c q l = some (r, e)
  | 0, q, l, r, e, h, _, _ => h
  | c + 1, q, l, r, e, h, he, hy => by
    rw [prs] at h
    by_cases hc : q < y ∧ q + 1 + byN s q ≤ y
    · rw [if_pos hc] at h
      have hq := (prs_inv s y hy c _ _ r e h).1
      rw [prs, if_pos ⟨by omega, by omega⟩]
      exact prs_mono s y y' c _ _ r e h he hy
    · rw [if_neg hc] at h
      cases h
abbrev TR := Int × Int × Int × Int × List ByteArray × Int
def zS : TR := (0, 0, 0, 0, [], 0)
def zI : Int × Int × Int × Int × List ByteArray × Int × Bool := (0, 0, 0, 0, [], 0, false)
theorem wr_add (a j : Nat) (h : a ≤ 100000) (hj : j ≤ 100000) : wrap64 ((a : Int) + (j : Int)) = ((a + j : Nat) : Int) := by
  rw [wrap_id (by omega) (by omega)]
  omega
theorem wr_sub1 (y q : Nat) (hy : y ≤ 100000) (hq : q ≤ 100000) : wrap64 (wrap64 ((y : Int) - (q : Int)) - 1) = (y : Int) - (q : Int) - 1 := by
  rw [wrap_id (x := (y : Int) - (q : Int)) (by omega) (by omega), wrap_id (by omega) (by omega)]
theorem wr_add1 (q b : Nat) (hq : q ≤ 100000) (hb : b ≤ 100000) : wrap64 ((q : Int) + wrap64 (1 + (b : Int))) = ((q + 1 + b : Nat) : Int) := by
  rw [wrap_id (x := 1 + (b : Int)) (by omega) (by omega), wrap_id (by omega) (by omega)]
  omega
theorem wr_add2 (a q : Nat) (ha : a ≤ 100000) (hq : q ≤ 100000) : wrap64 (wrap64 ((a : Int) + (q : Int)) + 2) = ((a + q + 2 : Nat) : Int) := by
  rw [wrap_id (x := (a : Int) + (q : Int)) (by omega) (by omega), wrap_id (by omega) (by omega)]
  omega
theorem wr_less (c : Nat) (h : c ≤ 100000) : wrap64 (((c + 1 : Nat) : Int) - 1) = (c : Int) := by
  rw [wrap_id (by omega) (by omega)]
  omega
theorem wr_bt (x : ByteArray) (q : Nat) : wrap64 (bt x (q : Int)) = ((byN x q : Nat) : Int) := by
  have hbl := byN_le x q
  rw [bt_byN]
  exact wrap_id (by omega) (by omega)
open Classical in
noncomputable def finS (x : ByteArray) (a y : Nat) (o e p s : Int) (l : List ByteArray) : TR :=
  if GB o e p s l ∧ bb o e p s l = x.extract a y then (o, e, p, s, l, (y : Int)) else zS
open Classical in
noncomputable def finI (x : ByteArray) (a : Nat) (o e p s : Int) (l : List ByteArray) (q : Nat) : Int × Int × Int × Int × List ByteArray × Int × Bool :=
  if GB o e p s l ∧ a + (bb o e p s l).size ≤ x.size ∧ x.extract a (a + (bb o e p s l).size) = bb o e p s l then (o, e, p, s, l, ((q + 2 : Nat) : Int), true) else zI
theorem finS_pos (x : ByteArray) (a y : Nat) (o e p s : Int) (l : List ByteArray) (h1 : GB o e p s l) (h2 : bb o e p s l = x.extract a y) : finS x a y o e p s l = (o, e, p, s, l, (y : Int)) := by
  unfold finS
  exact if_pos ⟨h1, h2⟩
theorem finS_neg (x : ByteArray) (a y : Nat) (o e p s : Int) (l : List ByteArray) (h : ¬ (GB o e p s l ∧ bb o e p s l = x.extract a y)) : finS x a y o e p s l = zS := by
  unfold finS
  exact if_neg h
theorem finI_pos (x : ByteArray) (a : Nat) (o e p s : Int) (l : List ByteArray) (q : Nat) (h : GB o e p s l ∧ a + (bb o e p s l).size ≤ x.size ∧ x.extract a (a + (bb o e p s l).size) = bb o e p s l) : finI x a o e p s l q = (o, e, p, s, l, ((q + 2 : Nat) : Int), true) := by
  unfold finI
  exact if_pos h
theorem finI_neg (x : ByteArray) (a : Nat) (o e p s : Int) (l : List ByteArray) (q : Nat) (h : ¬ (GB o e p s l ∧ a + (bb o e p s l).size ≤ x.size ∧ x.extract a (a + (bb o e p s l).size) = bb o e p s l)) : finI x a o e p s l q = zI := by
  unfold finI
  exact if_neg h
set_option maxHeartbeats 4000000 in
theorem sTake_l (x : ByteArray) (hx : x.size ≤ 1000) (a y : Nat) (hay : a ≤ y) (hy : y ≤ x.size) (o e p s : Int) : ∀ (c q : Nat) (l : List ByteArray), l.length + c ≤ 1000 → q ≤ 3000 →
    Ev (fun k => spec_l1Take.l0 k x (a : Int) (y : Int) (q : Int) (c : Int) o e p s l) ((prs x y c q l).elim zS fun r => finS x a y o e p s r.1)
  | 0, q, l, hl, hq => by
    rw [prs]
    show Ev _ (finS x a y o e p s l)
    obtain ⟨b, hb, hg⟩ := sGB_ev o e p s l (by omega)
    refine Ev.step (f := fun k => (spec_GoodBatch.f k o e p s l).bind fun t138 => (if t138 = true then ((spec_l1Batch.f k o e p s l).bind fun t139 => (if t139.toList = (x.extract a y).toList then (some (o, e, p, s, l, (y : Int))) else (some (0, 0, 0, 0, ([] : List ByteArray), 0)))) else (some (0, 0, 0, 0, ([] : List ByteArray), 0)))) (fun k => ?_) (Ev.bind hb ?_)
    · rw [spec_l1Take.l0, if_neg (by omega)]
      refine congrArg _ (funext fun t => ?_)
      refine ite_congr rfl (fun _ => ?_) (fun _ => rfl)
      refine congrArg _ (funext fun t => ?_)
      rw [if_pos (by omega), if_pos (by omega), if_pos (by omega), tn_nat, tn_nat]
    · cases b with
      | false =>
        rw [finS_neg x a y o e p s l (fun h => absurd (hg.2 h.1) (by decide))]
        exact Ev.ifn (by decide) (Ev.now _)
      | true =>
        refine Ev.ifp rfl (Ev.bind (batch_ev o e p s l (hg.1 rfl)).1 ?_)
        by_cases h : bb o e p s l = x.extract a y
        · rw [finS_pos x a y o e p s l (hg.1 rfl) h]
          exact Ev.ifp (by rw [h]) (Ev.now _)
        · rw [finS_neg x a y o e p s l (fun h' => h h'.2)]
          exact Ev.ifn (fun h' => h (tl_inj.1 h')) (Ev.now _)
  | c + 1, q, l, hl, hq => by
    have hbl := byN_le x q
    rw [prs]
    by_cases h1 : q < y
    · by_cases h2 : q + 1 + byN x q ≤ y
      · rw [if_pos ⟨h1, h2⟩]
        refine Ev.step (fun k => ?_) (sTake_l x hx a y hay hy o e p s c (q + 1 + byN x q) (l ++ [x.extract (q + 1) (q + 1 + byN x q)]) (by rw [List.length_append]; simp only [List.length_cons, List.length_nil]; omega) (by omega))
        rw [spec_l1Take.l0, wr_bt x q, wr_sub1 y q (by omega) (by omega), succ_wrap (show q ≤ 9000000000000000000 by omega), wr_add (q + 1) (byN x q) (by omega) (by omega), wr_add1 q (byN x q) (by omega) (by omega), wr_less c (by omega), if_pos (by omega), if_neg (by omega), if_pos (by omega), if_pos (by omega), if_neg (by omega), if_pos (by omega), if_pos (by omega), if_pos (by omega), if_pos (by omega), tn_nat, tn_nat]
      · rw [if_neg (fun h => h2 h.2)]
        refine Ev.step (f := fun _ => some zS) (fun k => ?_) (Ev.now _)
        rw [spec_l1Take.l0, wr_bt x q, wr_sub1 y q (by omega) (by omega), if_pos (by omega), if_neg (by omega), if_pos (by omega), if_pos (by omega), if_pos (by omega)]
        rfl
    · rw [if_neg (fun h => h1 h.1)]
      refine Ev.step (f := fun _ => some zS) (fun k => ?_) (Ev.now _)
      rw [spec_l1Take.l0, if_pos (by omega), if_pos (by omega)]
      rfl
theorem ext2 (x : ByteArray) (a i j : Nat) (h : a + j ≤ x.size) : (x.extract a x.size).extract i j = x.extract (a + i) (a + j) := by
  rw [ByteArray.extract_extract, Nat.min_eq_left h]
theorem HP_eq (x t : ByteArray) (hx : x.size ≤ 1000) (ht : t.size ≤ 100000) : strings_HasPrefix.f x t = some (decide (t.size ≤ x.size ∧ x.extract 0 t.size = t)) := by
  unfold strings_HasPrefix.f stringslite_HasPrefix.f
  by_cases h : t.size ≤ x.size
  · rw [if_pos (by omega), if_pos (by omega), if_pos (by omega), tn_nat, Option.bind_some]
    refine congrArg some ?_
    refine Bool.eq_iff_iff.2 ?_
    rw [beq_iff_eq, decide_eq_true_iff, tl_inj]
    exact ⟨fun h' => ⟨h, h'⟩, fun h' => h'.2⟩
  · rw [if_neg (by omega), Option.bind_some, decide_eq_false (fun h' => h h'.1)]
set_option maxHeartbeats 4000000 in
theorem iTake_l (x : ByteArray) (hx : x.size ≤ 1000) (a : Nat) (ha : a ≤ x.size) (cnt : Nat) (hcnt : cnt ≤ 255) (o e p s : Int) : ∀ (d i q : Nat) (l : List ByteArray), i + d = cnt → l.length + d ≤ 1000 → q ≤ 1000 →
    Ev (fun k => impl_takeBatch.l0 k (a : Int) (x.extract a x.size) (q : Int) (cnt : Int) (i : Int) o e p s l) ((prs x x.size d (a + q) l).elim zI fun r => finI x a o e p s r.1 r.2)
  | 0, i, q, l, hd, hl, hq => by
    rw [prs]
    show Ev _ (finI x a o e p s l (a + q))
    obtain ⟨b, hb, hg⟩ := iGB_ev o e p s l
    have hsz : (x.extract a x.size).size = x.size - a := by rw [ByteArray.size_extract, Nat.min_self]
    refine Ev.step (f := fun k => (impl_isBatch.f o e p s l).bind fun t184 => (if t184 = true then ((impl_batchBytes.f k o e p s l).bind fun t185 => ((strings_HasPrefix.f (x.extract a x.size) t185).bind fun t186 => (if t186 = true then (some (o, e, p, s, l, ((a + q + 2 : Nat) : Int), true)) else (some (0, 0, 0, 0, ([] : List ByteArray), 0, false))))) else (some (0, 0, 0, 0, ([] : List ByteArray), 0, false)))) (fun k => ?_) (Ev.bind hb ?_)
    · rw [impl_takeBatch.l0, if_neg (by omega), wr_add2 a q (by omega) (by omega)]
    · cases b with
      | false =>
        rw [finI_neg x a o e p s l (a + q) (fun h => absurd (hg.2 h.1) (by decide))]
        exact Ev.ifn (by decide) (Ev.now _)
      | true =>
        have hgb := hg.1 rfl
        have hbs : (bb o e p s l).size ≤ 1000 := by
          have := rcl_le l hgb.1
          have := hgb.2.2.2.2.2
          rw [bb_size]
          omega
        refine Ev.ifp rfl (Ev.bind (batch_ev o e p s l hgb).2 ?_)
        rw [HP_eq _ _ (by omega) (by omega)]
        by_cases h : a + (bb o e p s l).size ≤ x.size ∧ x.extract a (a + (bb o e p s l).size) = bb o e p s l
        · rw [finI_pos x a o e p s l (a + q) ⟨hgb, h⟩, decide_eq_true (by
            refine ⟨by omega, ?_⟩
            rw [ext2 x a 0 _ h.1]
            exact h.2)]
          exact Ev.bind (Ev.now _) (Ev.ifp rfl (Ev.now _))
        · rw [finI_neg x a o e p s l (a + q) (fun h' => h h'.2), decide_eq_false (fun h' => h (by
            have h1 : a + (bb o e p s l).size ≤ x.size := by omega
            refine ⟨h1, ?_⟩
            have h2 := h'.2
            rw [ext2 x a 0 _ h1] at h2
            exact h2))]
          exact Ev.bind (Ev.now _) (Ev.ifn (by decide) (Ev.now _))
  | d + 1, i, q, l, hd, hl, hq => by
    have hsz : (x.extract a x.size).size = x.size - a := by rw [ByteArray.size_extract, Nat.min_self]
    have hbl := byN_le x (a + q)
    rw [prs]
    by_cases h1 : a + q < x.size
    · have hv : val ((x.extract a x.size).extract q (q + 1)) = byN x (a + q) := by
        rw [ext2 x a q (q + 1) (by omega)]
        exact val1 x (a + q) (by omega)
      have hz1 : ((x.extract a x.size).extract q (q + 1)).size ≤ 4 := by
        rw [ByteArray.size_extract]
        omega
      have hget := iVal_ev _ hz1
      rw [hv] at hget
      by_cases h2 : a + q + 1 + byN x (a + q) ≤ x.size
      · rw [if_pos ⟨h1, h2⟩]
        have ih := iTake_l x hx a ha cnt hcnt o e p s d (i + 1) (q + 1 + byN x (a + q)) (l ++ [x.extract (a + q + 1) (a + q + 1 + byN x (a + q))]) (by omega) (by rw [List.length_append]; simp only [List.length_cons, List.length_nil]; omega) (by omega)
        have ea : a + (q + 1 + byN x (a + q)) = a + q + 1 + byN x (a + q) := by omega
        rw [ea] at ih
        refine Ev.step (f := fun k => (impl_get.f k ((x.extract a x.size).extract q (q + 1))).bind fun t179 => (if (wrap64 (((q + 1 : Nat) : Int) + t179)) > ((x.extract a x.size).size : Int) then (some (0, 0, 0, 0, ([] : List ByteArray), 0, false)) else ((impl_get.f k ((x.extract a x.size).extract q (q + 1))).bind fun t180 => (if (0 : Int) ≤ ((q + 1 : Nat) : Int) then (if ((q + 1 : Nat) : Int) ≤ (wrap64 (((q + 1 : Nat) : Int) + t180)) then (if (wrap64 (((q + 1 : Nat) : Int) + t180)) ≤ ((x.extract a x.size).size : Int) then (if l.length < 8796093022208 then (impl_takeBatch.l0 k (a : Int) (x.extract a x.size) (wrap64 (((q + 1 : Nat) : Int) + t180)) (cnt : Int) ((i + 1 : Nat) : Int) o e p s (l ++ [(x.extract a x.size).extract ((q + 1 : Nat) : Int).toNat ((wrap64 (((q + 1 : Nat) : Int) + t180)) : Int).toNat])) else (none)) else (none)) else (none)) else (none))))) (fun k => ?_) (Ev.bind hget ?_)
        · rw [impl_takeBatch.l0, succ_wrap (i := q) (by omega), if_pos (by omega), if_neg (by omega), if_pos (by omega), if_pos (by omega), if_pos (by omega), succ_wrap (i := i) (by omega)]
          rfl
        · refine Ev.ifn (by rw [wr_add (q + 1) (byN x (a + q)) (by omega) (by omega)]; omega) (Ev.bind hget (Ev.ifp (by omega) (Ev.ifp (by rw [wr_add (q + 1) (byN x (a + q)) (by omega) (by omega)]; omega) (Ev.ifp (by rw [wr_add (q + 1) (byN x (a + q)) (by omega) (by omega)]; omega) (Ev.ifp (by omega) ?_)))))
          rw [wr_add (q + 1) (byN x (a + q)) (by omega) (by omega), tn_nat, tn_nat, ext2 x a (q + 1) (q + 1 + byN x (a + q)) (by omega), ea, ← Nat.add_assoc]
          exact ih
      · rw [if_neg (fun h => h2 h.2)]
        refine Ev.step (f := fun k => (impl_get.f k ((x.extract a x.size).extract q (q + 1))).bind fun t179 => (if (wrap64 (((q + 1 : Nat) : Int) + t179)) > ((x.extract a x.size).size : Int) then (some (0, 0, 0, 0, ([] : List ByteArray), 0, false)) else ((impl_get.f k ((x.extract a x.size).extract q (q + 1))).bind fun t180 => (if (0 : Int) ≤ ((q + 1 : Nat) : Int) then (if ((q + 1 : Nat) : Int) ≤ (wrap64 (((q + 1 : Nat) : Int) + t180)) then (if (wrap64 (((q + 1 : Nat) : Int) + t180)) ≤ ((x.extract a x.size).size : Int) then (if l.length < 8796093022208 then (impl_takeBatch.l0 k (a : Int) (x.extract a x.size) (wrap64 (((q + 1 : Nat) : Int) + t180)) (cnt : Int) ((i + 1 : Nat) : Int) o e p s (l ++ [(x.extract a x.size).extract ((q + 1 : Nat) : Int).toNat ((wrap64 (((q + 1 : Nat) : Int) + t180)) : Int).toNat])) else (none)) else (none)) else (none)) else (none))))) (fun k => ?_) (Ev.bind hget ?_)
        · rw [impl_takeBatch.l0, succ_wrap (i := q) (by omega), if_pos (by omega), if_neg (by omega), if_pos (by omega), if_pos (by omega), if_pos (by omega), succ_wrap (i := i) (by omega)]
          rfl
        · exact Ev.ifp (by rw [wr_add (q + 1) (byN x (a + q)) (by omega) (by omega)]; omega) (Ev.now _)
    · rw [if_neg (fun h => h1 h.1)]
      refine Ev.step (f := fun _ => some zI) (fun k => ?_) (Ev.now _)
      rw [impl_takeBatch.l0, if_pos (by omega), if_pos (by omega)]
      rfl
theorem bb_val (o e p s : Int) (l : List ByteArray) (h : 12 + rcl l < 65536) : byN (bb o e p s l) 0 * 256 + byN (bb o e p s l) 1 = 12 + rcl l := by
  have hz : (rcs l (hdr o e p s l.length)).size = 10 + rcl l := by rw [rcs_size, hdr_size]
  have e1 : ∀ i, i < 2 → byN (bb o e p s l) i = byN (byt (((rcs l (hdr o e p s l.length)).size + 2 : Nat) : Int) 2) i := fun i hi => by
    unfold bb fin
    rw [byN_app _ _ i (by rw [ByteArray.size_append, byt_size]; omega), byN_app _ _ i (by rw [byt_size]; omega)]
  rw [e1 0 (by omega), e1 1 (by omega), byt2 _ (by omega)]
  omega
open Classical in
noncomputable def SV (x : ByteArray) (a c : Nat) (o e p s : Int) : TR :=
  if a + 2 + val (x.extract a (a + 2)) ≤ x.size then (prs x (a + 2 + val (x.extract a (a + 2))) c (a + 12) []).elim zS fun r => finS x a (a + 2 + val (x.extract a (a + 2))) o e p s r.1 else zS
noncomputable def IV (x : ByteArray) (a c : Nat) (o e p s : Int) : Int × Int × Int × Int × List ByteArray × Int × Bool := (prs x x.size c (a + 12) []).elim zI fun r => finI x a o e p s r.1 r.2
def okI (x : ByteArray) (a c : Nat) (o e p s : Int) (l : List ByteArray) (E : Nat) : Prop :=
  prs x x.size c (a + 12) [] = some (l, E) ∧ GB o e p s l ∧ a + (bb o e p s l).size ≤ x.size ∧ x.extract a (a + (bb o e p s l).size) = bb o e p s l
theorem IV_no (x : ByteArray) (a c : Nat) (o e p s : Int) (h : ∀ l E, ¬ okI x a c o e p s l E) : IV x a c o e p s = zI := by
  unfold IV
  cases hp : prs x x.size c (a + 12) [] with
  | none => rfl
  | some r =>
    exact finI_neg x a o e p s r.1 r.2 (fun h' => h r.1 r.2 ⟨hp, h'⟩)
set_option maxHeartbeats 4000000 in
theorem sTake_ev (x : ByteArray) (hx : x.size ≤ 600) (a : Nat) (ha : a + 14 ≤ x.size) :
    Ev (fun k => spec_l1Take.f k x (a : Int)) (SV x a (byN x (a + 11)) (val (x.extract (a + 2) (a + 5)) : Int) (val (x.extract (a + 5) (a + 7)) : Int) (val (x.extract (a + 7) (a + 9)) : Int) (val (x.extract (a + 9) (a + 11)) : Int)) := by
  have hsz : ∀ i j : Nat, j ≤ i + 4 → (x.extract i j).size ≤ 4 := fun i j h => by
    rw [ByteArray.size_extract]
    omega
  have a9 : a ≤ 1000 := by omega
  have hv : val (x.extract a (a + 2)) ≤ 65535 := by
    have h1 := byN_le x a
    have h2 := byN_le x (a + 1)
    rw [val2 x a (by omega)]
    omega
  have wn : wrap64 ((x.size : Int) - (a : Int)) = (x.size : Int) - (a : Int) := wrap_id (by omega) (by omega)
  have w : ∀ j : Nat, j ≤ 12 → wrap64 ((a : Int) + (j : Int)) = ((a + j : Nat) : Int) := fun j hj => wr_add a j (by omega) (by omega)
  have w2 : wrap64 ((a : Int) + 2) = ((a + 2 : Nat) : Int) := w 2 (by decide)
  have w5 : wrap64 ((a : Int) + 5) = ((a + 5 : Nat) : Int) := w 5 (by decide)
  have w7 : wrap64 ((a : Int) + 7) = ((a + 7 : Nat) : Int) := w 7 (by decide)
  have w9 : wrap64 ((a : Int) + 9) = ((a + 9 : Nat) : Int) := w 9 (by decide)
  have w11 : wrap64 ((a : Int) + 11) = ((a + 11 : Nat) : Int) := w 11 (by decide)
  have w12 : wrap64 ((a : Int) + 12) = ((a + 12 : Nat) : Int) := w 12 (by decide)
  have hbt : wrap64 (bt x ((a + 11 : Nat) : Int)) = ((byN x (a + 11) : Nat) : Int) := wr_bt x (a + 11)
  unfold spec_l1Take.f
  simp only [w2, w5, w7, w9, w11, w12, wn, hbt, tn_nat]
  clear w w2 w5 w7 w9 w11 w12 wn hbt
  refine Ev.ifn (by omega) (Ev.ifp (by omega) (Ev.ifp (by omega) (Ev.ifp (by omega) (Ev.bind (sVal_ev _ (hsz _ _ (by omega))) ?_))))
  rw [wr_add (a + 2) (val (x.extract a (a + 2))) (by omega) (by omega)]
  unfold SV
  by_cases hy : a + 2 + val (x.extract a (a + 2)) ≤ x.size
  · rw [if_pos hy]
    refine Ev.ifn (by omega) (Ev.ifp (by omega) (Ev.ifp (by omega) (Ev.ifp (by omega) (Ev.bind (sVal_ev _ (hsz _ _ (by omega))) (Ev.ifp (by omega) (Ev.ifp (by omega) (Ev.ifp (by omega) (Ev.bind (sVal_ev _ (hsz _ _ (by omega))) (Ev.ifp (by omega) (Ev.ifp (by omega) (Ev.ifp (by omega) (Ev.bind (sVal_ev _ (hsz _ _ (by omega))) (Ev.ifp (by omega) (Ev.ifp (by omega) (Ev.ifp (by omega) (Ev.bind (sVal_ev _ (hsz _ _ (by omega))) (Ev.ifp (by omega) (Ev.ifp (by omega) ?_))))))))))))))))))
    have := byN_le x (a + 11)
    exact sTake_l x (by omega) a _ (by omega) hy _ _ _ _ (byN x (a + 11)) (a + 12) [] (by simp only [List.length_nil]; omega) (by omega)
  · rw [if_neg hy]
    exact Ev.ifp (by omega) (Ev.now _)
set_option maxHeartbeats 4000000 in
theorem iTake_ev (x : ByteArray) (hx : x.size ≤ 600) (a : Nat) (ha : a + 12 ≤ x.size) :
    Ev (fun k => impl_takeBatch.f k x (a : Int)) (IV x a (byN x (a + 11)) (val (x.extract (a + 2) (a + 5)) : Int) (val (x.extract (a + 5) (a + 7)) : Int) (val (x.extract (a + 7) (a + 9)) : Int) (val (x.extract (a + 9) (a + 11)) : Int)) := by
  have hs : (x.extract a x.size).size = x.size - a := by rw [ByteArray.size_extract, Nat.min_self]
  have hsz : ∀ i j : Nat, j ≤ i + 4 → (x.extract i j).size ≤ 4 := fun i j h => by
    rw [ByteArray.size_extract]
    omega
  have hcv : val (x.extract (a + 11) (a + 12)) = byN x (a + 11) := val1 x (a + 11) (by omega)
  unfold impl_takeBatch.f
  simp only [tn_nat, ext2 x a 2 5 (by omega), ext2 x a 5 7 (by omega), ext2 x a 7 9 (by omega), ext2 x a 9 11 (by omega), ext2 x a 11 12 (by omega), hs]
  refine Ev.ifp (by omega) (Ev.ifp (by omega) (Ev.ifn (by omega) ?_))
  refine Ev.ifp (by omega) (Ev.ifp (by omega) (Ev.bind (iVal_ev _ (hsz _ _ (by omega))) ?_))
  refine Ev.ifp (by omega) (Ev.ifp (by omega) (Ev.bind (iVal_ev _ (hsz _ _ (by omega))) ?_))
  refine Ev.ifp (by omega) (Ev.ifp (by omega) (Ev.bind (iVal_ev _ (hsz _ _ (by omega))) ?_))
  refine Ev.ifp (by omega) (Ev.ifp (by omega) (Ev.bind (iVal_ev _ (hsz _ _ (by omega))) ?_))
  refine Ev.ifp (by omega) (Ev.ifp (by omega) (Ev.bind (iVal_ev _ (hsz _ _ (by omega))) ?_))
  rw [hcv]
  have := byN_le x (a + 11)
  exact iTake_l x (by omega) a (by omega) (byN x (a + 11)) this _ _ _ _ (byN x (a + 11)) 0 12 [] (by omega) (by simp only [List.length_nil]; omega) (by omega)

theorem cmp_take2 (x : ByteArray) (hx : x.size ≤ 600) (a c : Nat) (ha : a + 12 ≤ x.size) (hc : c ≤ 255) (o e p s : Int) :
    (∃ l E, okI x a c o e p s l E ∧ SV x a c o e p s = (o, e, p, s, l, ((a + (bb o e p s l).size : Nat) : Int)) ∧ IV x a c o e p s = (o, e, p, s, l, ((a + (bb o e p s l).size : Nat) : Int), true)) ∨
    ((∀ l E, ¬ okI x a c o e p s l E) ∧ SV x a c o e p s = zS ∧ IV x a c o e p s = zI) := by
  by_cases hI : ∃ l E, okI x a c o e p s l E
  · obtain ⟨l, E, hp, hg, hb1, hb2⟩ := hI
    obtain ⟨i1, _, i3, i4⟩ := prs_inv x x.size (Nat.le_refl _) c (a + 12) [] l E hp
    have hz := bb_size o e p s l
    have r0 : rcl [] = 0 := rfl
    have hv : val (x.extract a (a + 2)) = 12 + rcl l := by
      have e0 := byN_ext x a (a + (bb o e p s l).size) 0 (by omega) hb1
      have e1 := byN_ext x a (a + (bb o e p s l).size) 1 (by omega) hb1
      rw [hb2, Nat.add_zero] at e0
      rw [hb2] at e1
      rw [val2 x a (by omega), ← e0, ← e1]
      exact bb_val o e p s l (by omega)
    have hy : a + 2 + val (x.extract a (a + 2)) = E + 2 := by omega
    have hE : E + 2 = a + (bb o e p s l).size := by omega
    refine .inl ⟨l, E, ⟨hp, hg, hb1, hb2⟩, ?_, ?_⟩
    · rw [← hE]
      unfold SV
      rw [hy, if_pos (by omega), prs_mono x x.size (E + 2) c (a + 12) [] l E hp (by omega) (Nat.le_refl _)]
      exact finS_pos x a (E + 2) o e p s l hg (by rw [hE]; exact hb2.symm)
    · rw [← hE]
      unfold IV
      rw [hp]
      exact finI_pos x a o e p s l E ⟨hg, hb1, hb2⟩
  · refine .inr ⟨fun l E h => hI ⟨l, E, h⟩, ?_, IV_no x a c o e p s (fun l E h => hI ⟨l, E, h⟩)⟩
    unfold SV
    by_cases hy : a + 2 + val (x.extract a (a + 2)) ≤ x.size
    · rw [if_pos hy]
      cases hp : prs x (a + 2 + val (x.extract a (a + 2))) c (a + 12) [] with
      | none => rfl
      | some r =>
        show finS x a (a + 2 + val (x.extract a (a + 2))) o e p s r.1 = zS
        by_cases h : GB o e p s r.1 ∧ bb o e p s r.1 = x.extract a (a + 2 + val (x.extract a (a + 2)))
        · exfalso
          obtain ⟨i1, i2, i3, i4⟩ := prs_inv x _ hy c (a + 12) [] r.1 r.2 hp
          have r0 : rcl [] = 0 := rfl
          have hz := bb_size o e p s r.1
          have hz2 : (bb o e p s r.1).size = 2 + val (x.extract a (a + 2)) := by
            rw [h.2, ByteArray.size_extract]
            omega
          have hc0 : 0 < c := by
            have := h.1.2.2.2.2.2
            have l0 : ([] : List ByteArray).length = 0 := rfl
            omega
          have hE := i2 hc0
          have hs : a + (bb o e p s r.1).size = a + 2 + val (x.extract a (a + 2)) := by omega
          exact hI ⟨r.1, r.2, prs_mono x _ x.size c (a + 12) [] r.1 r.2 hp (by omega) hy, h.1, by omega, by rw [hs]; exact h.2.symm⟩
        · exact finS_neg x a _ o e p s r.1 h
    · rw [if_neg hy]
def vO (x : ByteArray) (a : Nat) : Int := (val (x.extract (a + 2) (a + 5)) : Int)
def vE (x : ByteArray) (a : Nat) : Int := (val (x.extract (a + 5) (a + 7)) : Int)
def vP (x : ByteArray) (a : Nat) : Int := (val (x.extract (a + 7) (a + 9)) : Int)
def vQ (x : ByteArray) (a : Nat) : Int := (val (x.extract (a + 9) (a + 11)) : Int)
def AT (x : ByteArray) (a : Nat) (b : S25) : Prop := ∃ E, okI x a (byN x (a + 11)) (vO x a) (vE x a) (vP x a) (vQ x a) b.f4 E ∧ a + 12 ≤ x.size ∧ b = ⟨vO x a, vE x a, vP x a, vQ x a, b.f4⟩
theorem AT_uniq {x : ByteArray} {a : Nat} {b c : S25} (h : AT x a b) (k : AT x a c) : b = c := by
  obtain ⟨E, h1, _, h2⟩ := h
  obtain ⟨F, k1, _, k2⟩ := k
  have e := (Prod.mk.inj (Option.some.inj (h1.1.symm.trans k1.1))).1
  rw [h2, k2, e]
theorem AT_good {x : ByteArray} {a : Nat} {b : S25} (h : AT x a b) : GBx b ∧ a + (bbx b).size ≤ x.size ∧ x.extract a (a + (bbx b).size) = bbx b := by
  obtain ⟨E, h1, _, h2⟩ := h
  have := h1.2
  unfold GBx bbx
  rw [h2]
  exact this
open Classical in
noncomputable def TK (x : ByteArray) (a : Nat) : Option S25 := if h : ∃ b, AT x a b then some (Classical.choose h) else none
theorem TK_some {x : ByteArray} {a : Nat} {b : S25} : TK x a = some b ↔ AT x a b := by
  unfold TK
  by_cases h : ∃ b, AT x a b
  · rw [dif_pos h]
    refine ⟨fun e => ?_, fun e => by rw [AT_uniq (Classical.choose_spec h) e]⟩
    rw [← Option.some.inj e]
    exact Classical.choose_spec h
  · rw [dif_neg h]
    exact ⟨(fun e => by cases e), fun e => absurd ⟨b, e⟩ h⟩
theorem TK_none {x : ByteArray} {a : Nat} : TK x a = none ↔ ∀ b, ¬ AT x a b := by
  rw [Option.eq_none_iff_forall_ne_some]
  exact ⟨fun h b hb => h b (TK_some.2 hb), fun h b hb => h b (TK_some.1 hb)⟩
noncomputable def tS (x : ByteArray) (a : Nat) : TR := (TK x a).elim zS fun b => (b.f0, b.f1, b.f2, b.f3, b.f4, ((a + (bbx b).size : Nat) : Int))
noncomputable def tI (x : ByteArray) (a : Nat) : Int × Int × Int × Int × List ByteArray × Int × Bool := (TK x a).elim zI fun b => (b.f0, b.f1, b.f2, b.f3, b.f4, ((a + (bbx b).size : Nat) : Int), true)
theorem take_both (x : ByteArray) (hx : x.size ≤ 600) (a : Nat) (ha : a ≤ x.size) : (a < x.size → Ev (fun k => spec_l1Take.f k x (a : Int)) (tS x a)) ∧ Ev (fun k => impl_takeBatch.f k x (a : Int)) (tI x a) := by
  by_cases h12 : a + 12 ≤ x.size
  · have hi := iTake_ev x hx a h12
    rcases cmp_take2 x hx a (byN x (a + 11)) h12 (byN_le _ _) (vO x a) (vE x a) (vP x a) (vQ x a) with ⟨l, E, hok, e1, e2⟩ | ⟨hno, e1, e2⟩
    · have hz := bb_size (vO x a) (vE x a) (vP x a) (vQ x a) l
      have h14 : a + 14 ≤ x.size := by have := hok.2.2.1; omega
      have hT : TK x a = some ⟨vO x a, vE x a, vP x a, vQ x a, l⟩ := TK_some.2 ⟨E, hok, h12, rfl⟩
      unfold tS tI
      rw [hT]
      refine ⟨fun _ => ?_, ?_⟩
      · have hs := sTake_ev x hx a h14
        have h2 : Ev _ (SV x a (byN x (a + 11)) (vO x a) (vE x a) (vP x a) (vQ x a)) := hs
        rw [e1] at h2; exact h2
      · have h2 : Ev _ (IV x a (byN x (a + 11)) (vO x a) (vE x a) (vP x a) (vQ x a)) := hi
        rw [e2] at h2; exact h2
    · have hT : TK x a = none := TK_none.2 fun b ⟨E, h, _, _⟩ => hno _ _ h
      unfold tS tI
      rw [hT]
      refine ⟨fun _ => ?_, ?_⟩
      · by_cases h14 : a + 14 ≤ x.size
        · have hs := sTake_ev x hx a h14
          have h2 : Ev _ (SV x a (byN x (a + 11)) (vO x a) (vE x a) (vP x a) (vQ x a)) := hs
          rw [e1] at h2; exact h2
        · show Ev _ zS
          unfold spec_l1Take.f
          exact Ev.ifp (by rw [wrap_id (by omega) (by omega)]; omega) (Ev.now _)
      · have h2 : Ev _ (IV x a (byN x (a + 11)) (vO x a) (vE x a) (vP x a) (vQ x a)) := hi
        rw [e2] at h2; exact h2
  · have hT : TK x a = none := TK_none.2 fun b ⟨E, _, h, _⟩ => h12 h
    unfold tS tI
    rw [hT]
    refine ⟨fun h1 => ?_, ?_⟩
    · show Ev _ zS
      unfold spec_l1Take.f
      exact Ev.ifp (by rw [wrap_id (by omega) (by omega)]; omega) (Ev.now _)
    · show Ev _ zI
      unfold impl_takeBatch.f
      exact Ev.ifp (by omega) (Ev.ifp (by omega) (Ev.ifp (by rw [tn_nat, ByteArray.size_extract]; omega) (Ev.now _)))

theorem byN_eq {x y : ByteArray} (hs : x.size = y.size) (h : ∀ i, i < x.size → byN x i = byN y i) : x = y := by
  refine ByteArray.ext (Array.ext hs fun i h1 h2 => ?_)
  have := h i h1
  rw [byN_get x i h1, byN_get y i h2] at this
  exact UInt8.toNat_inj.1 this
theorem byN_app2 (x y : ByteArray) (i : Nat) (h : i < y.size) : byN (x ++ y) (x.size + i) = byN y i := by
  have h1 : x.size + i < (x ++ y).size := by
    rw [ByteArray.size_append]
    omega
  rw [byN_get _ _ h1, byN_get _ _ h, ByteArray.getElem_append_right (by omega)]
  simp only [Nat.add_sub_cancel_left]
theorem byN_num (l : List Int) (i : Nat) (h : i < l.length) (n : Nat) (e : l[i]'h = (n : Int)) : byN (strOfNums l) i = n % 256 := by
  rw [byN_get _ i (by rw [strOfNums_size]; exact h)]
  have : (strOfNums l)[i]'(by rw [strOfNums_size]; exact h) = UInt8.ofNat n := by
    unfold strOfNums
    simp only [ByteArray.getElem_eq_getElem_data]
    simp [e]
  rw [this, UInt8.toNat_ofNat']
theorem byt1_at (v : Nat) (h : v < 256) : byN (byt (v : Int) 1) 0 = v := by
  have := byN_num [(v : Int) % 256] 0 (by simp) (v % 256) (by show (v : Int) % 256 = _; omega)
  have e : byt (v : Int) 1 = strOfNums [(v : Int) % 256] := rfl
  rw [e, this]
  omega
theorem byt3_at (v : Nat) (h : v < 16777216) : (byN (byt (v : Int) 3) 0 * 256 + byN (byt (v : Int) 3) 1) * 256 + byN (byt (v : Int) 3) 2 = v := by
  have e : byt (v : Int) 3 = strOfNums [(v : Int) / 256 / 256 % 256, (v : Int) / 256 % 256, (v : Int) % 256] := rfl
  rw [e, byN_num _ 0 (by simp) (v / 256 / 256 % 256) (by show (v : Int) / 256 / 256 % 256 = _; omega), byN_num _ 1 (by simp) (v / 256 % 256) (by show (v : Int) / 256 % 256 = _; omega), byN_num _ 2 (by simp) (v % 256) (by show (v : Int) % 256 = _; omega)]
  omega
theorem val3 (s : ByteArray) (a : Nat) (h : a + 3 ≤ s.size) : val (s.extract a (a + 3)) = (byN s a * 256 + byN s (a + 1)) * 256 + byN s (a + 2) := by
  unfold val
  have e : (s.extract a (a + 3)).size = 3 := by
    rw [ByteArray.size_extract]
    omega
  rw [e, valF, valF, valF, valF, byN_ext s a (a + 3) 0 (by omega) h, byN_ext s a (a + 3) (0 + 1) (by omega) h, byN_ext s a (a + 3) (0 + 1 + 1) (by omega) h, Nat.add_zero]
  simp
theorem rcs_app : ∀ (l : List ByteArray) (b : ByteArray), rcs l b = b ++ rcs l ⟨#[]⟩
  | [], b => by
    show b = b ++ ByteArray.empty
    rw [ByteArray.append_empty]
  | x :: xs, b => by
    rw [rcs, rcs, rcs_app xs (b ++ _), rcs_app xs ((⟨#[]⟩ : ByteArray) ++ _)]
    have e : (⟨#[]⟩ : ByteArray) ++ (byt (x.size : Int) 1 ++ x) = byt (x.size : Int) 1 ++ x := ByteArray.empty_append
    rw [e, ByteArray.append_assoc]
theorem hdr_at (o e p s n : Nat) (ho : o < 16777216) (he : e < 65536) (hp : p < 65536) (hs : s < 65536) (hn : n < 256) :
    ((byN (hdr (o : Int) (e : Int) (p : Int) (s : Int) n) 0 * 256 + byN (hdr (o : Int) (e : Int) (p : Int) (s : Int) n) 1) * 256 + byN (hdr (o : Int) (e : Int) (p : Int) (s : Int) n) 2 = o) ∧
    byN (hdr (o : Int) (e : Int) (p : Int) (s : Int) n) 3 * 256 + byN (hdr (o : Int) (e : Int) (p : Int) (s : Int) n) 4 = e ∧
    byN (hdr (o : Int) (e : Int) (p : Int) (s : Int) n) 5 * 256 + byN (hdr (o : Int) (e : Int) (p : Int) (s : Int) n) 6 = p ∧
    byN (hdr (o : Int) (e : Int) (p : Int) (s : Int) n) 7 * 256 + byN (hdr (o : Int) (e : Int) (p : Int) (s : Int) n) 8 = s ∧
    byN (hdr (o : Int) (e : Int) (p : Int) (s : Int) n) 9 = n := by
  have z3 : (byt (o : Int) 3).size = 3 := byt_size _ _
  have z5 : (byt (o : Int) 3 ++ byt (e : Int) 2).size = 5 := by rw [ByteArray.size_append, byt_size, byt_size]
  have z7 : ((byt (o : Int) 3 ++ byt (e : Int) 2) ++ byt (p : Int) 2).size = 7 := by rw [ByteArray.size_append, z5, byt_size]
  have z9 : (((byt (o : Int) 3 ++ byt (e : Int) 2) ++ byt (p : Int) 2) ++ byt (s : Int) 2).size = 9 := by rw [ByteArray.size_append, z7, byt_size]
  have s2 : ∀ v : Int, (byt v 2).size = 2 := fun v => byt_size v 2
  have s1 : (byt (n : Int) 1).size = 1 := byt_size _ 1
  unfold hdr
  have a9 := byN_app2 (((byt (o : Int) 3 ++ byt (e : Int) 2) ++ byt (p : Int) 2) ++ byt (s : Int) 2) (byt (n : Int) 1) 0 (by omega)
  have l9 : ∀ i, i < 9 → byN ((((byt (o : Int) 3 ++ byt (e : Int) 2) ++ byt (p : Int) 2) ++ byt (s : Int) 2) ++ byt (n : Int) 1) i = byN (((byt (o : Int) 3 ++ byt (e : Int) 2) ++ byt (p : Int) 2) ++ byt (s : Int) 2) i := fun i hi => byN_app _ _ i (by omega)
  have l7 : ∀ i, i < 7 → byN (((byt (o : Int) 3 ++ byt (e : Int) 2) ++ byt (p : Int) 2) ++ byt (s : Int) 2) i = byN ((byt (o : Int) 3 ++ byt (e : Int) 2) ++ byt (p : Int) 2) i := fun i hi => byN_app _ _ i (by omega)
  have l5 : ∀ i, i < 5 → byN ((byt (o : Int) 3 ++ byt (e : Int) 2) ++ byt (p : Int) 2) i = byN (byt (o : Int) 3 ++ byt (e : Int) 2) i := fun i hi => byN_app _ _ i (by omega)
  have l3 : ∀ i, i < 3 → byN (byt (o : Int) 3 ++ byt (e : Int) 2) i = byN (byt (o : Int) 3) i := fun i hi => byN_app _ _ i (by omega)
  have r3 : ∀ i, i < 2 → byN (byt (o : Int) 3 ++ byt (e : Int) 2) (3 + i) = byN (byt (e : Int) 2) i := fun i hi => by
    have := byN_app2 (byt (o : Int) 3) (byt (e : Int) 2) i (by rw [s2]; exact hi)
    rw [z3] at this
    exact this
  have r5 : ∀ i, i < 2 → byN ((byt (o : Int) 3 ++ byt (e : Int) 2) ++ byt (p : Int) 2) (5 + i) = byN (byt (p : Int) 2) i := fun i hi => by
    have := byN_app2 (byt (o : Int) 3 ++ byt (e : Int) 2) (byt (p : Int) 2) i (by rw [s2]; exact hi)
    rw [z5] at this
    exact this
  have r7 : ∀ i, i < 2 → byN (((byt (o : Int) 3 ++ byt (e : Int) 2) ++ byt (p : Int) 2) ++ byt (s : Int) 2) (7 + i) = byN (byt (s : Int) 2) i := fun i hi => by
    have := byN_app2 ((byt (o : Int) 3 ++ byt (e : Int) 2) ++ byt (p : Int) 2) (byt (s : Int) 2) i (by rw [s2]; exact hi)
    rw [z7] at this
    exact this
  rw [z9] at a9
  refine ⟨?_, ?_, ?_, ?_, ?_⟩
  · rw [l9 0 (by omega), l9 1 (by omega), l9 2 (by omega), l7 0 (by omega), l7 1 (by omega), l7 2 (by omega), l5 0 (by omega), l5 1 (by omega), l5 2 (by omega), l3 0 (by omega), l3 1 (by omega), l3 2 (by omega)]
    exact byt3_at o ho
  · rw [l9 3 (by omega), l9 4 (by omega), l7 3 (by omega), l7 4 (by omega), l5 3 (by omega), l5 4 (by omega), r3 0 (by omega), r3 1 (by omega)]
    exact byt2 e he
  · rw [l9 5 (by omega), l9 6 (by omega), l7 5 (by omega), l7 6 (by omega), r5 0 (by omega), r5 1 (by omega)]
    exact byt2 p hp
  · rw [l9 7 (by omega), l9 8 (by omega), r7 0 (by omega), r7 1 (by omega)]
    exact byt2 s hs
  · exact a9.trans (byt1_at n hn)
theorem bb_at (o e p s : Int) (l : List ByteArray) : (∀ i, i < 10 → byN (bb o e p s l) (2 + i) = byN (hdr o e p s l.length) i) ∧ (∀ i, i < rcl l → byN (bb o e p s l) (12 + i) = byN (rcs l ⟨#[]⟩) i) := by
  have zh := hdr_size o e p s l.length
  have zr : (rcs l (⟨#[]⟩ : ByteArray)).size = rcl l := by
    rw [rcs_size]
    show 0 + rcl l = rcl l
    omega
  have zb : (rcs l (hdr o e p s l.length)).size = 10 + rcl l := by rw [rcs_size, hdr_size]
  have z2 : (byt (((rcs l (hdr o e p s l.length)).size + 2 : Nat) : Int) 2).size = 2 := byt_size _ 2
  have body : ∀ i, i < 10 + rcl l → byN (bb o e p s l) (2 + i) = byN (rcs l (hdr o e p s l.length)) i := fun i hi => by
    unfold bb fin
    rw [byN_app _ _ (2 + i) (by rw [ByteArray.size_append, z2, zb]; omega)]
    have := byN_app2 (byt (((rcs l (hdr o e p s l.length)).size + 2 : Nat) : Int) 2) (rcs l (hdr o e p s l.length)) i (by omega)
    rw [z2] at this
    exact this
  refine ⟨fun i hi => ?_, fun i hi => ?_⟩
  · rw [body i (by omega), rcs_app, byN_app _ _ i (by omega)]
  · have e12 : 12 + i = 2 + (10 + i) := by omega
    rw [e12, body (10 + i) (by omega), rcs_app]
    have := byN_app2 (hdr o e p s l.length) (rcs l ⟨#[]⟩) i (by omega)
    rw [zh] at this
    exact this
theorem prs_back (x : ByteArray) (Y : Nat) (hY : Y ≤ x.size) : ∀ (l : List ByteArray) (q : Nat) (acc : List ByteArray), (∀ r ∈ l, r.size ≤ 255) → q + rcl l ≤ Y → (∀ i, i < rcl l → byN x (q + i) = byN (rcs l ⟨#[]⟩) i) →
    prs x Y l.length q acc = some (acc ++ l, q + rcl l)
  | [], q, acc, _, _, _ => by
    rw [List.append_nil]
    rfl
  | r :: rs, q, acc, hr, hq, hE => by
    have hz := hr r List.mem_cons_self
    have hc : rcl (r :: rs) = 1 + r.size + rcl rs := rfl
    have e0 : rcs (r :: rs) (⟨#[]⟩ : ByteArray) = (byt (r.size : Int) 1 ++ r) ++ rcs rs ⟨#[]⟩ := by
      rw [rcs, rcs_app rs]
      have e : (⟨#[]⟩ : ByteArray) ++ (byt (r.size : Int) 1 ++ r) = byt (r.size : Int) 1 ++ r := ByteArray.empty_append
      rw [e]
    have z1 : (byt (r.size : Int) 1).size = 1 := byt_size _ 1
    have z2 : (byt (r.size : Int) 1 ++ r).size = 1 + r.size := by rw [ByteArray.size_append, z1]
    have zr : (rcs rs (⟨#[]⟩ : ByteArray)).size = rcl rs := by
      rw [rcs_size]
      show 0 + rcl rs = rcl rs
      omega
    rw [e0] at hE
    have h0 : byN x q = r.size := by
      have := hE 0 (by omega)
      rw [Nat.add_zero, byN_app _ _ 0 (by omega), byN_app _ _ 0 (by omega), byt1_at r.size (by omega)] at this
      exact this
    have h1 : x.extract (q + 1) (q + 1 + r.size) = r := by
      have zx : (x.extract (q + 1) (q + 1 + r.size)).size = r.size := by
        rw [ByteArray.size_extract]
        omega
      refine byN_eq zx fun i hi => ?_
      rw [byN_ext x (q + 1) (q + 1 + r.size) i (by omega) (by omega)]
      have := hE (1 + i) (by omega)
      rw [byN_app _ _ (1 + i) (by omega)] at this
      have t := byN_app2 (byt (r.size : Int) 1) r i (by omega)
      rw [z1] at t
      rw [t] at this
      have e : q + 1 + i = q + (1 + i) := by omega
      rw [e]
      exact this
    have ih := prs_back x Y hY rs (q + 1 + r.size) (acc ++ [r]) (fun y hy => hr y (List.mem_cons_of_mem _ hy)) (by omega) (fun i hi => by
      have := hE (1 + r.size + i) (by omega)
      have t := byN_app2 (byt (r.size : Int) 1 ++ r) (rcs rs ⟨#[]⟩) i (by omega)
      rw [z2] at t
      rw [t] at this
      have e : q + 1 + r.size + i = q + (1 + r.size + i) := by omega
      rw [e]
      exact this)
    rw [List.length_cons, prs, h0, if_pos ⟨by omega, by omega⟩, h1, ih, List.append_assoc, hc]
    have e : q + 1 + r.size + rcl rs = q + (1 + r.size + rcl rs) := by omega
    rw [e]
    rfl
theorem AT_back {x : ByteArray} {a : Nat} {b : S25} (hb : GBx b) (hs : a + (bbx b).size ≤ x.size) (he : x.extract a (a + (bbx b).size) = bbx b) : AT x a b := by
  have hz : (bbx b).size = 14 + rcl b.f4 := bb_size _ _ _ _ _
  have hat : ∀ i, i < (bbx b).size → byN x (a + i) = byN (bbx b) i := fun i hi => by
    have := byN_ext x a (a + (bbx b).size) i (by omega) hs
    rw [he] at this
    exact this.symm
  obtain ⟨B1, B2⟩ := bb_at b.f0 b.f1 b.f2 b.f3 b.f4
  have B1 : ∀ i, i < 10 → byN (bbx b) (2 + i) = byN (hdr b.f0 b.f1 b.f2 b.f3 b.f4.length) i := B1
  have B2 : ∀ i, i < rcl b.f4 → byN (bbx b) (12 + i) = byN (rcs b.f4 ⟨#[]⟩) i := B2
  obtain ⟨g0, ⟨o0, o1⟩, ⟨e0, e1⟩, ⟨p0, p1⟩, ⟨s0, s1⟩, n0, n1⟩ := hb
  obtain ⟨o, ho⟩ := Int.eq_ofNat_of_zero_le o0
  obtain ⟨e, he'⟩ := Int.eq_ofNat_of_zero_le e0
  obtain ⟨p, hp⟩ := Int.eq_ofNat_of_zero_le p0
  obtain ⟨s, hs'⟩ := Int.eq_ofNat_of_zero_le s0
  have H := hdr_at o e p s b.f4.length (by omega) (by omega) (by omega) (by omega) (by omega)
  rw [← ho, ← he', ← hp, ← hs'] at H
  obtain ⟨H1, H2, H3, H4, H5⟩ := H
  have X : ∀ i, i < 10 → byN x (a + (2 + i)) = byN (hdr b.f0 b.f1 b.f2 b.f3 b.f4.length) i := fun i hi => (hat (2 + i) (by omega)).trans (B1 i hi)
  have x11 : byN x (a + 11) = b.f4.length := (X 9 (by omega)).trans H5
  have vo : vO x a = b.f0 := by
    unfold vO
    rw [val3 x (a + 2) (by omega), X 0 (by omega), show a + 2 + 1 = a + (2 + 1) by omega, X 1 (by omega), show a + 2 + 2 = a + (2 + 2) by omega, X 2 (by omega), H1, ho]
  have ve : vE x a = b.f1 := by
    unfold vE
    rw [val2 x (a + 5) (by omega), show a + 5 = a + (2 + 3) by omega, X 3 (by omega), show a + (2 + 3) + 1 = a + (2 + 4) by omega, X 4 (by omega), H2, he']
  have vp : vP x a = b.f2 := by
    unfold vP
    rw [val2 x (a + 7) (by omega), show a + 7 = a + (2 + 5) by omega, X 5 (by omega), show a + (2 + 5) + 1 = a + (2 + 6) by omega, X 6 (by omega), H3, hp]
  have vq : vQ x a = b.f3 := by
    unfold vQ
    rw [val2 x (a + 9) (by omega), show a + 9 = a + (2 + 7) by omega, X 7 (by omega), show a + (2 + 7) + 1 = a + (2 + 8) by omega, X 8 (by omega), H4, hs']
  have hr : ∀ r ∈ b.f4, r.size ≤ 255 := fun r hr => by
    obtain ⟨j, hj, e'⟩ := List.getElem_of_mem hr
    have := g0 j hj
    rw [List.getD_eq_getElem?_getD, List.getElem?_eq_getElem hj] at this
    rw [← e']
    exact Nat.le_trans this (by decide)
  have hp2 := prs_back x x.size (Nat.le_refl _) b.f4 (a + 12) [] hr (by omega) (fun i hi => by
    rw [show a + 12 + i = a + (12 + i) by omega, hat (12 + i) (by omega)]
    exact B2 i hi)
  refine ⟨a + 12 + rcl b.f4, ⟨?_, ?_, ?_, ?_⟩, by omega, by rw [vo, ve, vp, vq]⟩
  · rw [x11, hp2]
    rfl
  · rw [vo, ve, vp, vq]
    exact ⟨g0, ⟨o0, o1⟩, ⟨e0, e1⟩, ⟨p0, p1⟩, ⟨s0, s1⟩, n0, n1⟩
  · rw [vo, ve, vp, vq]
    exact hs
  · rw [vo, ve, vp, vq]
    exact he

def crc (x : ByteArray) : Nat → Nat → Nat → Nat
  | 0, _, c => c
  | d + 1, i, c => crc x d (i + 1) (stps 8 (c ^^^ byN x i * 256))
theorem xor_lt (x : ByteArray) (i c : Nat) (hc : c < 65536) : c ^^^ byN x i * 256 < 65536 := Nat.xor_lt_two_pow (n := 16) (by omega) (by have := byN_le x i; omega)
theorem crc_lt (x : ByteArray) : ∀ d i c, c < 65536 → crc x d i c < 65536
  | 0, _, _, h => h
  | d + 1, i, c, h => crc_lt x d (i + 1) _ (stps_lt 8 _ (xor_lt x i c h))
theorem crc_l (x : ByteArray) (hx : x.size ≤ 1000000000000000) : ∀ d i : Nat, i + d = x.size → ∀ c : Nat, c < 65536 → Ev (fun k => spec_l1Sum.l0 k x (c : Int) (i : Int)) (crc x d i c : Int)
  | 0, i, hd => fun c hc => Ev.step (f := fun _ => some (c : Int)) (fun k => by rw [spec_l1Sum.l0, if_neg (by omega)]) (Ev.now _)
  | d + 1, i, hd => fun c hc => by
    have hb := bt_byN x i
    have hb2 := byN_le x i
    have w1 : wrap64 (byN x i : Int) = (byN x i : Int) := wrap_id (by omega) (by omega)
    have w2 : wrap64 ((byN x i : Int) * 256) = ((byN x i * 256 : Nat) : Int) := by
      rw [wrap_id (by omega) (by omega)]
      omega
    have e := xor_nat c (byN x i * 256) (by omega) (by omega)
    have h1 := crc_l x hx d (i + 1) (by omega) (stps 8 (c ^^^ byN x i * 256)) (stps_lt 8 _ (xor_lt x i c hc))
    refine Ev.step (fun k => ?_) (sSum_in x (i : Int) _ 8 0 rfl _ (xor_lt x i c hc) ?_)
    · show spec_l1Sum.l0 (k + 1) x (c : Int) (i : Int) = spec_l1Sum.l1 k x ((c ^^^ byN x i * 256 : Nat) : Int) (i : Int) 0
      rw [spec_l1Sum.l0, if_pos (by omega), if_pos (by omega), hb, w1, w2, e]
    · rw [succ_wrap (by omega)]
      exact h1
theorem sm_crc (x : ByteArray) (hx : x.size ≤ 1000000000000000) : sm x = crc x x.size 0 65535 := by
  have := Ev.uniq (sm_ev x hx).1 (crc_l x hx x.size 0 (by omega) 65535 (by decide))
  omega
theorem sm_lt (x : ByteArray) (hx : x.size ≤ 1000000000000000) : sm x < 65536 := by
  rw [sm_crc x hx]
  exact crc_lt x _ _ _ (by decide)
theorem xor_back {a b c : Nat} (h : a ^^^ c = b ^^^ c) : a = b := by
  have := congrArg (· ^^^ c) h
  simpa only [Nat.xor_assoc, Nat.xor_self, Nat.xor_zero] using this
theorem stp_inj {a b : Nat} (ha : a < 65536) (hb : b < 65536) (h : stp a = stp b) : a = b := by
  unfold stp at h
  have odd : ∀ n m : Nat, n * 2 ≠ (m * 2 % 65536) ^^^ 4129 := fun n m e => by
    have := congrArg (Nat.testBit · 0) e
    have a1 : n * 2 % 2 = 0 := by omega
    have a2 : m * 2 % 65536 % 2 = 0 := by omega
    simp only [Nat.testBit_xor, Nat.testBit_zero, a1, a2] at this
    simp at this
  by_cases h1 : a < 32768 <;> by_cases h2 : b < 32768
  · rw [if_pos h1, if_pos h2] at h
    omega
  · rw [if_pos h1, if_neg h2] at h
    exact absurd h (odd _ _)
  · rw [if_neg h1, if_pos h2] at h
    exact absurd h.symm (odd _ _)
  · rw [if_neg h1, if_neg h2] at h
    have := xor_back h
    omega
theorem stps_inj : ∀ (d a b : Nat), a < 65536 → b < 65536 → stps d a = stps d b → a = b
  | 0, _, _, _, _, h => h
  | d + 1, a, b, ha, hb, h => stp_inj ha hb (stps_inj d _ _ (stp_lt a) (stp_lt b) h)
theorem crc_inj (x y : ByteArray) : ∀ (d i c e : Nat), c < 65536 → e < 65536 → (∀ j, i ≤ j → j < i + d → byN x j = byN y j) → crc x d i c = crc y d i e → c = e
  | 0, _, _, _, _, _, _, h => h
  | d + 1, i, c, e, hc, he, hb, h => by
    have h1 := crc_inj x y d (i + 1) _ _ (stps_lt 8 _ (xor_lt x i c hc)) (stps_lt 8 _ (xor_lt y i e he)) (fun j h2 h3 => hb j (by omega) (by omega)) h
    have h2 := stps_inj 8 _ _ (xor_lt x i c hc) (xor_lt y i e he) h1
    rw [hb i (Nat.le_refl _) (by omega)] at h2
    exact xor_back h2
theorem crc_ne (x y : ByteArray) (k : Nat) (hk : byN x k ≠ byN y k) : ∀ (d i c : Nat), c < 65536 → i ≤ k → k < i + d → (∀ j, j ≠ k → j < i + d → byN x j = byN y j) → crc x d i c ≠ crc y d i c
  | 0, i, c, _, h1, h2, _ => by omega
  | d + 1, i, c, hc, h1, h2, hb => fun h => by
    by_cases e : i = k
    · subst e
      have h3 := crc_inj x y d (i + 1) _ _ (stps_lt 8 _ (xor_lt x i c hc)) (stps_lt 8 _ (xor_lt y i c hc)) (fun j h2 h3 => hb j (by omega) (by omega)) h
      have h4 := stps_inj 8 _ _ (xor_lt x i c hc) (xor_lt y i c hc) h3
      rw [Nat.xor_comm c, Nat.xor_comm c] at h4
      have := xor_back h4
      omega
    · rw [crc, crc, hb i e (by omega)] at h
      exact crc_ne x y k hk d (i + 1) _ (stps_lt 8 _ (xor_lt y i c hc)) (by omega) (by omega) (fun j h3 h4 => hb j h3 (by omega)) h
theorem bb_fin (b : S25) : ∃ P : ByteArray, bbx b = P ++ byt (sm P : Int) 2 ∧ P.size = 12 + rcl b.f4 :=
  ⟨_, rfl, by
    rw [ByteArray.size_append, byt_size, rcs_size, hdr_size]
    omega⟩
theorem prs_congr (x y : ByteArray) (hs : x.size = y.size) : ∀ (c q : Nat) (l : List ByteArray), (∀ i, q ≤ i → i < x.size → byN x i = byN y i) → prs x x.size c q l = prs y y.size c q l
  | 0, q, l, _ => rfl
  | c + 1, q, l, h => by
    rw [prs, prs, ← hs]
    by_cases hq : q < x.size
    · have e := h q (Nat.le_refl _) hq
      rw [← e]
      by_cases h2 : q + 1 + byN x q ≤ x.size
      · rw [if_pos ⟨hq, h2⟩, if_pos ⟨hq, h2⟩]
        have ex : x.extract (q + 1) (q + 1 + byN x q) = y.extract (q + 1) (q + 1 + byN x q) := by
          have z : (x.extract (q + 1) (q + 1 + byN x q)).size = byN x q := by rw [ByteArray.size_extract]; omega
          refine byN_eq (by rw [ByteArray.size_extract, ByteArray.size_extract, hs]) fun i hi => ?_
          rw [byN_ext x _ _ i (by omega) h2, byN_ext y _ _ i (by omega) (by omega)]
          exact h _ (by omega) (by omega)
        rw [ex]
        have := prs_congr x y hs c (q + 1 + byN x q) (l ++ [y.extract (q + 1) (q + 1 + byN x q)]) (fun i h3 h4 => h i (by omega) h4)
        rw [this, hs]
      · rw [if_neg (fun h => h2 h.2), if_neg (fun h => h2 h.2)]
    · rw [if_neg (fun h => hq h.1), if_neg (fun h => hq h.1)]
theorem ext_all (x : ByteArray) : x.extract 0 x.size = x := by
  have z : (x.extract 0 x.size).size = x.size := by rw [ByteArray.size_extract]; omega
  refine byN_eq z fun i hi => ?_
  rw [byN_ext x 0 x.size i (by omega) (Nat.le_refl _), Nat.zero_add]
theorem turned (b c : S25) (hb : GBx b) (y : ByteArray) (hy : y.size = (bbx b).size) (k : Nat) (hk : k < y.size) (h1 : ∀ i, i < y.size → i ≠ k → byN y i = byN (bbx b) i) (h2 : byN y k ≠ byN (bbx b) k) : ¬ AT y 0 c := fun hA => by
  have hB : AT (bbx b) 0 b := AT_back hb (by omega) (by rw [Nat.zero_add]; exact ext_all _)
  obtain ⟨gc, sc, ec⟩ := AT_good hA
  rw [Nat.zero_add] at sc ec
  have hzb : (bbx b).size = 14 + rcl b.f4 := bb_size _ _ _ _ _
  have hzc : (bbx c).size = 14 + rcl c.f4 := bb_size _ _ _ _ _
  have hbs := (bbx_size b hb).2
  have hcs := (bbx_size c gc).2
  have hcat : ∀ i, i < (bbx c).size → byN (bbx c) i = byN y i := fun i hi => by
    have := byN_ext y 0 (bbx c).size i (by omega) sc
    rw [ec, Nat.zero_add] at this
    exact this
  have same : y = bbx b → False := fun e => h2 (by rw [e])
  by_cases k2 : k < 2
  · -- the length's own bytes
    have hh : ∀ i, 2 ≤ i → i < y.size → byN y i = byN (bbx b) i := fun i h3 h4 => h1 i h4 (by omega)
    obtain ⟨E, ⟨p1, _⟩, _, q1⟩ := hA
    obtain ⟨F, ⟨p2, _⟩, _, q2⟩ := hB
    have v2 : ∀ i, 2 ≤ i → i + 2 ≤ y.size → val (y.extract i (i + 2)) = val ((bbx b).extract i (i + 2)) := fun i h3 h4 => by
      rw [val2 y i h4, val2 (bbx b) i (by omega), hh i h3 (by omega), hh (i + 1) (by omega) (by omega)]
    have v3 : val (y.extract 2 5) = val ((bbx b).extract 2 5) := by
      rw [val3 y 2 (by omega), val3 (bbx b) 2 (by omega), hh 2 (by omega) (by omega), hh (2 + 1) (by omega) (by omega), hh (2 + 2) (by omega) (by omega)]
    have w5 := v2 5 (by omega) (by omega)
    have w7 := v2 7 (by omega) (by omega)
    have w9 := v2 9 (by omega) (by omega)
    rw [Nat.zero_add, Nat.zero_add, prs_congr y (bbx b) hy _ _ _ (fun i h3 h4 => hh i (by omega) h4), hh 11 (by omega) (by omega)] at p1
    rw [Nat.zero_add, Nat.zero_add] at p2
    have e4 : c.f4 = b.f4 := (Prod.mk.inj (Option.some.inj (p1.symm.trans p2))).1
    have eo : vO y 0 = vO (bbx b) 0 := by unfold vO; rw [Nat.zero_add, Nat.zero_add, v3]
    have ee : vE y 0 = vE (bbx b) 0 := by unfold vE; rw [Nat.zero_add, Nat.zero_add, w5]
    have ep : vP y 0 = vP (bbx b) 0 := by unfold vP; rw [Nat.zero_add, Nat.zero_add, w7]
    have eq : vQ y 0 = vQ (bbx b) 0 := by unfold vQ; rw [Nat.zero_add, Nat.zero_add, w9]
    have ecb : c = b := by rw [q1, q2, eo, ee, ep, eq, e4]
    rw [ecb, ← hy, ext_all] at ec
    exact same ec
  · -- the length is the batch's
    have l1 := bb_val b.f0 b.f1 b.f2 b.f3 b.f4 (by omega)
    have l2 := bb_val c.f0 c.f1 c.f2 c.f3 c.f4 (by omega)
    have l1 : byN (bbx b) 0 * 256 + byN (bbx b) 1 = 12 + rcl b.f4 := l1
    have l2 : byN (bbx c) 0 * 256 + byN (bbx c) 1 = 12 + rcl c.f4 := l2
    rw [hcat 0 (by omega), hcat 1 (by omega), h1 0 (by omega) (by omega), h1 1 (by omega) (by omega)] at l2
    have hsz : (bbx c).size = y.size := by omega
    rw [hsz, ext_all] at ec
    obtain ⟨P, eP, zP⟩ := bb_fin b
    obtain ⟨R, eR, zR⟩ := bb_fin c
    have zz : R.size = P.size := by omega
    have a1 : ∀ i, i < P.size → byN (bbx b) i = byN P i := fun i hi => by rw [eP]; exact byN_app _ _ i hi
    have a2 : ∀ i, i < P.size → byN y i = byN R i := fun i hi => by rw [ec, eR]; exact byN_app _ _ i (by omega)
    have s2 : ∀ v : Int, (byt v 2).size = 2 := fun v => byt_size v 2
    have b1 : ∀ i, i < 2 → byN (bbx b) (P.size + i) = byN (byt (sm P : Int) 2) i := fun i hi => by rw [eP]; exact byN_app2 _ _ i (by rw [s2]; exact hi)
    have b2 : ∀ i, i < 2 → byN y (P.size + i) = byN (byt (sm R : Int) 2) i := fun i hi => by rw [ec, eR, ← zz]; exact byN_app2 _ _ i (by rw [s2]; exact hi)
    have f1 := byt2 (sm P) (sm_lt P (by omega))
    have f2 := byt2 (sm R) (sm_lt R (by omega))
    by_cases kP : k < P.size
    · have g0 : byN (byt (sm R : Int) 2) 0 = byN (byt (sm P : Int) 2) 0 := by rw [← b1 0 (by omega), ← b2 0 (by omega)]; exact h1 _ (by omega) (by omega)
      have g1 : byN (byt (sm R : Int) 2) 1 = byN (byt (sm P : Int) 2) 1 := by rw [← b1 1 (by omega), ← b2 1 (by omega)]; exact h1 _ (by omega) (by omega)
      rw [g0, g1] at f2
      have e : sm R = sm P := f2.symm.trans f1
      rw [sm_crc R (by omega), sm_crc P (by omega), zz] at e
      refine crc_ne R P k (fun h => h2 ?_) P.size 0 65535 (by decide) (Nat.zero_le _) (by omega) (fun j h3 h4 => ?_) e
      · rw [a2 k kP, a1 k kP]
        exact h
      · rw [← a2 j (by omega), ← a1 j (by omega)]
        exact h1 j (by omega) h3
    · have e : R = P := byN_eq zz fun i hi => by
        rw [← a2 i (by omega), ← a1 i (by omega)]
        exact h1 i (by omega) (by omega)
      exact same (by rw [ec, eR, e, ← eP])

theorem num_l (s : List Int) (hb : BY s) (hl : s.length ≤ 9223372036854775807) : ∀ (d i : Nat) (n : Int), i + d = s.length → 0 ≤ n → n < 1000003 → ∃ r : Int, Ev (fun k => laws_numberOf.l0 k n s (s.length : Int) (i : Int)) r ∧ 0 ≤ r ∧ r < 1000003
  | 0, i, n, hd, h0, h1 => ⟨n, Ev.step (f := fun _ => some n) (fun k => by rw [laws_numberOf.l0, if_neg (by omega)]) (Ev.now _), h0, h1⟩
  | d + 1, i, n, hd, h0, h1 => by
    have hx := hb _ (rd_mem (l := s) (i := (i : Int)) (by omega) (by omega))
    have hw : wrap64 (wrap64 (31 * n) + wrap64 (rd s (i : Int))) = 31 * n + rd s (i : Int) := by rw [wrap_id (x := 31 * n) (by omega) (by omega), wrap_id (x := rd s (i : Int)) (by omega) (by omega), wrap_id (by omega) (by omega)]
    obtain ⟨r, e, h2, h3⟩ := num_l s hb hl d (i + 1) (Int.tmod (31 * n + rd s (i : Int)) 1000003) (by omega) (Int.tmod_nonneg _ (by omega)) (Int.tmod_lt_of_pos _ (by decide))
    refine ⟨r, Ev.step (fun k => ?_) e, h2, h3⟩
    rw [laws_numberOf.l0, if_pos (by omega), if_pos (by omega), if_pos (by omega), hw, wrap_id (x := (i : Int) + 1) (by omega) (by omega)]
    rfl
theorem num_ev (s : List Int) (hb : BY s) (hl : s.length ≤ 9223372036854775807) : ∃ r : Int, Ev (fun k => laws_numberOf.f k s) r ∧ 0 ≤ r ∧ r < 1000003 := num_l s hb hl s.length 0 0 (by omega) (by decide) (by decide)

theorem sameT_ev (l : List ByteArray) (hl : l.length ≤ 1048576) : Ev (fun k => laws_sameTexts.f k l l) true := by
  have h := all_ev l.length (fun i k => laws_sameTexts.l0 k l l (l.length : Int) (i : Int))
    (Ev.step (f := fun _ => some true) (fun k => by
      show laws_sameTexts.l0 (k + 1) l l (l.length : Int) ((l.length : Nat) : Int) = some true
      rw [laws_sameTexts.l0, if_neg (by omega)]) (Ev.now _))
    (fun i hi hr => Ev.step (fun k => by
      show laws_sameTexts.l0 (k + 1) l l (l.length : Int) (i : Int) = laws_sameTexts.l0 k l l (l.length : Int) ((i + 1 : Nat) : Int)
      rw [laws_sameTexts.l0, if_pos (by omega), if_pos (by omega), if_pos (by omega), if_pos (by omega), if_pos rfl, succ_wrap (by omega)]) hr)
  unfold laws_sameTexts.f
  exact Ev.ifp rfl h
theorem sameB_ev (o e p s : Int) (l : List ByteArray) (hl : l.length ≤ 1048576) : Ev (fun k => laws_sameBatch.f k o e p s l o e p s l) true := by
  unfold laws_sameBatch.f
  exact Ev.ifp rfl (Ev.ifp rfl (Ev.ifp rfl (Ev.ifp rfl (Ev.bind (sameT_ev l hl) (Ev.now _)))))

theorem iTB_some {x : ByteArray} (hx : x.size ≤ 600) {a : Nat} {b : S25} (h : AT x a b) : Ev (fun k => impl_TakeBatch.f k x (a : Int)) (b.f0, b.f1, b.f2, b.f3, b.f4, ((a + (bbx b).size : Nat) : Int), true) := by
  have hs := (AT_good h).2.1
  have hi := (take_both x hx a (by omega)).2
  have e : tI x a = (b.f0, b.f1, b.f2, b.f3, b.f4, ((a + (bbx b).size : Nat) : Int), true) := by
    unfold tI
    rw [TK_some.2 h]
    rfl
  rw [e] at hi
  unfold impl_TakeBatch.f
  exact Ev.ifn (by omega) (Ev.ifn (by omega) (Ev.ifn (by omega) (Ev.bind hi (Ev.now _))))
theorem iTB_none {x : ByteArray} (hx : x.size ≤ 600) {a : Nat} (ha : a ≤ x.size) (h : ∀ b, ¬ AT x a b) : Ev (fun k => impl_TakeBatch.f k x (a : Int)) (0, 0, 0, 0, [], 0, false) := by
  have hi := (take_both x hx a ha).2
  have e : tI x a = (0, 0, 0, 0, [], 0, false) := by
    unfold tI
    rw [TK_none.2 h]
    rfl
  rw [e] at hi
  unfold impl_TakeBatch.f
  exact Ev.ifn (by omega) (Ev.ifn (by omega) (Ev.ifn (by omega) (Ev.bind hi (Ev.now _))))
theorem sTB_some {x : ByteArray} (hx : x.size ≤ 600) {a : Nat} {b : S25} (h : AT x a b) : Ev (fun k => spec_TakeBatch.f k x (a : Int)) (b.f0, b.f1, b.f2, b.f3, b.f4, ((a + (bbx b).size : Nat) : Int), true) := by
  obtain ⟨hg, hs, _⟩ := AT_good h
  have hz := (bbx_size b hg).1
  have hi := (take_both x hx a (by omega)).1 (by omega)
  have e : tS x a = (b.f0, b.f1, b.f2, b.f3, b.f4, ((a + (bbx b).size : Nat) : Int)) := by
    unfold tS
    rw [TK_some.2 h]
    rfl
  rw [e] at hi
  unfold spec_TakeBatch.f
  refine Ev.ifn (by omega) (Ev.ifn (by omega) (Ev.ifn (by omega) (Ev.bind hi ?_)))
  rw [decide_eq_true (show ((a + (bbx b).size : Nat) : Int) > 0 by omega)]
  exact Ev.now _
theorem sTB_none {x : ByteArray} (hx : x.size ≤ 600) {a : Nat} (h : ∀ b, ¬ AT x a b) : Ev (fun k => spec_TakeBatch.f k x (a : Int)) (0, 0, 0, 0, [], 0, false) := by
  unfold spec_TakeBatch.f
  by_cases ha : a < x.size
  · have hi := (take_both x hx a (by omega)).1 ha
    have e : tS x a = (0, 0, 0, 0, [], 0) := by
      unfold tS
      rw [TK_none.2 h]
      rfl
    rw [e] at hi
    exact Ev.ifn (by omega) (Ev.ifn (by omega) (Ev.ifn (by omega) (Ev.bind hi (Ev.now _))))
  · exact Ev.ifn (by omega) (Ev.ifn (by omega) (Ev.ifp (by omega) (Ev.now _)))
theorem TB_both (x : ByteArray) (a1 : Int) : ∃ (b : S25) (r : Int) (f : Bool), b.f4.length ≤ 1048576 ∧ Ev (fun k => spec_TakeBatch.f k x a1) (b.f0, b.f1, b.f2, b.f3, b.f4, r, f) ∧ Ev (fun k => impl_TakeBatch.f k x a1) (b.f0, b.f1, b.f2, b.f3, b.f4, r, f) ∧
    (f = true → ∃ a : Nat, a1 = (a : Int) ∧ AT x a b ∧ r = ((a + (bbx b).size : Nat) : Int)) := by
  have no : ∀ {P Q : Prop}, P → Q → P ∧ Q ∧ (false = true → ∃ a : Nat, a1 = (a : Int) ∧ AT x a ⟨0, 0, 0, 0, []⟩ ∧ (0 : Int) = ((a + (bbx ⟨0, 0, 0, 0, []⟩).size : Nat) : Int)) := fun p q => ⟨p, q, fun h => by cases h⟩
  by_cases hn : (x.size : Int) > 600
  · refine ⟨⟨0, 0, 0, 0, []⟩, 0, false, Nat.zero_le _, no ?_ ?_⟩
    · unfold spec_TakeBatch.f
      exact Ev.ifp hn (Ev.now _)
    · unfold impl_TakeBatch.f
      exact Ev.ifp hn (Ev.now _)
  · by_cases h0 : a1 < 0
    · refine ⟨⟨0, 0, 0, 0, []⟩, 0, false, Nat.zero_le _, no ?_ ?_⟩
      · unfold spec_TakeBatch.f
        exact Ev.ifn hn (Ev.ifp h0 (Ev.now _))
      · unfold impl_TakeBatch.f
        exact Ev.ifn hn (Ev.ifp h0 (Ev.now _))
    · obtain ⟨a, rfl⟩ := Int.eq_ofNat_of_zero_le (show 0 ≤ a1 by omega)
      by_cases hA : ∃ b, AT x a b
      · obtain ⟨b, hb⟩ := hA
        have hg := (AT_good hb).1
        have hl : b.f4.length ≤ 1048576 := by
          have := hg.2.2.2.2.2
          omega
        exact ⟨b, _, true, hl, sTB_some (by omega) hb, iTB_some (by omega) hb, fun _ => ⟨a, rfl, hb, rfl⟩⟩
      · have hA : ∀ b, ¬ AT x a b := fun b h => hA ⟨b, h⟩
        refine ⟨⟨0, 0, 0, 0, []⟩, 0, false, Nat.zero_le _, no (sTB_none (by omega) hA) ?_⟩
        by_cases h1 : a ≤ x.size
        · exact iTB_none (by omega) h1 hA
        · unfold impl_TakeBatch.f
          exact Ev.ifn hn (Ev.ifn h0 (Ev.ifp (by omega) (Ev.now _)))

theorem bytes_ev (o e p s : Int) (l : List ByteArray) (hl : l.length ≤ 1048576) : ∃ g : Bool, (g = true ↔ GB o e p s l) ∧
    Ev (fun k => spec_BatchBytes.f k o e p s l) (if g = true then bb o e p s l else ⟨#[]⟩, g) ∧ Ev (fun k => impl_BatchBytes.f k o e p s l) (if g = true then bb o e p s l else ⟨#[]⟩, g) ∧
    Ev (fun k => spec_EndOf.f k o e p s l) (if g = true then wrap64 (o + (l.length : Int)) else 0, g) ∧ Ev (fun _ : Nat => impl_EndOf.f o e p s l) (if g = true then wrap64 (o + (l.length : Int)) else 0, g) ∧
    Ev (fun _ : Nat => impl_GoodBatch.f o e p s l) g := by
  obtain ⟨b, hs, hi, hq⟩ := both (sGB_ev o e p s l hl) (iGB_ev o e p s l)
  refine ⟨b, hq, ?_⟩
  unfold spec_BatchBytes.f impl_BatchBytes.f spec_EndOf.f impl_EndOf.f impl_Batch_end.f impl_GoodBatch.f
  cases b with
  | false => exact ⟨Ev.bind hs (Ev.ifn (by decide) (Ev.now _)), Ev.bind hi (Ev.ifn (by decide) (Ev.now _)), Ev.bind hs (Ev.ifn (by decide) (Ev.now _)), Ev.bind hi (Ev.ifn (by decide) (Ev.now _)), Ev.bind hi (Ev.now _)⟩
  | true =>
    obtain ⟨h1, h2⟩ := batch_ev o e p s l (hq.1 rfl)
    exact ⟨Ev.bind hs (Ev.ifp rfl (Ev.bind h1 (Ev.now _))), Ev.bind hi (Ev.ifp rfl (Ev.bind h2 (Ev.now _))), Ev.bind hs (Ev.ifp rfl (Ev.now _)), Ev.bind hi (Ev.ifp rfl (Ev.bind (Ev.now _) (Ev.now _))), Ev.bind hi (Ev.now _)⟩
theorem SumOf_both (s : ByteArray) (hs : s.size ≤ 1048576) : ∃ (r : Int) (o : Bool), Ev (fun k => spec_SumOf.f k s) (r, o) ∧ Ev (fun k => impl_SumOf.f k s) (r, o) := by
  unfold spec_SumOf.f impl_SumOf.f
  by_cases h : (s.size : Int) > 600
  · exact ⟨0, false, Ev.ifp h (Ev.now _), Ev.ifp h (Ev.now _)⟩
  · obtain ⟨h1, h2⟩ := sm_ev s (by omega)
    exact ⟨_, true, Ev.ifn h (Ev.bind h1 (Ev.now _)), Ev.ifn h (Ev.bind h2 (Ev.now _))⟩
theorem Batches_tail (x : ByteArray) (a1 : Int) (b : S25) (r : Int) (f : Bool) (hl : b.f4.length ≤ 1048576) (h : f = true → ∃ a : Nat, a1 = (a : Int) ∧ AT x a b ∧ r = ((a + (bbx b).size : Nat) : Int)) :
    Ev (fun k => if f = true then ((impl_BatchBytes.f k b.f0 b.f1 b.f2 b.f3 b.f4).bind fun bt433 => (if bt433.2 = true then (if 0 ≤ a1 then (if a1 ≤ r then (if r ≤ (x.size : Int) then (some (bt433.1.toList == (x.extract a1.toNat r.toNat).toList)) else (none)) else (none)) else (none)) else (none))) else (some true)) true := by
  cases f with
  | false => exact Ev.ifn (by decide) (Ev.now _)
  | true =>
    obtain ⟨a, rfl, hA, rfl⟩ := h rfl
    obtain ⟨hg, hs, he⟩ := AT_good hA
    obtain ⟨g, hq, _, hi, _⟩ := bytes_ev b.f0 b.f1 b.f2 b.f3 b.f4 hl
    obtain rfl : g = true := hq.2 hg
    refine Ev.ifp rfl (Ev.bind hi (Ev.ifp rfl (Ev.ifp (by omega) (Ev.ifp (by omega) (Ev.ifp (by omega) ?_)))))
    have e : (bb b.f0 b.f1 b.f2 b.f3 b.f4).toList == (x.extract ((a : Int)).toNat (((a + (bbx b).size : Nat) : Int)).toNat).toList := by
      rw [tn_nat, tn_nat, he]
      exact beq_self_eq_true _
    show Ev (fun _ => some ((bb b.f0 b.f1 b.f2 b.f3 b.f4).toList == (x.extract ((a : Int)).toNat (((a + (bbx b).size : Nat) : Int)).toNat).toList)) true
    rw [e]
    exact Ev.now _
theorem Batches_j2 (l : List Int) (hb : BY l) : Ev (fun k => laws_FnBatches.j0 k l) true := by
  obtain ⟨x, a', q', e1, hx, p1, p2⟩ := dlog_ev l hb 0 0 (by omega) (by omega)
  obtain ⟨o, a2, q2, e2, p3, p4⟩ := one_eq l hb a' q' 2 (by omega) (by omega) (by decide)
  have hd : ∃ a1 : Int, Ev (fun k => spec_DrawTakeBatch.f k l) (x, a1) := by
    unfold spec_DrawTakeBatch.f
    cases o with
    | true =>
      refine ⟨0, Ev.bind e1 ?_⟩
      simp only [e2, Option.bind_some]
      exact Ev.ifp trivial (Ev.now _)
    | false =>
      obtain ⟨p, a3, q3, e3, _⟩ := pick_eq l hb a2 q2 (wrap64 ((x.size : Int) + 2)) (by omega) (by omega) (by rw [wrap_id (by omega) (by omega)]; omega)
      refine ⟨wrap64 (p - 1), Ev.bind e1 ?_⟩
      dsimp only
      rw [e2, Option.bind_some]
      dsimp only
      rw [e3, Option.bind_some]
      exact Ev.ifn (by decide) (Ev.now _)
  obtain ⟨a1, hd⟩ := hd
  have hu : Ev (fun k => spec_DrawSumOf.f k l) x := by
    unfold spec_DrawSumOf.f spec_DrawReadLog.f
    exact Ev.bind (Ev.bind e1 (Ev.now _)) (Ev.now _)
  obtain ⟨b, r, f, hl, hs, hi, hf⟩ := TB_both x a1
  obtain ⟨v, c, s1, s2⟩ := SumOf_both x (by omega)
  refine Ev.succ ?_
  simp only [laws_FnBatches.j0]
  refine Ev.bind hd (Ev.bind hi (Ev.bind hs (Ev.bind hu (Ev.bind s2 (Ev.bind s1 (Ev.ifn (by simp) (Ev.ifp rfl (Ev.bind (sameB_ev b.f0 b.f1 b.f2 b.f3 b.f4 hl) (Ev.ifp rfl (Ev.ifn (by simp) (Ev.ifp rfl ?_)))))))))))
  exact Batches_tail x a1 b r f hl hf
theorem xor8 (a b : Nat) (ha : a < 256) (hb : b < 256) : Go.bits .xor .u8 (a : Int) (b : Int) = ((a ^^^ b : Nat) : Int) := by
  have hx : a ^^^ b < 2 ^ 8 := Nat.xor_lt_two_pow (by omega) (by omega)
  have h1 : (BitVec.ofInt 8 (a : Int)).toNat = a := by
    rw [BitVec.ofInt_natCast, BitVec.toNat_ofNat]
    exact Nat.mod_eq_of_lt (by omega)
  have h2 : (BitVec.ofInt 8 (b : Int)).toNat = b := by
    rw [BitVec.ofInt_natCast, BitVec.toNat_ofNat]
    exact Nat.mod_eq_of_lt (by omega)
  show IntKind.u8.wrap ((BitVec.ofInt 8 (a : Int) ^^^ BitVec.ofInt 8 (b : Int)).toNat : Int) = _
  rw [BitVec.toNat_xor, h1, h2, IntKind.wrap_u8]
  omega
theorem xor8_ne (a m : Nat) (ha : a < 256) (hm : m < 256) (h0 : 0 < m) : (a ^^^ m) % 256 ≠ a := fun e => by
  have hx : a ^^^ m < 2 ^ 8 := Nat.xor_lt_two_pow (by omega) (by omega)
  rw [Nat.mod_eq_of_lt (by omega)] at e
  have : m ^^^ a = 0 ^^^ a := by rw [Nat.xor_comm, e, Nat.zero_xor]
  have := xor_back this
  omega
def numPart (k : Nat) (x1 : List Int) (x6 : ByteArray) : Option Bool := ((laws_numberOf.f k x1).bind fun t390 => (if (x6.size : Int) = 0 then (none) else (if 0 ≤ (Int.tmod t390 (x6.size : Int)) then (if (Int.tmod t390 (x6.size : Int)) ≤ (x6.size : Int) then (if (Int.tmod t390 (x6.size : Int)) < (x6.size : Int) then ((laws_numberOf.f k x1).bind fun t391 => ((some (([Go.bits .xor .u8 (bt x6 (Int.tmod t390 (x6.size : Int))) ((wrap64 (1 + (Int.tmod t391 255))) % 256)] : List Int) : List Int)).bind fun y392 => (if (x6.extract 0 ((Int.tmod t390 (x6.size : Int)) : Int).toNat).size + (strOfNums y392).size ≤ 9223372036854775807 then (if 0 ≤ (wrap64 ((Int.tmod t390 (x6.size : Int)) + 1)) then (if (wrap64 ((Int.tmod t390 (x6.size : Int)) + 1)) ≤ (x6.size : Int) then (if ((x6.extract 0 ((Int.tmod t390 (x6.size : Int)) : Int).toNat) ++ (strOfNums y392)).size + (x6.extract ((wrap64 ((Int.tmod t390 (x6.size : Int)) + 1)) : Int).toNat x6.size).size ≤ 9223372036854775807 then ((impl_TakeBatch.f k (((x6.extract 0 ((Int.tmod t390 (x6.size : Int)) : Int).toNat) ++ (strOfNums y392)) ++ (x6.extract ((wrap64 ((Int.tmod t390 (x6.size : Int)) + 1)) : Int).toNat x6.size)) 0).bind fun bt395 => (if bt395.2.2.2.2.2.2 = true then (none) else (laws_FnBatches.j0 k x1))) else (none)) else (none)) else (none)) else (none)))) else (none)) else (none)) else (none))))
theorem Batches_j1 (l : List Int) (hb : BY l) (hl : l.length ≤ 9223372036854775807) (b : S25) (hg : GBx b) (s : ByteArray) (hs : bbx b = s) : Ev (fun k => numPart k l s) true := by
  obtain ⟨n, e1, n0, n1⟩ := num_ev l hb hl
  have hz := bbx_size b hg
  rw [hs] at hz
  have k0 : 0 ≤ Int.tmod n (s.size : Int) := Int.tmod_nonneg _ n0
  have k1 : Int.tmod n (s.size : Int) < (s.size : Int) := Int.tmod_lt_of_pos _ (by omega)
  have m0 : 0 ≤ Int.tmod n 255 := Int.tmod_nonneg _ n0
  have m1 : Int.tmod n 255 < 255 := Int.tmod_lt_of_pos _ (by decide)
  obtain ⟨i, hi⟩ := Int.eq_ofNat_of_zero_le k0
  obtain ⟨m, hm⟩ := Int.eq_ofNat_of_zero_le m0
  rw [hi] at k1
  rw [hm] at m1
  have hw1 : wrap64 (1 + (m : Int)) % 256 = ((1 + m : Nat) : Int) := by
    rw [wrap_id (by omega) (by omega)]
    omega
  have hx : Go.bits .xor .u8 (bt s (i : Int)) ((1 + m : Nat) : Int) = ((byN s i ^^^ (1 + m) : Nat) : Int) := by
    rw [bt_byN]
    exact xor8 _ _ (by have := byN_le s i; omega) (by omega)
  have hw2 : wrap64 ((i : Int) + 1) = ((i + 1 : Nat) : Int) := succ_wrap (by omega)
  unfold numPart
  refine Ev.bind e1 ?_
  simp only [hi, hw2, tn_nat]
  clear hw2 hi k0
  refine Ev.ifn (by clear hw1 hx hm; omega) (Ev.ifp (by clear hw1 hx hm; omega) (Ev.ifp (by clear hw1 hx hm; omega) (Ev.ifp (by clear hw1 hx hm; omega) (Ev.bind e1 ?_))))
  simp only [hm, hw1, hx, Option.bind_some]
  clear hw1 hx hm m0 n0 n1
  have zy : (strOfNums [((byN s i ^^^ (1 + m) : Nat) : Int)]).size = 1 := rfl
  have z1 : (s.extract 0 i).size = i := by rw [ByteArray.size_extract]; omega
  have z2 : (s.extract (i + 1) s.size).size = s.size - (i + 1) := by rw [ByteArray.size_extract]; omega
  have z3 : (s.extract 0 i ++ strOfNums [((byN s i ^^^ (1 + m) : Nat) : Int)]).size = i + 1 := by rw [ByteArray.size_append, z1, zy]
  have z4 : ((s.extract 0 i ++ strOfNums [((byN s i ^^^ (1 + m) : Nat) : Int)]) ++ s.extract (i + 1) s.size).size = s.size := by
    rw [ByteArray.size_append, z3, z2]
    omega
  have at1 : ∀ j, j < s.size → j ≠ i → byN ((s.extract 0 i ++ strOfNums [((byN s i ^^^ (1 + m) : Nat) : Int)]) ++ s.extract (i + 1) s.size) j = byN s j := fun j hj hne => by
    by_cases h : j < i
    · rw [byN_app _ _ j (by omega), byN_app _ _ j (by omega), byN_ext s 0 i j (by omega) (by omega), Nat.zero_add]
    · obtain ⟨d, rfl⟩ : ∃ d, j = (i + 1) + d := ⟨j - (i + 1), by omega⟩
      have := byN_app2 (s.extract 0 i ++ strOfNums [((byN s i ^^^ (1 + m) : Nat) : Int)]) (s.extract (i + 1) s.size) d (by omega)
      rw [z3] at this
      rw [this, byN_ext s (i + 1) s.size d (by omega) (Nat.le_refl _)]
  have at2 : byN ((s.extract 0 i ++ strOfNums [((byN s i ^^^ (1 + m) : Nat) : Int)]) ++ s.extract (i + 1) s.size) i = (byN s i ^^^ (1 + m)) % 256 := by
    have := byN_app2 (s.extract 0 i) (strOfNums [((byN s i ^^^ (1 + m) : Nat) : Int)]) 0 (by omega)
    rw [z1, Nat.add_zero] at this
    rw [byN_app _ _ i (by omega), this]
    exact byN_num _ 0 (by simp) _ rfl
  have no : ∀ c, ¬ AT ((s.extract 0 i ++ strOfNums [((byN s i ^^^ (1 + m) : Nat) : Int)]) ++ s.extract (i + 1) s.size) 0 c := fun c => by
    refine turned b c hg _ (by rw [hs]; exact z4) i (by omega) (fun j hj hne => by rw [hs]; exact at1 j (by omega) hne) ?_
    rw [at2, hs]
    exact xor8_ne _ _ (by have := byN_le s i; omega) (by omega) (by omega)
  have hT := iTB_none (a := 0) (by omega) (Nat.zero_le _) no
  refine Ev.ifp (by omega) (Ev.ifp (by omega) (Ev.ifp (by omega) (Ev.ifp (by omega) (Ev.bind hT (Ev.ifn (by decide) (Batches_j2 l hb))))))
theorem FnBatches : laws_FnBatches.Pure := by
  intro l0 l1 h0 h1
  have b0 := BY_of h0.2
  have b1 := BY_of h1.2
  have hl1 : l1.length ≤ 9223372036854775807 := h1.1
  apply Ev.rounds
  unfold laws_FnBatches.f
  by_cases hz : wrap64 ((l0.length : Int) + (l1.length : Int)) > 1048576
  · exact Ev.ifp hz (Ev.now _)
  · refine Ev.ifn hz ?_
    clear hz
    obtain ⟨o, e, p, u, l, a', q', ed, hR, _, _⟩ := dbatch_ev l0 b0 0 0 (by omega) (by omega)
    have hd : Ev (fun k => spec_DrawBatchBytes.f k l0) (o, e, p, u, l) := by
      unfold spec_DrawBatchBytes.f spec_DrawGoodBatch.f
      exact Ev.bind (Ev.bind ed (Ev.now _)) (Ev.now _)
    have hl := RB_big hR
    obtain ⟨g, hq, s1, i1, s2, i2, i3⟩ := bytes_ev o e p u l hl
    cases g with
    | false => exact Ev.bind hd (Ev.bind i1 (Ev.bind s1 (Ev.bind i2 (Ev.bind s2 (Ev.ifn (by simp) (Ev.ifp rfl (Ev.ifn (by simp) (Ev.ifp rfl (Ev.bind i3 (Ev.ifn (by simp) (Ev.ifn (by simp) (Ev.ifn (by simp) (Batches_j2 l1 b1)))))))))))))
    | true =>
      have hG : GBx ⟨o, e, p, u, l⟩ := hq.1 rfl
      have hzs := bbx_size ⟨o, e, p, u, l⟩ hG
      have i1 : Ev (fun k => impl_BatchBytes.f k o e p u l) (bbx ⟨o, e, p, u, l⟩, true) := i1
      have s1 : Ev (fun k => spec_BatchBytes.f k o e p u l) (bbx ⟨o, e, p, u, l⟩, true) := s1
      have i2 : Ev (fun _ : Nat => impl_EndOf.f o e p u l) (wrap64 (o + (l.length : Int)), true) := i2
      have s2 : Ev (fun k => spec_EndOf.f k o e p u l) (wrap64 (o + (l.length : Int)), true) := s2
      refine Ev.bind hd (Ev.bind i1 (Ev.bind s1 (Ev.bind i2 (Ev.bind s2 (Ev.ifn (by simp) (Ev.ifp rfl (Ev.ifn (by simp) (Ev.ifp rfl (Ev.bind i3 (Ev.ifn (by simp) (Ev.ifn (by simp) (Ev.ifp rfl ?_))))))))))))
      dsimp only
      have hA : AT (bbx ⟨o, e, p, u, l⟩ ++ (⟨#[120]⟩ : ByteArray)) 0 ⟨o, e, p, u, l⟩ := by
        have zx : (bbx ⟨o, e, p, u, l⟩ ++ (⟨#[120]⟩ : ByteArray)).size = (bbx ⟨o, e, p, u, l⟩).size + 1 := by rw [ByteArray.size_append]; rfl
        refine AT_back hG (by omega) ?_
        have z : ((bbx ⟨o, e, p, u, l⟩ ++ (⟨#[120]⟩ : ByteArray)).extract 0 (0 + (bbx ⟨o, e, p, u, l⟩).size)).size = (bbx ⟨o, e, p, u, l⟩).size := by rw [ByteArray.size_extract]; omega
        refine byN_eq z fun i hi => ?_
        rw [byN_ext _ 0 _ i (by omega) (by omega), Nat.zero_add, byN_app _ _ i (by omega)]
      have zx : (bbx ⟨o, e, p, u, l⟩ ++ (⟨#[120]⟩ : ByteArray)).size = (bbx ⟨o, e, p, u, l⟩).size + 1 := by rw [ByteArray.size_append]; rfl
      have hT := iTB_some (by omega) hA
      obtain ⟨P, eP, zP⟩ := bb_fin ⟨o, e, p, u, l⟩
      have zs : (bbx ⟨o, e, p, u, l⟩).size = P.size + 2 := by rw [eP, ByteArray.size_append, byt_size]
      have w2 : wrap64 (((bbx ⟨o, e, p, u, l⟩).size : Int) - 2) = ((P.size : Nat) : Int) := by rw [wrap_id (by omega) (by omega)]; omega
      have w1 : wrap64 (((bbx ⟨o, e, p, u, l⟩).size : Int) - 1) = ((P.size + 1 : Nat) : Int) := by rw [wrap_id (by omega) (by omega)]; omega
      have eX : (bbx ⟨o, e, p, u, l⟩).extract 0 P.size = P := by
        have z : ((bbx ⟨o, e, p, u, l⟩).extract 0 P.size).size = P.size := by rw [ByteArray.size_extract]; omega
        refine byN_eq z fun i hi => ?_
        rw [byN_ext _ 0 _ i (by omega) (by omega), Nat.zero_add, eP, byN_app _ _ i (by omega)]
      have hS : Ev (fun k => impl_SumOf.f k P) ((sm P : Int), true) := by
        unfold impl_SumOf.f
        exact Ev.ifn (by omega) (Ev.bind (sm_ev P (by omega)).2 (Ev.now _))
      have hlt := sm_lt P (by omega)
      have b2 := byt2 (sm P) hlt
      have c0 : byN (bbx ⟨o, e, p, u, l⟩) P.size = byN (byt (sm P : Int) 2) 0 := by
        have := byN_app2 P (byt (sm P : Int) 2) 0 (by rw [byt_size]; omega)
        rw [Nat.add_zero] at this
        rw [eP]
        exact this
      have c1 : byN (bbx ⟨o, e, p, u, l⟩) (P.size + 1) = byN (byt (sm P : Int) 2) 1 := by
        rw [eP]
        exact byN_app2 P (byt (sm P : Int) 2) 1 (by rw [byt_size]; omega)
      have l0 := byN_le (byt (sm P : Int) 2) 0
      have l1' := byN_le (byt (sm P : Int) 2) 1
      have d0 : bt (bbx ⟨o, e, p, u, l⟩) ((P.size : Nat) : Int) = ((sm P : Int) / 256) % 256 := by rw [bt_byN, c0]; omega
      have d1 : bt (bbx ⟨o, e, p, u, l⟩) ((P.size + 1 : Nat) : Int) = (sm P : Int) % 256 := by rw [bt_byN, c1]; omega
      have hj := Batches_j1 l1 b1 hl1 ⟨o, e, p, u, l⟩ hG _ rfl
      have hN : ((0 + (bbx ⟨o, e, p, u, l⟩).size : Nat) : Int) = ((bbx ⟨o, e, p, u, l⟩).size : Int) := by rw [Nat.zero_add]
      simp only [w1, w2, tn_nat, eX, d0, d1, bne_self_eq_false]
      clear w1 w2 d0 d1 eP eX b2 c0 c1
      refine Ev.ifp (by omega) (Ev.bind hT (Ev.ifp (by omega) (Ev.ifp (by omega) (Ev.bind hS (Ev.ifp rfl (Ev.ifp hN (Ev.bind (sameB_ev o e p u l hl) (Ev.ifp rfl (Ev.ifp trivial (Ev.ifp rfl (Ev.ifp (by omega) (Ev.ifp rfl (Ev.ifp (by omega) (Ev.ifp (by omega) (Ev.ifp rfl hj)))))))))))))))


end Go.Proofs.Ytjjhebkkpeapkaa.Pure
