/- Survives of the program answers as the reference's, for all groups and failed members. Conditions: none but the statement's own. -/
import Derived.Test.YtnjjkbdpoolkpaaQFnExactSurvivesx3
namespace Go.Proofs.Ytnjjkbdpoolkpaa.Pure
open Go.RowKit Go.Proofs.Ytnjjkbdpoolkpaa.QFnExactSurvives Go.Proofs.YtnjjkbdpoolkpaaW.PrintWords Go.Proofs.YtnjjkbdpoolkpaaW.PrintLast Go.Proofs.YtnjjkbdpoolkpaaW.PrintMore
set_option linter.unusedVariables false
set_option linter.unusedSimpArgs false
/-! #### words -/
theorem Ev.succ {α : Type} {g : Nat → Option α} {r : α} (k : Ev (fun n => g (n + 1)) r) : Ev g r := Ev.step (fun _ => rfl) k
theorem Ev.ifp {α : Type} {c : Prop} [Decidable c] {f g : Nat → Option α} {r : α} (h : c) (k : Ev f r) : Ev (fun n => if c then f n else g n) r := Ev.congr (fun n => if_pos h) k
theorem Ev.ifn {α : Type} {c : Prop} [Decidable c] {f g : Nat → Option α} {r : α} (h : ¬ c) (k : Ev g r) : Ev (fun n => if c then f n else g n) r := Ev.congr (fun n => if_neg h) k
theorem Ev.uniq {α : Type} {g : Nat → Option α} {r q : α} (h : Ev g r) (k : Ev g q) : r = q := by
  obtain ⟨a, ha⟩ := h
  obtain ⟨b, hb⟩ := k
  have h1 := ha (max a b) (Nat.le_max_left _ _)
  have h2 := hb (max a b) (Nat.le_max_right _ _)
  rw [h1] at h2
  exact Option.some.inj h2
/-- It answers a Bool that tells whether Q. -/
def EvB (g : Nat → Option Bool) (Q : Prop) : Prop := ∃ b : Bool, Ev g b ∧ (b = true ↔ Q)
theorem EvB.step {g f : Nat → Option Bool} {Q : Prop} (h : ∀ k, g (k + 1) = f k) (k : EvB f Q) : EvB g Q := by
  obtain ⟨b, hb, hq⟩ := k
  exact ⟨b, Ev.step h hb, hq⟩
theorem EvB.iff {g : Nat → Option Bool} {Q R : Prop} (k : EvB g Q) (h : Q ↔ R) : EvB g R := by
  obtain ⟨b, hb, hq⟩ := k
  exact ⟨b, hb, hq.trans h⟩
theorem EvB.no {g : Nat → Option Bool} {Q : Prop} (h : ∀ k, g (k + 1) = some false) (hq : ¬ Q) : EvB g Q := ⟨false, Ev.step (f := fun _ => some false) h (Ev.now _), Iff.intro (fun h => by cases h) (fun h => absurd h hq)⟩
theorem EvB.yes {g : Nat → Option Bool} {Q : Prop} (h : ∀ k, g (k + 1) = some true) (hq : Q) : EvB g Q := ⟨true, Ev.step (f := fun _ => some true) h (Ev.now _), ⟨fun _ => hq, fun _ => rfl⟩⟩
theorem EvB.ev {g : Nat → Option Bool} {Q : Prop} [Decidable Q] (k : EvB g Q) : Ev g (decide Q) := by
  obtain ⟨b, hb, hq⟩ := k
  have : b = decide Q := by
    by_cases h : Q
    · rw [hq.2 h, decide_eq_true h]
    · rw [decide_eq_false h]
      cases b with
      | false => rfl
      | true => exact absurd (hq.1 rfl) h
  rw [← this]
  exact hb
theorem EvB.get {g : Nat → Option Bool} {Q : Prop} (k : EvB g Q) (h : Q) : Ev g true := by
  obtain ⟨b, hb, hq⟩ := k
  rw [← hq.2 h]
  exact hb
theorem EvB.not {g : Nat → Option Bool} {Q : Prop} (k : EvB g Q) (h : ¬ Q) : Ev g false := by
  obtain ⟨b, hb, hq⟩ := k
  cases b with
  | false => exact hb
  | true => exact absurd (hq.1 rfl) h
theorem wrap_id {x : Int} (h0 : -9223372036854775808 ≤ x) (h1 : x ≤ 9223372036854775807) : wrap64 x = x := by
  unfold wrap64
  omega
theorem succ_wrap {i : Nat} (h : i ≤ 9000000000000000000) : wrap64 ((i : Int) + 1) = ((i + 1 : Nat) : Int) := by
  rw [wrap_id (by omega) (by omega)]
  omega
theorem pred_wrap {i : Nat} (h0 : 0 < i) (h : i ≤ 9000000000000000000) : wrap64 ((i : Int) - 1) = ((i - 1 : Nat) : Int) := by
  rw [wrap_id (by omega) (by omega)]
  omega
theorem pred_zero : wrap64 (((0 : Nat) : Int) - 1) = -1 := by
  unfold wrap64
  omega
theorem rd_nat (l : List Int) (i : Nat) : rd l (i : Int) = l.getD i 0 := rfl
theorem tn_nat (i : Nat) : ((i : Int)).toNat = i := rfl
theorem len_nat {α : Type} (l : List α) {k : Nat} (h : l.length ≤ k) : ¬ ((l.length : Int) > (k : Int)) := by omega

/-- A list is made, element by element. -/
theorem conv_ev {β : Type} (n : Nat) (F : List β → Nat → Nat → Option (List β)) (c : Nat → β) (h1 : ∀ x : List β, x.length = n → Ev (F x n) x)
    (h2 : ∀ (x : List β) (i : Nat), i < n → x.length = n → ∀ r, Ev (F (x.set i (c i)) (i + 1)) r → Ev (F x i) r) : ∀ x0 : List β, x0.length = n → Ev (F x0 0) ((List.range n).map c) := by
  have key : ∀ d i (x : List β), i + d = n → x.length = n → Ev (F x i) (x.take i ++ (List.range d).map fun j => c (i + j)) := by
    intro d
    induction d with
    | zero =>
      intro i x hd hx
      have hi : i = n := by omega
      subst hi
      have : x.take i ++ (List.range 0).map (fun j => c (i + j)) = x := by
        rw [List.take_of_length_le (by omega)]
        simp
      rw [this]
      exact h1 x hx
    | succ d ih =>
      intro i x hd hx
      have hi : i < n := by omega
      have := ih (i + 1) (x.set i (c i)) (by omega) (by rw [List.length_set]; exact hx)
      have e : (x.set i (c i)).take (i + 1) ++ (List.range d).map (fun j => c (i + 1 + j)) = x.take i ++ (List.range (d + 1)).map (fun j => c (i + j)) := by
        rw [List.range_succ_eq_map, List.map_cons, List.map_map]
        have ht : (x.set i (c i)).take (i + 1) = x.take i ++ [c i] := by
          rw [List.take_succ_eq_append_getElem (by rw [List.length_set]; omega)]
          rw [List.take_set_of_le (Nat.le_refl _), List.getElem_set_self]
        rw [ht, List.append_assoc]
        congr 1
        rw [List.singleton_append]
        congr 1
        apply List.map_congr_left
        intro j _
        show c (i + 1 + j) = c (i + (j + 1))
        congr 1
        omega
      rw [e] at this
      exact h2 x i hi hx _ this
  intro x0 hx0
  have := key n 0 x0 (by omega) hx0
  rw [List.take_zero, List.nil_append] at this
  have e : (fun j => c (0 + j)) = c := by
    funext j
    rw [Nat.zero_add]
  rw [e] at this
  exact this

/-- Two rows are held against each other, element by element. -/
theorem all_ev (n : Nat) (F : Nat → Nat → Option Bool) (h1 : Ev (F n) true) (h2 : ∀ i, i < n → Ev (F (i + 1)) true → Ev (F i) true) : Ev (F 0) true := by
  have key : ∀ d i, i + d = n → Ev (F i) true := by
    intro d
    induction d with
    | zero =>
      intro i hd
      have hi : i = n := by omega
      subst hi
      exact h1
    | succ d ih =>
      intro i hd
      exact h2 i (by omega) (ih (i + 1) (by omega))
  exact key n 0 (by omega)

/-- The elements are numbered through; and so they are found. -/
def markL {β : Type} (mk : β → Nat → β) (cnt : β → Nat) : List β → Nat → List β
  | [], _ => []
  | b :: r, m => mk b m :: markL mk cnt r (m + cnt b)
def cntL {β : Type} (cnt : β → Nat) : List β → Nat
  | [] => 0
  | b :: r => cnt b + cntL cnt r
theorem markL_length {β : Type} (mk : β → Nat → β) (cnt : β → Nat) : ∀ (l : List β) (m : Nat), (markL mk cnt l m).length = l.length
  | [], _ => rfl
  | b :: r, m => by
    show (markL mk cnt r _).length + 1 = r.length + 1
    rw [markL_length mk cnt r]
theorem cntL_le {β : Type} (cnt : β → Nat) (c : Nat) : ∀ l : List β, (∀ b ∈ l, cnt b ≤ c) → cntL cnt l ≤ c * l.length
  | [], _ => Nat.zero_le _
  | b :: r, h => by
    have h1 := cntL_le cnt c r (fun x hx => h x (List.mem_cons_of_mem _ hx))
    have h2 := h b List.mem_cons_self
    show cnt b + cntL cnt r ≤ c * (r.length + 1)
    rw [Nat.mul_add, Nat.mul_one]
    omega
theorem mark_ev {β : Type} (z : β) (mk : β → Nat → β) (cnt : β → Nat) (B n : Nat) (F : List β → Nat → Nat → Nat → Option (Int × List β)) (h1 : ∀ (x : List β) (m : Nat), x.length = n → Ev (F x m n) ((m : Int), x))
    (h2 : ∀ (x : List β) (m i : Nat), x.length = n → i < n → m + cnt (x.getD i z) ≤ B → ∀ r, Ev (F (x.set i (mk (x.getD i z) m)) (m + cnt (x.getD i z)) (i + 1)) r → Ev (F x m i) r) :
    ∀ (x : List β) (m : Nat), x.length = n → m + cntL cnt x ≤ B → Ev (F x m 0) (((m + cntL cnt x : Nat) : Int), markL mk cnt x m) := by
  have key : ∀ (rest done : List β) (m : Nat), done.length + rest.length = n → m + cntL cnt rest ≤ B → Ev (F (done ++ rest) m done.length) (((m + cntL cnt rest : Nat) : Int), done ++ markL mk cnt rest m) := by
    intro rest
    induction rest with
    | nil =>
      intro done m hn _
      have hn' : done.length = n := hn
      have := h1 done m hn'
      rw [← hn'] at this
      rw [List.append_nil]
      show Ev _ (((m + 0 : Nat) : Int), done ++ [])
      rw [List.append_nil]
      exact this
    | cons b r ih =>
      intro done m hn hm
      have hn' : done.length + (r.length + 1) = n := hn
      have hm' : m + (cnt b + cntL cnt r) ≤ B := hm
      have hg : (done ++ b :: r).getD done.length z = b := by simp [List.getD]
      have hs : (done ++ b :: r).set done.length (mk b m) = (done ++ [mk b m]) ++ r := by simp [List.set_append]
      have := ih (done ++ [mk b m]) (m + cnt b) (by rw [List.length_append, List.length_singleton]; omega) (by omega)
      refine h2 _ m done.length (by simp; omega) (by omega) (by rw [hg]; omega) _ ?_
      rw [hg, hs]
      rw [List.length_append, List.length_singleton] at this
      have e : m + cnt b + cntL cnt r = m + (cnt b + cntL cnt r) := by omega
      have e2 : done ++ [mk b m] ++ markL mk cnt r (m + cnt b) = done ++ (mk b m :: markL mk cnt r (m + cnt b)) := by rw [List.append_assoc, List.singleton_append]
      rw [e, e2] at this
      exact this
  intro x m hn hm
  exact key x [] m (by simpa using hn) hm
theorem held_ev {β : Type} (z : β) (mk : β → Nat → β) (cnt : β → Nat) (B n : Nat) (H : List β → Nat → Nat → Nat → Option Int) (h1 : ∀ (x : List β) (m : Nat), x.length = n → Ev (H x m n) (m : Int))
    (h2 : ∀ (x : List β) (m i : Nat) (b : β), x.length = n → i < n → x.getD i z = mk b m → m + cnt b ≤ B → ∀ r, Ev (H x (m + cnt b) (i + 1)) r → Ev (H x m i) r) :
    ∀ (x : List β) (m : Nat), x.length = n → m + cntL cnt x ≤ B → Ev (H (markL mk cnt x m) m 0) ((m + cntL cnt x : Nat) : Int) := by
  have key : ∀ (rest done : List β) (m : Nat), done.length + rest.length = n → m + cntL cnt rest ≤ B → Ev (H (done ++ markL mk cnt rest m) m done.length) ((m + cntL cnt rest : Nat) : Int) := by
    intro rest
    induction rest with
    | nil =>
      intro done m hn _
      have hn' : done.length = n := hn
      have := h1 done m hn'
      rw [← hn'] at this
      show Ev (H (done ++ []) m done.length) _
      rw [List.append_nil]
      exact this
    | cons b r ih =>
      intro done m hn hm
      have hn' : done.length + (r.length + 1) = n := hn
      have hm' : m + (cnt b + cntL cnt r) ≤ B := hm
      have := ih (done ++ [mk b m]) (m + cnt b) (by rw [List.length_append, List.length_singleton]; omega) (by omega)
      show Ev (H (done ++ (mk b m :: markL mk cnt r (m + cnt b))) m done.length) _
      refine h2 _ m done.length b (by simp [markL_length]; omega) (by omega) (by simp [List.getD]) (by omega) _ ?_
      rw [List.length_append, List.length_singleton, List.append_assoc, List.singleton_append] at this
      have e : m + cnt b + cntL cnt r = m + (cnt b + cntL cnt r) := by omega
      rw [e] at this
      exact this
  intro x m hn hm
  exact key x [] m (by simpa using hn) hm

theorem map_range_getD {α β : Type} (l : List α) (z : α) (f : α → β) : (List.range l.length).map (fun i => f (l.getD i z)) = l.map f := by
  apply List.ext_getElem
  · simp
  · intro i h1 h2
    simp at h1 h2
    simp [h2]
theorem map_range_self {α : Type} (l : List α) (z : α) : (List.range l.length).map (fun i => l.getD i z) = l := by
  have := map_range_getD l z id
  simpa using this
theorem getD_mem {α : Type} {l : List α} {i : Nat} (h : i < l.length) (z : α) : l.getD i z ∈ l := by
  rw [List.getD_eq_getElem?_getD, List.getElem?_eq_getElem h, Option.getD_some]
  exact List.getElem_mem h

theorem iin (a b c : Int) : impl_in.f a b c = some (decide (b ≤ a ∧ a ≤ c)) := by
  unfold impl_in.f
  by_cases h : a ≥ b
  · rw [if_pos h]
    have e : (b ≤ a ∧ a ≤ c) ↔ a ≤ c := ⟨fun h => h.2, fun h' => ⟨h, h'⟩⟩
    simp only [e]
  · rw [if_neg h, decide_eq_false]
    intro h'
    exact h h'.1

theorem EvB.and {P Q : Prop} [Decidable P] {g : Nat → Option Bool} (h : EvB g Q) : EvB (fun k => if decide P = true then g k else some false) (P ∧ Q) := by
  obtain ⟨b, hb, hq⟩ := h
  by_cases hp : P
  · exact ⟨b, Ev.ifp (by rw [decide_eq_true hp]) hb, ⟨fun h => ⟨hp, hq.1 h⟩, fun h => hq.2 h.2⟩⟩
  · exact ⟨false, Ev.ifn (by rw [decide_eq_false hp]; decide) (Ev.now _), Iff.intro (fun h => by cases h) (fun h => absurd h.1 hp)⟩
theorem EvB.dec {P : Prop} [Decidable P] : EvB (fun _ => some (decide P)) P := ⟨decide P, Ev.now _, decide_eq_true_iff⟩
theorem both {g f : Nat → Option Bool} {Q : Prop} (h : EvB g Q) (k : EvB f Q) : ∃ b : Bool, Ev g b ∧ Ev f b ∧ (b = true ↔ Q) := by
  obtain ⟨b, hb, hq⟩ := h
  obtain ⟨c, hc, hr⟩ := k
  obtain rfl : c = b := Bool.eq_iff_iff.2 (hr.trans hq.symm)
  exact ⟨c, hb, hc, hq⟩

/-! #### weights of members, told by bits -/
theorem wraps_i64 (n : Int) (h₀ : 0 ≤ n) (h₁ : n < 2 ^ 62) : IntKind.i64.wrap n = n := by
  rw [IntKind.wrap_i64]
  omega
theorem and_one (x : Nat) (h : x < 2 ^ 62) : Go.bits .and .i64 (x : Int) 1 = ((x % 2 : Nat) : Int) := by
  have := bits_mask .i64 62 (by decide) wraps_i64 1 (by decide) (x : Int) (by omega) (by omega)
  have e : ((2 : Int) ^ 1 - 1) = 1 := by decide
  rw [e] at this
  rw [this]
  omega
theorem or_nat (a b : Nat) (ha : a < 2 ^ 62) (hb : b < 2 ^ 62) : Go.bits .or .i64 (a : Int) (b : Int) = ((a ||| b : Nat) : Int) := (bits_nat .i64 62 (by decide) wraps_i64 a b ha hb).2
theorem shr_nat (x i : Nat) (h : i ≤ 64) : shr .i64 (x : Int) (i : Int) = ((x / 2 ^ i : Nat) : Int) := by
  unfold shr
  have e : min ((i : Int)).toNat IntKind.i64.bits = i := by
    rw [tn_nat]
    exact Nat.min_eq_left h
  have e2 : ((2 : Int) ^ i) = ((2 ^ i : Nat) : Int) := by simp
  rw [e, e2, ← Int.natCast_ediv]
theorem shl_nat (i : Nat) (h : i ≤ 60) : shl .i64 1 (i : Int) = ((2 ^ i : Nat) : Int) := by
  unfold shl
  have e : min ((i : Int)).toNat IntKind.i64.bits = i := by
    rw [tn_nat]
    exact Nat.min_eq_left (Nat.le_trans h (by decide))
  rw [e, Int.one_mul]
  have h1 : 2 ^ i ≤ 2 ^ 60 := Nat.pow_le_pow_right (by decide) h
  have e2 : ((2 : Int) ^ i) = ((2 ^ i : Nat) : Int) := by simp
  rw [e2]
  exact wraps_i64 _ (Int.natCast_nonneg _) (by omega)
theorem bit_nat (x i : Nat) (h : x < 2 ^ 62) (hi : i ≤ 64) : Go.bits .and .i64 (shr .i64 (x : Int) (i : Int)) 1 = 1 ↔ x.testBit i = true := by
  rw [shr_nat x i hi, and_one _ (Nat.lt_of_le_of_lt (Nat.div_le_self _ _) h), Nat.testBit_eq_decide_div_mod_eq, decide_eq_true_iff]
  omega
theorem and_nat (a b : Nat) (ha : a < 2 ^ 62) (hb : b < 2 ^ 62) : Go.bits .and .i64 (a : Int) (b : Int) = ((a &&& b : Nat) : Int) := (bits_nat .i64 62 (by decide) wraps_i64 a b ha hb).1

/-! #### a group of members: in range and rising -/
def GRP (g : List Int) (n : Int) (i : Nat) : Prop := ∀ j, i ≤ j → j < g.length → 0 ≤ g.getD j 0 ∧ g.getD j 0 < n ∧ (0 < j → g.getD (j - 1) 0 < g.getD j 0)
theorem GRP_step (g : List Int) (n : Int) (i : Nat) (h0 : 0 ≤ g.getD i 0) (h1 : g.getD i 0 < n) (h2 : 0 < i → g.getD (i - 1) 0 < g.getD i 0) : GRP g n (i + 1) ↔ GRP g n i := by
  refine ⟨fun h j h3 h4 => ?_, fun h j h3 h4 => h j (by omega) h4⟩
  by_cases e : j = i
  · rw [e]
    exact ⟨h0, h1, h2⟩
  · exact h j (by omega) h4
theorem pred_cast {i : Nat} (h : 0 < i) (hb : i ≤ 1048576) : wrap64 ((i : Int) - 1) = ((i - 1 : Nat) : Int) := by
  rw [wrap_id (by omega) (by omega)]
  omega
theorem sG_l (g : List Int) (n : Int) (hl : g.length ≤ 1048576) : ∀ d i : Nat, i + d = g.length → EvB (fun k => spec_l6Group.l0 k g n g (g.length : Int) (i : Int)) (GRP g n i)
  | 0, i, hd => by
    refine EvB.yes (fun k => ?_) (fun j h1 h2 => by omega)
    rw [spec_l6Group.l0, if_neg (by omega)]
  | d + 1, i, hd => by
    by_cases h0 : 0 ≤ g.getD i 0
    · by_cases h1 : g.getD i 0 < n
      · by_cases hi : 0 < i
        · by_cases h2 : g.getD (i - 1) 0 < g.getD i 0
          · refine EvB.step (fun k => ?_) (EvB.iff (sG_l g n hl d (i + 1) (by omega)) (GRP_step g n i h0 h1 (fun _ => h2)))
            show spec_l6Group.l0 (k + 1) g n g (g.length : Int) (i : Int) = spec_l6Group.l0 k g n g (g.length : Int) ((i + 1 : Nat) : Int)
            rw [spec_l6Group.l0, pred_cast hi (by omega), rd_nat, rd_nat, if_pos (by omega), if_pos (by omega), if_pos (by omega), if_neg (by omega), if_neg (by omega), if_pos (by omega), if_pos (by omega), if_pos (by omega), if_neg (by omega), succ_wrap (by omega)]
          · refine EvB.no (fun k => ?_) (fun h => h2 ((h i (Nat.le_refl _) (by omega)).2.2 hi))
            rw [spec_l6Group.l0, pred_cast hi (by omega), rd_nat, rd_nat, if_pos (by omega), if_pos (by omega), if_pos (by omega), if_neg (by omega), if_neg (by omega), if_pos (by omega), if_pos (by omega), if_pos (by omega), if_pos (by omega)]
        · refine EvB.step (fun k => ?_) (EvB.iff (sG_l g n hl d (i + 1) (by omega)) (GRP_step g n i h0 h1 (fun h => absurd h hi)))
          show spec_l6Group.l0 (k + 1) g n g (g.length : Int) (i : Int) = spec_l6Group.l0 k g n g (g.length : Int) ((i + 1 : Nat) : Int)
          rw [spec_l6Group.l0, rd_nat, if_pos (by omega), if_pos (by omega), if_pos (by omega), if_neg (by omega), if_neg (by omega), if_neg (by omega), succ_wrap (by omega)]
      · refine EvB.no (fun k => ?_) (fun h => h1 (h i (Nat.le_refl _) (by omega)).2.1)
        rw [spec_l6Group.l0, rd_nat, if_pos (by omega), if_pos (by omega), if_pos (by omega), if_neg (by omega), if_pos (by omega)]
    · refine EvB.no (fun k => ?_) (fun h => h0 (h i (Nat.le_refl _) (by omega)).1)
      rw [spec_l6Group.l0, rd_nat, if_pos (by omega), if_pos (by omega), if_pos (by omega), if_pos (by omega)]
theorem sG_ev (g : List Int) (n : Int) (hl : g.length ≤ 1048576) : EvB (fun k => spec_l6Group.f k g n) (GRP g n 0) := sG_l g n hl g.length 0 (by omega)
theorem iG_l (g : List Int) (n : Int) (hn : 0 ≤ n ∧ n ≤ 1048576) (hl : g.length ≤ 1048576) : ∀ d i : Nat, i + d = g.length → EvB (fun k => impl_areMembers.l0 k g n g (g.length : Int) (i : Int)) (GRP g n i)
  | 0, i, hd => by
    refine EvB.yes (fun k => ?_) (fun j h1 h2 => by omega)
    rw [impl_areMembers.l0, if_neg (by omega)]
  | d + 1, i, hd => by
    have hw : wrap64 (n - 1) = n - 1 := wrap_id (by omega) (by omega)
    by_cases h0 : 0 ≤ g.getD i 0 ∧ g.getD i 0 ≤ n - 1
    · by_cases hi : 0 < i
      · by_cases h2 : g.getD (i - 1) 0 < g.getD i 0
        · refine EvB.step (fun k => ?_) (EvB.iff (iG_l g n hn hl d (i + 1) (by omega)) (GRP_step g n i h0.1 (by omega) (fun _ => h2)))
          show impl_areMembers.l0 (k + 1) g n g (g.length : Int) (i : Int) = impl_areMembers.l0 k g n g (g.length : Int) ((i + 1 : Nat) : Int)
          rw [impl_areMembers.l0, pred_cast hi (by omega), rd_nat, rd_nat, iin, hw, decide_eq_true h0, Option.bind_some, if_pos (by omega), if_pos (by omega), if_pos (by omega), if_pos rfl, if_pos (by omega), if_pos (by omega), if_pos (by omega), if_neg (by omega), succ_wrap (by omega)]
        · refine EvB.no (fun k => ?_) (fun h => h2 ((h i (Nat.le_refl _) (by omega)).2.2 hi))
          rw [impl_areMembers.l0, pred_cast hi (by omega), rd_nat, rd_nat, iin, hw, decide_eq_true h0, Option.bind_some, if_pos (by omega), if_pos (by omega), if_pos (by omega), if_pos rfl, if_pos (by omega), if_pos (by omega), if_pos (by omega), if_pos (by omega)]
      · refine EvB.step (fun k => ?_) (EvB.iff (iG_l g n hn hl d (i + 1) (by omega)) (GRP_step g n i h0.1 (by omega) (fun h => absurd h hi)))
        show impl_areMembers.l0 (k + 1) g n g (g.length : Int) (i : Int) = impl_areMembers.l0 k g n g (g.length : Int) ((i + 1 : Nat) : Int)
        rw [impl_areMembers.l0, rd_nat, iin, hw, decide_eq_true h0, Option.bind_some, if_pos (by omega), if_pos (by omega), if_pos (by omega), if_pos rfl, if_neg (by omega), succ_wrap (by omega)]
    · refine EvB.no (fun k => ?_) (fun h => h0 ?_)
      · rw [impl_areMembers.l0, rd_nat, iin, hw, decide_eq_false h0, Option.bind_some, if_pos (by omega), if_pos (by omega), if_pos (by omega), if_neg (by decide)]
      · have := h i (Nat.le_refl _) (by omega)
        exact ⟨this.1, by omega⟩
theorem iG_ev (g : List Int) (n : Int) (hn : 0 ≤ n ∧ n ≤ 1048576) (hl : g.length ≤ 1048576) : EvB (fun k => impl_areMembers.f k g n) (GRP g n 0) := iG_l g n hn hl g.length 0 (by omega)
theorem GRP_up (g : List Int) (n : Int) (h : GRP g n 0) : ∀ i, i < g.length → ∀ j, j < i → g.getD j 0 < g.getD i 0
  | 0, _, j, hj => by omega
  | i + 1, hi, j, hj => by
    have h1 := (h (i + 1) (Nat.zero_le _) hi).2.2 (by omega)
    rw [Nat.add_sub_cancel] at h1
    by_cases e : j = i
    · rw [e]
      exact h1
    · have := GRP_up g n h i (by omega) j (by omega)
      omega
/-- The bits of the first i members of a group. -/
def mk (g : List Int) : Nat → Nat
  | 0 => 0
  | i + 1 => mk g i ||| 2 ^ (g.getD i 0).toNat
theorem mk_lt (g : List Int) (n : Int) (h : GRP g n 0) (m : Nat) : ∀ i, i ≤ g.length → (∀ j, j < i → g.getD j 0 < (m : Int)) → mk g i < 2 ^ m
  | 0, _, _ => Nat.pow_pos (by decide)
  | i + 1, hi, hm => by
    rw [mk]
    refine Nat.or_lt_two_pow (mk_lt g n h m i (by omega) (fun j hj => hm j (by omega))) (Nat.pow_lt_pow_right (by decide) ?_)
    have := hm i (by omega)
    have := (h i (Nat.zero_le _) (by omega)).1
    omega
theorem mask_l (g : List Int) (n : Nat) (hn : n ≤ 7) (hl : g.length ≤ 1048576) (h : GRP g (n : Int) 0) : ∀ d i : Nat, i + d = g.length → Ev (fun k => impl_maskOf.l0 k (mk g i : Nat) g (g.length : Int) (i : Int)) ((mk g g.length : Nat) : Int)
  | 0, i, hd => by
    have e : i = g.length := by omega
    subst e
    exact Ev.step (f := fun _ => some ((mk g g.length : Nat) : Int)) (fun k => by rw [impl_maskOf.l0, if_neg (by omega)]) (Ev.now _)
  | d + 1, i, hd => by
    have hg := h i (Nat.zero_le _) (by omega)
    have hm : mk g i < 2 ^ 7 := mk_lt g _ h 7 i (by omega) (fun j hj => by
      have := (h j (Nat.zero_le _) (by omega)).2.1
      omega)
    have hp : 2 ^ (g.getD i 0).toNat < 2 ^ 7 := Nat.pow_lt_pow_right (by decide) (by omega)
    refine Ev.step (fun k => ?_) (mask_l g n hn hl h d (i + 1) (by omega))
    show impl_maskOf.l0 (k + 1) (mk g i : Nat) g (g.length : Int) (i : Int) = impl_maskOf.l0 k (mk g (i + 1) : Nat) g (g.length : Int) ((i + 1 : Nat) : Int)
    have e : shl .i64 1 (g.getD i 0) = ((2 ^ (g.getD i 0).toNat : Nat) : Int) := by
      have := shl_nat (g.getD i 0).toNat (by omega)
      rwa [Int.toNat_of_nonneg hg.1] at this
    rw [impl_maskOf.l0, rd_nat, e, or_nat _ _ (Nat.lt_trans hm (by decide)) (Nat.lt_trans hp (by decide)), if_pos (by omega), if_pos (by omega), if_pos (by omega), if_pos (by omega), succ_wrap (by omega), mk]
theorem mask_ev (g : List Int) (n : Nat) (hn : n ≤ 7) (hl : g.length ≤ 1048576) (h : GRP g (n : Int) 0) : Ev (fun k => impl_maskOf.f k g) ((mk g g.length : Nat) : Int) := mask_l g n hn hl h g.length 0 (by omega)

theorem EvB.andThen {g f : Nat → Option Bool} {P Q : Prop} (h : EvB g P) (k : P → EvB f Q) : EvB (fun n => (g n).bind fun t => if t = true then f n else some false) (P ∧ Q) := by
  obtain ⟨b, hb, hp⟩ := h
  cases b with
  | true =>
    obtain ⟨c, hc, hq⟩ := k (hp.1 rfl)
    exact ⟨c, Ev.bind hb (Ev.ifp rfl hc), ⟨fun h => ⟨hp.1 rfl, hq.1 h⟩, fun h => hq.2 h.2⟩⟩
  | false => exact ⟨false, Ev.bind hb (Ev.ifn (by decide) (Ev.now _)), Iff.intro (fun h => by cases h) (fun h => absurd (hp.2 h.1) (by decide))⟩

theorem EvB.orThen {g f : Nat → Option Bool} {P Q : Prop} (h : EvB g P) (k : ¬ P → EvB f Q) : EvB (fun n => (g n).bind fun t => if t = true then some true else f n) (P ∨ Q) := by
  obtain ⟨b, hb, hp⟩ := h
  cases b with
  | true => exact ⟨true, Ev.bind hb (Ev.ifp rfl (Ev.now _)), ⟨fun _ => .inl (hp.1 rfl), fun _ => rfl⟩⟩
  | false =>
    have hn : ¬ P := fun h => absurd (hp.2 h) (by decide)
    obtain ⟨c, hc, hq⟩ := k hn
    exact ⟨c, Ev.bind hb (Ev.ifn (by decide) hc), ⟨fun h => .inr (hq.1 h), fun h => hq.2 (h.resolve_left hn)⟩⟩
theorem EvB.notThen {g f : Nat → Option Bool} {P Q : Prop} (h : EvB g P) (k : ¬ P → EvB f Q) : EvB (fun n => (g n).bind fun t => if t = true then some false else f n) (¬ P ∧ Q) := by
  obtain ⟨b, hb, hp⟩ := h
  cases b with
  | true => exact ⟨false, Ev.bind hb (Ev.ifp rfl (Ev.now _)), Iff.intro (fun h => by cases h) (fun h => absurd (hp.1 rfl) h.1)⟩
  | false =>
    have hn : ¬ P := fun h => absurd (hp.2 h) (by decide)
    obtain ⟨c, hc, hq⟩ := k hn
    exact ⟨c, Ev.bind hb (Ev.ifn (by decide) hc), ⟨fun h => ⟨hn, hq.1 h⟩, fun h => hq.2 h.2⟩⟩
/-- A loop that asks all: Q of each, and at the end E. -/
theorem all_evB (n : Nat) (F : Nat → Nat → Option Bool) (Q : Nat → Prop) (E : Prop) (h1 : EvB (F n) E) (h2 : ∀ i, i < n → ∀ R, EvB (F (i + 1)) R → EvB (F i) (Q i ∧ R)) : EvB (F 0) ((∀ i, i < n → Q i) ∧ E) := by
  have key : ∀ d i, i + d = n → EvB (F i) ((∀ j, i ≤ j → j < n → Q j) ∧ E) := by
    intro d
    induction d with
    | zero =>
      intro i hd
      have hi : i = n := by omega
      subst hi
      exact h1.iff ⟨fun h => ⟨fun j h1 h2 => by omega, h⟩, fun h => h.2⟩
    | succ d ih =>
      intro i hd
      refine (h2 i (by omega) _ (ih (i + 1) (by omega))).iff ⟨fun h => ⟨fun j h3 h4 => ?_, h.2.2⟩, fun h => ⟨h.1 i (Nat.le_refl _) (by omega), fun j h3 h4 => h.1 j (by omega) h4, h.2⟩⟩
      by_cases e : j = i
      · rw [e]
        exact h.1
      · exact h.2.1 j (by omega) h4
  exact (key n 0 (by omega)).iff ⟨fun h => ⟨fun i hi => h.1 i (Nat.zero_le _) hi, h.2⟩, fun h => ⟨fun j _ hj => h.1 j hj, h.2⟩⟩
/-- A loop that looks for one. -/
theorem any_evB (n : Nat) (F : Nat → Nat → Option Bool) (Q : Nat → Prop) (h1 : EvB (F n) False) (h2 : ∀ i, i < n → ∀ R, EvB (F (i + 1)) R → EvB (F i) (Q i ∨ R)) : EvB (F 0) (∃ i, i < n ∧ Q i) := by
  have key : ∀ d i, i + d = n → EvB (F i) (∃ j, i ≤ j ∧ j < n ∧ Q j) := by
    intro d
    induction d with
    | zero =>
      intro i hd
      have hi : i = n := by omega
      subst hi
      exact h1.iff ⟨fun h => h.elim, fun ⟨j, h1, h2, _⟩ => by omega⟩
    | succ d ih =>
      intro i hd
      refine (h2 i (by omega) _ (ih (i + 1) (by omega))).iff ⟨fun h => ?_, fun ⟨j, h3, h4, h5⟩ => ?_⟩
      · rcases h with h | ⟨j, h3, h4, h5⟩
        · exact ⟨i, Nat.le_refl _, by omega, h⟩
        · exact ⟨j, by omega, h4, h5⟩
      · by_cases e : j = i
        · rw [e] at h5
          exact .inl h5
        · exact .inr ⟨j, by omega, h4, h5⟩
  exact (key n 0 (by omega)).iff ⟨fun ⟨j, _, h2, h3⟩ => ⟨j, h2, h3⟩, fun ⟨j, h2, h3⟩ => ⟨j, Nat.zero_le _, h2, h3⟩⟩

/-! #### []int -/
theorem toIntS_ev (l : List Int) (hl : l.length ≤ 1048576) : Ev (fun k => laws_toIntS.f k l) l := by
  have h := conv_ev l.length (fun x i k => laws_toIntS.l0 k l x (i : Int)) (fun i => l.getD i 0)
    (fun x hx => Ev.step (f := fun _ => some x) (fun k => by
      show laws_toIntS.l0 (k + 1) l x ((l.length : Nat) : Int) = some x
      rw [laws_toIntS.l0, if_neg (by omega)]) (Ev.now _))
    (fun x i hi hx r hr => Ev.step (fun k => by
      show laws_toIntS.l0 (k + 1) l x (i : Int) = laws_toIntS.l0 k l (x.set i (l.getD i 0)) ((i + 1 : Nat) : Int)
      rw [laws_toIntS.l0, if_pos (by omega), if_pos (by omega), if_pos (by omega), succ_wrap (by omega)]
      rfl) hr)
    (List.replicate l.length 0) (by simp)
  rw [map_range_self] at h
  refine Ev.congr (fun k => ?_) h
  unfold laws_toIntS.f
  rw [if_pos (by omega), if_pos (by rw [tn_nat]; omega)]
  rfl
theorem eqIntS_ev (l : List Int) (hl : l.length ≤ 1048576) : Ev (fun k => laws_eqIntS.f k l l) true := by
  have h := all_ev l.length (fun i k => laws_eqIntS.l0 k l l (i : Int))
    (Ev.step (f := fun _ => some true) (fun k => by
      show laws_eqIntS.l0 (k + 1) l l ((l.length : Nat) : Int) = some true
      rw [laws_eqIntS.l0, if_neg (by omega)]) (Ev.now _))
    (fun i hi hr => Ev.step (fun k => by
      show laws_eqIntS.l0 (k + 1) l l (i : Int) = laws_eqIntS.l0 k l l ((i + 1 : Nat) : Int)
      rw [laws_eqIntS.l0, if_pos (by omega), if_pos (by omega), if_pos (by omega), if_pos rfl, succ_wrap (by omega)]) hr)
  refine Ev.congr (fun k => ?_) h
  unfold laws_eqIntS.f
  rw [if_pos rfl]
  rfl

/-! #### [][]int -/
theorem r1_nat (l : List (List Int)) (i : Nat) : rd_L1 l (i : Int) = l.getD i [] := rfl
def LL (l : List (List Int)) : Prop := l.length ≤ 1048576 ∧ ∀ j, j < l.length → (l.getD j []).length ≤ 1048576
theorem toIntSS_ev (l : List (List Int)) (hl : LL l) : Ev (fun k => laws_toIntSS.f k l) l := by
  have h := conv_ev l.length (fun x i k => laws_toIntSS.l0 k l x (i : Int)) (fun i => l.getD i [])
    (fun x hx => Ev.step (f := fun _ => some x) (fun k => by
      show laws_toIntSS.l0 (k + 1) l x ((l.length : Nat) : Int) = some x
      rw [laws_toIntSS.l0, if_neg (by omega)]) (Ev.now _))
    (fun x i hi hx r hr => by
      refine Ev.step (f := fun k => (laws_toIntS.f k (l.getD i [])).bind fun t => laws_toIntSS.l0 k l (x.set i t) ((i + 1 : Nat) : Int)) (fun k => ?_) (Ev.bind (toIntS_ev _ (hl.2 i hi)) hr)
      have h1 := hl.1
      show laws_toIntSS.l0 (k + 1) l x (i : Int) = _
      rw [laws_toIntSS.l0, if_pos (by omega), if_pos (by omega)]
      refine congrArg _ (funext fun t => ?_)
      rw [if_pos (by omega), succ_wrap (by omega)]
      rfl)
    (List.replicate l.length []) (by simp)
  rw [map_range_self] at h
  have h1 := hl.1
  refine Ev.congr (fun k => ?_) h
  unfold laws_toIntSS.f
  rw [if_pos (by omega), if_pos (by rw [tn_nat]; omega)]
  rfl
theorem eqIntSS_ev (l : List (List Int)) (hl : LL l) : Ev (fun k => laws_eqIntSS.f k l l) true := by
  have h := all_ev l.length (fun i k => laws_eqIntSS.l0 k l l (i : Int))
    (Ev.step (f := fun _ => some true) (fun k => by
      show laws_eqIntSS.l0 (k + 1) l l ((l.length : Nat) : Int) = some true
      rw [laws_eqIntSS.l0, if_neg (by omega)]) (Ev.now _))
    (fun i hi hr => by
      have h1 := hl.1
      refine Ev.step (f := fun k => (laws_eqIntS.f k (l.getD i []) (l.getD i [])).bind fun t => if t = true then laws_eqIntSS.l0 k l l ((i + 1 : Nat) : Int) else some false) (fun k => ?_) (Ev.bind (eqIntS_ev _ (hl.2 i hi)) (Ev.ifp rfl hr))
      show laws_eqIntSS.l0 (k + 1) l l (i : Int) = _
      rw [laws_eqIntSS.l0, if_pos (by omega), if_pos (by omega), if_pos (by omega), succ_wrap (by omega)]
      rfl)
  refine Ev.congr (fun k => ?_) h
  unfold laws_eqIntSS.f
  rw [if_pos rfl]
  rfl
theorem szIntSS_l (l : List (List Int)) (hl : l.length ≤ 1048576) (hs : ∀ x ∈ l, x.length ≤ maxLen) : ∀ d i : Nat, i + d = l.length → ∀ m : Int, 0 ≤ m → m ≤ 1048576 →
    ∃ r : Int, Ev (fun k => laws_szIntSS.l0 k l m (i : Int)) r ∧ (0 ≤ r → ∀ j, i ≤ j → j < l.length → (l.getD j []).length ≤ 1048576)
  | 0, i, hd => fun m h0 h1 => ⟨m, Ev.step (f := fun _ => some m) (fun k => by rw [laws_szIntSS.l0, if_neg (by omega)]) (Ev.now _), fun _ j h2 h3 => by omega⟩
  | d + 1, i, hd => fun m h0 h1 => by
    have hz : (l.getD i []).length ≤ 9223372036854775807 := hs _ (getD_mem (l := l) (i := i) (by omega) [])
    have hw : wrap64 (m - ((l.getD i []).length : Int)) = m - ((l.getD i []).length : Int) := wrap_id (by omega) (by omega)
    have hst : ∀ k, laws_szIntSS.l0 (k + 1) l m (i : Int) = (laws_szIntS.f (l.getD i []) m).bind fun t => if t < 0 then some (-1) else laws_szIntSS.l0 k l t ((i + 1 : Nat) : Int) := fun k => by
      rw [laws_szIntSS.l0, if_pos (by omega), if_pos (by omega), succ_wrap (by omega)]
      rfl
    by_cases hn : m - ((l.getD i []).length : Int) < 0
    · have e : laws_szIntS.f (l.getD i []) m = some (-1) := by unfold laws_szIntS.f; rw [hw, if_pos hn]
      exact ⟨-1, Ev.step (f := fun _ => some (-1)) (fun k => by rw [hst, e, Option.bind_some, if_pos (by decide)]) (Ev.now _), fun h => by omega⟩
    · have e : laws_szIntS.f (l.getD i []) m = some (m - ((l.getD i []).length : Int)) := by unfold laws_szIntS.f; rw [hw, if_neg hn]
      obtain ⟨q, h6, h9⟩ := szIntSS_l l hl hs d (i + 1) (by omega) (m - ((l.getD i []).length : Int)) (by omega) (by omega)
      refine ⟨q, Ev.step (fun k => by rw [hst, e, Option.bind_some, if_neg hn]) h6, fun h j h10 h11 => ?_⟩
      by_cases e2 : j = i
      · rw [e2]
        omega
      · exact h9 h j (by omega) h11
theorem szIntSS_ev (l : List (List Int)) (hl : l.length ≤ maxLen) (hs : ∀ x ∈ l, x.length ≤ maxLen) : ∃ r : Int, Ev (fun k => laws_szIntSS.f k l 1048576) r ∧ (0 ≤ r → LL l) := by
  have hl' : l.length ≤ 9223372036854775807 := hl
  have hw : wrap64 (1048576 - (l.length : Int)) = 1048576 - (l.length : Int) := wrap_id (by omega) (by omega)
  unfold laws_szIntSS.f
  rw [hw]
  by_cases hn : 1048576 - (l.length : Int) < 0
  · exact ⟨-1, Ev.ifp hn (Ev.now _), fun h => by omega⟩
  · obtain ⟨r, h2, h5⟩ := szIntSS_l l (by omega) hs l.length 0 (by omega) (1048576 - (l.length : Int)) (by omega) (by omega)
    exact ⟨r, Ev.ifn hn h2, fun h => ⟨by omega, fun j hj => h5 h j (Nat.zero_le _) hj⟩⟩

/-! #### groups -/
def GRPS (l : List (List Int)) : Prop := (∀ j, j < l.length → ¬ ((l.getD j []).length : Int) = 0 ∧ GRP (l.getD j []) 7 0) ∧ (l.length : Int) ≤ 40
theorem sGs_ev (l : List (List Int)) (hl : LL l) : EvB (fun k => spec_l6Groups.f k l 7) (GRPS l) := by
  have h1 := hl.1
  refine all_evB l.length (fun i k => spec_l6Groups.l0 k l 7 l (l.length : Int) (i : Int)) (fun i => ¬ ((l.getD i []).length : Int) = 0 ∧ GRP (l.getD i []) 7 0) ((l.length : Int) ≤ 40) ?_ ?_
  · refine EvB.step (f := fun _ => some (decide ((l.length : Int) ≤ 40))) (fun k => ?_) EvB.dec
    rw [spec_l6Groups.l0, if_neg (by omega)]
  · intro i hi R hR
    by_cases h0 : ((l.getD i []).length : Int) = 0
    · refine EvB.no (fun k => ?_) (fun h => h.1.1 h0)
      rw [spec_l6Groups.l0, if_pos (by omega), if_pos (by omega), if_pos (by omega), r1_nat, if_pos h0]
    · refine EvB.step (fun k => ?_) ((EvB.andThen (sG_ev (l.getD i []) 7 (hl.2 i hi)) (fun _ => hR)).iff ⟨fun h => ⟨⟨h0, h.1⟩, h.2⟩, fun h => ⟨h.1.2, h.2⟩⟩)
      rw [spec_l6Groups.l0, if_pos (by omega), if_pos (by omega), if_pos (by omega), r1_nat, if_neg h0, succ_wrap (by omega)]
theorem ix_ev (p : Nat → List Int → Option Bool) (Q : List Int → Prop) : ∀ (l : List (List Int)) (i : Nat), (∀ x ∈ l, EvB (fun k => p k x) (Q x)) → ∃ r : Int, Ev (fun k => areGroups_ix (p k) i l) r ∧ (0 ≤ r ↔ ∃ x ∈ l, Q x)
  | [], i, _ => ⟨-1, Ev.now _, ⟨fun h => by omega, fun ⟨x, hx, _⟩ => by cases hx⟩⟩
  | x :: r, i, h => by
    obtain ⟨b, hb, hq⟩ := h x List.mem_cons_self
    cases b with
    | true => exact ⟨i, Ev.bind hb (Ev.ifp rfl (Ev.now _)), ⟨fun _ => ⟨x, List.mem_cons_self, hq.1 rfl⟩, fun _ => by omega⟩⟩
    | false =>
      obtain ⟨q, h1, h2⟩ := ix_ev p Q r (i + 1) (fun y hy => h y (List.mem_cons_of_mem _ hy))
      refine ⟨q, Ev.bind hb (Ev.ifn (by decide) h1), h2.trans ⟨fun ⟨y, hy, hz⟩ => ⟨y, List.mem_cons_of_mem _ hy, hz⟩, fun ⟨y, hy, hz⟩ => ?_⟩⟩
      rcases List.mem_cons.1 hy with e | e
      · rw [e] at hz
        exact absurd (hq.2 hz) (by decide)
      · exact ⟨y, e, hz⟩
theorem mem_at {l : List (List Int)} {x : List Int} : x ∈ l ↔ ∃ j, j < l.length ∧ l.getD j [] = x := by
  rw [List.mem_iff_getElem]
  refine ⟨fun ⟨j, h, e⟩ => ⟨j, h, by rw [List.getD_eq_getElem?_getD, List.getElem?_eq_getElem h, Option.getD_some, e]⟩, fun ⟨j, h, e⟩ => ⟨j, h, ?_⟩⟩
  rw [List.getD_eq_getElem?_getD, List.getElem?_eq_getElem h, Option.getD_some] at e
  exact e
theorem EvB.neg {g : Nat → Option Bool} {P : Prop} (h : EvB g P) : EvB (fun k => (g k).bind fun t => some (!t)) (¬ P) := by
  obtain ⟨b, hb, hp⟩ := h
  refine ⟨!b, Ev.bind hb (Ev.now _), ?_⟩
  cases b with
  | true => exact Iff.intro (fun h => by cases h) (fun h => absurd (hp.1 rfl) h)
  | false => exact ⟨fun _ h => absurd (hp.2 h) (by decide), fun _ => rfl⟩
theorem iGs_ev (l : List (List Int)) (hl : LL l) : EvB (fun k => impl_areGroups.f k l 7) (GRPS l) := by
  unfold impl_areGroups.f
  by_cases h40 : (l.length : Int) ≤ 40
  · obtain ⟨r, h1, h2⟩ := ix_ev (fun k => areGroups_g k 7) (fun x => (x.length : Int) = 0 ∨ ¬ GRP x 7 0) l 0 (fun x hx => by
      obtain ⟨j, hj, e⟩ := mem_at.1 hx
      have hxl : x.length ≤ 1048576 := e ▸ hl.2 j hj
      unfold areGroups_g
      by_cases h0 : (x.length : Int) = 0
      · exact ⟨true, Ev.ifp h0 (Ev.now _), ⟨fun _ => .inl h0, fun _ => rfl⟩⟩
      · obtain ⟨b, hb, hp⟩ := EvB.neg (iG_ev x 7 ⟨by decide, by decide⟩ hxl)
        exact ⟨b, Ev.ifn h0 hb, hp.trans ⟨fun h => .inr h, fun h => h.resolve_left h0⟩⟩)
    refine ⟨!(decide (0 ≤ r)), Ev.ifp h40 (Ev.bind h1 (Ev.now _)), ?_⟩
    rw [Bool.not_eq_true', decide_eq_false_iff_not, h2]
    refine ⟨fun h => ⟨fun j hj => ⟨fun h0 => h ⟨_, mem_at.2 ⟨j, hj, rfl⟩, .inl h0⟩, ?_⟩, h40⟩, fun h ⟨x, hx, hz⟩ => ?_⟩
    · exact Classical.byContradiction fun hg => h ⟨_, mem_at.2 ⟨j, hj, rfl⟩, .inr hg⟩
    · obtain ⟨j, hj, e⟩ := mem_at.1 hx
      have := h.1 j hj
      rw [e] at this
      exact hz.elim this.1 (fun h => h this.2)
  · exact ⟨false, Ev.ifn h40 (Ev.now _), Iff.intro (fun h => by cases h) (fun h => absurd h.2 h40)⟩
/-! #### what two groups have in common -/
def HAS (g : List Int) (x : Int) : Prop := ∃ j, j < g.length ∧ g.getD j 0 = x
def MEET (a b : List Int) : Prop := ∃ j, j < a.length ∧ HAS b (a.getD j 0)
theorem has_ev (g : List Int) (x : Int) (hg : g.length ≤ 1048576) : EvB (fun k => spec_l1Has.f k g x) (HAS g x) := by
  refine any_evB g.length (fun i k => spec_l1Has.l0 k x g (g.length : Int) (i : Int)) (fun i => g.getD i 0 = x) ?_ ?_
  · exact EvB.no (fun k => by rw [spec_l1Has.l0, if_neg (by omega)]) (fun h => h)
  · intro i hi R hR
    by_cases h0 : g.getD i 0 = x
    · exact EvB.yes (fun k => by rw [spec_l1Has.l0, if_pos (by omega), if_pos (by omega), if_pos (by omega), rd_nat, if_pos h0]) (.inl h0)
    · refine EvB.step (fun k => ?_) (hR.iff ⟨.inr, fun h => h.resolve_left h0⟩)
      rw [spec_l1Has.l0, if_pos (by omega), if_pos (by omega), if_pos (by omega), rd_nat, if_neg h0, succ_wrap (by omega)]
theorem bit_mk (g : List Int) (b : Nat) : ∀ i, (mk g i).testBit b = true ↔ ∃ j, j < i ∧ (g.getD j 0).toNat = b
  | 0 => by
    rw [mk, Nat.zero_testBit]
    exact Iff.intro (fun h => by cases h) (fun ⟨j, h, _⟩ => by omega)
  | i + 1 => by
    rw [mk, Nat.testBit_or, Bool.or_eq_true, bit_mk g b i, Nat.testBit_two_pow, decide_eq_true_iff]
    refine ⟨fun h => ?_, fun ⟨j, h1, h2⟩ => ?_⟩
    · rcases h with ⟨j, h1, h2⟩ | h
      · exact ⟨j, by omega, h2⟩
      · exact ⟨i, by omega, h⟩
    · by_cases e : j = i
      · rw [e] at h2
        exact .inr h2
      · exact .inl ⟨j, by omega, h2⟩
theorem bit_has (g : List Int) (h : GRP g 7 0) (x : Int) (hx : 0 ≤ x) : (mk g g.length).testBit x.toNat = true ↔ HAS g x := by
  rw [bit_mk]
  refine ⟨fun ⟨j, h1, h2⟩ => ⟨j, h1, ?_⟩, fun ⟨j, h1, h2⟩ => ⟨j, h1, by rw [h2]⟩⟩
  have := (h j (Nat.zero_le _) h1).1
  omega
theorem mk7 (g : List Int) (h : GRP g 7 0) : mk g g.length < 2 ^ 62 :=
  Nat.lt_trans (mk_lt g _ h 7 _ (Nat.le_refl _) (fun j hj => by
    have := (h j (Nat.zero_le _) hj).2.1
    omega)) (by decide)
theorem meet_mk (a b : List Int) (ha : GRP a 7 0) (hb : GRP b 7 0) : mk a a.length &&& mk b b.length = 0 ↔ ¬ MEET a b := by
  refine ⟨fun h ⟨j, h1, h2⟩ => ?_, fun h => Nat.eq_of_testBit_eq fun i => ?_⟩
  · have h3 := ha j (Nat.zero_le _) h1
    have e := congrArg (fun n => n.testBit (a.getD j 0).toNat) h
    simp only [Nat.testBit_and, Nat.zero_testBit] at e
    rw [(bit_has a ha _ h3.1).2 ⟨j, h1, rfl⟩, (bit_has b hb _ h3.1).2 h2] at e
    cases e
  · rw [Nat.testBit_and, Nat.zero_testBit, Bool.and_eq_false_iff]
    cases h1 : (mk a a.length).testBit i with
    | false => exact .inl rfl
    | true =>
      refine .inr (Bool.eq_false_iff.2 fun h2 => h ?_)
      obtain ⟨j, h3, h4⟩ := (bit_mk a i _).1 h1
      have h5 := ha j (Nat.zero_le _) h3
      refine ⟨j, h3, (bit_has b hb _ h5.1).1 ?_⟩
      rw [h4]
      exact h2
theorem grp_mask (g : List Int) (hg : g.length ≤ 1048576) (h : GRP g 7 0) : Ev (fun k => impl_maskOf.f k g) ((mk g g.length : Nat) : Int) := mask_ev g 7 (by decide) hg h
theorem sMeet_ev (a b : List Int) (ha : a.length ≤ 1048576) (hb : b.length ≤ 1048576) : EvB (fun k => spec_l6Meet.f k a b) (MEET a b) := by
  refine any_evB a.length (fun i k => spec_l6Meet.l0 k b a (a.length : Int) (i : Int)) (fun i => HAS b (a.getD i 0)) ?_ ?_
  · exact EvB.no (fun k => by rw [spec_l6Meet.l0, if_neg (by omega)]) (fun h => h)
  · intro i hi R hR
    refine EvB.step (fun k => ?_) (EvB.orThen (has_ev b (a.getD i 0) hb) (fun _ => hR))
    rw [spec_l6Meet.l0, if_pos (by omega), if_pos (by omega), if_pos (by omega), rd_nat, succ_wrap (by omega)]
/-- The masks of two groups, and-ed: nothing, where they do not meet. -/
theorem iMeet_ev {f : Nat → Option Bool} {R : Prop} (a b : List Int) (ha : a.length ≤ 1048576) (hb : b.length ≤ 1048576) (ga : GRP a 7 0) (gb : GRP b 7 0) (h : EvB f R) :
    EvB (fun k => (impl_maskOf.f k a).bind fun x => (impl_maskOf.f k b).bind fun y => if Go.bits .and .i64 x y = 0 then some false else f k) (MEET a b ∧ R) := by
  obtain ⟨c, hc, hr⟩ := h
  by_cases hm : MEET a b
  · refine ⟨c, Ev.bind (grp_mask a ha ga) (Ev.bind (grp_mask b hb gb) (Ev.ifn ?_ hc)), hr.trans ⟨fun h => ⟨hm, h⟩, fun h => h.2⟩⟩
    rw [and_nat _ _ (mk7 a ga) (mk7 b gb)]
    intro e
    exact (meet_mk a b ga gb).1 (by omega) hm
  · refine ⟨false, Ev.bind (grp_mask a ha ga) (Ev.bind (grp_mask b hb gb) (Ev.ifp ?_ (Ev.now _))), Iff.intro (fun h => by cases h) (fun h => absurd h.1 hm)⟩
    rw [and_nat _ _ (mk7 a ga) (mk7 b gb), (meet_mk a b ga gb).2 hm]
    rfl

theorem sSurv_ev (l : List (List Int)) (f : List Int) (hl : LL l) (hf : f.length ≤ 1048576) (h : GRPS l) (hg : GRP f 7 0) : ∃ c : Bool, Ev (fun k => spec_Survives.f k l f) (c, true) ∧ (c = true ↔ ∃ x ∈ l, ¬ MEET x f) := by
  have hG : Ev (fun k => spec_l6Groups.f k l 7) true := (sGs_ev l hl).get h
  have hM : Ev (fun k => spec_l6Group.f k f 7) true := (sG_ev f 7 hf).get hg
  have h1 := hl.1
  have key : ∀ d i : Nat, i + d = l.length → ∃ c : Bool, Ev (fun k => spec_Survives.l0 k f l (l.length : Int) (i : Int)) (c, true) ∧ (c = true ↔ ∃ j, i ≤ j ∧ j < l.length ∧ ¬ MEET (l.getD j []) f) := by
    intro d
    induction d with
    | zero =>
      intro i hd
      exact ⟨false, Ev.step (f := fun _ => some (false, true)) (fun k => by rw [spec_Survives.l0, if_neg (by omega)]) (Ev.now _), Iff.intro (fun h => by cases h) (fun ⟨j, h1, h2, _⟩ => by omega)⟩
    | succ d ih =>
      intro i hd
      have hst : ∀ k, spec_Survives.l0 (k + 1) f l (l.length : Int) (i : Int) = (spec_l6Meet.f k (l.getD i []) f).bind fun t => if t = true then spec_Survives.l0 k f l (l.length : Int) ((i + 1 : Nat) : Int) else some (true, true) := fun k => by
        rw [spec_Survives.l0, if_pos (by omega), if_pos (by omega), if_pos (by omega), r1_nat, succ_wrap (by omega)]
      obtain ⟨b, hb, hq⟩ := sMeet_ev (l.getD i []) f (hl.2 i (by omega)) hf
      cases b with
      | false => exact ⟨true, Ev.step hst (Ev.bind hb (Ev.ifn (by decide) (Ev.now _))), ⟨fun _ => ⟨i, Nat.le_refl _, by omega, fun h => absurd (hq.2 h) (by decide)⟩, fun _ => rfl⟩⟩
      | true =>
        obtain ⟨c, hc, hr⟩ := ih (i + 1) (by omega)
        refine ⟨c, Ev.step hst (Ev.bind hb (Ev.ifp rfl hc)), hr.trans ⟨fun ⟨j, h1, h2, h3⟩ => ⟨j, by omega, h2, h3⟩, fun ⟨j, h1, h2, h3⟩ => ⟨j, ?_, h2, h3⟩⟩⟩
        by_cases e : j = i
        · rw [e] at h3
          exact absurd (hq.1 rfl) h3
        · omega
  obtain ⟨c, hc, hr⟩ := key l.length 0 (by omega)
  refine ⟨c, ?_, hr.trans ⟨fun ⟨j, _, h2, h3⟩ => ⟨_, mem_at.2 ⟨j, h2, rfl⟩, h3⟩, fun ⟨x, hx, h3⟩ => ?_⟩⟩
  · unfold spec_Survives.f
    exact Ev.bind hG (Ev.ifp rfl (Ev.bind hM (Ev.step (fun k => by rw [spec_Survives.j0, if_neg (by decide)]; rfl) hc)))
  · obtain ⟨j, h2, e⟩ := mem_at.1 hx
    exact ⟨j, Nat.zero_le _, h2, by rw [e]; exact h3⟩
theorem iSurv_ev (l : List (List Int)) (f : List Int) (hl : LL l) (hf : f.length ≤ 1048576) (h : GRPS l) (hg : GRP f 7 0) : ∃ c : Bool, Ev (fun k => impl_Survives.f k l f) (c, true) ∧ (c = true ↔ ∃ x ∈ l, ¬ MEET x f) := by
  obtain ⟨r, h1, h2⟩ := ix_ev (fun k => Survives_g k f) (fun x => ¬ MEET x f) l 0 (fun x hx => by
    obtain ⟨j, hj, e⟩ := mem_at.1 hx
    have hxl : x.length ≤ 1048576 := e ▸ hl.2 j hj
    have hxg : GRP x 7 0 := e ▸ (h.1 j hj).2
    refine ⟨_, Ev.bind (grp_mask x hxl hxg) (Ev.bind (grp_mask f hf hg) (Ev.now _)), ?_⟩
    rw [decide_eq_true_iff, and_nat _ _ (mk7 x hxg) (mk7 f hg), ← meet_mk x f hxg hg]
    omega)
  refine ⟨decide (0 ≤ r), ?_, by rw [decide_eq_true_iff, h2]⟩
  unfold impl_Survives.f
  exact Ev.bind ((iGs_ev l hl).get h) (Ev.ifp rfl (Ev.bind ((iG_ev f 7 ⟨by decide, by decide⟩ hf).get hg) (Ev.ifp rfl (Ev.bind h1 (Ev.now _)))))
theorem Survives_ev (l : List (List Int)) (f : List Int) (hl : LL l) (hf : f.length ≤ 1048576) : ∃ (x y : Bool), Ev (fun k => spec_Survives.f k l f) (x, y) ∧ Ev (fun k => impl_Survives.f k l f) (x, y) := by
  by_cases h : GRPS l
  · by_cases hg : GRP f 7 0
    · obtain ⟨c, h1, h2⟩ := sSurv_ev l f hl hf h hg
      obtain ⟨d, h3, h4⟩ := iSurv_ev l f hl hf h hg
      obtain rfl : c = d := Bool.eq_iff_iff.2 (h2.trans h4.symm)
      exact ⟨c, true, h1, h3⟩
    · refine ⟨false, false, ?_, ?_⟩
      · unfold spec_Survives.f
        exact Ev.bind ((sGs_ev l hl).get h) (Ev.ifp rfl (Ev.bind ((sG_ev f 7 hf).not hg) (Ev.step (f := fun _ => some (false, false)) (fun k => by rw [spec_Survives.j0, if_pos (by decide)]) (Ev.now _))))
      · unfold impl_Survives.f
        exact Ev.bind ((iGs_ev l hl).get h) (Ev.ifp rfl (Ev.bind ((iG_ev f 7 ⟨by decide, by decide⟩ hf).not hg) (Ev.ifn (by decide) (Ev.now _))))
  · refine ⟨false, false, ?_, ?_⟩
    · unfold spec_Survives.f
      exact Ev.bind ((sGs_ev l hl).not h) (Ev.ifn (by decide) (Ev.step (f := fun _ => some (false, false)) (fun k => by rw [spec_Survives.j0, if_pos (by decide)]) (Ev.now _)))
    · unfold impl_Survives.f
      exact Ev.bind ((iGs_ev l hl).not h) (Ev.ifn (by decide) (Ev.now _))
theorem FnExactSurvives : laws_FnExactSurvives.Pure := by
  intro l f hok _
  apply Ev.rounds
  unfold laws_FnExactSurvives.f
  by_cases hf : f.length ≤ 1048576
  · refine Ev.ifn (by omega) ?_
    obtain ⟨r, hz, hr⟩ := szIntSS_ev l hok.1 (fun x hx => (hok.2 x hx).1)
    refine Ev.bind hz ?_
    by_cases hn : r < 0
    · exact Ev.ifp hn (Ev.now _)
    · have hl := hr (by omega)
      obtain ⟨b, c, hs, hi⟩ := Survives_ev l f hl hf
      repeat first
        | with_reducible exact Ev.now _
        | (with_reducible refine Ev.bind (toIntSS_ev _ hl) ?_; try dsimp only)
        | (with_reducible refine Ev.bind (toIntS_ev _ hf) ?_; try dsimp only)
        | (with_reducible refine Ev.bind (hs) ?_; try dsimp only)
        | (with_reducible refine Ev.bind (hi) ?_; try dsimp only)
        | (with_reducible refine Ev.bind (eqIntSS_ev _ hl) ?_; try dsimp only)
        | (with_reducible refine Ev.bind (eqIntS_ev _ hf) ?_; try dsimp only)
        | (with_reducible refine Ev.ifp ?hc ?_; (case hc => first | rfl | omega | (simp; done)))
        | (with_reducible refine Ev.ifn ?hc ?_; (case hc => first | decide | omega | (simp; done)))
        | (with_reducible refine Ev.succ (g := fun k_ => laws_FnExactSurvives.j0 k_ _ _ _ _ _) ?_; simp only [laws_FnExactSurvives.j0])
  · exact Ev.ifp (by omega) (Ev.now _)

end Go.Proofs.Ytnjjkbdpoolkpaa.Pure
