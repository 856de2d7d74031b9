/- Marks tell each epoch's entries, and cut with the log they are the marks of what is left: for all bytes that logs are drawn from. Conditions: none but the statement's own. -/
import Derived.Test.YtopddfiiglookaaQFnMarksx11
namespace Go.Proofs.Ytopddfiiglookaa.Pure
open Go.RowKit Go.Proofs.Ytopddfiiglookaa.QFnMarks Go.Proofs.YtopddfiiglookaaW.PrintWords Go.Proofs.YtopddfiiglookaaW.PrintLast Go.Proofs.YtopddfiiglookaaW.PrintMore
set_option linter.unusedVariables false
set_option linter.unusedSimpArgs false
/-! #### words -/
theorem Ev.succ {α : Type} {g : Nat → Option α} {r : α} (k : Ev (fun n => g (n + 1)) r) : Ev g r := Ev.step (fun _ => rfl) k
theorem Ev.ifp {α : Type} {c : Prop} [Decidable c] {f g : Nat → Option α} {r : α} (h : c) (k : Ev f r) : Ev (fun n => if c then f n else g n) r := Ev.congr (fun n => if_pos h) k
theorem Ev.ifn {α : Type} {c : Prop} [Decidable c] {f g : Nat → Option α} {r : α} (h : ¬ c) (k : Ev g r) : Ev (fun n => if c then f n else g n) r := Ev.congr (fun n => if_neg h) k
theorem Ev.uniq {α : Type} {g : Nat → Option α} {r q : α} (h : Ev g r) (k : Ev g q) : r = q := by
  obtain ⟨a, ha⟩ := h
  obtain ⟨b, hb⟩ := k
  have h1 := ha (max a b) (Nat.le_max_left _ _)
  have h2 := hb (max a b) (Nat.le_max_right _ _)
  rw [h1] at h2
  exact Option.some.inj h2
/-- It answers a Bool that tells whether Q. -/
def EvB (g : Nat → Option Bool) (Q : Prop) : Prop := ∃ b : Bool, Ev g b ∧ (b = true ↔ Q)
theorem EvB.step {g f : Nat → Option Bool} {Q : Prop} (h : ∀ k, g (k + 1) = f k) (k : EvB f Q) : EvB g Q := by
  obtain ⟨b, hb, hq⟩ := k
  exact ⟨b, Ev.step h hb, hq⟩
theorem EvB.iff {g : Nat → Option Bool} {Q R : Prop} (k : EvB g Q) (h : Q ↔ R) : EvB g R := by
  obtain ⟨b, hb, hq⟩ := k
  exact ⟨b, hb, hq.trans h⟩
theorem EvB.no {g : Nat → Option Bool} {Q : Prop} (h : ∀ k, g (k + 1) = some false) (hq : ¬ Q) : EvB g Q := ⟨false, Ev.step (f := fun _ => some false) h (Ev.now _), Iff.intro (fun h => by cases h) (fun h => absurd h hq)⟩
theorem EvB.yes {g : Nat → Option Bool} {Q : Prop} (h : ∀ k, g (k + 1) = some true) (hq : Q) : EvB g Q := ⟨true, Ev.step (f := fun _ => some true) h (Ev.now _), ⟨fun _ => hq, fun _ => rfl⟩⟩
theorem EvB.ev {g : Nat → Option Bool} {Q : Prop} [Decidable Q] (k : EvB g Q) : Ev g (decide Q) := by
  obtain ⟨b, hb, hq⟩ := k
  have : b = decide Q := by
    by_cases h : Q
    · rw [hq.2 h, decide_eq_true h]
    · rw [decide_eq_false h]
      cases b with
      | false => rfl
      | true => exact absurd (hq.1 rfl) h
  rw [← this]
  exact hb
theorem EvB.get {g : Nat → Option Bool} {Q : Prop} (k : EvB g Q) (h : Q) : Ev g true := by
  obtain ⟨b, hb, hq⟩ := k
  rw [← hq.2 h]
  exact hb
theorem EvB.not {g : Nat → Option Bool} {Q : Prop} (k : EvB g Q) (h : ¬ Q) : Ev g false := by
  obtain ⟨b, hb, hq⟩ := k
  cases b with
  | false => exact hb
  | true => exact absurd (hq.1 rfl) h
theorem wrap_id {x : Int} (h0 : -9223372036854775808 ≤ x) (h1 : x ≤ 9223372036854775807) : wrap64 x = x := by
  unfold wrap64
  omega
theorem succ_wrap {i : Nat} (h : i ≤ 9000000000000000000) : wrap64 ((i : Int) + 1) = ((i + 1 : Nat) : Int) := by
  rw [wrap_id (by omega) (by omega)]
  omega
theorem pred_wrap {i : Nat} (h0 : 0 < i) (h : i ≤ 9000000000000000000) : wrap64 ((i : Int) - 1) = ((i - 1 : Nat) : Int) := by
  rw [wrap_id (by omega) (by omega)]
  omega
theorem pred_zero : wrap64 (((0 : Nat) : Int) - 1) = -1 := by
  unfold wrap64
  omega
theorem rd_nat (l : List Int) (i : Nat) : rd l (i : Int) = l.getD i 0 := rfl
theorem tn_nat (i : Nat) : ((i : Int)).toNat = i := rfl
theorem len_nat {α : Type} (l : List α) {k : Nat} (h : l.length ≤ k) : ¬ ((l.length : Int) > (k : Int)) := by omega

/-- A list is made, element by element. -/
theorem conv_ev {β : Type} (n : Nat) (F : List β → Nat → Nat → Option (List β)) (c : Nat → β) (h1 : ∀ x : List β, x.length = n → Ev (F x n) x)
    (h2 : ∀ (x : List β) (i : Nat), i < n → x.length = n → ∀ r, Ev (F (x.set i (c i)) (i + 1)) r → Ev (F x i) r) : ∀ x0 : List β, x0.length = n → Ev (F x0 0) ((List.range n).map c) := by
  have key : ∀ d i (x : List β), i + d = n → x.length = n → Ev (F x i) (x.take i ++ (List.range d).map fun j => c (i + j)) := by
    intro d
    induction d with
    | zero =>
      intro i x hd hx
      have hi : i = n := by omega
      subst hi
      have : x.take i ++ (List.range 0).map (fun j => c (i + j)) = x := by
        rw [List.take_of_length_le (by omega)]
        simp
      rw [this]
      exact h1 x hx
    | succ d ih =>
      intro i x hd hx
      have hi : i < n := by omega
      have := ih (i + 1) (x.set i (c i)) (by omega) (by rw [List.length_set]; exact hx)
      have e : (x.set i (c i)).take (i + 1) ++ (List.range d).map (fun j => c (i + 1 + j)) = x.take i ++ (List.range (d + 1)).map (fun j => c (i + j)) := by
        rw [List.range_succ_eq_map, List.map_cons, List.map_map]
        have ht : (x.set i (c i)).take (i + 1) = x.take i ++ [c i] := by
          rw [List.take_succ_eq_append_getElem (by rw [List.length_set]; omega)]
          rw [List.take_set_of_le (Nat.le_refl _), List.getElem_set_self]
        rw [ht, List.append_assoc]
        congr 1
        rw [List.singleton_append]
        congr 1
        apply List.map_congr_left
        intro j _
        show c (i + 1 + j) = c (i + (j + 1))
        congr 1
        omega
      rw [e] at this
      exact h2 x i hi hx _ this
  intro x0 hx0
  have := key n 0 x0 (by omega) hx0
  rw [List.take_zero, List.nil_append] at this
  have e : (fun j => c (0 + j)) = c := by
    funext j
    rw [Nat.zero_add]
  rw [e] at this
  exact this

/-- Two rows are held against each other, element by element. -/
theorem all_ev (n : Nat) (F : Nat → Nat → Option Bool) (h1 : Ev (F n) true) (h2 : ∀ i, i < n → Ev (F (i + 1)) true → Ev (F i) true) : Ev (F 0) true := by
  have key : ∀ d i, i + d = n → Ev (F i) true := by
    intro d
    induction d with
    | zero =>
      intro i hd
      have hi : i = n := by omega
      subst hi
      exact h1
    | succ d ih =>
      intro i hd
      exact h2 i (by omega) (ih (i + 1) (by omega))
  exact key n 0 (by omega)

/-- The elements are numbered through; and so they are found. -/
def markL {β : Type} (mk : β → Nat → β) (cnt : β → Nat) : List β → Nat → List β
  | [], _ => []
  | b :: r, m => mk b m :: markL mk cnt r (m + cnt b)
def cntL {β : Type} (cnt : β → Nat) : List β → Nat
  | [] => 0
  | b :: r => cnt b + cntL cnt r
theorem markL_length {β : Type} (mk : β → Nat → β) (cnt : β → Nat) : ∀ (l : List β) (m : Nat), (markL mk cnt l m).length = l.length
  | [], _ => rfl
  | b :: r, m => by
    show (markL mk cnt r _).length + 1 = r.length + 1
    rw [markL_length mk cnt r]
theorem cntL_le {β : Type} (cnt : β → Nat) (c : Nat) : ∀ l : List β, (∀ b ∈ l, cnt b ≤ c) → cntL cnt l ≤ c * l.length
  | [], _ => Nat.zero_le _
  | b :: r, h => by
    have h1 := cntL_le cnt c r (fun x hx => h x (List.mem_cons_of_mem _ hx))
    have h2 := h b List.mem_cons_self
    show cnt b + cntL cnt r ≤ c * (r.length + 1)
    rw [Nat.mul_add, Nat.mul_one]
    omega
theorem mark_ev {β : Type} (z : β) (mk : β → Nat → β) (cnt : β → Nat) (B n : Nat) (F : List β → Nat → Nat → Nat → Option (Int × List β)) (h1 : ∀ (x : List β) (m : Nat), x.length = n → Ev (F x m n) ((m : Int), x))
    (h2 : ∀ (x : List β) (m i : Nat), x.length = n → i < n → m + cnt (x.getD i z) ≤ B → ∀ r, Ev (F (x.set i (mk (x.getD i z) m)) (m + cnt (x.getD i z)) (i + 1)) r → Ev (F x m i) r) :
    ∀ (x : List β) (m : Nat), x.length = n → m + cntL cnt x ≤ B → Ev (F x m 0) (((m + cntL cnt x : Nat) : Int), markL mk cnt x m) := by
  have key : ∀ (rest done : List β) (m : Nat), done.length + rest.length = n → m + cntL cnt rest ≤ B → Ev (F (done ++ rest) m done.length) (((m + cntL cnt rest : Nat) : Int), done ++ markL mk cnt rest m) := by
    intro rest
    induction rest with
    | nil =>
      intro done m hn _
      have hn' : done.length = n := hn
      have := h1 done m hn'
      rw [← hn'] at this
      rw [List.append_nil]
      show Ev _ (((m + 0 : Nat) : Int), done ++ [])
      rw [List.append_nil]
      exact this
    | cons b r ih =>
      intro done m hn hm
      have hn' : done.length + (r.length + 1) = n := hn
      have hm' : m + (cnt b + cntL cnt r) ≤ B := hm
      have hg : (done ++ b :: r).getD done.length z = b := by simp [List.getD]
      have hs : (done ++ b :: r).set done.length (mk b m) = (done ++ [mk b m]) ++ r := by simp [List.set_append]
      have := ih (done ++ [mk b m]) (m + cnt b) (by rw [List.length_append, List.length_singleton]; omega) (by omega)
      refine h2 _ m done.length (by simp; omega) (by omega) (by rw [hg]; omega) _ ?_
      rw [hg, hs]
      rw [List.length_append, List.length_singleton] at this
      have e : m + cnt b + cntL cnt r = m + (cnt b + cntL cnt r) := by omega
      have e2 : done ++ [mk b m] ++ markL mk cnt r (m + cnt b) = done ++ (mk b m :: markL mk cnt r (m + cnt b)) := by rw [List.append_assoc, List.singleton_append]
      rw [e, e2] at this
      exact this
  intro x m hn hm
  exact key x [] m (by simpa using hn) hm
theorem held_ev {β : Type} (z : β) (mk : β → Nat → β) (cnt : β → Nat) (B n : Nat) (H : List β → Nat → Nat → Nat → Option Int) (h1 : ∀ (x : List β) (m : Nat), x.length = n → Ev (H x m n) (m : Int))
    (h2 : ∀ (x : List β) (m i : Nat) (b : β), x.length = n → i < n → x.getD i z = mk b m → m + cnt b ≤ B → ∀ r, Ev (H x (m + cnt b) (i + 1)) r → Ev (H x m i) r) :
    ∀ (x : List β) (m : Nat), x.length = n → m + cntL cnt x ≤ B → Ev (H (markL mk cnt x m) m 0) ((m + cntL cnt x : Nat) : Int) := by
  have key : ∀ (rest done : List β) (m : Nat), done.length + rest.length = n → m + cntL cnt rest ≤ B → Ev (H (done ++ markL mk cnt rest m) m done.length) ((m + cntL cnt rest : Nat) : Int) := by
    intro rest
    induction rest with
    | nil =>
      intro done m hn _
      have hn' : done.length = n := hn
      have := h1 done m hn'
      rw [← hn'] at this
      show Ev (H (done ++ []) m done.length) _
      rw [List.append_nil]
      exact this
    | cons b r ih =>
      intro done m hn hm
      have hn' : done.length + (r.length + 1) = n := hn
      have hm' : m + (cnt b + cntL cnt r) ≤ B := hm
      have := ih (done ++ [mk b m]) (m + cnt b) (by rw [List.length_append, List.length_singleton]; omega) (by omega)
      show Ev (H (done ++ (mk b m :: markL mk cnt r (m + cnt b))) m done.length) _
      refine h2 _ m done.length b (by simp [markL_length]; omega) (by omega) (by simp [List.getD]) (by omega) _ ?_
      rw [List.length_append, List.length_singleton, List.append_assoc, List.singleton_append] at this
      have e : m + cnt b + cntL cnt r = m + (cnt b + cntL cnt r) := by omega
      rw [e] at this
      exact this
  intro x m hn hm
  exact key x [] m (by simpa using hn) hm

theorem map_range_getD {α β : Type} (l : List α) (z : α) (f : α → β) : (List.range l.length).map (fun i => f (l.getD i z)) = l.map f := by
  apply List.ext_getElem
  · simp
  · intro i h1 h2
    simp at h1 h2
    simp [h2]
theorem map_range_self {α : Type} (l : List α) (z : α) : (List.range l.length).map (fun i => l.getD i z) = l := by
  have := map_range_getD l z id
  simpa using this
theorem getD_mem {α : Type} {l : List α} {i : Nat} (h : i < l.length) (z : α) : l.getD i z ∈ l := by
  rw [List.getD_eq_getElem?_getD, List.getElem?_eq_getElem h, Option.getD_some]
  exact List.getElem_mem h

theorem iin (a b c : Int) : impl_in.f a b c = some (decide (b ≤ a ∧ a ≤ c)) := by
  unfold impl_in.f
  by_cases h : a ≥ b
  · rw [if_pos h]
    have e : (b ≤ a ∧ a ≤ c) ↔ a ≤ c := ⟨fun h => h.2, fun h' => ⟨h, h'⟩⟩
    simp only [e]
  · rw [if_neg h, decide_eq_false]
    intro h'
    exact h h'.1

/-! #### a number between two -/
theorem sin (a b c : Int) : spec_l1In.f a b c = some (decide (b ≤ a ∧ a ≤ c)) := by
  unfold spec_l1In.f
  by_cases h : a ≥ b
  · rw [if_pos h]
    have e : (b ≤ a ∧ a ≤ c) ↔ a ≤ c := ⟨fun h => h.2, fun h' => ⟨h, h'⟩⟩
    simp only [e]
  · rw [if_neg h, decide_eq_false]
    intro h'
    exact h h'.1

theorem EvB.and {P Q : Prop} [Decidable P] {g : Nat → Option Bool} (h : EvB g Q) : EvB (fun k => if decide P = true then g k else some false) (P ∧ Q) := by
  obtain ⟨b, hb, hq⟩ := h
  by_cases hp : P
  · exact ⟨b, Ev.ifp (by rw [decide_eq_true hp]) hb, ⟨fun h => ⟨hp, hq.1 h⟩, fun h => hq.2 h.2⟩⟩
  · exact ⟨false, Ev.ifn (by rw [decide_eq_false hp]; decide) (Ev.now _), Iff.intro (fun h => by cases h) (fun h => absurd h.1 hp)⟩
theorem EvB.dec {P : Prop} [Decidable P] : EvB (fun _ => some (decide P)) P := ⟨decide P, Ev.now _, decide_eq_true_iff⟩
theorem both {g f : Nat → Option Bool} {Q : Prop} (h : EvB g Q) (k : EvB f Q) : ∃ b : Bool, Ev g b ∧ Ev f b ∧ (b = true ↔ Q) := by
  obtain ⟨b, hb, hq⟩ := h
  obtain ⟨c, hc, hr⟩ := k
  obtain rfl : c = b := Bool.eq_iff_iff.2 (hr.trans hq.symm)
  exact ⟨c, hb, hc, hq⟩

/-! #### good entries -/
def PE (l : List Int) (j : Nat) : Prop := (0 ≤ l.getD j 0 ∧ l.getD j 0 ≤ 100) ∧ (0 < j → l.getD (j - 1) 0 ≤ l.getD j 0)
def GE (l : List Int) : Prop := l.length ≤ 30 ∧ ∀ j, j < l.length → PE l j

theorem sGE_l (l : List Int) (hl : l.length ≤ 1048576) : ∀ d i : Nat, i + d = l.length →
    EvB (fun k => spec_GoodEntries.l0 k l l (l.length : Int) (i : Int)) (l.length ≤ 30 ∧ ∀ j, i ≤ j → j < l.length → PE l j)
  | 0, i, hd => by
    refine ⟨decide ((l.length : Int) ≤ 30), Ev.step (f := fun _ => some (decide ((l.length : Int) ≤ 30))) (fun k => by rw [spec_GoodEntries.l0, if_neg (by omega)]) (Ev.now _), ?_⟩
    rw [decide_eq_true_iff]
    exact ⟨fun h => ⟨by omega, fun j h1 h2 => by omega⟩, fun h => by omega⟩
  | d + 1, i, hd => by
    by_cases hr : 0 ≤ l.getD i 0 ∧ l.getD i 0 ≤ 100
    · by_cases hi : 0 < i
      · by_cases hp : l.getD (i - 1) 0 > l.getD i 0
        · refine EvB.no (fun k => ?_) (fun h => ?_)
          · rw [spec_GoodEntries.l0, if_pos (by omega), if_pos (by omega), if_pos (by omega), sin, rd_nat, decide_eq_true hr, Option.bind_some, if_pos rfl, if_pos (by omega), pred_wrap hi (by omega), if_pos (by omega), if_pos (by omega), rd_nat, if_pos hp]
          · have := (h.2 i (Nat.le_refl _) (by omega)).2 hi
            omega
        · refine EvB.step (fun k => ?_) (EvB.iff (sGE_l l hl d (i + 1) (by omega)) ?_)
          · show spec_GoodEntries.l0 (k + 1) l l (l.length : Int) (i : Int) = spec_GoodEntries.l0 k l l (l.length : Int) ((i + 1 : Nat) : Int)
            rw [spec_GoodEntries.l0, if_pos (by omega), if_pos (by omega), if_pos (by omega), sin, rd_nat, decide_eq_true hr, Option.bind_some, if_pos rfl, if_pos (by omega), pred_wrap hi (by omega), if_pos (by omega), if_pos (by omega), rd_nat, if_neg hp, succ_wrap (by omega)]
          · refine and_congr_right fun _ => ⟨fun h j h1 h2 => ?_, fun h j h1 h2 => h j (by omega) h2⟩
            by_cases e : j = i
            · subst e
              exact ⟨hr, fun _ => by omega⟩
            · exact h j (by omega) h2
      · have h0 : i = 0 := by omega
        subst h0
        refine EvB.step (fun k => ?_) (EvB.iff (sGE_l l hl d 1 (by omega)) ?_)
        · show spec_GoodEntries.l0 (k + 1) l l (l.length : Int) ((0 : Nat) : Int) = spec_GoodEntries.l0 k l l (l.length : Int) ((0 + 1 : Nat) : Int)
          rw [spec_GoodEntries.l0, if_pos (by omega), if_pos (by omega), if_pos (by omega), sin, rd_nat, decide_eq_true hr, Option.bind_some, if_pos rfl, if_neg (by omega), succ_wrap (by omega)]
        · refine and_congr_right fun _ => ⟨fun h j h1 h2 => ?_, fun h j h1 h2 => h j (by omega) h2⟩
          by_cases e : j = 0
          · subst e
            exact ⟨hr, fun h => absurd h (Nat.lt_irrefl _)⟩
          · exact h j (by omega) h2
    · refine EvB.no (fun k => ?_) (fun h => hr (h.2 i (Nat.le_refl _) (by omega)).1)
      rw [spec_GoodEntries.l0, if_pos (by omega), if_pos (by omega), if_pos (by omega), sin, rd_nat, decide_eq_false hr, Option.bind_some, if_neg (by decide)]
theorem sGE_ev (l : List Int) (hl : l.length ≤ 1048576) : EvB (fun k => spec_GoodEntries.f k l) (GE l) := by
  have h := sGE_l l hl l.length 0 (by omega)
  exact h.iff ⟨fun h => ⟨h.1, fun j hj => h.2 j (Nat.zero_le _) hj⟩, fun h => ⟨h.1, fun j _ hj => h.2 j hj⟩⟩

theorem iGE_l (l : List Int) (hl : l.length ≤ 1048576) : ∀ d i : Nat, i + d = l.length →
    EvB (fun k => impl_areEntries.l0 k l l (l.length : Int) (i : Int)) (l.length ≤ 30 ∧ ∀ j, i ≤ j → j < l.length → PE l j)
  | 0, i, hd => by
    refine ⟨decide ((l.length : Int) ≤ 30), Ev.step (f := fun _ => some (decide ((l.length : Int) ≤ 30))) (fun k => by rw [impl_areEntries.l0, if_neg (by omega)]) (Ev.now _), ?_⟩
    rw [decide_eq_true_iff]
    exact ⟨fun h => ⟨by omega, fun j h1 h2 => by omega⟩, fun h => by omega⟩
  | d + 1, i, hd => by
    by_cases hr : 0 ≤ l.getD i 0 ∧ l.getD i 0 ≤ 100
    · by_cases hi : 0 < i
      · by_cases hp : l.getD (i - 1) 0 > l.getD i 0
        · refine EvB.no (fun k => ?_) (fun h => ?_)
          · rw [impl_areEntries.l0, if_pos (by omega), if_pos (by omega), if_pos (by omega), iin, rd_nat, decide_eq_true hr, Option.bind_some, if_pos rfl, if_pos (by omega), pred_wrap hi (by omega), if_pos (by omega), if_pos (by omega), rd_nat, if_pos hp]
          · have := (h.2 i (Nat.le_refl _) (by omega)).2 hi
            omega
        · refine EvB.step (fun k => ?_) (EvB.iff (iGE_l l hl d (i + 1) (by omega)) ?_)
          · show impl_areEntries.l0 (k + 1) l l (l.length : Int) (i : Int) = impl_areEntries.l0 k l l (l.length : Int) ((i + 1 : Nat) : Int)
            rw [impl_areEntries.l0, if_pos (by omega), if_pos (by omega), if_pos (by omega), iin, rd_nat, decide_eq_true hr, Option.bind_some, if_pos rfl, if_pos (by omega), pred_wrap hi (by omega), if_pos (by omega), if_pos (by omega), rd_nat, if_neg hp, succ_wrap (by omega)]
          · refine and_congr_right fun _ => ⟨fun h j h1 h2 => ?_, fun h j h1 h2 => h j (by omega) h2⟩
            by_cases e : j = i
            · subst e
              exact ⟨hr, fun _ => by omega⟩
            · exact h j (by omega) h2
      · have h0 : i = 0 := by omega
        subst h0
        refine EvB.step (fun k => ?_) (EvB.iff (iGE_l l hl d 1 (by omega)) ?_)
        · show impl_areEntries.l0 (k + 1) l l (l.length : Int) ((0 : Nat) : Int) = impl_areEntries.l0 k l l (l.length : Int) ((0 + 1 : Nat) : Int)
          rw [impl_areEntries.l0, if_pos (by omega), if_pos (by omega), if_pos (by omega), iin, rd_nat, decide_eq_true hr, Option.bind_some, if_pos rfl, if_neg (by omega), succ_wrap (by omega)]
        · refine and_congr_right fun _ => ⟨fun h j h1 h2 => ?_, fun h j h1 h2 => h j (by omega) h2⟩
          by_cases e : j = 0
          · subst e
            exact ⟨hr, fun h => absurd h (Nat.lt_irrefl _)⟩
          · exact h j (by omega) h2
    · refine EvB.no (fun k => ?_) (fun h => hr (h.2 i (Nat.le_refl _) (by omega)).1)
      rw [impl_areEntries.l0, if_pos (by omega), if_pos (by omega), if_pos (by omega), iin, rd_nat, decide_eq_false hr, Option.bind_some, if_neg (by decide)]
theorem iGE_ev (l : List Int) (hl : l.length ≤ 1048576) : EvB (fun k => impl_areEntries.f k l) (GE l) := by
  have h := iGE_l l hl l.length 0 (by omega)
  exact h.iff ⟨fun h => ⟨h.1, fun j hj => h.2 j (Nat.zero_le _) hj⟩, fun h => ⟨h.1, fun j _ hj => h.2 j hj⟩⟩

/-! #### marks of a log -/
/-- The marks of the d entries from i on. -/
def MO (l : List Int) : Nat → Nat → List S60
  | _, 0 => []
  | i, d + 1 => if i = 0 ∨ ¬ l.getD (i - 1) 0 = l.getD i 0 then ⟨l.getD i 0, (i : Int)⟩ :: MO l (i + 1) d else MO l (i + 1) d
theorem MO_length (l : List Int) : ∀ d i, (MO l i d).length ≤ d
  | 0, _ => Nat.le_refl _
  | d + 1, i => by
    have := MO_length l d (i + 1)
    rw [MO]
    split
    · rw [List.length_cons]
      omega
    · omega

theorem sMO_l (l : List Int) (hl : l.length ≤ 1048576) : ∀ d i : Nat, i + d = l.length → ∀ x : List S60, x.length ≤ i →
    Ev (fun k => spec_l4Marks.l0 k l x l (l.length : Int) (i : Int)) (x ++ MO l i d)
  | 0, i, hd => fun x hx => by
    refine Ev.step (f := fun _ => some x) (fun k => by rw [spec_l4Marks.l0, if_neg (by omega)]) ?_
    show Ev _ (x ++ [])
    rw [List.append_nil]
    exact Ev.now _
  | d + 1, i, hd => fun x hx => by
    by_cases hi : 0 < i
    · by_cases hp : l.getD (i - 1) 0 = l.getD i 0
      · have h := sMO_l l hl d (i + 1) (by omega) x (by omega)
        refine Ev.step (fun k => ?_) (f := fun k => spec_l4Marks.l0 k l x l (l.length : Int) ((i + 1 : Nat) : Int)) ?_
        · show spec_l4Marks.l0 (k + 1) l x l (l.length : Int) (i : Int) = _
          rw [spec_l4Marks.l0, if_pos (by omega), if_pos (by omega), if_pos (by omega), if_neg (by omega), pred_wrap hi (by omega), if_pos (by omega), if_pos (by omega), rd_nat, rd_nat, if_pos hp, succ_wrap (by omega)]
        · rw [MO, if_neg (fun h' => h'.elim (fun h0 => by omega) (fun h1 => h1 hp))]
          exact h
      · have h := sMO_l l hl d (i + 1) (by omega) (x ++ [⟨l.getD i 0, (i : Int)⟩]) (by rw [List.length_append, List.length_singleton]; omega)
        refine Ev.step (fun k => ?_) (f := fun k => spec_l4Marks.l0 k l (x ++ [⟨l.getD i 0, (i : Int)⟩]) l (l.length : Int) ((i + 1 : Nat) : Int)) ?_
        · show spec_l4Marks.l0 (k + 1) l x l (l.length : Int) (i : Int) = _
          rw [spec_l4Marks.l0, if_pos (by omega), if_pos (by omega), if_pos (by omega), if_neg (by omega), pred_wrap hi (by omega), if_pos (by omega), if_pos (by omega), rd_nat, rd_nat, if_neg hp, if_pos (by omega), succ_wrap (by omega)]
        · rw [MO, if_pos (Or.inr hp)]
          rw [List.append_assoc, List.singleton_append] at h
          exact h
    · have h0 : i = 0 := by omega
      subst h0
      have h := sMO_l l hl d 1 (by omega) (x ++ [⟨l.getD 0 0, ((0 : Nat) : Int)⟩]) (by rw [List.length_append, List.length_singleton]; omega)
      refine Ev.step (fun k => ?_) (f := fun k => spec_l4Marks.l0 k l (x ++ [⟨l.getD 0 0, ((0 : Nat) : Int)⟩]) l (l.length : Int) ((0 + 1 : Nat) : Int)) ?_
      · show spec_l4Marks.l0 (k + 1) l x l (l.length : Int) ((0 : Nat) : Int) = _
        rw [spec_l4Marks.l0, if_pos (by omega), if_pos (by omega), if_pos (by omega), if_pos (by omega), if_pos (by omega), succ_wrap (by omega), rd_nat]
      · rw [MO, if_pos (Or.inl rfl)]
        rw [List.append_assoc, List.singleton_append] at h
        exact h
theorem sMO_ev (l : List Int) (hl : l.length ≤ 1048576) : Ev (fun k => spec_l4Marks.f k l) (MO l 0 l.length) := sMO_l l hl l.length 0 (by omega) [] (Nat.zero_le _)

theorem iMO_l (l : List Int) (hl : l.length ≤ 1048576) : ∀ d i : Nat, i + d = l.length → ∀ x : List S60, x.length ≤ i →
    Ev (fun k => impl_marksOf.l0 k l x l (l.length : Int) (i : Int)) (x ++ MO l i d)
  | 0, i, hd => fun x hx => by
    refine Ev.step (f := fun _ => some x) (fun k => by rw [impl_marksOf.l0, if_neg (by omega)]) ?_
    show Ev _ (x ++ [])
    rw [List.append_nil]
    exact Ev.now _
  | d + 1, i, hd => fun x hx => by
    by_cases hi : 0 < i
    · by_cases hp : l.getD (i - 1) 0 = l.getD i 0
      · have h := iMO_l l hl d (i + 1) (by omega) x (by omega)
        refine Ev.step (fun k => ?_) (f := fun k => impl_marksOf.l0 k l x l (l.length : Int) ((i + 1 : Nat) : Int)) ?_
        · show impl_marksOf.l0 (k + 1) l x l (l.length : Int) (i : Int) = _
          rw [impl_marksOf.l0, if_pos (by omega), if_pos (by omega), if_pos (by omega), if_neg (by omega), pred_wrap hi (by omega), if_pos (by omega), if_pos (by omega), rd_nat, rd_nat, if_pos hp, succ_wrap (by omega)]
        · rw [MO, if_neg (fun h' => h'.elim (fun h0 => by omega) (fun h1 => h1 hp))]
          exact h
      · have h := iMO_l l hl d (i + 1) (by omega) (x ++ [⟨l.getD i 0, (i : Int)⟩]) (by rw [List.length_append, List.length_singleton]; omega)
        refine Ev.step (fun k => ?_) (f := fun k => impl_marksOf.l0 k l (x ++ [⟨l.getD i 0, (i : Int)⟩]) l (l.length : Int) ((i + 1 : Nat) : Int)) ?_
        · show impl_marksOf.l0 (k + 1) l x l (l.length : Int) (i : Int) = _
          rw [impl_marksOf.l0, if_pos (by omega), if_pos (by omega), if_pos (by omega), if_neg (by omega), pred_wrap hi (by omega), if_pos (by omega), if_pos (by omega), rd_nat, rd_nat, if_neg hp, if_pos (by omega), succ_wrap (by omega)]
        · rw [MO, if_pos (Or.inr hp)]
          rw [List.append_assoc, List.singleton_append] at h
          exact h
    · have h0 : i = 0 := by omega
      subst h0
      have h := iMO_l l hl d 1 (by omega) (x ++ [⟨l.getD 0 0, ((0 : Nat) : Int)⟩]) (by rw [List.length_append, List.length_singleton]; omega)
      refine Ev.step (fun k => ?_) (f := fun k => impl_marksOf.l0 k l (x ++ [⟨l.getD 0 0, ((0 : Nat) : Int)⟩]) l (l.length : Int) ((0 + 1 : Nat) : Int)) ?_
      · show impl_marksOf.l0 (k + 1) l x l (l.length : Int) ((0 : Nat) : Int) = _
        rw [impl_marksOf.l0, if_pos (by omega), if_pos (by omega), if_pos (by omega), if_pos (by omega), if_pos (by omega), succ_wrap (by omega), rd_nat]
      · rw [MO, if_pos (Or.inl rfl)]
        rw [List.append_assoc, List.singleton_append] at h
        exact h
theorem iMO_ev (l : List Int) (hl : l.length ≤ 1048576) : Ev (fun k => impl_marksOf.f k l) (MO l 0 l.length) := iMO_l l hl l.length 0 (by omega) [] (Nat.zero_le _)

theorem em_nat (l : List S60) (i : Nat) : rd_T60 l (i : Int) = l.getD i z60 := rfl

/-! #### good marks -/
def PM (l : List S60) (j : Nat) : Prop := (0 ≤ (l.getD j z60).f0 ∧ (l.getD j z60).f0 ≤ 100) ∧ (0 ≤ (l.getD j z60).f1 ∧ (l.getD j z60).f1 ≤ 29) ∧
  (0 < j → (l.getD (j - 1) z60).f0 < (l.getD j z60).f0 ∧ (l.getD (j - 1) z60).f1 < (l.getD j z60).f1)
def GM (l : List S60) : Prop := l.length ≤ 30 ∧ ∀ j, j < l.length → PM l j

theorem sGM_l (l : List S60) (hl : l.length ≤ 1048576) : ∀ d i : Nat, i + d = l.length →
    EvB (fun k => spec_GoodMarks.l0 k l l (l.length : Int) (i : Int)) (l.length ≤ 30 ∧ ∀ j, i ≤ j → j < l.length → PM l j)
  | 0, i, hd => by
    refine ⟨decide ((l.length : Int) ≤ 30), Ev.step (f := fun _ => some (decide ((l.length : Int) ≤ 30))) (fun k => by rw [spec_GoodMarks.l0, if_neg (by omega)]) (Ev.now _), ?_⟩
    rw [decide_eq_true_iff]
    exact ⟨fun h => ⟨by omega, fun j h1 h2 => by omega⟩, fun h => by omega⟩
  | d + 1, i, hd => by
    by_cases hr : 0 ≤ (l.getD i z60).f0 ∧ (l.getD i z60).f0 ≤ 100
    · by_cases hs : 0 ≤ (l.getD i z60).f1 ∧ (l.getD i z60).f1 ≤ 29
      · by_cases hi : 0 < i
        · by_cases hp : (l.getD (i - 1) z60).f0 ≥ (l.getD i z60).f0
          · refine EvB.no (fun k => ?_) (fun h => ?_)
            · rw [spec_GoodMarks.l0, if_pos (by omega), if_pos (by omega), if_pos (by omega), sin, em_nat, decide_eq_true hr, Option.bind_some, if_pos rfl, sin, decide_eq_true hs, Option.bind_some, if_pos rfl, if_pos (by omega), pred_wrap hi (by omega), if_pos (by omega), if_pos (by omega), em_nat, if_pos hp]
            · have := ((h.2 i (Nat.le_refl _) (by omega)).2.2 hi).1
              omega
          · by_cases hq : (l.getD (i - 1) z60).f1 ≥ (l.getD i z60).f1
            · refine EvB.no (fun k => ?_) (fun h => ?_)
              · rw [spec_GoodMarks.l0, if_pos (by omega), if_pos (by omega), if_pos (by omega), sin, em_nat, decide_eq_true hr, Option.bind_some, if_pos rfl, sin, decide_eq_true hs, Option.bind_some, if_pos rfl, if_pos (by omega), pred_wrap hi (by omega), if_pos (by omega), if_pos (by omega), em_nat, if_neg hp, if_pos hq]
              · have := ((h.2 i (Nat.le_refl _) (by omega)).2.2 hi).2
                omega
            · refine EvB.step (fun k => ?_) (EvB.iff (sGM_l l hl d (i + 1) (by omega)) ?_)
              · show spec_GoodMarks.l0 (k + 1) l l (l.length : Int) (i : Int) = spec_GoodMarks.l0 k l l (l.length : Int) ((i + 1 : Nat) : Int)
                rw [spec_GoodMarks.l0, if_pos (by omega), if_pos (by omega), if_pos (by omega), sin, em_nat, decide_eq_true hr, Option.bind_some, if_pos rfl, sin, decide_eq_true hs, Option.bind_some, if_pos rfl, if_pos (by omega), pred_wrap hi (by omega), if_pos (by omega), if_pos (by omega), em_nat, if_neg hp, if_neg hq, succ_wrap (by omega)]
              · refine and_congr_right fun _ => ⟨fun h j h1 h2 => ?_, fun h j h1 h2 => h j (by omega) h2⟩
                by_cases e : j = i
                · subst e
                  exact ⟨hr, hs, fun _ => ⟨by omega, by omega⟩⟩
                · exact h j (by omega) h2
        · have h0 : i = 0 := by omega
          subst h0
          refine EvB.step (fun k => ?_) (EvB.iff (sGM_l l hl d 1 (by omega)) ?_)
          · show spec_GoodMarks.l0 (k + 1) l l (l.length : Int) ((0 : Nat) : Int) = spec_GoodMarks.l0 k l l (l.length : Int) ((0 + 1 : Nat) : Int)
            rw [spec_GoodMarks.l0, if_pos (by omega), if_pos (by omega), if_pos (by omega), sin, em_nat, decide_eq_true hr, Option.bind_some, if_pos rfl, sin, decide_eq_true hs, Option.bind_some, if_pos rfl, if_neg (by omega), succ_wrap (by omega)]
          · refine and_congr_right fun _ => ⟨fun h j h1 h2 => ?_, fun h j h1 h2 => h j (by omega) h2⟩
            by_cases e : j = 0
            · subst e
              exact ⟨hr, hs, fun h => absurd h (Nat.lt_irrefl _)⟩
            · exact h j (by omega) h2
      · refine EvB.no (fun k => ?_) (fun h => hs (h.2 i (Nat.le_refl _) (by omega)).2.1)
        rw [spec_GoodMarks.l0, if_pos (by omega), if_pos (by omega), if_pos (by omega), sin, em_nat, decide_eq_true hr, Option.bind_some, if_pos rfl, sin, decide_eq_false hs, Option.bind_some, if_neg (by decide)]
    · refine EvB.no (fun k => ?_) (fun h => hr (h.2 i (Nat.le_refl _) (by omega)).1)
      rw [spec_GoodMarks.l0, if_pos (by omega), if_pos (by omega), if_pos (by omega), sin, em_nat, decide_eq_false hr, Option.bind_some, if_neg (by decide)]
theorem sGM_ev (l : List S60) (hl : l.length ≤ 1048576) : EvB (fun k => spec_GoodMarks.f k l) (GM l) := by
  have h := sGM_l l hl l.length 0 (by omega)
  exact h.iff ⟨fun h => ⟨h.1, fun j hj => h.2 j (Nat.zero_le _) hj⟩, fun h => ⟨h.1, fun j _ hj => h.2 j hj⟩⟩

theorem iGM_l (l : List S60) (hl : l.length ≤ 1048576) : ∀ d i : Nat, i + d = l.length →
    EvB (fun k => impl_areMarks.l0 k l l (l.length : Int) (i : Int)) (l.length ≤ 30 ∧ ∀ j, i ≤ j → j < l.length → PM l j)
  | 0, i, hd => by
    refine ⟨decide ((l.length : Int) ≤ 30), Ev.step (f := fun _ => some (decide ((l.length : Int) ≤ 30))) (fun k => by rw [impl_areMarks.l0, if_neg (by omega)]) (Ev.now _), ?_⟩
    rw [decide_eq_true_iff]
    exact ⟨fun h => ⟨by omega, fun j h1 h2 => by omega⟩, fun h => by omega⟩
  | d + 1, i, hd => by
    by_cases hr : 0 ≤ (l.getD i z60).f0 ∧ (l.getD i z60).f0 ≤ 100
    · by_cases hs : 0 ≤ (l.getD i z60).f1 ∧ (l.getD i z60).f1 ≤ 29
      · by_cases hi : 0 < i
        · by_cases hp : (l.getD (i - 1) z60).f0 ≥ (l.getD i z60).f0
          · refine EvB.no (fun k => ?_) (fun h => ?_)
            · rw [impl_areMarks.l0, if_pos (by omega), if_pos (by omega), if_pos (by omega), iin, em_nat, decide_eq_true hr, Option.bind_some, if_pos rfl, iin, decide_eq_true hs, Option.bind_some, if_pos rfl, if_pos (by omega), pred_wrap hi (by omega), if_pos (by omega), if_pos (by omega), em_nat, if_pos hp]
            · have := ((h.2 i (Nat.le_refl _) (by omega)).2.2 hi).1
              omega
          · by_cases hq : (l.getD (i - 1) z60).f1 ≥ (l.getD i z60).f1
            · refine EvB.no (fun k => ?_) (fun h => ?_)
              · rw [impl_areMarks.l0, if_pos (by omega), if_pos (by omega), if_pos (by omega), iin, em_nat, decide_eq_true hr, Option.bind_some, if_pos rfl, iin, decide_eq_true hs, Option.bind_some, if_pos rfl, if_pos (by omega), pred_wrap hi (by omega), if_pos (by omega), if_pos (by omega), em_nat, if_neg hp, if_pos hq]
              · have := ((h.2 i (Nat.le_refl _) (by omega)).2.2 hi).2
                omega
            · refine EvB.step (fun k => ?_) (EvB.iff (iGM_l l hl d (i + 1) (by omega)) ?_)
              · show impl_areMarks.l0 (k + 1) l l (l.length : Int) (i : Int) = impl_areMarks.l0 k l l (l.length : Int) ((i + 1 : Nat) : Int)
                rw [impl_areMarks.l0, if_pos (by omega), if_pos (by omega), if_pos (by omega), iin, em_nat, decide_eq_true hr, Option.bind_some, if_pos rfl, iin, decide_eq_true hs, Option.bind_some, if_pos rfl, if_pos (by omega), pred_wrap hi (by omega), if_pos (by omega), if_pos (by omega), em_nat, if_neg hp, if_neg hq, succ_wrap (by omega)]
              · refine and_congr_right fun _ => ⟨fun h j h1 h2 => ?_, fun h j h1 h2 => h j (by omega) h2⟩
                by_cases e : j = i
                · subst e
                  exact ⟨hr, hs, fun _ => ⟨by omega, by omega⟩⟩
                · exact h j (by omega) h2
        · have h0 : i = 0 := by omega
          subst h0
          refine EvB.step (fun k => ?_) (EvB.iff (iGM_l l hl d 1 (by omega)) ?_)
          · show impl_areMarks.l0 (k + 1) l l (l.length : Int) ((0 : Nat) : Int) = impl_areMarks.l0 k l l (l.length : Int) ((0 + 1 : Nat) : Int)
            rw [impl_areMarks.l0, if_pos (by omega), if_pos (by omega), if_pos (by omega), iin, em_nat, decide_eq_true hr, Option.bind_some, if_pos rfl, iin, decide_eq_true hs, Option.bind_some, if_pos rfl, if_neg (by omega), succ_wrap (by omega)]
          · refine and_congr_right fun _ => ⟨fun h j h1 h2 => ?_, fun h j h1 h2 => h j (by omega) h2⟩
            by_cases e : j = 0
            · subst e
              exact ⟨hr, hs, fun h => absurd h (Nat.lt_irrefl _)⟩
            · exact h j (by omega) h2
      · refine EvB.no (fun k => ?_) (fun h => hs (h.2 i (Nat.le_refl _) (by omega)).2.1)
        rw [impl_areMarks.l0, if_pos (by omega), if_pos (by omega), if_pos (by omega), iin, em_nat, decide_eq_true hr, Option.bind_some, if_pos rfl, iin, decide_eq_false hs, Option.bind_some, if_neg (by decide)]
    · refine EvB.no (fun k => ?_) (fun h => hr (h.2 i (Nat.le_refl _) (by omega)).1)
      rw [impl_areMarks.l0, if_pos (by omega), if_pos (by omega), if_pos (by omega), iin, em_nat, decide_eq_false hr, Option.bind_some, if_neg (by decide)]
theorem iGM_ev (l : List S60) (hl : l.length ≤ 1048576) : EvB (fun k => impl_areMarks.f k l) (GM l) := by
  have h := iGM_l l hl l.length 0 (by omega)
  exact h.iff ⟨fun h => ⟨h.1, fun j hj => h.2 j (Nat.zero_le _) hj⟩, fun h => ⟨h.1, fun j _ hj => h.2 j hj⟩⟩

/-! #### where an epoch ends -/
/-- Among the first n marks. -/
def EE (m : List S60) (e ep : Int) : Nat → Int × Int
  | 0 => (-1, 0)
  | i + 1 => if (m.getD i z60).f0 ≤ ep then ((m.getD i z60).f0, if i + 1 < m.length then (m.getD (i + 1) z60).f1 else e) else EE m e ep i
theorem sEE_l (m : List S60) (e ep : Int) (hm : m.length ≤ 1048576) : ∀ n : Nat, n ≤ m.length → ∀ x y : Int, x = (n : Int) - 1 → y = (if n < m.length then (m.getD n z60).f1 else e) →
    Ev (fun k => spec_l4End.l0 k m y ep x) (EE m e ep n)
  | 0, _ => fun x y hx hy => Ev.step (f := fun _ => some (-1, 0)) (fun k => by rw [spec_l4End.l0, if_neg (by omega)]) (Ev.now _)
  | i + 1, hn => fun x y hx hy => by
    obtain rfl : x = (i : Int) := by omega
    rw [EE]
    by_cases h : (m.getD i z60).f0 ≤ ep
    · rw [if_pos h, ← hy]
      refine Ev.step (f := fun _ => some ((m.getD i z60).f0, y)) (fun k => ?_) (Ev.now _)
      rw [spec_l4End.l0, if_pos (by omega), if_pos (by omega), if_pos (by omega), em_nat, if_pos h]
    · rw [if_neg h]
      refine Ev.step (fun k => ?_) (sEE_l m e ep hm i (by omega) ((i : Int) - 1) (m.getD i z60).f1 rfl (by rw [if_pos (by omega)]))
      show spec_l4End.l0 (k + 1) m y ep (i : Int) = spec_l4End.l0 k m (m.getD i z60).f1 ep ((i : Int) - 1)
      rw [spec_l4End.l0, if_pos (by omega), if_pos (by omega), if_pos (by omega), em_nat, if_neg h, wrap_id (by omega) (by omega)]
theorem iEE_l (m : List S60) (e ep : Int) (hm : m.length ≤ 1048576) : ∀ n : Nat, n ≤ m.length → ∀ x : Int, x = (n : Int) - 1 →
    Ev (fun k => impl_endOfEpoch.l0 k m e ep x) (EE m e ep n)
  | 0, _ => fun x hx => Ev.step (f := fun _ => some (-1, 0)) (fun k => by rw [impl_endOfEpoch.l0, if_neg (by omega)]) (Ev.now _)
  | i + 1, hn => fun x hx => by
    obtain rfl : x = (i : Int) := by omega
    rw [EE]
    by_cases h : (m.getD i z60).f0 ≤ ep
    · rw [if_pos h]
      by_cases h2 : i + 1 < m.length
      · rw [if_pos h2]
        refine Ev.step (f := fun _ => some ((m.getD i z60).f0, (m.getD (i + 1) z60).f1)) (fun k => ?_) (Ev.now _)
        rw [impl_endOfEpoch.l0, if_pos (by omega), if_pos (by omega), if_pos (by omega), em_nat, if_neg (by omega), succ_wrap (by omega), if_pos (by omega), if_pos (by omega), em_nat]
      · rw [if_neg h2]
        refine Ev.step (f := fun _ => some ((m.getD i z60).f0, e)) (fun k => ?_) (Ev.now _)
        rw [impl_endOfEpoch.l0, if_pos (by omega), if_pos (by omega), if_pos (by omega), em_nat, if_neg (by omega), succ_wrap (by omega), if_neg (by omega)]
    · rw [if_neg h]
      refine Ev.step (fun k => ?_) (iEE_l m e ep hm i (by omega) ((i : Int) - 1) rfl)
      show impl_endOfEpoch.l0 (k + 1) m e ep (i : Int) = impl_endOfEpoch.l0 k m e ep ((i : Int) - 1)
      rw [impl_endOfEpoch.l0, if_pos (by omega), if_pos (by omega), if_pos (by omega), em_nat, if_pos (by omega), wrap_id (by omega) (by omega)]
theorem sEE_ev (m : List S60) (e ep : Int) (hm : m.length ≤ 1048576) : Ev (fun k => spec_l4End.f k m e ep) (EE m e ep m.length) := by
  have h := sEE_l m e ep hm m.length (Nat.le_refl _) ((m.length : Int) - 1) e rfl (by rw [if_neg (Nat.lt_irrefl _)])
  refine Ev.congr (fun k => ?_) h
  unfold spec_l4End.f
  rw [wrap_id (by omega) (by omega)]
theorem iEE_ev (m : List S60) (e ep : Int) (hm : m.length ≤ 1048576) : Ev (fun k => impl_endOfEpoch.f k m e ep) (EE m e ep m.length) := by
  have h := iEE_l m e ep hm m.length (Nat.le_refl _) ((m.length : Int) - 1) rfl
  refine Ev.congr (fun k => ?_) h
  unfold impl_endOfEpoch.f
  rw [wrap_id (by omega) (by omega)]
theorem EE_le (m : List S60) (e ep : Int) : ∀ n, (EE m e ep n).1 ≤ ep ∨ (EE m e ep n).1 = -1
  | 0 => Or.inr rfl
  | i + 1 => by
    rw [EE]
    split
    · exact Or.inl (by assumption)
    · exact EE_le m e ep i
theorem EE_end (m : List S60) (e ep : Int) (he : 0 ≤ e) (h : ∀ x ∈ m, 0 ≤ x.f1 ∧ x.f1 ≤ e) : ∀ n, 0 ≤ (EE m e ep n).2 ∧ (EE m e ep n).2 ≤ e
  | 0 => ⟨Int.le_refl _, he⟩
  | i + 1 => by
    rw [EE]
    split
    · split
      · rename_i h2
        exact h _ (getD_mem h2 _)
      · exact ⟨he, Int.le_refl _⟩
    · exact EE_end m e ep he h i

theorem EndOfEpoch_ev (m : List S60) (hm : m.length ≤ 1048576) (e ep : Int) :
    ∃ (a b : Int) (o : Bool), Ev (fun k => spec_EndOfEpoch.f k m e ep) (a, b, o) ∧ Ev (fun k => impl_EndOfEpoch.f k m e ep) (a, b, o) := by
  obtain ⟨x, hsx, hqx⟩ := sGM_ev m hm
  obtain ⟨x', hix, hqx'⟩ := iGM_ev m hm
  obtain rfl : x' = x := Bool.eq_iff_iff.2 (hqx'.trans hqx.symm)
  have hs := sEE_ev m e ep hm
  have hi := iEE_ev m e ep hm
  unfold spec_EndOfEpoch.f impl_EndOfEpoch.f
  simp only [sin, iin, Option.bind_some]
  cases x' with
  | false => exact ⟨0, 0, false, Ev.bind hsx (Ev.ifn (by decide) (Ev.now _)), Ev.bind hix (Ev.ifn (by decide) (Ev.now _))⟩
  | true =>
    by_cases h1 : decide ((0 : Int) ≤ e ∧ e ≤ 30) = true
    · by_cases h2 : (m.length : Int) > 0
      · have h3 : wrap64 ((m.length : Int) - 1) = (m.length : Int) - 1 := wrap_id (by omega) (by omega)
        rw [h3]
        by_cases h4 : (rd_T60 m ((m.length : Int) - 1)).f1 ≥ e
        · exact ⟨0, 0, false, Ev.bind hsx (Ev.ifp rfl (Ev.ifp h1 (Ev.ifp h2 (Ev.ifp (by omega) (Ev.ifp (by omega) (Ev.ifp h4 (Ev.now _))))))), Ev.bind hix (Ev.ifp rfl (Ev.ifp h1 (Ev.ifp h2 (Ev.ifp (by omega) (Ev.ifp (by omega) (Ev.ifp h4 (Ev.now _)))))))⟩
        · by_cases h5 : decide ((0 : Int) ≤ ep ∧ ep ≤ 100) = true
          · exact ⟨_, _, true, Ev.bind hsx (Ev.ifp rfl (Ev.ifp h1 (Ev.ifp h2 (Ev.ifp (by omega) (Ev.ifp (by omega) (Ev.ifn h4 (Ev.ifp h5 (Ev.bind hs (Ev.now _))))))))), Ev.bind hix (Ev.ifp rfl (Ev.ifp h1 (Ev.ifp h2 (Ev.ifp (by omega) (Ev.ifp (by omega) (Ev.ifn h4 (Ev.ifp h5 (Ev.bind hi (Ev.now _)))))))))⟩
          · exact ⟨0, 0, false, Ev.bind hsx (Ev.ifp rfl (Ev.ifp h1 (Ev.ifp h2 (Ev.ifp (by omega) (Ev.ifp (by omega) (Ev.ifn h4 (Ev.ifn h5 (Ev.now _)))))))), Ev.bind hix (Ev.ifp rfl (Ev.ifp h1 (Ev.ifp h2 (Ev.ifp (by omega) (Ev.ifp (by omega) (Ev.ifn h4 (Ev.ifn h5 (Ev.now _))))))))⟩
      · by_cases h5 : decide ((0 : Int) ≤ ep ∧ ep ≤ 100) = true
        · exact ⟨_, _, true, Ev.bind hsx (Ev.ifp rfl (Ev.ifp h1 (Ev.ifn h2 (Ev.ifp h5 (Ev.bind hs (Ev.now _)))))), Ev.bind hix (Ev.ifp rfl (Ev.ifp h1 (Ev.ifn h2 (Ev.ifp h5 (Ev.bind hi (Ev.now _))))))⟩
        · exact ⟨0, 0, false, Ev.bind hsx (Ev.ifp rfl (Ev.ifp h1 (Ev.ifn h2 (Ev.ifn h5 (Ev.now _))))), Ev.bind hix (Ev.ifp rfl (Ev.ifp h1 (Ev.ifn h2 (Ev.ifn h5 (Ev.now _)))))⟩
    · exact ⟨0, 0, false, Ev.bind hsx (Ev.ifp rfl (Ev.ifn h1 (Ev.now _))), Ev.bind hix (Ev.ifp rfl (Ev.ifn h1 (Ev.now _)))⟩

theorem MarksOf_ev (l : List Int) (hl : l.length ≤ 1048576) :
    ∃ (x : List S60) (o : Bool), x.length ≤ 1048576 ∧ Ev (fun k => spec_MarksOf.f k l) (x, o) ∧ Ev (fun k => impl_MarksOf.f k l) (x, o) := by
  obtain ⟨b, hs, hq⟩ := sGE_ev l hl
  obtain ⟨b', hi, hq'⟩ := iGE_ev l hl
  obtain rfl : b' = b := Bool.eq_iff_iff.2 (hq'.trans hq.symm)
  unfold spec_MarksOf.f impl_MarksOf.f
  cases b' with
  | false => exact ⟨[], false, Nat.zero_le _, Ev.bind hs (Ev.ifn (by decide) (Ev.now _)), Ev.bind hi (Ev.ifn (by decide) (Ev.now _))⟩
  | true => exact ⟨MO l 0 l.length, true, Nat.le_trans (MO_length l l.length 0) hl, Ev.bind hs (Ev.ifp rfl (Ev.bind (sMO_ev l hl) (Ev.now _))), Ev.bind hi (Ev.ifp rfl (Ev.bind (iMO_ev l hl) (Ev.now _)))⟩

/-! #### marks, cut -/
def cutM (l : List S60) (a : Int) : List S60 := l.filter fun x => !(decide (x.f1 ≥ a))
theorem sCM_l (l : List S60) (a : Int) (hl : l.length ≤ 1048576) : ∀ d i : Nat, i + d = l.length → ∀ acc : List S60, acc.length ≤ i →
    Ev (fun k => spec_CutMarks.l0 k a acc l (l.length : Int) (i : Int)) (acc ++ cutM (l.drop i) a, true)
  | 0, i, hd, acc, hc => by
    have e : i = l.length := by omega
    subst e
    rw [List.drop_length, show cutM [] a = [] from rfl, List.append_nil]
    exact Ev.step (f := fun _ => some (acc, true)) (fun k => by rw [spec_CutMarks.l0, if_neg (by omega)]) (Ev.now _)
  | d + 1, i, hd, acc, hc => by
    have hi : i < l.length := by omega
    have e : l.drop i = l.getD i z60 :: l.drop (i + 1) := by
      rw [List.drop_eq_getElem_cons hi, List.getD_eq_getElem?_getD, List.getElem?_eq_getElem hi]
      rfl
    rw [e]
    by_cases h : (l.getD i z60).f1 < a
    · have e2 : acc ++ cutM (l.getD i z60 :: l.drop (i + 1)) a = (acc ++ [l.getD i z60]) ++ cutM (l.drop (i + 1)) a := by
        have hd : decide ((l.getD i z60).f1 ≥ a) = false := decide_eq_false (by omega)
        unfold cutM
        rw [List.filter_cons, hd, List.append_assoc, List.singleton_append]
        rfl
      rw [e2]
      refine Ev.step (fun k => ?_) (sCM_l l a hl d (i + 1) (by omega) (acc ++ [l.getD i z60]) (by rw [List.length_append, List.length_singleton]; omega))
      rw [spec_CutMarks.l0, if_pos (by omega), if_pos (by omega), if_pos (by omega), em_nat, if_pos h, if_pos (by omega), succ_wrap (by omega)]
    · have e2 : cutM (l.getD i z60 :: l.drop (i + 1)) a = cutM (l.drop (i + 1)) a := by
        have hd : decide ((l.getD i z60).f1 ≥ a) = true := decide_eq_true (by omega)
        unfold cutM
        rw [List.filter_cons, hd]
        rfl
      rw [e2]
      refine Ev.step (fun k => ?_) (sCM_l l a hl d (i + 1) (by omega) acc (by omega))
      rw [spec_CutMarks.l0, if_pos (by omega), if_pos (by omega), if_pos (by omega), em_nat, if_neg h, succ_wrap (by omega)]
theorem CutMarks_ev (l : List S60) (a : Int) (hl : l.length ≤ 1048576) : ∃ (r : List S60) (b : Bool), r.length ≤ 1048576 ∧ Ev (fun k => spec_CutMarks.f k l a) (r, b) ∧ Ev (fun k => impl_CutMarks.f k l a) (r, b) := by
  obtain ⟨b, hsp, him, hq⟩ := both (sGM_ev l hl) (iGM_ev l hl)
  have no : Ev (fun k => spec_CutMarks.j0 k l a true) (([] : List S60), false) := Ev.step (f := fun _ => some ([], false)) (fun k => by rw [spec_CutMarks.j0, if_pos rfl]) (Ev.now _)
  unfold spec_CutMarks.f impl_CutMarks.f
  simp only [sin, iin, Option.bind_some]
  cases b with
  | false => exact ⟨[], false, Nat.zero_le _, Ev.bind hsp (Ev.ifn (by decide) no), Ev.bind him (Ev.ifn (by decide) (Ev.now _))⟩
  | true =>
    by_cases ha : 0 ≤ a ∧ a ≤ 30
    · rw [decide_eq_true ha]
      have h := sCM_l l a hl l.length 0 (by omega) [] (by simp)
      rw [List.drop_zero, List.nil_append] at h
      refine ⟨cutM l a, true, Nat.le_trans (List.length_filter_le _ _) hl, Ev.bind hsp (Ev.ifp rfl (Ev.step (fun k => by rw [spec_CutMarks.j0, if_neg (by decide)]; rfl) h)), Ev.bind him (Ev.ifp rfl (Ev.ifp rfl (Ev.ifp hl (Ev.now _))))⟩
    · rw [decide_eq_false ha]
      exact ⟨[], false, Nat.zero_le _, Ev.bind hsp (Ev.ifp rfl no), Ev.bind him (Ev.ifp rfl (Ev.ifn (by decide) (Ev.now _)))⟩

/-! #### what marks tell of a good log -/
def ST (l : List Int) (p : Nat) : Prop := p = 0 ∨ ¬ l.getD (p - 1) 0 = l.getD p 0
theorem MO_iff (l : List Int) : ∀ d i (x : S60), x ∈ MO l i d ↔ ∃ p, i ≤ p ∧ p < i + d ∧ ST l p ∧ x = ⟨l.getD p 0, (p : Int)⟩
  | 0, i, x => Iff.intro (fun h => by cases h) (fun ⟨p, h1, h2, _⟩ => by omega)
  | d + 1, i, x => by
    have ih := MO_iff l d (i + 1) x
    have up : (∃ p, i + 1 ≤ p ∧ p < i + 1 + d ∧ ST l p ∧ x = ⟨l.getD p 0, (p : Int)⟩) → ∃ p, i ≤ p ∧ p < i + (d + 1) ∧ ST l p ∧ x = ⟨l.getD p 0, (p : Int)⟩ := fun ⟨p, h1, h2, h3⟩ => ⟨p, by omega, by omega, h3⟩
    rw [MO]
    by_cases h : i = 0 ∨ ¬ l.getD (i - 1) 0 = l.getD i 0
    · rw [if_pos h, List.mem_cons, ih]
      refine ⟨fun h2 => h2.elim (fun e => ⟨i, Nat.le_refl _, by omega, h, e⟩) up, fun ⟨p, h1, h2, h3, h4⟩ => ?_⟩
      by_cases e : p = i
      · rw [e] at h4
        exact .inl h4
      · exact .inr ⟨p, by omega, by omega, h3, h4⟩
    · rw [if_neg h, ih]
      refine ⟨up, fun ⟨p, h1, h2, h3, h4⟩ => ⟨p, ?_, by omega, h3, h4⟩⟩
      by_cases e : p = i
      · rw [e] at h3
        exact absurd h3 h
      · omega
theorem GE_mono {l : List Int} (h : GE l) : ∀ (q p : Nat), p ≤ q → q < l.length → l.getD p 0 ≤ l.getD q 0
  | 0, p, hp, _ => by
    have : p = 0 := by omega
    rw [this]
    exact Int.le_refl _
  | q + 1, p, hp, hq => by
    by_cases e : p = q + 1
    · rw [e]
      exact Int.le_refl _
    · have h1 := (h.2 (q + 1) hq).2 (by omega)
      rw [Nat.add_sub_cancel] at h1
      have := GE_mono h q p (by omega) (by omega)
      omega
theorem ST_lt {l : List Int} (h : GE l) {p q : Nat} (hpq : p < q) (hq : q < l.length) (hs : ST l q) : l.getD p 0 < l.getD q 0 := by
  have h1 := hs.resolve_left (by omega)
  have h2 := (h.2 q hq).2 (by omega)
  have h3 := GE_mono h (q - 1) p (by omega) (by omega)
  omega
theorem MO_pw {l : List Int} (h : GE l) : ∀ d i, i + d ≤ l.length → (MO l i d).Pairwise (fun x y => x.f0 < y.f0 ∧ x.f1 < y.f1)
  | 0, _, _ => List.Pairwise.nil
  | d + 1, i, hi => by
    have ih := MO_pw h d (i + 1) (by omega)
    rw [MO]
    split
    · refine List.pairwise_cons.2 ⟨fun y hy => ?_, ih⟩
      obtain ⟨p, h1, h2, h3, rfl⟩ := (MO_iff l d (i + 1) y).1 hy
      exact ⟨ST_lt h (by omega) (by omega) h3, (show (i : Int) < (p : Int) by omega)⟩
    · exact ih
theorem pw_get {m : List S60} (h : m.Pairwise (fun x y => x.f0 < y.f0 ∧ x.f1 < y.f1)) {i j : Nat} (hij : i < j) (hj : j < m.length) : (m.getD i z60).f0 < (m.getD j z60).f0 ∧ (m.getD i z60).f1 < (m.getD j z60).f1 := by
  have := (List.pairwise_iff_getElem.1 h) i j (by omega) hj hij
  rw [List.getD_eq_getElem?_getD, List.getElem?_eq_getElem (by omega), List.getD_eq_getElem?_getD, List.getElem?_eq_getElem hj]
  exact this
theorem MO_take (l : List Int) (a : Nat) : ∀ d i, i + d ≤ a → MO (l.take a) i d = MO l i d
  | 0, _, _ => rfl
  | d + 1, i, h => by
    have g : ∀ p, p < a → (l.take a).getD p 0 = l.getD p 0 := fun p hp => by
      rw [List.getD_eq_getElem?_getD, List.getD_eq_getElem?_getD, List.getElem?_take_of_lt hp]
    rw [MO, MO, MO_take l a d (i + 1) (by omega), g i (by omega), g (i - 1) (by omega)]
theorem GE_take {l : List Int} (h : GE l) (a : Nat) : GE (l.take a) := by
  refine ⟨by rw [List.length_take]; have := h.1; omega, fun j hj => ?_⟩
  rw [List.length_take] at hj
  have g : ∀ p, p < a → (l.take a).getD p 0 = l.getD p 0 := fun p hp => by
    rw [List.getD_eq_getElem?_getD, List.getD_eq_getElem?_getD, List.getElem?_take_of_lt hp]
  have := h.2 j (by omega)
  unfold PE at this ⊢
  rw [g j (by omega), g (j - 1) (by omega)]
  exact this
theorem EE_at (m : List S60) (e ep : Int) (j : Nat) (h1 : (m.getD j z60).f0 ≤ ep) : ∀ n, j < n → (∀ t, j < t → t < n → ¬ (m.getD t z60).f0 ≤ ep) → EE m e ep n = ((m.getD j z60).f0, if j + 1 < m.length then (m.getD (j + 1) z60).f1 else e)
  | 0, h, _ => by omega
  | n + 1, h, h2 => by
    rw [EE]
    by_cases e1 : n = j
    · rw [e1, if_pos h1]
    · rw [if_neg (h2 n (by omega) (by omega))]
      exact EE_at m e ep j h1 n (by omega) (fun t h3 h4 => h2 t h3 (by omega))
/-- Where the epoch of the entry i begins. -/
theorem ST_ex {l : List Int} : ∀ i, ∃ p, p ≤ i ∧ ST l p ∧ ∀ q, p ≤ q → q ≤ i → l.getD q 0 = l.getD i 0
  | 0 => ⟨0, Nat.le_refl _, .inl rfl, fun q _ h => by rw [show q = 0 by omega]⟩
  | i + 1 => by
    by_cases h : l.getD i 0 = l.getD (i + 1) 0
    · obtain ⟨p, h1, h2, h3⟩ := ST_ex (l := l) i
      refine ⟨p, by omega, h2, fun q h4 h5 => ?_⟩
      by_cases e : q = i + 1
      · rw [e]
      · rw [h3 q h4 (by omega), h]
    · exact ⟨i + 1, Nat.le_refl _, .inr (by rw [Nat.add_sub_cancel]; exact h), fun q h4 h5 => by rw [show q = i + 1 by omega]⟩
theorem EE_MO {l : List Int} (h : GE l) (i : Nat) (hi : i < l.length) : ∃ z : Nat, EE (MO l 0 l.length) (l.length : Int) (l.getD i 0) (MO l 0 l.length).length = (l.getD i 0, (z : Int)) ∧ i < z ∧ z ≤ l.length ∧ (z < l.length → l.getD i 0 < l.getD z 0) ∧ l.getD (z - 1) 0 = l.getD i 0 := by
  obtain ⟨p, hp, hs, hc⟩ := ST_ex (l := l) i
  have hpw := MO_pw h l.length 0 (by omega)
  have hin : (⟨l.getD p 0, (p : Int)⟩ : S60) ∈ MO l 0 l.length := (MO_iff l l.length 0 _).2 ⟨p, Nat.zero_le _, by omega, hs, rfl⟩
  obtain ⟨j, hj, ej⟩ := List.mem_iff_getElem.1 hin
  have gj : (MO l 0 l.length).getD j z60 = ⟨l.getD p 0, (p : Int)⟩ := by rw [List.getD_eq_getElem?_getD, List.getElem?_eq_getElem hj, Option.getD_some, ej]
  have epi : l.getD p 0 = l.getD i 0 := hc p (Nat.le_refl _) hp
  have hE := EE_at (MO l 0 l.length) (l.length : Int) (l.getD i 0) j (by rw [gj]; show l.getD p 0 ≤ l.getD i 0; omega) (MO l 0 l.length).length hj (fun t h1 h2 h3 => by
    have := (pw_get hpw h1 h2).1
    rw [gj] at this
    have h4 : l.getD p 0 < ((MO l 0 l.length).getD t z60).f0 := this
    omega)
  rw [gj] at hE
  by_cases hn : j + 1 < (MO l 0 l.length).length
  · obtain ⟨z, _, hz, hsz, gz⟩ := (MO_iff l l.length 0 _).1 (getD_mem hn z60)
    rw [if_pos hn, gz] at hE
    have hlt := pw_get hpw (Nat.lt_succ_self j) hn
    rw [gj, gz] at hlt
    have hl1 : l.getD p 0 < l.getD z 0 := hlt.1
    have hl2 : (p : Int) < (z : Int) := hlt.2
    have hiz : i < z := by
      rcases Nat.lt_or_ge i z with h1 | h1
      · exact h1
      · have := hc z (by omega) h1
        omega
    refine ⟨z, by rw [hE, epi], hiz, by omega, fun _ => by omega, ?_⟩
    obtain ⟨s, s1, s2, s3⟩ := ST_ex (l := l) (z - 1)
    have s4 := s3 s (Nat.le_refl _) s1
    rcases Nat.lt_or_ge i s with h1 | h1
    · exfalso
      have hins : (⟨l.getD s 0, (s : Int)⟩ : S60) ∈ MO l 0 l.length := (MO_iff l l.length 0 _).2 ⟨s, Nat.zero_le _, by omega, s2, rfl⟩
      obtain ⟨t, ht, et⟩ := List.mem_iff_getElem.1 hins
      have gt : (MO l 0 l.length).getD t z60 = ⟨l.getD s 0, (s : Int)⟩ := by rw [List.getD_eq_getElem?_getD, List.getElem?_eq_getElem ht, Option.getD_some, et]
      rcases Nat.lt_or_ge t (j + 1) with h2 | h2
      · by_cases e : t = j
        · rw [e, gj] at gt
          have : (p : Int) = (s : Int) := congrArg S60.f1 gt
          omega
        · have := (pw_get hpw (show t < j by omega) hj).2
          rw [gt, gj] at this
          have h5 : (s : Int) < (p : Int) := this
          omega
      · by_cases e : t = j + 1
        · rw [e, gz] at gt
          have : (z : Int) = (s : Int) := congrArg S60.f1 gt
          omega
        · have := (pw_get hpw (show j + 1 < t by omega) ht).2
          rw [gt, gz] at this
          have h5 : (z : Int) < (s : Int) := this
          omega
    · have h6 := s3 i h1 (by omega)
      omega
  · rw [if_neg hn] at hE
    refine ⟨l.length, by rw [hE, epi], hi, Nat.le_refl _, fun h1 => absurd h1 (Nat.lt_irrefl _), ?_⟩
    obtain ⟨s, s1, s2, s3⟩ := ST_ex (l := l) (l.length - 1)
    have s4 := s3 s (Nat.le_refl _) s1
    rcases Nat.lt_or_ge i s with h1 | h1
    · exfalso
      have hins : (⟨l.getD s 0, (s : Int)⟩ : S60) ∈ MO l 0 l.length := (MO_iff l l.length 0 _).2 ⟨s, Nat.zero_le _, by omega, s2, rfl⟩
      obtain ⟨t, ht, et⟩ := List.mem_iff_getElem.1 hins
      have gt : (MO l 0 l.length).getD t z60 = ⟨l.getD s 0, (s : Int)⟩ := by rw [List.getD_eq_getElem?_getD, List.getElem?_eq_getElem ht, Option.getD_some, et]
      by_cases e : t = j
      · rw [e, gj] at gt
        have : (p : Int) = (s : Int) := congrArg S60.f1 gt
        omega
      · have := (pw_get hpw (show t < j by omega) hj).2
        rw [gt, gj] at this
        have h5 : (s : Int) < (p : Int) := this
        omega
    · exact (s3 i h1 (by omega)).symm

/-! #### marks of a good log are good, and cut -/
theorem MO_GM {l : List Int} (h : GE l) : GM (MO l 0 l.length) := by
  have hl := h.1
  refine ⟨Nat.le_trans (MO_length l l.length 0) hl, fun j hj => ?_⟩
  obtain ⟨p, h1, h2, h3, h4⟩ := (MO_iff l l.length 0 _).1 (getD_mem hj z60)
  have hv := (h.2 p (by omega)).1
  refine ⟨by rw [h4]; exact hv, by rw [h4]; exact ⟨(show (0 : Int) ≤ (p : Int) by omega), (show (p : Int) ≤ 29 by omega)⟩, fun h0 => pw_get (MO_pw h l.length 0 (by omega)) (by omega) hj⟩
theorem MO_cut (l : List Int) (a : Nat) : ∀ d i, i ≤ a → cutM (MO l i d) (a : Int) = MO l i (min d (a - i))
  | 0, i, _ => by rw [Nat.zero_min]; rfl
  | d + 1, i, hi => by
    by_cases e : i = a
    · subst e
      rw [Nat.sub_self, Nat.min_zero]
      show (MO l i (d + 1)).filter _ = []
      rw [List.filter_eq_nil_iff]
      intro x hx
      obtain ⟨p, h1, h2, h3, rfl⟩ := (MO_iff l (d + 1) i x).1 hx
      have : decide ((p : Int) ≥ (i : Int)) = true := decide_eq_true (by omega)
      show ¬ ((!(decide ((p : Int) ≥ (i : Int)))) = true)
      rw [this]
      decide
    · have ih := MO_cut l a d (i + 1) (by omega)
      have em : min (d + 1) (a - i) = min d (a - (i + 1)) + 1 := by omega
      rw [em, MO, MO]
      split
      · have hd : decide (((i : Int)) ≥ (a : Int)) = false := decide_eq_false (by omega)
        unfold cutM at ih ⊢
        rw [List.filter_cons]
        show (if (!(decide ((i : Int) ≥ (a : Int)))) = true then _ else _) = _
        rw [hd, ih]
        rfl
      · exact ih

/-! #### the reference's choices from bytes -/
theorem Ev.eq {α : Type} {g : Option α} {r : α} (h : g = some r) : Ev (fun _ => g) r := Ev.congr (f := fun _ => some r) (fun _ => h) (Ev.now r)
def BY (s : List Int) : Prop := ∀ x ∈ s, 0 ≤ x ∧ x ≤ 255
theorem BY_of {s : List Int} (h : ∀ x ∈ s, (Lit.int .u8 x).wf = true) : BY s := fun x hx => by
  have := h x hx
  simp [Lit.wf, IntKind.min, IntKind.max, IntKind.bits, IntKind.signed] at this
  omega
theorem u64_rng (n : Int) : 0 ≤ IntKind.u64.wrap n ∧ IntKind.u64.wrap n < 18446744073709551616 := by
  simp [IntKind.wrap, IntKind.bits, IntKind.signed]
  omega
theorem and255 (n : Int) : 0 ≤ wrap64 (Go.bits .and .u64 (IntKind.u64.wrap n / 1099511627776) 255) ∧ wrap64 (Go.bits .and .u64 (IntKind.u64.wrap n / 1099511627776) 255) ≤ 255 := by
  have hr := u64_rng n
  have h1 : 0 ≤ IntKind.u64.wrap n / 1099511627776 := by omega
  have h2 : IntKind.u64.wrap n / 1099511627776 < 2 ^ 24 := by omega
  have := bits_mask .u64 24 (by decide) (fun n h0 h1 => by simp [IntKind.wrap, IntKind.bits, IntKind.signed]; omega) 8 (by decide) _ h1 h2
  rw [show ((2 : Int) ^ 8 - 1) = 255 by decide, show ((2 : Int) ^ 8) = 256 by decide] at this
  rw [this, wrap_id (by omega) (by omega)]
  omega
theorem rd_mem {l : List Int} {i : Int} (h0 : 0 ≤ i) (h1 : i < l.length) : rd l i ∈ l := by
  obtain ⟨n, rfl⟩ := Int.eq_ofNat_of_zero_le h0
  rw [rd_nat]
  exact getD_mem (by omega) 0
theorem next_eq (s : List Int) (hb : BY s) (a q : Int) (h0 : 0 ≤ a) (h1 : a ≤ 1000000000000000) : ∃ r q', spec_l1Cur_next.f s a q = some (r, a + 1, q') ∧ 0 ≤ r ∧ r ≤ 255 := by
  have hw : wrap64 (a + 1) = a + 1 := wrap_id (by omega) (by omega)
  unfold spec_l1Cur_next.f
  rw [hw]
  by_cases h2 : a < (s.length : Int)
  · rw [if_pos h2, if_pos h0, if_pos (by omega)]
    have hm := hb _ (rd_mem h0 h2)
    exact ⟨_, _, rfl, by rw [wrap_id (by omega) (by omega)]; omega, by rw [wrap_id (by omega) (by omega)]; omega⟩
  · rw [if_neg h2, if_neg (by omega)]
    exact ⟨_, _, rfl, and255 _⟩
theorem pick_eq (s : List Int) (hb : BY s) (a q n : Int) (h0 : 0 ≤ a) (h1 : a ≤ 900000000000000) (hn : n ≤ 1000000) :
    ∃ r a' q', spec_l1Cur_pick.f s a q n = some (r, a', q') ∧ 0 ≤ r ∧ (1 ≤ n → r < n) ∧ a ≤ a' ∧ a' ≤ a + 2 := by
  unfold spec_l1Cur_pick.f
  by_cases h2 : n ≤ 1
  · rw [if_pos h2]
    exact ⟨_, _, _, rfl, by omega, fun h => by omega, by omega, by omega⟩
  · obtain ⟨x, q1, e1, x0, x1⟩ := next_eq s hb a q h0 (by omega)
    rw [if_neg h2, e1, Option.bind_some]
    by_cases h3 : n > 200
    · obtain ⟨y, q2, e2, y0, y1⟩ := next_eq s hb (a + 1) q1 (by omega) (by omega)
      rw [if_pos h3, e2, Option.bind_some, if_neg (by omega)]
      have hw : wrap64 (wrap64 (x * 256) + y) = x * 256 + y := by rw [wrap_id (x := x * 256) (by omega) (by omega), wrap_id (by omega) (by omega)]
      refine ⟨_, _, _, rfl, ?_, fun _ => ?_, by dsimp only; omega, by dsimp only; omega⟩
      · show 0 ≤ Int.tmod (wrap64 (wrap64 (x * 256) + y)) n
        rw [hw]
        exact Int.tmod_nonneg _ (by omega)
      · show Int.tmod (wrap64 (wrap64 (x * 256) + y)) n < n
        rw [hw]
        exact Int.tmod_lt_of_pos _ (by omega)
    · rw [if_neg h3, if_neg (by omega)]
      refine ⟨_, _, _, rfl, ?_, fun _ => ?_, by dsimp only; omega, by dsimp only; omega⟩
      · exact Int.tmod_nonneg _ (by omega)
      · exact Int.tmod_lt_of_pos _ (by omega)

theorem one_eq (s : List Int) (hb : BY s) (a q n : Int) (h0 : 0 ≤ a) (h1 : a ≤ 900000000000000) (hn : n ≤ 1000000) :
    ∃ b a' q', spec_l1Cur_one.f s a q n = some (b, a', q') ∧ a ≤ a' ∧ a' ≤ a + 2 := by
  obtain ⟨r, a', q', e, _, _, h2, h3⟩ := pick_eq s hb a q n h0 h1 hn
  unfold spec_l1Cur_one.f
  rw [e]
  exact ⟨_, _, _, rfl, h2, h3⟩

theorem among_eq (s : List Int) (hb : BY s) (a q : Int) (l : List Int) (h0 : 0 ≤ a) (h1 : a ≤ 900000000000000) (hn : 0 < l.length) (hn2 : l.length ≤ 1000) :
    ∃ r a' q', spec_l1Cur_among.f s a q l = some (r, a', q') ∧ r ∈ l ∧ a ≤ a' ∧ a' ≤ a + 2 := by
  obtain ⟨r, a', q', e, r0, r1, h2, h3⟩ := pick_eq s hb a q (l.length : Int) h0 h1 (by omega)
  have r2 := r1 (by omega)
  unfold spec_l1Cur_among.f
  rw [e, Option.bind_some, if_pos r0, if_pos r2]
  exact ⟨_, _, _, rfl, rd_mem r0 r2, h2, h3⟩

/-! #### drawn entries -/
def EL (l : List Int) : Prop := l.length ≤ 31 ∧ ∀ x ∈ l, -1 ≤ x ∧ x ≤ 101
theorem entries_j2 (s : List Int) (hb : BY s) (l : List Int) (h : EL l) (h2 : 0 < l.length) (b : Bool) (a q : Int) (h0 : 0 ≤ a) (h1 : a ≤ 800000000000000) :
    ∃ l' a' q', Ev (fun k => spec_l1Cur_entries.j2 k l b s a q) (l', a', q') ∧ EL l' ∧ a ≤ a' ∧ a' ≤ a + 4 := by
  cases b with
  | false => exact ⟨l, a, q, Ev.step (f := fun _ => some (l, a, q)) (fun k => by rw [spec_l1Cur_entries.j2, if_neg (by decide)]) (Ev.now _), h, by omega, by omega⟩
  | true =>
    have hll := h.1
    obtain ⟨r, a1, q1, e1, r0, r1, p1, p2⟩ := pick_eq s hb a q (l.length : Int) h0 (by omega) (by omega)
    obtain ⟨x, a2, q2, e2, hx, p3, p4⟩ := among_eq s hb a1 q1 [(-1), 0, 100, 101] (by omega) (by omega) (by decide) (by decide)
    have r2 := r1 (by omega)
    refine ⟨l.set r.toNat x, a2, q2, Ev.step (f := fun _ => some (l.set r.toNat x, a2, q2)) (fun k => ?_) (Ev.now _), ⟨by rw [List.length_set]; exact h.1, fun y hy => ?_⟩, by omega, by omega⟩
    · rw [spec_l1Cur_entries.j2, if_pos rfl, e1, Option.bind_some, e2, Option.bind_some, if_pos r0, if_pos r2]
    · rcases List.mem_or_eq_of_mem_set hy with hy | hy
      · exact h.2 y hy
      · rw [hy]
        simp at hx
        omega
theorem entries_l (s : List Int) (hb : BY s) : ∀ (d : Nat) (l : List Int) (e a q : Int), l.length + d ≤ 31 → 0 ≤ e → e ≤ 3 + 2 * (l.length : Int) → (∀ x ∈ l, 0 ≤ x ∧ x ≤ 100) → 0 ≤ a → a + 2 * (d : Int) ≤ 700000000000000 →
    ∃ l' a' q', Ev (fun k => spec_l1Cur_entries.l0 k l e (d : Int) s a q) (l', a', q') ∧ EL l' ∧ a ≤ a' ∧ a' ≤ a + 2 * (d : Int) + 6 := by
  intro d
  induction d with
  | zero =>
    intro l e a q hd he0 he1 hx h0 h1
    have hE : EL l := ⟨by omega, fun x hx' => by have := hx x hx'; omega⟩
    by_cases h2 : 0 < l.length
    · obtain ⟨b, a1, q1, e1, p1, p2⟩ := one_eq s hb a q 20 h0 (by omega) (by decide)
      obtain ⟨l', a', q', e2, h3, p3, p4⟩ := entries_j2 s hb l hE h2 b a1 q1 (by omega) (by omega)
      refine ⟨l', a', q', Ev.step (fun k => ?_) e2, h3, by omega, by omega⟩
      rw [spec_l1Cur_entries.l0, if_neg (by omega), if_pos (by omega), e1, Option.bind_some]
    · refine ⟨l, a, q, Ev.step (f := fun k => spec_l1Cur_entries.j2 k l false s a q) (fun k => ?_) (Ev.step (f := fun _ => some (l, a, q)) (fun k => by rw [spec_l1Cur_entries.j2, if_neg (by decide)]) (Ev.now _)), hE, by omega, by omega⟩
      rw [spec_l1Cur_entries.l0, if_neg (by omega), if_neg (by omega)]
  | succ d ih =>
    intro l e a q hd he0 he1 hx h0 h1
    obtain ⟨x, a1, q1, e1, hm, p1, p2⟩ := among_eq s hb a q [0, 0, 0, 1, 2] h0 (by omega) (by decide) (by decide)
    have hx2 : 0 ≤ x ∧ x ≤ 2 := by simp at hm; omega
    have hw : wrap64 (e + x) = e + x := wrap_id (by omega) (by omega)
    have hw2 : wrap64 (((d + 1 : Nat) : Int) - 1) = (d : Int) := by rw [wrap_id (by omega) (by omega)]; omega
    obtain ⟨l', a', q', e2, h3, p3, p4⟩ := ih (l ++ [e]) (e + x) a1 q1 (by rw [List.length_append, List.length_singleton]; omega) (by omega) (by rw [List.length_append, List.length_singleton]; omega)
      (fun y hy => by
        rcases List.mem_append.1 hy with hy | hy
        · exact hx y hy
        · rw [List.mem_singleton.1 hy]; omega) (by omega) (by omega)
    refine ⟨l', a', q', Ev.step (fun k => ?_) e2, h3, by omega, by omega⟩
    rw [spec_l1Cur_entries.l0, if_pos (by omega), if_pos (by omega), e1, Option.bind_some, hw, hw2]
theorem entries_ev (s : List Int) (hb : BY s) (a q : Int) (h0 : 0 ≤ a) (h1 : a ≤ 600000000000000) :
    ∃ l a' q', Ev (fun k => spec_l1Cur_entries.f k s a q) (l, a', q') ∧ EL l ∧ a ≤ a' ∧ a' ≤ a + 100 := by
  obtain ⟨e, a1, q1, e1, r0, r1, p1, p2⟩ := pick_eq s hb a q 3 h0 (by omega) (by decide)
  obtain ⟨n, a2, q2, e2, n0, n1, p3, p4⟩ := pick_eq s hb a1 q1 10 (by omega) (by omega) (by decide)
  obtain ⟨b, a3, q3, e3, p5, p6⟩ := one_eq s hb a2 q2 20 (by omega) (by omega) (by decide)
  have r2 := r1 (by decide)
  have n2 := n1 (by decide)
  unfold spec_l1Cur_entries.f
  simp only [e1, Option.bind_some, e2, e3]
  have go : ∀ (m : Nat) (a4 q4 : Int), m ≤ 31 → a ≤ a4 → a4 ≤ a + 8 → ∃ l a' q', Ev (fun k => spec_l1Cur_entries.j0 k [] e (m : Int) s a4 q4) (l, a', q') ∧ EL l ∧ a ≤ a' ∧ a' ≤ a + 100 := fun m a4 q4 hm h2 h3 => by
    obtain ⟨l', a', q', e4, h4, p7, p8⟩ := entries_l s hb m [] e a4 q4 (by simp only [List.length_nil]; omega) r0 (by simp only [List.length_nil]; omega) (fun x hx => by cases hx) (by omega) (by omega)
    exact ⟨l', a', q', Ev.step (fun k => by rw [spec_l1Cur_entries.j0]) e4, h4, by omega, by omega⟩
  cases b with
  | true =>
    obtain ⟨x, a4, q4, e4, x0, x1, p7, p8⟩ := pick_eq s hb a3 q3 2 (by omega) (by omega) (by decide)
    have x2 := x1 (by decide)
    obtain ⟨m, rfl⟩ := Int.eq_ofNat_of_zero_le x0
    obtain ⟨l', a', q', e5, h4, p9⟩ := go (30 + m) a4 q4 (by omega) (by omega) (by omega)
    refine ⟨l', a', q', Ev.congr (fun k => ?_) e5, h4, p9⟩
    rw [if_pos rfl, e4, Option.bind_some, show wrap64 (30 + (m : Int)) = ((30 + m : Nat) : Int) by rw [wrap_id (by omega) (by omega)]; omega]
  | false =>
    obtain ⟨m, rfl⟩ := Int.eq_ofNat_of_zero_le n0
    obtain ⟨l', a', q', e5, h4, p9⟩ := go m a3 q3 (by omega) (by omega) (by omega)
    exact ⟨l', a', q', Ev.congr (fun k => by rw [if_neg (by decide)]) e5, h4, p9⟩

theorem marks_ev (s : List Int) (hb : BY s) (a q : Int) (h0 : 0 ≤ a) (h1 : a ≤ 500000000000000) :
    ∃ m n a' q', Ev (fun k => spec_l1Cur_marks.f k s a q) (m, n, a', q') ∧ m.length ≤ 31 ∧ 0 ≤ n ∧ n ≤ 31 ∧ a ≤ a' ∧ a' ≤ a + 120 := by
  obtain ⟨l, a1, q1, e1, hE, p1, p2⟩ := entries_ev s hb a q h0 (by omega)
  have hll := hE.1
  obtain ⟨x, o, hx, hs, _⟩ := MarksOf_ev l (by omega)
  have hxl : x.length ≤ 31 := by
    by_cases hg : GE l
    · have := MO_length l l.length 0
      have e2 : Ev (fun k => spec_MarksOf.f k l) (MO l 0 l.length, true) := by
        unfold spec_MarksOf.f
        exact Ev.bind ((sGE_ev l (by omega)).get hg) (Ev.ifp rfl (Ev.bind (sMO_ev l (by omega)) (Ev.now _)))
      have e3 := Ev.uniq hs e2
      have e4 : x = MO l 0 l.length := congrArg Prod.fst e3
      rw [e4]
      omega
    · have e2 : Ev (fun k => spec_MarksOf.f k l) (([] : List S60), false) := by
        unfold spec_MarksOf.f
        exact Ev.bind ((sGE_ev l (by omega)).not hg) (Ev.ifn (by decide) (Ev.now _))
      have e3 := Ev.uniq hs e2
      have e4 : x = [] := congrArg Prod.fst e3
      rw [e4]
      exact Nat.zero_le _
  unfold spec_l1Cur_marks.f
  cases o with
  | false => exact ⟨[], 3, a1, q1, Ev.bind e1 (Ev.bind hs (Ev.ifn (by simp) (Ev.now _))), Nat.zero_le _, by decide, by decide, by omega, by omega⟩
  | true =>
    by_cases hp : (x.length : Int) > 0
    · obtain ⟨b, a2, q2, e2, p3, p4⟩ := one_eq s hb a1 q1 12 (by omega) (by omega) (by decide)
      cases b with
      | false => exact ⟨x, (l.length : Int), a2, q2, Ev.bind e1 (Ev.bind hs (Ev.ifp rfl (Ev.ifp hp (Ev.bind (Ev.eq e2) (Ev.step (f := fun _ => some (x, (l.length : Int), a2, q2)) (fun k => by rw [spec_l1Cur_marks.j0, if_neg (by simp)]) (Ev.now _)))))), hxl, by omega, by omega, by omega, by omega⟩
      | true =>
        obtain ⟨r, a3, q3, e3, r0, r1, p5, p6⟩ := pick_eq s hb a2 q2 (x.length : Int) (by omega) (by omega) (by omega)
        obtain ⟨y, a4, q4, e4, y0, y1, p7, p8⟩ := pick_eq s hb a3 q3 32 (by omega) (by omega) (by decide)
        have r2 := r1 (by omega)
        refine ⟨x.set r.toNat ⟨(rd_T60 x r).f0, wrap64 (y - 1)⟩, (l.length : Int), a4, q4, Ev.bind e1 (Ev.bind hs (Ev.ifp rfl (Ev.ifp hp (Ev.bind (Ev.eq e2) (Ev.step (f := fun _ => some (x.set r.toNat ⟨(rd_T60 x r).f0, wrap64 (y - 1)⟩, (l.length : Int), a4, q4)) (fun k => ?_) (Ev.now _)))))), by rw [List.length_set]; exact hxl, by omega, by omega, by omega, by omega⟩
        rw [spec_l1Cur_marks.j0, if_pos rfl, e3, Option.bind_some, e4, Option.bind_some, if_pos r0, if_pos r2]
    · exact ⟨x, (l.length : Int), a1, q1, Ev.bind e1 (Ev.bind hs (Ev.ifp rfl (Ev.ifn hp (Ev.step (f := fun _ => some (x, (l.length : Int), a1, q1)) (fun k => by rw [spec_l1Cur_marks.j0, if_neg (by decide)]) (Ev.now _))))), hxl, by omega, by omega, by omega, by omega⟩

theorem same_l (m : List S60) (hm : m.length ≤ 1048576) : ∀ d i : Nat, i + d = m.length → Ev (fun k => laws_sameMarks.l0 k m m (m.length : Int) (i : Int)) true
  | 0, i, hd => Ev.step (f := fun _ => some true) (fun k => by rw [laws_sameMarks.l0, if_neg (by omega)]) (Ev.now _)
  | d + 1, i, hd => by
    refine Ev.step (fun k => ?_) (same_l m hm d (i + 1) (by omega))
    rw [laws_sameMarks.l0, if_pos (by omega), if_pos (by omega), if_pos (by omega), if_pos (by omega), if_neg (by simp), succ_wrap (by omega)]
theorem same_ev (m : List S60) (hm : m.length ≤ 1048576) : Ev (fun k => laws_sameMarks.f k m m) true := by
  unfold laws_sameMarks.f
  exact Ev.ifp rfl (same_l m hm m.length 0 (by omega))
theorem num_l (s : List Int) (hb : BY s) (hl : s.length ≤ 9223372036854775807) : ∀ (d i : Nat) (n : Int), i + d = s.length → 0 ≤ n → n < 1000003 → ∃ r : Int, Ev (fun k => laws_numberOf.l0 k n s (s.length : Int) (i : Int)) r ∧ 0 ≤ r ∧ r < 1000003
  | 0, i, n, hd, h0, h1 => ⟨n, Ev.step (f := fun _ => some n) (fun k => by rw [laws_numberOf.l0, if_neg (by omega)]) (Ev.now _), h0, h1⟩
  | d + 1, i, n, hd, h0, h1 => by
    have hx := hb _ (rd_mem (l := s) (i := (i : Int)) (by omega) (by omega))
    have hw : wrap64 (wrap64 (31 * n) + wrap64 (rd s (i : Int))) = 31 * n + rd s (i : Int) := by rw [wrap_id (x := 31 * n) (by omega) (by omega), wrap_id (x := rd s (i : Int)) (by omega) (by omega), wrap_id (by omega) (by omega)]
    obtain ⟨r, e, h2, h3⟩ := num_l s hb hl d (i + 1) (Int.tmod (31 * n + rd s (i : Int)) 1000003) (by omega) (Int.tmod_nonneg _ (by omega)) (Int.tmod_lt_of_pos _ (by decide))
    refine ⟨r, Ev.step (fun k => ?_) e, h2, h3⟩
    rw [laws_numberOf.l0, if_pos (by omega), if_pos (by omega), if_pos (by omega), hw, wrap_id (x := (i : Int) + 1) (by omega) (by omega)]
    rfl
theorem num_ev (s : List Int) (hb : BY s) (hl : s.length ≤ 9223372036854775807) : ∃ r : Int, Ev (fun k => laws_numberOf.f k s) r ∧ 0 ≤ r ∧ r < 1000003 := num_l s hb hl s.length 0 0 (by omega) (by decide) (by decide)
theorem iMarks_yes {l : List Int} (h : GE l) : Ev (fun k => impl_MarksOf.f k l) (MO l 0 l.length, true) := by
  have := h.1
  unfold impl_MarksOf.f
  exact Ev.bind ((iGE_ev l (by omega)).get h) (Ev.ifp rfl (Ev.bind (iMO_ev l (by omega)) (Ev.now _)))
theorem sMarks_yes {l : List Int} (h : GE l) : Ev (fun k => spec_MarksOf.f k l) (MO l 0 l.length, true) := by
  have := h.1
  unfold spec_MarksOf.f
  exact Ev.bind ((sGE_ev l (by omega)).get h) (Ev.ifp rfl (Ev.bind (sMO_ev l (by omega)) (Ev.now _)))
theorem iCut_yes {m : List S60} (h : GM m) (a : Int) (h0 : 0 ≤ a) (h1 : a ≤ 30) : Ev (fun k => impl_CutMarks.f k m a) (cutM m a, true) := by
  have := h.1
  unfold impl_CutMarks.f
  simp only [iin, Option.bind_some]
  exact Ev.bind ((iGM_ev m (by omega)).get h) (Ev.ifp rfl (Ev.ifp (decide_eq_true ⟨h0, h1⟩) (Ev.ifp (by omega) (Ev.now _))))
theorem iEnd_yes {l : List Int} (h : GE l) (i : Nat) (hi : i < l.length) : Ev (fun k => impl_EndOfEpoch.f k (MO l 0 l.length) (l.length : Int) (l.getD i 0)) ((EE (MO l 0 l.length) (l.length : Int) (l.getD i 0) (MO l 0 l.length).length).1, (EE (MO l 0 l.length) (l.length : Int) (l.getD i 0) (MO l 0 l.length).length).2, true) := by
  have hl := h.1
  have hml := MO_length l l.length 0
  have hv := (h.2 i hi).1
  have h1 : decide ((0 : Int) ≤ (l.length : Int) ∧ (l.length : Int) ≤ 30) = true := decide_eq_true ⟨by omega, by omega⟩
  have h5 : decide ((0 : Int) ≤ l.getD i 0 ∧ l.getD i 0 ≤ 100) = true := decide_eq_true hv
  have hE := iEE_ev (MO l 0 l.length) (l.length : Int) (l.getD i 0) (by omega)
  unfold impl_EndOfEpoch.f
  simp only [iin, Option.bind_some]
  by_cases h2 : ((MO l 0 l.length).length : Int) > 0
  · have h3 : wrap64 (((MO l 0 l.length).length : Int) - 1) = (((MO l 0 l.length).length - 1 : Nat) : Int) := pred_wrap (by omega) (by omega)
    rw [h3, em_nat]
    obtain ⟨p, _, hp, _, gp⟩ := (MO_iff l l.length 0 _).1 (getD_mem (l := MO l 0 l.length) (i := (MO l 0 l.length).length - 1) (by omega) z60)
    rw [gp]
    exact Ev.bind ((iGM_ev _ (by omega)).get (MO_GM h)) (Ev.ifp rfl (Ev.ifp h1 (Ev.ifp h2 (Ev.ifp (by omega) (Ev.ifp (by omega) (Ev.ifn (show ¬ ((p : Int) ≥ (l.length : Int)) by omega) (Ev.ifp h5 (Ev.bind hE (Ev.now _)))))))))
  · exact Ev.bind ((iGM_ev _ (by omega)).get (MO_GM h)) (Ev.ifp rfl (Ev.ifp h1 (Ev.ifn h2 (Ev.ifp h5 (Ev.bind hE (Ev.now _))))))
theorem marksLast (c2 : List Int) (hb : BY c2) : Ev (fun k => laws_FnMarks.j3 k c2) true := by
  obtain ⟨m, n, a1, q1, e1, hm, n0, n1, p1, p2⟩ := marks_ev c2 hb 0 0 (by decide) (by decide)
  obtain ⟨r, a2, q2, e2, _, _, _, _⟩ := pick_eq c2 hb a1 q1 14 (by omega) (by omega) (by decide)
  obtain ⟨r', a2', q2', e2', _, _, _, _⟩ := pick_eq c2 hb a1 q1 (wrap64 (n + 2)) (by omega) (by omega) (by rw [wrap_id (by omega) (by omega)]; omega)
  have d1 : Ev (fun k => spec_DrawEndOfEpoch.f k c2) (m, n, wrap64 (r - 1)) := by
    unfold spec_DrawEndOfEpoch.f
    exact Ev.bind e1 (Ev.bind (Ev.eq e2) (Ev.now _))
  have d2 : Ev (fun k => spec_DrawCutMarks.f k c2) (m, wrap64 (r' - 1)) := by
    unfold spec_DrawCutMarks.f
    exact Ev.bind e1 (Ev.bind (Ev.eq e2') (Ev.now _))
  obtain ⟨x, y, o, hs, hi⟩ := EndOfEpoch_ev m (by omega) n (wrap64 (r - 1))
  obtain ⟨z, b, hz, hcs, hci⟩ := CutMarks_ev m (wrap64 (r' - 1)) (by omega)
  obtain ⟨g, hgs, hgi, _⟩ := both (sGM_ev m (by omega)) (iGM_ev m (by omega))
  have hgi' : Ev (fun k => impl_GoodMarks.f k m) g := by
    unfold impl_GoodMarks.f
    exact Ev.bind hgi (Ev.now _)
  have last : Ev (fun k => (impl_GoodMarks.f k m).bind fun a => (spec_GoodMarks.f k m).bind fun c => some (a == c)) true := Ev.bind hgi' (Ev.bind hgs (show Ev (fun _ => some (g == g)) true by rw [beq_self_eq_true]; exact Ev.now _))
  refine Ev.succ (Ev.congr (fun k => by rw [laws_FnMarks.j3]) (Ev.bind d1 (Ev.bind hi (Ev.bind hs (Ev.bind d2 (Ev.bind hci (Ev.bind hcs (Ev.ifp (beq_self_eq_true _) (Ev.ifp rfl (Ev.ifp rfl (Ev.ifp (beq_self_eq_true _) (Ev.bind (same_ev z hz) (Ev.ifp rfl last)))))))))))))
theorem marksLoop (c2 : List Int) (hb : BY c2) {l : List Int} (h : GE l) : ∀ d i : Nat, i + d = l.length → Ev (fun k => laws_FnMarks.l0 k c2 l (MO l 0 l.length) l (l.length : Int) (i : Int)) true
  | 0, i, hd => by
    refine Ev.step (fun k => ?_) (marksLast c2 hb)
    rw [laws_FnMarks.l0, if_neg (by omega)]
  | d + 1, i, hd => by
    have hl := h.1
    have ih := marksLoop c2 hb h d (i + 1) (by omega)
    have hE := iEnd_yes h i (by omega)
    obtain ⟨z, ez, z1, z2, z3, z4⟩ := EE_MO h i (by omega)
    rw [ez] at hE
    have hw : wrap64 ((z : Int) - 1) = ((z - 1 : Nat) : Int) := pred_wrap (by omega) (by omega)
    refine Ev.succ (Ev.congr (fun k => by rw [laws_FnMarks.l0, rd_nat, succ_wrap (i := i) (by omega)]) (Ev.ifp (by omega) (Ev.ifp (by omega) (Ev.ifp (by omega) (Ev.bind hE (Ev.ifp rfl (Ev.ifp rfl (Ev.ifn (show ¬ ((z : Int) ≤ (i : Int)) by omega) ?_))))))))
    by_cases hz : z < l.length
    · refine Ev.ifp (show (z : Int) < (l.length : Int) by omega) (Ev.ifp (show (0 : Int) ≤ (z : Int) by omega) (Ev.ifn (show ¬ (rd l (z : Int) ≤ l.getD i 0) by rw [rd_nat]; have := z3 hz; omega) ?_))
      exact Ev.ifp (show (0 : Int) ≤ wrap64 ((z : Int) - 1) by omega) (Ev.ifp (show wrap64 ((z : Int) - 1) < (l.length : Int) by omega) (Ev.ifp (show rd l (wrap64 ((z : Int) - 1)) = l.getD i 0 by rw [hw, rd_nat]; exact z4) ih))
    · refine Ev.ifn (show ¬ (z : Int) < (l.length : Int) by omega) ?_
      exact Ev.ifp (show (0 : Int) ≤ wrap64 ((z : Int) - 1) by omega) (Ev.ifp (show wrap64 ((z : Int) - 1) < (l.length : Int) by omega) (Ev.ifp (show rd l (wrap64 ((z : Int) - 1)) = l.getD i 0 by rw [hw, rd_nat]; exact z4) ih))
theorem FnMarks : laws_FnMarks.Pure := by
  intro c1 c2 h1 h2
  have hb1 := BY_of h1.2
  have hb2 := BY_of h2.2
  have hl2 : c2.length ≤ 9223372036854775807 := h2.1
  apply Ev.rounds
  unfold laws_FnMarks.f
  by_cases hz : wrap64 ((c1.length : Int) + (c2.length : Int)) > 1048576
  · exact Ev.ifp hz (Ev.now _)
  · obtain ⟨l, a1, q1, e1, hE, _, _⟩ := entries_ev c1 hb1 0 0 (by decide) (by decide)
    have hll := hE.1
    have d1 : Ev (fun k => spec_DrawMarksOf.f k c1) l := by
      unfold spec_DrawMarksOf.f spec_DrawGoodEntries.f
      exact Ev.bind (Ev.bind e1 (Ev.now _)) (Ev.now _)
    by_cases hg : GE l
    · have hm := MO_length l l.length 0
      have hml : (MO l 0 l.length).length ≤ 1048576 := by omega
      refine Ev.ifn hz (Ev.bind d1 (Ev.bind (iMarks_yes hg) (Ev.bind (sMarks_yes hg) (Ev.ifn (by simp) (Ev.bind (same_ev _ hml) ?_)))))
      obtain ⟨r, en, r0, r1⟩ := num_ev c2 hb2 hl2
      have hw : wrap64 ((l.length : Int) + 1) = ((l.length + 1 : Nat) : Int) := succ_wrap (by omega)
      have hgm : Ev (fun k => impl_GoodMarks.f k (MO l 0 l.length)) true := by
        unfold impl_GoodMarks.f
        exact Ev.bind ((iGM_ev _ hml).get (MO_GM hg)) (Ev.now _)
      have t0 : 0 ≤ Int.tmod r ((l.length + 1 : Nat) : Int) := Int.tmod_nonneg _ r0
      have t1 : Int.tmod r ((l.length + 1 : Nat) : Int) < ((l.length + 1 : Nat) : Int) := Int.tmod_lt_of_pos _ (by omega)
      obtain ⟨a, ea⟩ := Int.eq_ofNat_of_zero_le t0
      rw [ea] at t1
      have hal : a ≤ l.length := by omega
      have hcut := iCut_yes (MO_GM hg) (a : Int) (by omega) (by have := hg.1; omega)
      rw [MO_cut l a l.length 0 (Nat.zero_le _), Nat.sub_zero, Nat.min_eq_right hal] at hcut
      have hleft := iMarks_yes (GE_take hg a)
      have htl : (l.take a).length = a := by rw [List.length_take]; omega
      rw [htl, MO_take l a a 0 (by omega)] at hleft
      have hsm := same_ev (MO l 0 a) (by have := MO_length l a 0; omega)
      refine Ev.succ (Ev.congr (fun k => by rw [laws_FnMarks.j0, hw]) (Ev.ifn (by decide) (Ev.ifp rfl (Ev.bind hgm (Ev.ifp rfl (Ev.bind en (Ev.ifn (show ¬ (((l.length + 1 : Nat) : Int) = 0) by omega) ?_)))))))
      rw [ea]
      refine Ev.bind hcut (Ev.ifp (show (0 : Int) ≤ (a : Int) by omega) (Ev.ifp (show (a : Int) ≤ (l.length : Int) by omega) (Ev.bind (show Ev (fun k => impl_MarksOf.f k (l.take ((a : Int)).toNat)) _ from hleft) (Ev.ifp rfl (Ev.ifp rfl (Ev.bind hsm ?_))))))
      refine Ev.succ ?_
      simp only [laws_FnMarks.j1]
      exact Ev.ifn (by decide) (marksLoop c2 hb2 hg l.length 0 (by omega))
    · have hi : Ev (fun k => impl_MarksOf.f k l) (([] : List S60), false) := by
        unfold impl_MarksOf.f
        exact Ev.bind ((iGE_ev l (by omega)).not hg) (Ev.ifn (by decide) (Ev.now _))
      have hs : Ev (fun k => spec_MarksOf.f k l) (([] : List S60), false) := by
        unfold spec_MarksOf.f
        exact Ev.bind ((sGE_ev l (by omega)).not hg) (Ev.ifn (by decide) (Ev.now _))
      refine Ev.ifn hz (Ev.bind d1 (Ev.bind hi (Ev.bind hs (Ev.ifn (by decide) (Ev.bind (same_ev [] (Nat.zero_le _)) ?_)))))
      exact Ev.succ (Ev.congr (fun k => by rw [laws_FnMarks.j0]) (Ev.ifn (by decide) (Ev.ifn (by decide) (marksLast c2 hb2))))

end Go.Proofs.Ytopddfiiglookaa.Pure
