/- By the epochs of leaders alone one comes to where two logs part, and who follows has the leader's log then: for all bytes that two logs are drawn from. Conditions: none but the statement's own. -/
import Derived.Test.YtopddfiiglookaaQFnPartedx7
namespace Go.Proofs.Ytopddfiiglookaa.Pure
open Go.RowKit Go.Proofs.Ytopddfiiglookaa.QFnParted Go.Proofs.YtopddfiiglookaaW.PrintWords Go.Proofs.YtopddfiiglookaaW.PrintLast Go.Proofs.YtopddfiiglookaaW.PrintMore
set_option linter.unusedVariables false
set_option linter.unusedSimpArgs false
/-! #### words -/
theorem Ev.succ {α : Type} {g : Nat → Option α} {r : α} (k : Ev (fun n => g (n + 1)) r) : Ev g r := Ev.step (fun _ => rfl) k
theorem Ev.ifp {α : Type} {c : Prop} [Decidable c] {f g : Nat → Option α} {r : α} (h : c) (k : Ev f r) : Ev (fun n => if c then f n else g n) r := Ev.congr (fun n => if_pos h) k
theorem Ev.ifn {α : Type} {c : Prop} [Decidable c] {f g : Nat → Option α} {r : α} (h : ¬ c) (k : Ev g r) : Ev (fun n => if c then f n else g n) r := Ev.congr (fun n => if_neg h) k
theorem Ev.uniq {α : Type} {g : Nat → Option α} {r q : α} (h : Ev g r) (k : Ev g q) : r = q := by
  obtain ⟨a, ha⟩ := h
  obtain ⟨b, hb⟩ := k
  have h1 := ha (max a b) (Nat.le_max_left _ _)
  have h2 := hb (max a b) (Nat.le_max_right _ _)
  rw [h1] at h2
  exact Option.some.inj h2
/-- It answers a Bool that tells whether Q. -/
def EvB (g : Nat → Option Bool) (Q : Prop) : Prop := ∃ b : Bool, Ev g b ∧ (b = true ↔ Q)
theorem EvB.step {g f : Nat → Option Bool} {Q : Prop} (h : ∀ k, g (k + 1) = f k) (k : EvB f Q) : EvB g Q := by
  obtain ⟨b, hb, hq⟩ := k
  exact ⟨b, Ev.step h hb, hq⟩
theorem EvB.iff {g : Nat → Option Bool} {Q R : Prop} (k : EvB g Q) (h : Q ↔ R) : EvB g R := by
  obtain ⟨b, hb, hq⟩ := k
  exact ⟨b, hb, hq.trans h⟩
theorem EvB.no {g : Nat → Option Bool} {Q : Prop} (h : ∀ k, g (k + 1) = some false) (hq : ¬ Q) : EvB g Q := ⟨false, Ev.step (f := fun _ => some false) h (Ev.now _), Iff.intro (fun h => by cases h) (fun h => absurd h hq)⟩
theorem EvB.yes {g : Nat → Option Bool} {Q : Prop} (h : ∀ k, g (k + 1) = some true) (hq : Q) : EvB g Q := ⟨true, Ev.step (f := fun _ => some true) h (Ev.now _), ⟨fun _ => hq, fun _ => rfl⟩⟩
theorem EvB.ev {g : Nat → Option Bool} {Q : Prop} [Decidable Q] (k : EvB g Q) : Ev g (decide Q) := by
  obtain ⟨b, hb, hq⟩ := k
  have : b = decide Q := by
    by_cases h : Q
    · rw [hq.2 h, decide_eq_true h]
    · rw [decide_eq_false h]
      cases b with
      | false => rfl
      | true => exact absurd (hq.1 rfl) h
  rw [← this]
  exact hb
theorem EvB.get {g : Nat → Option Bool} {Q : Prop} (k : EvB g Q) (h : Q) : Ev g true := by
  obtain ⟨b, hb, hq⟩ := k
  rw [← hq.2 h]
  exact hb
theorem EvB.not {g : Nat → Option Bool} {Q : Prop} (k : EvB g Q) (h : ¬ Q) : Ev g false := by
  obtain ⟨b, hb, hq⟩ := k
  cases b with
  | false => exact hb
  | true => exact absurd (hq.1 rfl) h
theorem wrap_id {x : Int} (h0 : -9223372036854775808 ≤ x) (h1 : x ≤ 9223372036854775807) : wrap64 x = x := by
  unfold wrap64
  omega
theorem succ_wrap {i : Nat} (h : i ≤ 9000000000000000000) : wrap64 ((i : Int) + 1) = ((i + 1 : Nat) : Int) := by
  rw [wrap_id (by omega) (by omega)]
  omega
theorem pred_wrap {i : Nat} (h0 : 0 < i) (h : i ≤ 9000000000000000000) : wrap64 ((i : Int) - 1) = ((i - 1 : Nat) : Int) := by
  rw [wrap_id (by omega) (by omega)]
  omega
theorem pred_zero : wrap64 (((0 : Nat) : Int) - 1) = -1 := by
  unfold wrap64
  omega
theorem rd_nat (l : List Int) (i : Nat) : rd l (i : Int) = l.getD i 0 := rfl
theorem tn_nat (i : Nat) : ((i : Int)).toNat = i := rfl
theorem len_nat {α : Type} (l : List α) {k : Nat} (h : l.length ≤ k) : ¬ ((l.length : Int) > (k : Int)) := by omega

/-- A list is made, element by element. -/
theorem conv_ev {β : Type} (n : Nat) (F : List β → Nat → Nat → Option (List β)) (c : Nat → β) (h1 : ∀ x : List β, x.length = n → Ev (F x n) x)
    (h2 : ∀ (x : List β) (i : Nat), i < n → x.length = n → ∀ r, Ev (F (x.set i (c i)) (i + 1)) r → Ev (F x i) r) : ∀ x0 : List β, x0.length = n → Ev (F x0 0) ((List.range n).map c) := by
  have key : ∀ d i (x : List β), i + d = n → x.length = n → Ev (F x i) (x.take i ++ (List.range d).map fun j => c (i + j)) := by
    intro d
    induction d with
    | zero =>
      intro i x hd hx
      have hi : i = n := by omega
      subst hi
      have : x.take i ++ (List.range 0).map (fun j => c (i + j)) = x := by
        rw [List.take_of_length_le (by omega)]
        simp
      rw [this]
      exact h1 x hx
    | succ d ih =>
      intro i x hd hx
      have hi : i < n := by omega
      have := ih (i + 1) (x.set i (c i)) (by omega) (by rw [List.length_set]; exact hx)
      have e : (x.set i (c i)).take (i + 1) ++ (List.range d).map (fun j => c (i + 1 + j)) = x.take i ++ (List.range (d + 1)).map (fun j => c (i + j)) := by
        rw [List.range_succ_eq_map, List.map_cons, List.map_map]
        have ht : (x.set i (c i)).take (i + 1) = x.take i ++ [c i] := by
          rw [List.take_succ_eq_append_getElem (by rw [List.length_set]; omega)]
          rw [List.take_set_of_le (Nat.le_refl _), List.getElem_set_self]
        rw [ht, List.append_assoc]
        congr 1
        rw [List.singleton_append]
        congr 1
        apply List.map_congr_left
        intro j _
        show c (i + 1 + j) = c (i + (j + 1))
        congr 1
        omega
      rw [e] at this
      exact h2 x i hi hx _ this
  intro x0 hx0
  have := key n 0 x0 (by omega) hx0
  rw [List.take_zero, List.nil_append] at this
  have e : (fun j => c (0 + j)) = c := by
    funext j
    rw [Nat.zero_add]
  rw [e] at this
  exact this

/-- Two rows are held against each other, element by element. -/
theorem all_ev (n : Nat) (F : Nat → Nat → Option Bool) (h1 : Ev (F n) true) (h2 : ∀ i, i < n → Ev (F (i + 1)) true → Ev (F i) true) : Ev (F 0) true := by
  have key : ∀ d i, i + d = n → Ev (F i) true := by
    intro d
    induction d with
    | zero =>
      intro i hd
      have hi : i = n := by omega
      subst hi
      exact h1
    | succ d ih =>
      intro i hd
      exact h2 i (by omega) (ih (i + 1) (by omega))
  exact key n 0 (by omega)

/-- The elements are numbered through; and so they are found. -/
def markL {β : Type} (mk : β → Nat → β) (cnt : β → Nat) : List β → Nat → List β
  | [], _ => []
  | b :: r, m => mk b m :: markL mk cnt r (m + cnt b)
def cntL {β : Type} (cnt : β → Nat) : List β → Nat
  | [] => 0
  | b :: r => cnt b + cntL cnt r
theorem markL_length {β : Type} (mk : β → Nat → β) (cnt : β → Nat) : ∀ (l : List β) (m : Nat), (markL mk cnt l m).length = l.length
  | [], _ => rfl
  | b :: r, m => by
    show (markL mk cnt r _).length + 1 = r.length + 1
    rw [markL_length mk cnt r]
theorem cntL_le {β : Type} (cnt : β → Nat) (c : Nat) : ∀ l : List β, (∀ b ∈ l, cnt b ≤ c) → cntL cnt l ≤ c * l.length
  | [], _ => Nat.zero_le _
  | b :: r, h => by
    have h1 := cntL_le cnt c r (fun x hx => h x (List.mem_cons_of_mem _ hx))
    have h2 := h b List.mem_cons_self
    show cnt b + cntL cnt r ≤ c * (r.length + 1)
    rw [Nat.mul_add, Nat.mul_one]
    omega
theorem mark_ev {β : Type} (z : β) (mk : β → Nat → β) (cnt : β → Nat) (B n : Nat) (F : List β → Nat → Nat → Nat → Option (Int × List β)) (h1 : ∀ (x : List β) (m : Nat), x.length = n → Ev (F x m n) ((m : Int), x))
    (h2 : ∀ (x : List β) (m i : Nat), x.length = n → i < n → m + cnt (x.getD i z) ≤ B → ∀ r, Ev (F (x.set i (mk (x.getD i z) m)) (m + cnt (x.getD i z)) (i + 1)) r → Ev (F x m i) r) :
    ∀ (x : List β) (m : Nat), x.length = n → m + cntL cnt x ≤ B → Ev (F x m 0) (((m + cntL cnt x : Nat) : Int), markL mk cnt x m) := by
  have key : ∀ (rest done : List β) (m : Nat), done.length + rest.length = n → m + cntL cnt rest ≤ B → Ev (F (done ++ rest) m done.length) (((m + cntL cnt rest : Nat) : Int), done ++ markL mk cnt rest m) := by
    intro rest
    induction rest with
    | nil =>
      intro done m hn _
      have hn' : done.length = n := hn
      have := h1 done m hn'
      rw [← hn'] at this
      rw [List.append_nil]
      show Ev _ (((m + 0 : Nat) : Int), done ++ [])
      rw [List.append_nil]
      exact this
    | cons b r ih =>
      intro done m hn hm
      have hn' : done.length + (r.length + 1) = n := hn
      have hm' : m + (cnt b + cntL cnt r) ≤ B := hm
      have hg : (done ++ b :: r).getD done.length z = b := by simp [List.getD]
      have hs : (done ++ b :: r).set done.length (mk b m) = (done ++ [mk b m]) ++ r := by simp [List.set_append]
      have := ih (done ++ [mk b m]) (m + cnt b) (by rw [List.length_append, List.length_singleton]; omega) (by omega)
      refine h2 _ m done.length (by simp; omega) (by omega) (by rw [hg]; omega) _ ?_
      rw [hg, hs]
      rw [List.length_append, List.length_singleton] at this
      have e : m + cnt b + cntL cnt r = m + (cnt b + cntL cnt r) := by omega
      have e2 : done ++ [mk b m] ++ markL mk cnt r (m + cnt b) = done ++ (mk b m :: markL mk cnt r (m + cnt b)) := by rw [List.append_assoc, List.singleton_append]
      rw [e, e2] at this
      exact this
  intro x m hn hm
  exact key x [] m (by simpa using hn) hm
theorem held_ev {β : Type} (z : β) (mk : β → Nat → β) (cnt : β → Nat) (B n : Nat) (H : List β → Nat → Nat → Nat → Option Int) (h1 : ∀ (x : List β) (m : Nat), x.length = n → Ev (H x m n) (m : Int))
    (h2 : ∀ (x : List β) (m i : Nat) (b : β), x.length = n → i < n → x.getD i z = mk b m → m + cnt b ≤ B → ∀ r, Ev (H x (m + cnt b) (i + 1)) r → Ev (H x m i) r) :
    ∀ (x : List β) (m : Nat), x.length = n → m + cntL cnt x ≤ B → Ev (H (markL mk cnt x m) m 0) ((m + cntL cnt x : Nat) : Int) := by
  have key : ∀ (rest done : List β) (m : Nat), done.length + rest.length = n → m + cntL cnt rest ≤ B → Ev (H (done ++ markL mk cnt rest m) m done.length) ((m + cntL cnt rest : Nat) : Int) := by
    intro rest
    induction rest with
    | nil =>
      intro done m hn _
      have hn' : done.length = n := hn
      have := h1 done m hn'
      rw [← hn'] at this
      show Ev (H (done ++ []) m done.length) _
      rw [List.append_nil]
      exact this
    | cons b r ih =>
      intro done m hn hm
      have hn' : done.length + (r.length + 1) = n := hn
      have hm' : m + (cnt b + cntL cnt r) ≤ B := hm
      have := ih (done ++ [mk b m]) (m + cnt b) (by rw [List.length_append, List.length_singleton]; omega) (by omega)
      show Ev (H (done ++ (mk b m :: markL mk cnt r (m + cnt b))) m done.length) _
      refine h2 _ m done.length b (by simp [markL_length]; omega) (by omega) (by simp [List.getD]) (by omega) _ ?_
      rw [List.length_append, List.length_singleton, List.append_assoc, List.singleton_append] at this
      have e : m + cnt b + cntL cnt r = m + (cnt b + cntL cnt r) := by omega
      rw [e] at this
      exact this
  intro x m hn hm
  exact key x [] m (by simpa using hn) hm

theorem map_range_getD {α β : Type} (l : List α) (z : α) (f : α → β) : (List.range l.length).map (fun i => f (l.getD i z)) = l.map f := by
  apply List.ext_getElem
  · simp
  · intro i h1 h2
    simp at h1 h2
    simp [h2]
theorem map_range_self {α : Type} (l : List α) (z : α) : (List.range l.length).map (fun i => l.getD i z) = l := by
  have := map_range_getD l z id
  simpa using this
theorem getD_mem {α : Type} {l : List α} {i : Nat} (h : i < l.length) (z : α) : l.getD i z ∈ l := by
  rw [List.getD_eq_getElem?_getD, List.getElem?_eq_getElem h, Option.getD_some]
  exact List.getElem_mem h

theorem iin (a b c : Int) : impl_in.f a b c = some (decide (b ≤ a ∧ a ≤ c)) := by
  unfold impl_in.f
  by_cases h : a ≥ b
  · rw [if_pos h]
    have e : (b ≤ a ∧ a ≤ c) ↔ a ≤ c := ⟨fun h => h.2, fun h' => ⟨h, h'⟩⟩
    simp only [e]
  · rw [if_neg h, decide_eq_false]
    intro h'
    exact h h'.1

/-! #### a number between two -/
theorem sin (a b c : Int) : spec_l1In.f a b c = some (decide (b ≤ a ∧ a ≤ c)) := by
  unfold spec_l1In.f
  by_cases h : a ≥ b
  · rw [if_pos h]
    have e : (b ≤ a ∧ a ≤ c) ↔ a ≤ c := ⟨fun h => h.2, fun h' => ⟨h, h'⟩⟩
    simp only [e]
  · rw [if_neg h, decide_eq_false]
    intro h'
    exact h h'.1

theorem EvB.and {P Q : Prop} [Decidable P] {g : Nat → Option Bool} (h : EvB g Q) : EvB (fun k => if decide P = true then g k else some false) (P ∧ Q) := by
  obtain ⟨b, hb, hq⟩ := h
  by_cases hp : P
  · exact ⟨b, Ev.ifp (by rw [decide_eq_true hp]) hb, ⟨fun h => ⟨hp, hq.1 h⟩, fun h => hq.2 h.2⟩⟩
  · exact ⟨false, Ev.ifn (by rw [decide_eq_false hp]; decide) (Ev.now _), Iff.intro (fun h => by cases h) (fun h => absurd h.1 hp)⟩
theorem EvB.dec {P : Prop} [Decidable P] : EvB (fun _ => some (decide P)) P := ⟨decide P, Ev.now _, decide_eq_true_iff⟩
theorem both {g f : Nat → Option Bool} {Q : Prop} (h : EvB g Q) (k : EvB f Q) : ∃ b : Bool, Ev g b ∧ Ev f b ∧ (b = true ↔ Q) := by
  obtain ⟨b, hb, hq⟩ := h
  obtain ⟨c, hc, hr⟩ := k
  obtain rfl : c = b := Bool.eq_iff_iff.2 (hr.trans hq.symm)
  exact ⟨c, hb, hc, hq⟩

/-! #### good entries -/
def PE (l : List Int) (j : Nat) : Prop := (0 ≤ l.getD j 0 ∧ l.getD j 0 ≤ 100) ∧ (0 < j → l.getD (j - 1) 0 ≤ l.getD j 0)
def GE (l : List Int) : Prop := l.length ≤ 30 ∧ ∀ j, j < l.length → PE l j

theorem sGE_l (l : List Int) (hl : l.length ≤ 1048576) : ∀ d i : Nat, i + d = l.length →
    EvB (fun k => spec_GoodEntries.l0 k l l (l.length : Int) (i : Int)) (l.length ≤ 30 ∧ ∀ j, i ≤ j → j < l.length → PE l j)
  | 0, i, hd => by
    refine ⟨decide ((l.length : Int) ≤ 30), Ev.step (f := fun _ => some (decide ((l.length : Int) ≤ 30))) (fun k => by rw [spec_GoodEntries.l0, if_neg (by omega)]) (Ev.now _), ?_⟩
    rw [decide_eq_true_iff]
    exact ⟨fun h => ⟨by omega, fun j h1 h2 => by omega⟩, fun h => by omega⟩
  | d + 1, i, hd => by
    by_cases hr : 0 ≤ l.getD i 0 ∧ l.getD i 0 ≤ 100
    · by_cases hi : 0 < i
      · by_cases hp : l.getD (i - 1) 0 > l.getD i 0
        · refine EvB.no (fun k => ?_) (fun h => ?_)
          · rw [spec_GoodEntries.l0, if_pos (by omega), if_pos (by omega), if_pos (by omega), sin, rd_nat, decide_eq_true hr, Option.bind_some, if_pos rfl, if_pos (by omega), pred_wrap hi (by omega), if_pos (by omega), if_pos (by omega), rd_nat, if_pos hp]
          · have := (h.2 i (Nat.le_refl _) (by omega)).2 hi
            omega
        · refine EvB.step (fun k => ?_) (EvB.iff (sGE_l l hl d (i + 1) (by omega)) ?_)
          · show spec_GoodEntries.l0 (k + 1) l l (l.length : Int) (i : Int) = spec_GoodEntries.l0 k l l (l.length : Int) ((i + 1 : Nat) : Int)
            rw [spec_GoodEntries.l0, if_pos (by omega), if_pos (by omega), if_pos (by omega), sin, rd_nat, decide_eq_true hr, Option.bind_some, if_pos rfl, if_pos (by omega), pred_wrap hi (by omega), if_pos (by omega), if_pos (by omega), rd_nat, if_neg hp, succ_wrap (by omega)]
          · refine and_congr_right fun _ => ⟨fun h j h1 h2 => ?_, fun h j h1 h2 => h j (by omega) h2⟩
            by_cases e : j = i
            · subst e
              exact ⟨hr, fun _ => by omega⟩
            · exact h j (by omega) h2
      · have h0 : i = 0 := by omega
        subst h0
        refine EvB.step (fun k => ?_) (EvB.iff (sGE_l l hl d 1 (by omega)) ?_)
        · show spec_GoodEntries.l0 (k + 1) l l (l.length : Int) ((0 : Nat) : Int) = spec_GoodEntries.l0 k l l (l.length : Int) ((0 + 1 : Nat) : Int)
          rw [spec_GoodEntries.l0, if_pos (by omega), if_pos (by omega), if_pos (by omega), sin, rd_nat, decide_eq_true hr, Option.bind_some, if_pos rfl, if_neg (by omega), succ_wrap (by omega)]
        · refine and_congr_right fun _ => ⟨fun h j h1 h2 => ?_, fun h j h1 h2 => h j (by omega) h2⟩
          by_cases e : j = 0
          · subst e
            exact ⟨hr, fun h => absurd h (Nat.lt_irrefl _)⟩
          · exact h j (by omega) h2
    · refine EvB.no (fun k => ?_) (fun h => hr (h.2 i (Nat.le_refl _) (by omega)).1)
      rw [spec_GoodEntries.l0, if_pos (by omega), if_pos (by omega), if_pos (by omega), sin, rd_nat, decide_eq_false hr, Option.bind_some, if_neg (by decide)]
theorem sGE_ev (l : List Int) (hl : l.length ≤ 1048576) : EvB (fun k => spec_GoodEntries.f k l) (GE l) := by
  have h := sGE_l l hl l.length 0 (by omega)
  exact h.iff ⟨fun h => ⟨h.1, fun j hj => h.2 j (Nat.zero_le _) hj⟩, fun h => ⟨h.1, fun j _ hj => h.2 j hj⟩⟩

theorem iGE_l (l : List Int) (hl : l.length ≤ 1048576) : ∀ d i : Nat, i + d = l.length →
    EvB (fun k => impl_areEntries.l0 k l l (l.length : Int) (i : Int)) (l.length ≤ 30 ∧ ∀ j, i ≤ j → j < l.length → PE l j)
  | 0, i, hd => by
    refine ⟨decide ((l.length : Int) ≤ 30), Ev.step (f := fun _ => some (decide ((l.length : Int) ≤ 30))) (fun k => by rw [impl_areEntries.l0, if_neg (by omega)]) (Ev.now _), ?_⟩
    rw [decide_eq_true_iff]
    exact ⟨fun h => ⟨by omega, fun j h1 h2 => by omega⟩, fun h => by omega⟩
  | d + 1, i, hd => by
    by_cases hr : 0 ≤ l.getD i 0 ∧ l.getD i 0 ≤ 100
    · by_cases hi : 0 < i
      · by_cases hp : l.getD (i - 1) 0 > l.getD i 0
        · refine EvB.no (fun k => ?_) (fun h => ?_)
          · rw [impl_areEntries.l0, if_pos (by omega), if_pos (by omega), if_pos (by omega), iin, rd_nat, decide_eq_true hr, Option.bind_some, if_pos rfl, if_pos (by omega), pred_wrap hi (by omega), if_pos (by omega), if_pos (by omega), rd_nat, if_pos hp]
          · have := (h.2 i (Nat.le_refl _) (by omega)).2 hi
            omega
        · refine EvB.step (fun k => ?_) (EvB.iff (iGE_l l hl d (i + 1) (by omega)) ?_)
          · show impl_areEntries.l0 (k + 1) l l (l.length : Int) (i : Int) = impl_areEntries.l0 k l l (l.length : Int) ((i + 1 : Nat) : Int)
            rw [impl_areEntries.l0, if_pos (by omega), if_pos (by omega), if_pos (by omega), iin, rd_nat, decide_eq_true hr, Option.bind_some, if_pos rfl, if_pos (by omega), pred_wrap hi (by omega), if_pos (by omega), if_pos (by omega), rd_nat, if_neg hp, succ_wrap (by omega)]
          · refine and_congr_right fun _ => ⟨fun h j h1 h2 => ?_, fun h j h1 h2 => h j (by omega) h2⟩
            by_cases e : j = i
            · subst e
              exact ⟨hr, fun _ => by omega⟩
            · exact h j (by omega) h2
      · have h0 : i = 0 := by omega
        subst h0
        refine EvB.step (fun k => ?_) (EvB.iff (iGE_l l hl d 1 (by omega)) ?_)
        · show impl_areEntries.l0 (k + 1) l l (l.length : Int) ((0 : Nat) : Int) = impl_areEntries.l0 k l l (l.length : Int) ((0 + 1 : Nat) : Int)
          rw [impl_areEntries.l0, if_pos (by omega), if_pos (by omega), if_pos (by omega), iin, rd_nat, decide_eq_true hr, Option.bind_some, if_pos rfl, if_neg (by omega), succ_wrap (by omega)]
        · refine and_congr_right fun _ => ⟨fun h j h1 h2 => ?_, fun h j h1 h2 => h j (by omega) h2⟩
          by_cases e : j = 0
          · subst e
            exact ⟨hr, fun h => absurd h (Nat.lt_irrefl _)⟩
          · exact h j (by omega) h2
    · refine EvB.no (fun k => ?_) (fun h => hr (h.2 i (Nat.le_refl _) (by omega)).1)
      rw [impl_areEntries.l0, if_pos (by omega), if_pos (by omega), if_pos (by omega), iin, rd_nat, decide_eq_false hr, Option.bind_some, if_neg (by decide)]
theorem iGE_ev (l : List Int) (hl : l.length ≤ 1048576) : EvB (fun k => impl_areEntries.f k l) (GE l) := by
  have h := iGE_l l hl l.length 0 (by omega)
  exact h.iff ⟨fun h => ⟨h.1, fun j hj => h.2 j (Nat.zero_le _) hj⟩, fun h => ⟨h.1, fun j _ hj => h.2 j hj⟩⟩

theorem em_nat (l : List S60) (i : Nat) : rd_T60 l (i : Int) = l.getD i z60 := rfl

/-! #### marks of a log -/
/-- The marks of the d entries from i on. -/
def MO (l : List Int) : Nat → Nat → List S60
  | _, 0 => []
  | i, d + 1 => if i = 0 ∨ ¬ l.getD (i - 1) 0 = l.getD i 0 then ⟨l.getD i 0, (i : Int)⟩ :: MO l (i + 1) d else MO l (i + 1) d
theorem MO_length (l : List Int) : ∀ d i, (MO l i d).length ≤ d
  | 0, _ => Nat.le_refl _
  | d + 1, i => by
    have := MO_length l d (i + 1)
    rw [MO]
    split
    · rw [List.length_cons]
      omega
    · omega

theorem sMO_l (l : List Int) (hl : l.length ≤ 1048576) : ∀ d i : Nat, i + d = l.length → ∀ x : List S60, x.length ≤ i →
    Ev (fun k => spec_l4Marks.l0 k l x l (l.length : Int) (i : Int)) (x ++ MO l i d)
  | 0, i, hd => fun x hx => by
    refine Ev.step (f := fun _ => some x) (fun k => by rw [spec_l4Marks.l0, if_neg (by omega)]) ?_
    show Ev _ (x ++ [])
    rw [List.append_nil]
    exact Ev.now _
  | d + 1, i, hd => fun x hx => by
    by_cases hi : 0 < i
    · by_cases hp : l.getD (i - 1) 0 = l.getD i 0
      · have h := sMO_l l hl d (i + 1) (by omega) x (by omega)
        refine Ev.step (fun k => ?_) (f := fun k => spec_l4Marks.l0 k l x l (l.length : Int) ((i + 1 : Nat) : Int)) ?_
        · show spec_l4Marks.l0 (k + 1) l x l (l.length : Int) (i : Int) = _
          rw [spec_l4Marks.l0, if_pos (by omega), if_pos (by omega), if_pos (by omega), if_neg (by omega), pred_wrap hi (by omega), if_pos (by omega), if_pos (by omega), rd_nat, rd_nat, if_pos hp, succ_wrap (by omega)]
        · rw [MO, if_neg (fun h' => h'.elim (fun h0 => by omega) (fun h1 => h1 hp))]
          exact h
      · have h := sMO_l l hl d (i + 1) (by omega) (x ++ [⟨l.getD i 0, (i : Int)⟩]) (by rw [List.length_append, List.length_singleton]; omega)
        refine Ev.step (fun k => ?_) (f := fun k => spec_l4Marks.l0 k l (x ++ [⟨l.getD i 0, (i : Int)⟩]) l (l.length : Int) ((i + 1 : Nat) : Int)) ?_
        · show spec_l4Marks.l0 (k + 1) l x l (l.length : Int) (i : Int) = _
          rw [spec_l4Marks.l0, if_pos (by omega), if_pos (by omega), if_pos (by omega), if_neg (by omega), pred_wrap hi (by omega), if_pos (by omega), if_pos (by omega), rd_nat, rd_nat, if_neg hp, if_pos (by omega), succ_wrap (by omega)]
        · rw [MO, if_pos (Or.inr hp)]
          rw [List.append_assoc, List.singleton_append] at h
          exact h
    · have h0 : i = 0 := by omega
      subst h0
      have h := sMO_l l hl d 1 (by omega) (x ++ [⟨l.getD 0 0, ((0 : Nat) : Int)⟩]) (by rw [List.length_append, List.length_singleton]; omega)
      refine Ev.step (fun k => ?_) (f := fun k => spec_l4Marks.l0 k l (x ++ [⟨l.getD 0 0, ((0 : Nat) : Int)⟩]) l (l.length : Int) ((0 + 1 : Nat) : Int)) ?_
      · show spec_l4Marks.l0 (k + 1) l x l (l.length : Int) ((0 : Nat) : Int) = _
        rw [spec_l4Marks.l0, if_pos (by omega), if_pos (by omega), if_pos (by omega), if_pos (by omega), if_pos (by omega), succ_wrap (by omega), rd_nat]
      · rw [MO, if_pos (Or.inl rfl)]
        rw [List.append_assoc, List.singleton_append] at h
        exact h
theorem sMO_ev (l : List Int) (hl : l.length ≤ 1048576) : Ev (fun k => spec_l4Marks.f k l) (MO l 0 l.length) := sMO_l l hl l.length 0 (by omega) [] (Nat.zero_le _)

theorem iMO_l (l : List Int) (hl : l.length ≤ 1048576) : ∀ d i : Nat, i + d = l.length → ∀ x : List S60, x.length ≤ i →
    Ev (fun k => impl_marksOf.l0 k l x l (l.length : Int) (i : Int)) (x ++ MO l i d)
  | 0, i, hd => fun x hx => by
    refine Ev.step (f := fun _ => some x) (fun k => by rw [impl_marksOf.l0, if_neg (by omega)]) ?_
    show Ev _ (x ++ [])
    rw [List.append_nil]
    exact Ev.now _
  | d + 1, i, hd => fun x hx => by
    by_cases hi : 0 < i
    · by_cases hp : l.getD (i - 1) 0 = l.getD i 0
      · have h := iMO_l l hl d (i + 1) (by omega) x (by omega)
        refine Ev.step (fun k => ?_) (f := fun k => impl_marksOf.l0 k l x l (l.length : Int) ((i + 1 : Nat) : Int)) ?_
        · show impl_marksOf.l0 (k + 1) l x l (l.length : Int) (i : Int) = _
          rw [impl_marksOf.l0, if_pos (by omega), if_pos (by omega), if_pos (by omega), if_neg (by omega), pred_wrap hi (by omega), if_pos (by omega), if_pos (by omega), rd_nat, rd_nat, if_pos hp, succ_wrap (by omega)]
        · rw [MO, if_neg (fun h' => h'.elim (fun h0 => by omega) (fun h1 => h1 hp))]
          exact h
      · have h := iMO_l l hl d (i + 1) (by omega) (x ++ [⟨l.getD i 0, (i : Int)⟩]) (by rw [List.length_append, List.length_singleton]; omega)
        refine Ev.step (fun k => ?_) (f := fun k => impl_marksOf.l0 k l (x ++ [⟨l.getD i 0, (i : Int)⟩]) l (l.length : Int) ((i + 1 : Nat) : Int)) ?_
        · show impl_marksOf.l0 (k + 1) l x l (l.length : Int) (i : Int) = _
          rw [impl_marksOf.l0, if_pos (by omega), if_pos (by omega), if_pos (by omega), if_neg (by omega), pred_wrap hi (by omega), if_pos (by omega), if_pos (by omega), rd_nat, rd_nat, if_neg hp, if_pos (by omega), succ_wrap (by omega)]
        · rw [MO, if_pos (Or.inr hp)]
          rw [List.append_assoc, List.singleton_append] at h
          exact h
    · have h0 : i = 0 := by omega
      subst h0
      have h := iMO_l l hl d 1 (by omega) (x ++ [⟨l.getD 0 0, ((0 : Nat) : Int)⟩]) (by rw [List.length_append, List.length_singleton]; omega)
      refine Ev.step (fun k => ?_) (f := fun k => impl_marksOf.l0 k l (x ++ [⟨l.getD 0 0, ((0 : Nat) : Int)⟩]) l (l.length : Int) ((0 + 1 : Nat) : Int)) ?_
      · show impl_marksOf.l0 (k + 1) l x l (l.length : Int) ((0 : Nat) : Int) = _
        rw [impl_marksOf.l0, if_pos (by omega), if_pos (by omega), if_pos (by omega), if_pos (by omega), if_pos (by omega), succ_wrap (by omega), rd_nat]
      · rw [MO, if_pos (Or.inl rfl)]
        rw [List.append_assoc, List.singleton_append] at h
        exact h
theorem iMO_ev (l : List Int) (hl : l.length ≤ 1048576) : Ev (fun k => impl_marksOf.f k l) (MO l 0 l.length) := iMO_l l hl l.length 0 (by omega) [] (Nat.zero_le _)

/-! #### where an epoch ends -/
/-- Among the first n marks. -/
def EE (m : List S60) (e ep : Int) : Nat → Int × Int
  | 0 => (-1, 0)
  | i + 1 => if (m.getD i z60).f0 ≤ ep then ((m.getD i z60).f0, if i + 1 < m.length then (m.getD (i + 1) z60).f1 else e) else EE m e ep i
theorem sEE_l (m : List S60) (e ep : Int) (hm : m.length ≤ 1048576) : ∀ n : Nat, n ≤ m.length → ∀ x y : Int, x = (n : Int) - 1 → y = (if n < m.length then (m.getD n z60).f1 else e) →
    Ev (fun k => spec_l4End.l0 k m y ep x) (EE m e ep n)
  | 0, _ => fun x y hx hy => Ev.step (f := fun _ => some (-1, 0)) (fun k => by rw [spec_l4End.l0, if_neg (by omega)]) (Ev.now _)
  | i + 1, hn => fun x y hx hy => by
    obtain rfl : x = (i : Int) := by omega
    rw [EE]
    by_cases h : (m.getD i z60).f0 ≤ ep
    · rw [if_pos h, ← hy]
      refine Ev.step (f := fun _ => some ((m.getD i z60).f0, y)) (fun k => ?_) (Ev.now _)
      rw [spec_l4End.l0, if_pos (by omega), if_pos (by omega), if_pos (by omega), em_nat, if_pos h]
    · rw [if_neg h]
      refine Ev.step (fun k => ?_) (sEE_l m e ep hm i (by omega) ((i : Int) - 1) (m.getD i z60).f1 rfl (by rw [if_pos (by omega)]))
      show spec_l4End.l0 (k + 1) m y ep (i : Int) = spec_l4End.l0 k m (m.getD i z60).f1 ep ((i : Int) - 1)
      rw [spec_l4End.l0, if_pos (by omega), if_pos (by omega), if_pos (by omega), em_nat, if_neg h, wrap_id (by omega) (by omega)]
theorem iEE_l (m : List S60) (e ep : Int) (hm : m.length ≤ 1048576) : ∀ n : Nat, n ≤ m.length → ∀ x : Int, x = (n : Int) - 1 →
    Ev (fun k => impl_endOfEpoch.l0 k m e ep x) (EE m e ep n)
  | 0, _ => fun x hx => Ev.step (f := fun _ => some (-1, 0)) (fun k => by rw [impl_endOfEpoch.l0, if_neg (by omega)]) (Ev.now _)
  | i + 1, hn => fun x hx => by
    obtain rfl : x = (i : Int) := by omega
    rw [EE]
    by_cases h : (m.getD i z60).f0 ≤ ep
    · rw [if_pos h]
      by_cases h2 : i + 1 < m.length
      · rw [if_pos h2]
        refine Ev.step (f := fun _ => some ((m.getD i z60).f0, (m.getD (i + 1) z60).f1)) (fun k => ?_) (Ev.now _)
        rw [impl_endOfEpoch.l0, if_pos (by omega), if_pos (by omega), if_pos (by omega), em_nat, if_neg (by omega), succ_wrap (by omega), if_pos (by omega), if_pos (by omega), em_nat]
      · rw [if_neg h2]
        refine Ev.step (f := fun _ => some ((m.getD i z60).f0, e)) (fun k => ?_) (Ev.now _)
        rw [impl_endOfEpoch.l0, if_pos (by omega), if_pos (by omega), if_pos (by omega), em_nat, if_neg (by omega), succ_wrap (by omega), if_neg (by omega)]
    · rw [if_neg h]
      refine Ev.step (fun k => ?_) (iEE_l m e ep hm i (by omega) ((i : Int) - 1) rfl)
      show impl_endOfEpoch.l0 (k + 1) m e ep (i : Int) = impl_endOfEpoch.l0 k m e ep ((i : Int) - 1)
      rw [impl_endOfEpoch.l0, if_pos (by omega), if_pos (by omega), if_pos (by omega), em_nat, if_pos (by omega), wrap_id (by omega) (by omega)]
theorem sEE_ev (m : List S60) (e ep : Int) (hm : m.length ≤ 1048576) : Ev (fun k => spec_l4End.f k m e ep) (EE m e ep m.length) := by
  have h := sEE_l m e ep hm m.length (Nat.le_refl _) ((m.length : Int) - 1) e rfl (by rw [if_neg (Nat.lt_irrefl _)])
  refine Ev.congr (fun k => ?_) h
  unfold spec_l4End.f
  rw [wrap_id (by omega) (by omega)]
theorem iEE_ev (m : List S60) (e ep : Int) (hm : m.length ≤ 1048576) : Ev (fun k => impl_endOfEpoch.f k m e ep) (EE m e ep m.length) := by
  have h := iEE_l m e ep hm m.length (Nat.le_refl _) ((m.length : Int) - 1) rfl
  refine Ev.congr (fun k => ?_) h
  unfold impl_endOfEpoch.f
  rw [wrap_id (by omega) (by omega)]
theorem EE_le (m : List S60) (e ep : Int) : ∀ n, (EE m e ep n).1 ≤ ep ∨ (EE m e ep n).1 = -1
  | 0 => Or.inr rfl
  | i + 1 => by
    rw [EE]
    split
    · exact Or.inl (by assumption)
    · exact EE_le m e ep i
theorem EE_end (m : List S60) (e ep : Int) (he : 0 ≤ e) (h : ∀ x ∈ m, 0 ≤ x.f1 ∧ x.f1 ≤ e) : ∀ n, 0 ≤ (EE m e ep n).2 ∧ (EE m e ep n).2 ≤ e
  | 0 => ⟨Int.le_refl _, he⟩
  | i + 1 => by
    rw [EE]
    split
    · split
      · rename_i h2
        exact h _ (getD_mem h2 _)
      · exact ⟨he, Int.le_refl _⟩
    · exact EE_end m e ep he h i

/-! #### what marks tell of a good log -/
def ST (l : List Int) (p : Nat) : Prop := p = 0 ∨ ¬ l.getD (p - 1) 0 = l.getD p 0
theorem MO_iff (l : List Int) : ∀ d i (x : S60), x ∈ MO l i d ↔ ∃ p, i ≤ p ∧ p < i + d ∧ ST l p ∧ x = ⟨l.getD p 0, (p : Int)⟩
  | 0, i, x => Iff.intro (fun h => by cases h) (fun ⟨p, h1, h2, _⟩ => by omega)
  | d + 1, i, x => by
    have ih := MO_iff l d (i + 1) x
    have up : (∃ p, i + 1 ≤ p ∧ p < i + 1 + d ∧ ST l p ∧ x = ⟨l.getD p 0, (p : Int)⟩) → ∃ p, i ≤ p ∧ p < i + (d + 1) ∧ ST l p ∧ x = ⟨l.getD p 0, (p : Int)⟩ := fun ⟨p, h1, h2, h3⟩ => ⟨p, by omega, by omega, h3⟩
    rw [MO]
    by_cases h : i = 0 ∨ ¬ l.getD (i - 1) 0 = l.getD i 0
    · rw [if_pos h, List.mem_cons, ih]
      refine ⟨fun h2 => h2.elim (fun e => ⟨i, Nat.le_refl _, by omega, h, e⟩) up, fun ⟨p, h1, h2, h3, h4⟩ => ?_⟩
      by_cases e : p = i
      · rw [e] at h4
        exact .inl h4
      · exact .inr ⟨p, by omega, by omega, h3, h4⟩
    · rw [if_neg h, ih]
      refine ⟨up, fun ⟨p, h1, h2, h3, h4⟩ => ⟨p, ?_, by omega, h3, h4⟩⟩
      by_cases e : p = i
      · rw [e] at h3
        exact absurd h3 h
      · omega
theorem GE_mono {l : List Int} (h : GE l) : ∀ (q p : Nat), p ≤ q → q < l.length → l.getD p 0 ≤ l.getD q 0
  | 0, p, hp, _ => by
    have : p = 0 := by omega
    rw [this]
    exact Int.le_refl _
  | q + 1, p, hp, hq => by
    by_cases e : p = q + 1
    · rw [e]
      exact Int.le_refl _
    · have h1 := (h.2 (q + 1) hq).2 (by omega)
      rw [Nat.add_sub_cancel] at h1
      have := GE_mono h q p (by omega) (by omega)
      omega
theorem ST_lt {l : List Int} (h : GE l) {p q : Nat} (hpq : p < q) (hq : q < l.length) (hs : ST l q) : l.getD p 0 < l.getD q 0 := by
  have h1 := hs.resolve_left (by omega)
  have h2 := (h.2 q hq).2 (by omega)
  have h3 := GE_mono h (q - 1) p (by omega) (by omega)
  omega
theorem MO_pw {l : List Int} (h : GE l) : ∀ d i, i + d ≤ l.length → (MO l i d).Pairwise (fun x y => x.f0 < y.f0 ∧ x.f1 < y.f1)
  | 0, _, _ => List.Pairwise.nil
  | d + 1, i, hi => by
    have ih := MO_pw h d (i + 1) (by omega)
    rw [MO]
    split
    · refine List.pairwise_cons.2 ⟨fun y hy => ?_, ih⟩
      obtain ⟨p, h1, h2, h3, rfl⟩ := (MO_iff l d (i + 1) y).1 hy
      exact ⟨ST_lt h (by omega) (by omega) h3, (show (i : Int) < (p : Int) by omega)⟩
    · exact ih
theorem pw_get {m : List S60} (h : m.Pairwise (fun x y => x.f0 < y.f0 ∧ x.f1 < y.f1)) {i j : Nat} (hij : i < j) (hj : j < m.length) : (m.getD i z60).f0 < (m.getD j z60).f0 ∧ (m.getD i z60).f1 < (m.getD j z60).f1 := by
  have := (List.pairwise_iff_getElem.1 h) i j (by omega) hj hij
  rw [List.getD_eq_getElem?_getD, List.getElem?_eq_getElem (by omega), List.getD_eq_getElem?_getD, List.getElem?_eq_getElem hj]
  exact this
theorem MO_take (l : List Int) (a : Nat) : ∀ d i, i + d ≤ a → MO (l.take a) i d = MO l i d
  | 0, _, _ => rfl
  | d + 1, i, h => by
    have g : ∀ p, p < a → (l.take a).getD p 0 = l.getD p 0 := fun p hp => by
      rw [List.getD_eq_getElem?_getD, List.getD_eq_getElem?_getD, List.getElem?_take_of_lt hp]
    rw [MO, MO, MO_take l a d (i + 1) (by omega), g i (by omega), g (i - 1) (by omega)]
theorem GE_take {l : List Int} (h : GE l) (a : Nat) : GE (l.take a) := by
  refine ⟨by rw [List.length_take]; have := h.1; omega, fun j hj => ?_⟩
  rw [List.length_take] at hj
  have g : ∀ p, p < a → (l.take a).getD p 0 = l.getD p 0 := fun p hp => by
    rw [List.getD_eq_getElem?_getD, List.getD_eq_getElem?_getD, List.getElem?_take_of_lt hp]
  have := h.2 j (by omega)
  unfold PE at this ⊢
  rw [g j (by omega), g (j - 1) (by omega)]
  exact this
theorem EE_at (m : List S60) (e ep : Int) (j : Nat) (h1 : (m.getD j z60).f0 ≤ ep) : ∀ n, j < n → (∀ t, j < t → t < n → ¬ (m.getD t z60).f0 ≤ ep) → EE m e ep n = ((m.getD j z60).f0, if j + 1 < m.length then (m.getD (j + 1) z60).f1 else e)
  | 0, h, _ => by omega
  | n + 1, h, h2 => by
    rw [EE]
    by_cases e1 : n = j
    · rw [e1, if_pos h1]
    · rw [if_neg (h2 n (by omega) (by omega))]
      exact EE_at m e ep j h1 n (by omega) (fun t h3 h4 => h2 t h3 (by omega))
/-- Where the epoch of the entry i begins. -/
theorem ST_ex {l : List Int} : ∀ i, ∃ p, p ≤ i ∧ ST l p ∧ ∀ q, p ≤ q → q ≤ i → l.getD q 0 = l.getD i 0
  | 0 => ⟨0, Nat.le_refl _, .inl rfl, fun q _ h => by rw [show q = 0 by omega]⟩
  | i + 1 => by
    by_cases h : l.getD i 0 = l.getD (i + 1) 0
    · obtain ⟨p, h1, h2, h3⟩ := ST_ex (l := l) i
      refine ⟨p, by omega, h2, fun q h4 h5 => ?_⟩
      by_cases e : q = i + 1
      · rw [e]
      · rw [h3 q h4 (by omega), h]
    · exact ⟨i + 1, Nat.le_refl _, .inr (by rw [Nat.add_sub_cancel]; exact h), fun q h4 h5 => by rw [show q = i + 1 by omega]⟩
theorem EE_MO {l : List Int} (h : GE l) (i : Nat) (hi : i < l.length) : ∃ z : Nat, EE (MO l 0 l.length) (l.length : Int) (l.getD i 0) (MO l 0 l.length).length = (l.getD i 0, (z : Int)) ∧ i < z ∧ z ≤ l.length ∧ (z < l.length → l.getD i 0 < l.getD z 0) ∧ l.getD (z - 1) 0 = l.getD i 0 := by
  obtain ⟨p, hp, hs, hc⟩ := ST_ex (l := l) i
  have hpw := MO_pw h l.length 0 (by omega)
  have hin : (⟨l.getD p 0, (p : Int)⟩ : S60) ∈ MO l 0 l.length := (MO_iff l l.length 0 _).2 ⟨p, Nat.zero_le _, by omega, hs, rfl⟩
  obtain ⟨j, hj, ej⟩ := List.mem_iff_getElem.1 hin
  have gj : (MO l 0 l.length).getD j z60 = ⟨l.getD p 0, (p : Int)⟩ := by rw [List.getD_eq_getElem?_getD, List.getElem?_eq_getElem hj, Option.getD_some, ej]
  have epi : l.getD p 0 = l.getD i 0 := hc p (Nat.le_refl _) hp
  have hE := EE_at (MO l 0 l.length) (l.length : Int) (l.getD i 0) j (by rw [gj]; show l.getD p 0 ≤ l.getD i 0; omega) (MO l 0 l.length).length hj (fun t h1 h2 h3 => by
    have := (pw_get hpw h1 h2).1
    rw [gj] at this
    have h4 : l.getD p 0 < ((MO l 0 l.length).getD t z60).f0 := this
    omega)
  rw [gj] at hE
  by_cases hn : j + 1 < (MO l 0 l.length).length
  · obtain ⟨z, _, hz, hsz, gz⟩ := (MO_iff l l.length 0 _).1 (getD_mem hn z60)
    rw [if_pos hn, gz] at hE
    have hlt := pw_get hpw (Nat.lt_succ_self j) hn
    rw [gj, gz] at hlt
    have hl1 : l.getD p 0 < l.getD z 0 := hlt.1
    have hl2 : (p : Int) < (z : Int) := hlt.2
    have hiz : i < z := by
      rcases Nat.lt_or_ge i z with h1 | h1
      · exact h1
      · have := hc z (by omega) h1
        omega
    refine ⟨z, by rw [hE, epi], hiz, by omega, fun _ => by omega, ?_⟩
    obtain ⟨s, s1, s2, s3⟩ := ST_ex (l := l) (z - 1)
    have s4 := s3 s (Nat.le_refl _) s1
    rcases Nat.lt_or_ge i s with h1 | h1
    · exfalso
      have hins : (⟨l.getD s 0, (s : Int)⟩ : S60) ∈ MO l 0 l.length := (MO_iff l l.length 0 _).2 ⟨s, Nat.zero_le _, by omega, s2, rfl⟩
      obtain ⟨t, ht, et⟩ := List.mem_iff_getElem.1 hins
      have gt : (MO l 0 l.length).getD t z60 = ⟨l.getD s 0, (s : Int)⟩ := by rw [List.getD_eq_getElem?_getD, List.getElem?_eq_getElem ht, Option.getD_some, et]
      rcases Nat.lt_or_ge t (j + 1) with h2 | h2
      · by_cases e : t = j
        · rw [e, gj] at gt
          have : (p : Int) = (s : Int) := congrArg S60.f1 gt
          omega
        · have := (pw_get hpw (show t < j by omega) hj).2
          rw [gt, gj] at this
          have h5 : (s : Int) < (p : Int) := this
          omega
      · by_cases e : t = j + 1
        · rw [e, gz] at gt
          have : (z : Int) = (s : Int) := congrArg S60.f1 gt
          omega
        · have := (pw_get hpw (show j + 1 < t by omega) ht).2
          rw [gt, gz] at this
          have h5 : (z : Int) < (s : Int) := this
          omega
    · have h6 := s3 i h1 (by omega)
      omega
  · rw [if_neg hn] at hE
    refine ⟨l.length, by rw [hE, epi], hi, Nat.le_refl _, fun h1 => absurd h1 (Nat.lt_irrefl _), ?_⟩
    obtain ⟨s, s1, s2, s3⟩ := ST_ex (l := l) (l.length - 1)
    have s4 := s3 s (Nat.le_refl _) s1
    rcases Nat.lt_or_ge i s with h1 | h1
    · exfalso
      have hins : (⟨l.getD s 0, (s : Int)⟩ : S60) ∈ MO l 0 l.length := (MO_iff l l.length 0 _).2 ⟨s, Nat.zero_le _, by omega, s2, rfl⟩
      obtain ⟨t, ht, et⟩ := List.mem_iff_getElem.1 hins
      have gt : (MO l 0 l.length).getD t z60 = ⟨l.getD s 0, (s : Int)⟩ := by rw [List.getD_eq_getElem?_getD, List.getElem?_eq_getElem ht, Option.getD_some, et]
      by_cases e : t = j
      · rw [e, gj] at gt
        have : (p : Int) = (s : Int) := congrArg S60.f1 gt
        omega
      · have := (pw_get hpw (show t < j by omega) hj).2
        rw [gt, gj] at this
        have h5 : (s : Int) < (p : Int) := this
        omega
    · exact (s3 i h1 (by omega)).symm

/-! #### to how many entries a follower is cut -/
theorem MO_mem (l : List Int) : ∀ d i, ∀ x ∈ MO l i d, (i : Int) ≤ x.f1 ∧ x.f1 < ((i + d : Nat) : Int) ∧ ∃ j, i ≤ j ∧ j < i + d ∧ x.f0 = l.getD j 0
  | 0, i => fun x hx => by cases hx
  | d + 1, i => fun x hx => by
    rw [MO] at hx
    have rest : x ∈ MO l (i + 1) d → (i : Int) ≤ x.f1 ∧ x.f1 < ((i + (d + 1) : Nat) : Int) ∧ ∃ j, i ≤ j ∧ j < i + (d + 1) ∧ x.f0 = l.getD j 0 := fun hx => by
      obtain ⟨h1, h2, j, h3, h4, h5⟩ := MO_mem l d (i + 1) x hx
      exact ⟨by omega, by omega, j, by omega, by omega, h5⟩
    split at hx
    · rcases List.mem_cons.1 hx with rfl | hx
      · exact ⟨Int.le_refl _, (show (i : Int) < ((i + (d + 1) : Nat) : Int) by omega), i, Nat.le_refl _, by omega, rfl⟩
      · exact rest hx
    · exact rest hx
theorem match_l (a b : List Int) (ha : a.length ≤ 1048576) (hb : b.length ≤ 1048576) : ∀ (n : Nat) (ep ask : Int), 0 ≤ ep → ep < n → 0 ≤ ask → ask + n ≤ 1000000 →
    ∃ (r q : Int), 0 ≤ r ∧ r ≤ a.length ∧ r ≤ b.length ∧ Ev (fun k => spec_l4Match.l0 k a b (MO a 0 a.length) (MO b 0 b.length) ep ask) (r, q) ∧ Ev (fun k => impl_matchBy.l0 k a b (MO b 0 b.length) (MO a 0 a.length) ep ask) (r, q) := by
  have hA := Nat.le_trans (MO_length a a.length 0) ha
  have hB := Nat.le_trans (MO_length b b.length 0) hb
  have hAm : ∀ x ∈ MO a 0 a.length, 0 ≤ x.f1 ∧ x.f1 ≤ (a.length : Int) := fun x hx => by
    obtain ⟨h1, h2, _⟩ := MO_mem a a.length 0 x hx
    exact ⟨by omega, by omega⟩
  have hBm : ∀ x ∈ MO b 0 b.length, 0 ≤ x.f1 ∧ x.f1 ≤ (b.length : Int) := fun x hx => by
    obtain ⟨h1, h2, _⟩ := MO_mem b b.length 0 x hx
    exact ⟨by omega, by omega⟩
  intro n
  induction n with
  | zero => intro ep ask h0 h1; omega
  | succ n ih =>
    intro ep ask h0 h1 h2 h3
    have t1 := sEE_ev _ (a.length : Int) ep hA
    have t2 := iEE_ev _ (a.length : Int) ep hA
    have tl := EE_le (MO a 0 a.length) (a.length : Int) ep (MO a 0 a.length).length
    have te := EE_end (MO a 0 a.length) (a.length : Int) ep (by omega) hAm (MO a 0 a.length).length
    have u1 := sEE_ev _ (b.length : Int) ep hB
    have u2 := iEE_ev _ (b.length : Int) ep hB
    have ue := EE_end (MO b 0 b.length) (b.length : Int) ep (by omega) hBm (MO b 0 b.length).length
    generalize EE (MO a 0 a.length) (a.length : Int) ep (MO a 0 a.length).length = t at t1 t2 tl te
    generalize EE (MO b 0 b.length) (b.length : Int) ep (MO b 0 b.length).length = u at u1 u2 ue
    have v1 := sEE_ev _ (b.length : Int) t.1 hB
    have v2 := iEE_ev _ (b.length : Int) t.1 hB
    have vl := EE_le (MO b 0 b.length) (b.length : Int) t.1 (MO b 0 b.length).length
    generalize EE (MO b 0 b.length) (b.length : Int) t.1 (MO b 0 b.length).length = v at v1 v2 vl
    by_cases ht : t.1 = ep
    · refine ⟨mn t.2 u.2, ask, by unfold mn; split <;> omega, by unfold mn; split <;> omega, by unfold mn; split <;> omega, Ev.succ ?_, Ev.succ ?_⟩
      · simp only [spec_l4Match.l0]
        refine Ev.bind t1 (Ev.ifp ht (Ev.bind u1 ?_))
        unfold mn
        by_cases hq : u.2 < t.2
        · have e : (if u.2 < t.2 then u.2 else t.2, ask) = (u.2, ask) := by rw [if_pos hq]
          rw [e]
          exact Ev.ifp hq (Ev.now _)
        · have e : (if u.2 < t.2 then u.2 else t.2, ask) = (t.2, ask) := by rw [if_neg hq]
          rw [e]
          exact Ev.ifn hq (Ev.now _)
      · simp only [impl_matchBy.l0]
        exact Ev.bind t2 (Ev.ifp ht (Ev.bind u2 (Ev.now _)))
    · by_cases hv : v.1 < 0
      · refine ⟨0, ask, Int.le_refl _, by omega, by omega, Ev.succ ?_, Ev.succ ?_⟩
        · simp only [spec_l4Match.l0]
          exact Ev.bind t1 (Ev.ifn ht (Ev.bind v1 (Ev.ifp hv (Ev.now _))))
        · simp only [impl_matchBy.l0]
          exact Ev.bind t2 (Ev.ifn ht (Ev.bind v2 (Ev.ifp hv (Ev.now _))))
      · obtain ⟨r, q, h4, h5, h6, h7, h8⟩ := ih v.1 (ask + 1) (by omega) (by omega) (by omega) (by omega)
        have hw : wrap64 (ask + 1) = ask + 1 := wrap_id (by omega) (by omega)
        refine ⟨r, q, h4, h5, h6, Ev.succ ?_, Ev.succ ?_⟩
        · simp only [spec_l4Match.l0, hw]
          exact Ev.bind t1 (Ev.ifn ht (Ev.bind v1 (Ev.ifn hv h7)))
        · simp only [impl_matchBy.l0, hw]
          exact Ev.bind t2 (Ev.ifn ht (Ev.bind v2 (Ev.ifn hv h8)))
theorem match_ev (a b : List Int) (ha : GE a) (hb : GE b) :
    ∃ (r q : Int), 0 ≤ r ∧ r ≤ a.length ∧ r ≤ b.length ∧ Ev (fun k => spec_l4Match.f k a b) (r, q) ∧ Ev (fun k => impl_matchBy.f k a b) (r, q) := by
  have la : a.length ≤ 1048576 := by have := ha.1; omega
  have lb : b.length ≤ 1048576 := by have := hb.1; omega
  unfold spec_l4Match.f impl_matchBy.f
  by_cases h0 : (b.length : Int) = 0
  · exact ⟨0, 0, Int.le_refl _, by omega, by omega, Ev.bind (sMO_ev a la) (Ev.bind (sMO_ev b lb) (Ev.ifp h0 (Ev.now _))), Ev.bind (iMO_ev b lb) (Ev.bind (iMO_ev a la) (Ev.ifp h0 (Ev.now _)))⟩
  · have hw : wrap64 ((b.length : Int) - 1) = ((b.length - 1 : Nat) : Int) := pred_wrap (by omega) (by omega)
    obtain ⟨hr, _⟩ := hb.2 (b.length - 1) (by omega)
    obtain ⟨r, q, h1, h2, h3, h4, h5⟩ := match_l a b la lb 101 (b.getD (b.length - 1) 0) 1 hr.1 (by omega) (by omega) (by omega)
    refine ⟨r, q, h1, h2, h3, ?_, ?_⟩
    · rw [hw]
      exact Ev.bind (sMO_ev a la) (Ev.bind (sMO_ev b lb) (Ev.ifn h0 (Ev.ifp (by omega) (Ev.ifp (by omega) h4))))
    · rw [hw]
      exact Ev.bind (iMO_ev b lb) (Ev.bind (iMO_ev a la) (Ev.ifn h0 (Ev.ifp (by omega) (Ev.ifp (by omega) h5))))

theorem MatchBy_ev (a b : List Int) (ha : a.length ≤ 1048576) (hb : b.length ≤ 1048576) :
    ∃ (r q : Int) (o : Bool), Ev (fun k => spec_MatchBy.f k a b) (r, q, o) ∧ Ev (fun k => impl_MatchBy.f k a b) (r, q, o) := by
  obtain ⟨x, hsx, hqx⟩ := sGE_ev a ha
  obtain ⟨x', hix, hqx'⟩ := iGE_ev a ha
  obtain rfl : x' = x := Bool.eq_iff_iff.2 (hqx'.trans hqx.symm)
  obtain ⟨y, hsy, hqy⟩ := sGE_ev b hb
  obtain ⟨y', hiy, hqy'⟩ := iGE_ev b hb
  obtain rfl : y' = y := Bool.eq_iff_iff.2 (hqy'.trans hqy.symm)
  unfold spec_MatchBy.f impl_MatchBy.f
  cases x' with
  | false => exact ⟨0, 0, false, Ev.bind hsx (Ev.ifn (by decide) (Ev.now _)), Ev.bind hix (Ev.ifn (by decide) (Ev.now _))⟩
  | true =>
    cases y' with
    | false => exact ⟨0, 0, false, Ev.bind hsx (Ev.ifp rfl (Ev.bind hsy (Ev.ifn (by decide) (Ev.now _)))), Ev.bind hix (Ev.ifp rfl (Ev.bind hiy (Ev.ifn (by decide) (Ev.now _))))⟩
    | true =>
      obtain ⟨r, q, _, _, _, h4, h5⟩ := match_ev a b (hqx.1 rfl) (hqy.1 rfl)
      exact ⟨r, q, true, Ev.bind hsx (Ev.ifp rfl (Ev.bind hsy (Ev.ifp rfl (Ev.bind h4 (Ev.now _))))), Ev.bind hix (Ev.ifp rfl (Ev.bind hiy (Ev.ifp rfl (Ev.bind h5 (Ev.now _)))))⟩

/-! #### where two logs part -/
theorem PA_l (a b : List Int) (ha : a.length ≤ 1048576) (hb : b.length ≤ 1048576) : ∀ d i : Nat, i + d = min a.length b.length →
    ∃ p : Nat, i ≤ p ∧ p ≤ a.length ∧ p ≤ b.length ∧ (∀ j, i ≤ j → j < p → a.getD j 0 = b.getD j 0) ∧ (p < a.length → p < b.length → a.getD p 0 ≠ b.getD p 0) ∧
      Ev (fun k => spec_PartAt.l0 k a b (i : Int)) ((p : Int), true) ∧ Ev (fun k => impl_PartAt.l0 k a b (i : Int)) ((p : Int), true)
  | 0, i, hd => by
    refine ⟨i, Nat.le_refl _, by omega, by omega, fun j h1 h2 => by omega, fun h1 h2 => by omega, ?_, ?_⟩
    · refine Ev.step (f := fun _ => some ((i : Int), true)) (fun k => ?_) (Ev.now _)
      by_cases h : (i : Int) < (a.length : Int)
      · rw [spec_PartAt.l0, if_pos h, if_neg (by omega)]
      · rw [spec_PartAt.l0, if_neg h]
    · refine Ev.step (f := fun _ => some ((i : Int), true)) (fun k => ?_) (Ev.now _)
      rw [impl_PartAt.l0, if_neg (by unfold mn; split <;> omega)]
  | d + 1, i, hd => by
    by_cases hp : a.getD i 0 = b.getD i 0
    · obtain ⟨p, h1, h2, h3, h4, h5, h6, h7⟩ := PA_l a b ha hb d (i + 1) (by omega)
      refine ⟨p, by omega, h2, h3, fun j hj1 hj2 => ?_, h5, Ev.step (fun k => ?_) h6, Ev.step (fun k => ?_) h7⟩
      · by_cases e : j = i
        · rw [e]
          exact hp
        · exact h4 j (by omega) hj2
      · show spec_PartAt.l0 (k + 1) a b (i : Int) = spec_PartAt.l0 k a b ((i + 1 : Nat) : Int)
        rw [spec_PartAt.l0, if_pos (by omega), if_pos (by omega), if_pos (by omega), rd_nat, rd_nat, if_pos hp, succ_wrap (by omega)]
      · show impl_PartAt.l0 (k + 1) a b (i : Int) = impl_PartAt.l0 k a b ((i + 1 : Nat) : Int)
        rw [impl_PartAt.l0, if_pos (by unfold mn; split <;> omega), if_pos (by omega), if_pos (by omega), if_pos (by omega), rd_nat, rd_nat, if_pos hp, succ_wrap (by omega)]
    · refine ⟨i, Nat.le_refl _, by omega, by omega, fun j h1 h2 => by omega, fun _ _ => hp, ?_, ?_⟩
      · refine Ev.step (f := fun _ => some ((i : Int), true)) (fun k => ?_) (Ev.now _)
        rw [spec_PartAt.l0, if_pos (by omega), if_pos (by omega), if_pos (by omega), rd_nat, rd_nat, if_neg hp]
      · refine Ev.step (f := fun _ => some ((i : Int), true)) (fun k => ?_) (Ev.now _)
        rw [impl_PartAt.l0, if_pos (by unfold mn; split <;> omega), if_pos (by omega), if_pos (by omega), if_pos (by omega), rd_nat, rd_nat, if_neg hp]
theorem PartAt_ev (a b : List Int) (ha : a.length ≤ 1048576) (hb : b.length ≤ 1048576) :
    ∃ (p : Int) (o : Bool), Ev (fun k => spec_PartAt.f k a b) (p, o) ∧ Ev (fun k => impl_PartAt.f k a b) (p, o) := by
  obtain ⟨x, hsx, hqx⟩ := sGE_ev a ha
  obtain ⟨x', hix, hqx'⟩ := iGE_ev a ha
  obtain rfl : x' = x := Bool.eq_iff_iff.2 (hqx'.trans hqx.symm)
  obtain ⟨y, hsy, hqy⟩ := sGE_ev b hb
  obtain ⟨y', hiy, hqy'⟩ := iGE_ev b hb
  obtain rfl : y' = y := Bool.eq_iff_iff.2 (hqy'.trans hqy.symm)
  unfold spec_PartAt.f impl_PartAt.f
  cases x' with
  | false =>
    refine ⟨0, false, Ev.bind hsx (Ev.ifn (by decide) (Ev.succ ?_)), Ev.bind hix (Ev.ifn (by decide) (Ev.succ ?_))⟩
    · simp only [spec_PartAt.j0]
      exact Ev.ifp trivial (Ev.now _)
    · simp only [impl_PartAt.j0]
      exact Ev.ifp trivial (Ev.now _)
  | true =>
    cases y' with
    | false =>
      refine ⟨0, false, Ev.bind hsx (Ev.ifp rfl (Ev.bind hsy (Ev.succ ?_))), Ev.bind hix (Ev.ifp rfl (Ev.bind hiy (Ev.succ ?_)))⟩
      · simp only [spec_PartAt.j0]
        exact Ev.ifp (by decide) (Ev.now _)
      · simp only [impl_PartAt.j0]
        exact Ev.ifp (by decide) (Ev.now _)
    | true =>
      obtain ⟨p, _, _, _, _, _, h6, h7⟩ := PA_l a b ha hb (min a.length b.length) 0 (by omega)
      refine ⟨p, true, Ev.bind hsx (Ev.ifp rfl (Ev.bind hsy (Ev.succ ?_))), Ev.bind hix (Ev.ifp rfl (Ev.bind hiy (Ev.succ ?_)))⟩
      · simp only [spec_PartAt.j0]
        exact Ev.ifn (by decide) h6
      · simp only [impl_PartAt.j0]
        exact Ev.ifn (by decide) h7

/-! #### two rows of numbers alike -/
theorem same_l (x y : List Int) (hl : x.length = y.length) (hx : x.length ≤ 1048576) : ∀ d i : Nat, i + d = x.length →
    EvB (fun k => laws_sameInts.l0 k x y (x.length : Int) (i : Int)) (∀ j, i ≤ j → j < x.length → x.getD j 0 = y.getD j 0)
  | 0, i, hd => EvB.yes (fun k => by rw [laws_sameInts.l0, if_neg (by omega)]) (fun j h1 h2 => by omega)
  | d + 1, i, hd => by
    by_cases e : x.getD i 0 = y.getD i 0
    · refine EvB.step (fun k => ?_) (EvB.iff (same_l x y hl hx d (i + 1) (by omega)) ⟨fun h j h1 h2 => ?_, fun h j h1 h2 => h j (by omega) h2⟩)
      · show laws_sameInts.l0 (k + 1) x y (x.length : Int) (i : Int) = laws_sameInts.l0 k x y (x.length : Int) ((i + 1 : Nat) : Int)
        rw [laws_sameInts.l0, if_pos (by omega), if_pos (by omega), if_pos (by omega), if_pos (by omega), rd_nat, rd_nat, if_pos e, succ_wrap (by omega)]
      · by_cases e2 : j = i
        · rw [e2]
          exact e
        · exact h j (by omega) h2
    · refine EvB.no (fun k => ?_) (fun h => e (h i (Nat.le_refl _) (by omega)))
      rw [laws_sameInts.l0, if_pos (by omega), if_pos (by omega), if_pos (by omega), if_pos (by omega), rd_nat, rd_nat, if_neg e]
theorem ext_D {x y : List Int} (hl : x.length = y.length) (h : ∀ j, j < x.length → x.getD j 0 = y.getD j 0) : x = y := by
  refine List.ext_getElem hl (fun j h1 h2 => ?_)
  have := h j h1
  rw [List.getD_eq_getElem?_getD, List.getElem?_eq_getElem h1, List.getD_eq_getElem?_getD, List.getElem?_eq_getElem h2] at this
  exact this
theorem same_ev (x y : List Int) (hx : x.length ≤ 1048576) (hy : y.length ≤ 1048576) : EvB (fun k => laws_sameInts.f k x y) (x = y) := by
  unfold laws_sameInts.f
  by_cases hl : x.length = y.length
  · obtain ⟨g, e, hg⟩ := same_l x y hl hx x.length 0 (by omega)
    exact ⟨g, Ev.ifp (by omega) e, hg.trans ⟨fun h => ext_D hl (fun j hj => h j (Nat.zero_le _) hj), fun h j _ _ => by rw [h]⟩⟩
  · exact ⟨false, Ev.ifn (by omega) (Ev.now _), ⟨fun h => (by cases h), fun h => absurd (by rw [h]) hl⟩⟩
theorem same_yes (x : List Int) (hx : x.length ≤ 1048576) : Ev (fun k => laws_sameInts.f k x x) true := (same_ev x x hx hx).get rfl

/-! #### logs that grew from one -/
def GF1 (a b : List Int) (i kk : Nat) : Prop := b.getD kk 0 = a.getD i 0 → ST b kk → kk = i ∧ a.take i = b.take kk
def GF (a b : List Int) : Prop := ∀ i, i < a.length → ST a i → ∀ kk, kk < b.length → GF1 a b i kk
theorem grew_in (a b : List Int) (ha : a.length ≤ 1048576) (hb : b.length ≤ 1048576) (i : Nat) (hi : i < a.length) (P : Prop) (hP : ∃ g, Ev (fun k => laws_grewFromOne.l0 k a b (a.length : Int) ((i + 1 : Nat) : Int)) g ∧ (g = true → P)) :
    ∀ d kk : Nat, kk + d = b.length → ∃ g, Ev (fun k => laws_grewFromOne.l1 k a b (i : Int) (a.length : Int) (i : Int) (b.length : Int) (kk : Int)) g ∧ (g = true → P ∧ ∀ q, kk ≤ q → q < b.length → GF1 a b i q)
  | 0, kk, hd => by
    obtain ⟨g, e, h⟩ := hP
    refine ⟨g, Ev.step (fun k => ?_) e, fun hg => ⟨h hg, fun q h1 h2 => by omega⟩⟩
    rw [laws_grewFromOne.l1, if_neg (by omega), succ_wrap (by omega)]
  | d + 1, kk, hd => by
    obtain ⟨g, e, h⟩ := grew_in a b ha hb i hi P hP d (kk + 1) (by omega)
    have up : GF1 a b i kk → g = true → P ∧ ∀ q, kk ≤ q → q < b.length → GF1 a b i q := fun h1 hg => ⟨(h hg).1, fun q h2 h3 => by
      by_cases e2 : q = kk
      · rw [e2]
        exact h1
      · exact (h hg).2 q (by omega) h3⟩
    have skip : Ev (fun k => laws_grewFromOne.j3 k a b (i : Int) (kk : Int) (a.length : Int) (i : Int) (b.length : Int) (kk : Int) true) g := by
      refine Ev.step (fun k => ?_) e
      rw [laws_grewFromOne.j3, if_pos rfl, succ_wrap (by omega)]
    have hw : wrap64 ((kk : Int) + 1) = ((kk + 1 : Nat) : Int) := succ_wrap (by omega)
    have test : ∃ g', Ev (fun k => laws_grewFromOne.j3 k a b (i : Int) (kk : Int) (a.length : Int) (i : Int) (b.length : Int) (kk : Int) false) g' ∧ (g' = true → P ∧ ∀ q, kk ≤ q → q < b.length → GF1 a b i q) := by
      by_cases e1 : (kk : Int) = (i : Int)
      · obtain ⟨s, es, hs⟩ := same_ev (a.take i) (b.take kk) (by rw [List.length_take]; omega) (by rw [List.length_take]; omega)
        cases s with
        | true =>
          have hs' := hs.1 rfl
          refine ⟨g, Ev.succ ?_, up (fun _ _ => ⟨by omega, hs'⟩)⟩
          simp only [laws_grewFromOne.j3, hw]
          exact Ev.ifn (by decide) (Ev.ifp e1 (Ev.ifp (by omega) (Ev.ifp (by omega) (Ev.ifp (by omega) (Ev.ifp (by omega) (Ev.bind es (Ev.ifp rfl e)))))))
        | false =>
          refine ⟨false, Ev.succ ?_, fun h => by cases h⟩
          simp only [laws_grewFromOne.j3, hw]
          exact Ev.ifn (by decide) (Ev.ifp e1 (Ev.ifp (by omega) (Ev.ifp (by omega) (Ev.ifp (by omega) (Ev.ifp (by omega) (Ev.bind es (Ev.ifn (by decide) (Ev.now _))))))))
      · refine ⟨false, Ev.succ ?_, fun h => by cases h⟩
        simp only [laws_grewFromOne.j3]
        exact Ev.ifn (by decide) (Ev.ifn e1 (Ev.now _))
    by_cases e1 : b.getD kk 0 = a.getD i 0
    · by_cases hk : 0 < kk
      · have hp : wrap64 ((kk : Int) - 1) = ((kk - 1 : Nat) : Int) := pred_wrap hk (by omega)
        by_cases e2 : b.getD (kk - 1) 0 = b.getD kk 0
        · refine ⟨g, Ev.step (fun k => ?_) skip, up (fun _ h2 => absurd e2 (h2.resolve_left (by omega)))⟩
          rw [laws_grewFromOne.l1, if_pos (by omega), if_pos (by omega), if_pos (by omega), if_pos (by omega), if_pos (by omega), rd_nat, rd_nat, if_pos e1, if_pos (by omega), hp, if_pos (by omega), if_pos (by omega), rd_nat, e2, beq_self_eq_true]
        · obtain ⟨g', e', h'⟩ := test
          refine ⟨g', Ev.step (fun k => ?_) e', h'⟩
          rw [laws_grewFromOne.l1, if_pos (by omega), if_pos (by omega), if_pos (by omega), if_pos (by omega), if_pos (by omega), rd_nat, rd_nat, if_pos e1, if_pos (by omega), hp, if_pos (by omega), if_pos (by omega), rd_nat, beq_eq_false_iff_ne.2 e2]
      · obtain ⟨g', e', h'⟩ := test
        refine ⟨g', Ev.step (fun k => ?_) e', h'⟩
        rw [laws_grewFromOne.l1, if_pos (by omega), if_pos (by omega), if_pos (by omega), if_pos (by omega), if_pos (by omega), rd_nat, rd_nat, if_pos e1, if_neg (by omega)]
    · refine ⟨g, Ev.step (fun k => ?_) skip, up (fun h1 => absurd h1 e1)⟩
      rw [laws_grewFromOne.l1, if_pos (by omega), if_pos (by omega), if_pos (by omega), if_pos (by omega), if_pos (by omega), rd_nat, rd_nat, if_neg e1]
theorem grew_l (a b : List Int) (ha : a.length ≤ 1048576) (hb : b.length ≤ 1048576) : ∀ d i : Nat, i + d = a.length →
    ∃ g, Ev (fun k => laws_grewFromOne.l0 k a b (a.length : Int) (i : Int)) g ∧ (g = true → ∀ p, i ≤ p → p < a.length → ST a p → ∀ q, q < b.length → GF1 a b p q)
  | 0, i, hd => ⟨true, Ev.step (f := fun _ => some true) (fun k => by rw [laws_grewFromOne.l0, if_neg (by omega)]) (Ev.now _), fun _ p h1 h2 => by omega⟩
  | d + 1, i, hd => by
    obtain ⟨g, e, h⟩ := grew_l a b ha hb d (i + 1) (by omega)
    obtain ⟨g1, e1, h1⟩ := grew_in a b ha hb i (by omega) _ ⟨g, e, h⟩ b.length 0 (by omega)
    have skip : Ev (fun k => laws_grewFromOne.j1 k a b (i : Int) (a.length : Int) (i : Int) true) g := by
      refine Ev.step (fun k => ?_) e
      rw [laws_grewFromOne.j1, if_pos rfl, succ_wrap (by omega)]
    have go : Ev (fun k => laws_grewFromOne.j1 k a b (i : Int) (a.length : Int) (i : Int) false) g1 := by
      refine Ev.step (fun k => ?_) e1
      rw [laws_grewFromOne.j1, if_neg (by decide)]
      rfl
    have all : g1 = true → ∀ p, i ≤ p → p < a.length → ST a p → ∀ q, q < b.length → GF1 a b p q := fun hg p h2 h3 h4 q h5 => by
      by_cases ep : p = i
      · rw [ep]
        exact (h1 hg).2 q (Nat.zero_le _) h5
      · exact (h1 hg).1 p (by omega) h3 h4 q h5
    by_cases hi : 0 < i
    · have hp : wrap64 ((i : Int) - 1) = ((i - 1 : Nat) : Int) := pred_wrap hi (by omega)
      by_cases e2 : a.getD (i - 1) 0 = a.getD i 0
      · refine ⟨g, Ev.step (fun k => ?_) skip, fun hg p h2 h3 h4 => ?_⟩
        · rw [laws_grewFromOne.l0, if_pos (by omega), if_pos (by omega), hp, if_pos (by omega), if_pos (by omega), if_pos (by omega), if_pos (by omega), rd_nat, rd_nat, e2, beq_self_eq_true]
        · by_cases ep : p = i
          · rw [ep] at h4
            exact absurd e2 (h4.resolve_left (by omega))
          · exact h hg p (by omega) h3 h4
      · refine ⟨g1, Ev.step (fun k => ?_) go, all⟩
        rw [laws_grewFromOne.l0, if_pos (by omega), if_pos (by omega), hp, if_pos (by omega), if_pos (by omega), if_pos (by omega), if_pos (by omega), rd_nat, rd_nat, beq_eq_false_iff_ne.2 e2]
    · refine ⟨g1, Ev.step (fun k => ?_) go, all⟩
      rw [laws_grewFromOne.l0, if_pos (by omega), if_neg (by omega)]
theorem grew_ev (a b : List Int) (ha : a.length ≤ 1048576) (hb : b.length ≤ 1048576) : ∃ g, Ev (fun k => laws_grewFromOne.f k a b) g ∧ (g = true → GF a b) := by
  obtain ⟨g, e, h⟩ := grew_l a b ha hb a.length 0 (by omega)
  exact ⟨g, e, fun hg i hi hs => h hg i (Nat.zero_le _) hi hs⟩

/-! #### to how many entries a follower is cut, and that it is where they part -/
theorem EE_max0 (m : List S60) (h : m.Pairwise (fun x y => x.f0 < y.f0 ∧ x.f1 < y.f1)) (e ep : Int) : ∀ n, n ≤ m.length →
    ((EE m e ep n).1 = -1 ∧ ∀ t, t < n → ¬ (m.getD t z60).f0 ≤ ep) ∨ ((EE m e ep n).1 ≤ ep ∧ (∃ j, j < n ∧ (m.getD j z60).f0 = (EE m e ep n).1) ∧ ∀ t, t < n → (m.getD t z60).f0 ≤ ep → (m.getD t z60).f0 ≤ (EE m e ep n).1)
  | 0, _ => .inl ⟨rfl, fun t ht => absurd ht (Nat.not_lt_zero _)⟩
  | n + 1, hn => by
    rw [EE]
    by_cases h1 : (m.getD n z60).f0 ≤ ep
    · rw [if_pos h1]
      refine .inr ⟨h1, ⟨n, Nat.lt_succ_self _, rfl⟩, fun t ht _ => ?_⟩
      show (m.getD t z60).f0 ≤ (m.getD n z60).f0
      by_cases e1 : t = n
      · rw [e1]
        exact Int.le_refl _
      · exact Int.le_of_lt (pw_get h (show t < n by omega) (by omega)).1
    · rw [if_neg h1]
      rcases EE_max0 m h e ep n (by omega) with ⟨h2, h3⟩ | ⟨h2, ⟨j, hj, hj2⟩, h3⟩
      · refine .inl ⟨h2, fun t ht => ?_⟩
        by_cases e1 : t = n
        · rw [e1]
          exact h1
        · exact h3 t (by omega)
      · refine .inr ⟨h2, ⟨j, by omega, hj2⟩, fun t ht h4 => ?_⟩
        by_cases e1 : t = n
        · rw [e1] at h4
          exact absurd h4 h1
        · exact h3 t (by omega) h4
theorem EE_max {l : List Int} (h : GE l) (ep : Int) :
    ((EE (MO l 0 l.length) (l.length : Int) ep (MO l 0 l.length).length).1 = -1 ∧ ∀ i, i < l.length → ¬ l.getD i 0 ≤ ep) ∨ ((EE (MO l 0 l.length) (l.length : Int) ep (MO l 0 l.length).length).1 ≤ ep ∧ (∃ i, i < l.length ∧ l.getD i 0 = (EE (MO l 0 l.length) (l.length : Int) ep (MO l 0 l.length).length).1) ∧ ∀ i, i < l.length → l.getD i 0 ≤ ep → l.getD i 0 ≤ (EE (MO l 0 l.length) (l.length : Int) ep (MO l 0 l.length).length).1) := by
  have hpw := MO_pw h l.length 0 (by omega)
  have el : ∀ i, i < l.length → ∃ t, t < (MO l 0 l.length).length ∧ ((MO l 0 l.length).getD t z60).f0 = l.getD i 0 := fun i hi => by
    obtain ⟨p, hp, hs, hc⟩ := ST_ex (l := l) i
    have hin : (⟨l.getD p 0, (p : Int)⟩ : S60) ∈ MO l 0 l.length := (MO_iff l l.length 0 _).2 ⟨p, Nat.zero_le _, by omega, hs, rfl⟩
    obtain ⟨j, hj, ej⟩ := List.mem_iff_getElem.1 hin
    refine ⟨j, hj, ?_⟩
    rw [List.getD_eq_getElem?_getD, List.getElem?_eq_getElem hj, Option.getD_some, ej]
    exact hc p (Nat.le_refl _) hp
  rcases EE_max0 _ hpw (l.length : Int) ep _ (Nat.le_refl _) with ⟨h2, h3⟩ | ⟨h2, ⟨j, hj, hj2⟩, h3⟩
  · refine .inl ⟨h2, fun i hi h4 => ?_⟩
    obtain ⟨t, ht, et⟩ := el i hi
    exact h3 t ht (by rw [et]; exact h4)
  · obtain ⟨p, _, hp, _, gp⟩ := (MO_iff l l.length 0 _).1 (getD_mem hj z60)
    rw [gp] at hj2
    refine .inr ⟨h2, ⟨p, by omega, hj2⟩, fun i hi h4 => ?_⟩
    obtain ⟨t, ht, et⟩ := el i hi
    rw [← et]
    exact h3 t ht (by rw [et]; exact h4)
def PT (a b : List Int) (p : Nat) : Prop := (∀ j, j < p → a.getD j 0 = b.getD j 0) ∧ (p < a.length → p < b.length → ¬ a.getD p 0 = b.getD p 0)
/-- The entries of one epoch, in both. -/
theorem run_eq {l : List Int} (h : GE l) (i z p : Nat) (hp : ∀ q, p ≤ q → q ≤ i → l.getD q 0 = l.getD i 0) (hpi : p ≤ i) (hz : z ≤ l.length) (hl : l.getD (z - 1) 0 = l.getD i 0) (q : Nat) (h1 : p ≤ q) (h2 : q < z) : l.getD q 0 = l.getD i 0 := by
  have m1 := GE_mono h q p h1 (by omega)
  have m2 := GE_mono h (z - 1) q (by omega) (by omega)
  rw [hp p (Nat.le_refl _) hpi] at m1
  omega
theorem take_D {a b : List Int} {n : Nat} (h : a.take n = b.take n) (j : Nat) (hj : j < n) : a.getD j 0 = b.getD j 0 := by
  have := congrArg (fun l => l.getD j 0) h
  simp only [List.getD_eq_getElem?_getD, List.getElem?_take_of_lt hj] at this
  rw [List.getD_eq_getElem?_getD, List.getD_eq_getElem?_getD]
  exact this
theorem stop_PT {a b : List Int} (ha : GE a) (hb : GE b) (hg : GF a b) (ia ib za zb : Nat) (h1 : ia < a.length) (h2 : ib < b.length) (he : a.getD ia 0 = b.getD ib 0)
    (hs : ∀ u, u < a.length → ∀ v, v < b.length → a.getD u 0 = b.getD v 0 → b.getD v 0 ≤ b.getD ib 0)
    (a1 : ia < za) (a2 : za ≤ a.length) (a3 : za < a.length → a.getD ia 0 < a.getD za 0) (a4 : a.getD (za - 1) 0 = a.getD ia 0)
    (b1 : ib < zb) (b2 : zb ≤ b.length) (b3 : zb < b.length → b.getD ib 0 < b.getD zb 0) (b4 : b.getD (zb - 1) 0 = b.getD ib 0) : PT a b (min za zb) := by
  obtain ⟨p, p1, p2, p3⟩ := ST_ex (l := a) ia
  obtain ⟨q, q1, q2, q3⟩ := ST_ex (l := b) ib
  obtain ⟨e1, e2⟩ := hg p (by omega) p2 q (by omega) (by rw [p3 p (Nat.le_refl _) p1, q3 q (Nat.le_refl _) q1, he]) q2
  subst e1
  have ra := run_eq ha ia za q p3 p1 a2 a4
  have rb := run_eq hb ib zb q q3 q1 b2 b4
  refine ⟨fun j hj => ?_, fun h3 h4 h5 => ?_⟩
  · rcases Nat.lt_or_ge j q with h | h
    · exact take_D e2 j h
    · rw [ra j h (by omega), rb j h (by omega), he]
  · rcases Nat.lt_trichotomy za zb with h | h | h
    · have em : min za zb = za := by omega
      rw [em] at h3 h4 h5
      have := a3 h3
      rw [h5, rb za (by omega) h, he] at this
      omega
    · have em : min za zb = za := by omega
      rw [em] at h3 h4 h5
      have h6 := hs za h3 za h4 h5
      have h7 := b3 (by omega)
      rw [← h] at h7
      omega
    · have em : min za zb = zb := by omega
      rw [em] at h3 h4 h5
      have := b3 h4
      rw [← h5, ra zb (by omega) h, he] at this
      omega
theorem match_p (a b : List Int) (ha : GE a) (hb : GE b) : ∀ (n i : Nat) (ask : Int), i < n → i < b.length → 0 ≤ ask → ask + i ≤ (b.length : Int) →
    ∃ (r : Nat) (q : Int), r ≤ a.length ∧ r ≤ b.length ∧ q ≤ (b.length : Int) ∧ Ev (fun k => spec_l4Match.l0 k a b (MO a 0 a.length) (MO b 0 b.length) (b.getD i 0) ask) ((r : Int), q) ∧ Ev (fun k => impl_matchBy.l0 k a b (MO b 0 b.length) (MO a 0 a.length) (b.getD i 0) ask) ((r : Int), q) ∧
      (GF a b → (∀ u, u < a.length → ∀ v, v < b.length → a.getD u 0 = b.getD v 0 → b.getD v 0 ≤ b.getD i 0) → PT a b r) := by
  have la := ha.1
  have lb := hb.1
  have hA : (MO a 0 a.length).length ≤ 1048576 := Nat.le_trans (MO_length a a.length 0) (by omega)
  have hB : (MO b 0 b.length).length ≤ 1048576 := Nat.le_trans (MO_length b b.length 0) (by omega)
  intro n
  induction n with
  | zero => intro i ask h0; omega
  | succ n ih =>
    intro i ask h0 hi h2 h3
    have hv := (hb.2 i hi).1
    have t1 := sEE_ev _ (a.length : Int) (b.getD i 0) hA
    have t2 := iEE_ev _ (a.length : Int) (b.getD i 0) hA
    have tm := EE_max ha (b.getD i 0)
    obtain ⟨zb, ez, b1, b2, b3, b4⟩ := EE_MO hb i hi
    have u1 := sEE_ev _ (b.length : Int) (b.getD i 0) hB
    have u2 := iEE_ev _ (b.length : Int) (b.getD i 0) hB
    rw [ez] at u1 u2
    have tz : ∀ ia, ia < a.length → a.getD ia 0 = b.getD i 0 → ∃ z : Nat, EE (MO a 0 a.length) (a.length : Int) (b.getD i 0) (MO a 0 a.length).length = (b.getD i 0, (z : Int)) ∧ ia < z ∧ z ≤ a.length ∧ (z < a.length → a.getD ia 0 < a.getD z 0) ∧ a.getD (z - 1) 0 = a.getD ia 0 := fun ia h1 h4 => by
      rw [← h4]
      exact EE_MO ha ia h1
    generalize EE (MO a 0 a.length) (a.length : Int) (b.getD i 0) (MO a 0 a.length).length = t at t1 t2 tm tz
    have v1 := sEE_ev _ (b.length : Int) t.1 hB
    have v2 := iEE_ev _ (b.length : Int) t.1 hB
    have vm := EE_max hb t.1
    generalize EE (MO b 0 b.length) (b.length : Int) t.1 (MO b 0 b.length).length = v at v1 v2 vm
    by_cases ht : t.1 = b.getD i 0
    · rcases tm with ⟨h4, _⟩ | ⟨_, ⟨ia, ia1, ia2⟩, _⟩
      · omega
      · have ea : a.getD ia 0 = b.getD i 0 := ia2.trans ht
        obtain ⟨za, et, a1, a2, a3, a4⟩ := tz ia ia1 ea
        subst et
        have em : mn (za : Int) (zb : Int) = ((min za zb : Nat) : Int) := by unfold mn; split <;> omega
        refine ⟨min za zb, ask, by omega, by omega, by omega, Ev.succ ?_, Ev.succ ?_, fun hg hs => stop_PT ha hb hg ia i za zb ia1 hi ea hs a1 a2 a3 a4 b1 b2 b3 b4⟩
        · simp only [spec_l4Match.l0]
          refine Ev.bind t1 (Ev.ifp rfl (Ev.bind u1 ?_))
          by_cases hq : (zb : Int) < (za : Int)
          · have e : ((min za zb : Nat) : Int) = (zb : Int) := by omega
            rw [e]
            exact Ev.ifp hq (Ev.now _)
          · have e : ((min za zb : Nat) : Int) = (za : Int) := by omega
            rw [e]
            exact Ev.ifn hq (Ev.now _)
        · simp only [impl_matchBy.l0]
          rw [← em]
          exact Ev.bind t2 (Ev.ifp rfl (Ev.bind u2 (Ev.now _)))
    · by_cases hv1 : v.1 < 0
      · refine ⟨0, ask, Nat.zero_le _, Nat.zero_le _, by omega, Ev.succ ?_, Ev.succ ?_, fun _ hs => ⟨fun j hj => absurd hj (Nat.not_lt_zero _), fun h4 h5 h6 => ?_⟩⟩
        · simp only [spec_l4Match.l0]
          exact Ev.bind t1 (Ev.ifn ht (Ev.bind v1 (Ev.ifp hv1 (Ev.now _))))
        · simp only [impl_matchBy.l0]
          exact Ev.bind t2 (Ev.ifn ht (Ev.bind v2 (Ev.ifp hv1 (Ev.now _))))
        · have h7 := hs 0 h4 0 h5 h6
          have h8 := (hb.2 0 h5).1
          rcases tm with ⟨_, t3⟩ | ⟨_, _, t3⟩
          · exact t3 0 h4 (by omega)
          · have h9 := t3 0 h4 (by omega)
            rcases vm with ⟨_, v3⟩ | ⟨_, _, v3⟩
            · exact v3 0 h5 (by omega)
            · have := v3 0 h5 (by omega)
              omega
      · rcases vm with ⟨v3, _⟩ | ⟨v3, ⟨i2, i3, i4⟩, v4⟩
        · omega
        · have tle : t.1 ≤ b.getD i 0 := by
            rcases tm with ⟨t3, _⟩ | ⟨t3, _⟩ <;> omega
          have hlt : i2 < i := by
            rcases Nat.lt_or_ge i2 i with h | h
            · exact h
            · have := GE_mono hb i2 i h i3
              omega
          obtain ⟨r, q, h4, h5, h6, h7, h8, h9⟩ := ih i2 (ask + 1) (by omega) i3 (by omega) (by omega)
          have hw : wrap64 (ask + 1) = ask + 1 := wrap_id (by omega) (by omega)
          rw [i4] at h7 h8
          refine ⟨r, q, h4, h5, h6, Ev.succ ?_, Ev.succ ?_, fun hg hs => h9 hg (fun x hx y hy hxy => ?_)⟩
          · simp only [spec_l4Match.l0, hw]
            exact Ev.bind t1 (Ev.ifn ht (Ev.bind v1 (Ev.ifn hv1 h7)))
          · simp only [impl_matchBy.l0, hw]
            exact Ev.bind t2 (Ev.ifn ht (Ev.bind v2 (Ev.ifn hv1 h8)))
          · have s1 := hs x hx y hy hxy
            rw [i4]
            rcases tm with ⟨_, t3⟩ | ⟨_, _, t3⟩
            · exact absurd (show a.getD x 0 ≤ b.getD i 0 by omega) (t3 x hx)
            · have := t3 x hx (by omega)
              exact v4 y hy (by omega)
theorem matchP_ev (a b : List Int) (ha : GE a) (hb : GE b) :
    ∃ (r : Nat) (q : Int), r ≤ a.length ∧ r ≤ b.length ∧ q ≤ (b.length : Int) ∧ Ev (fun k => spec_l4Match.f k a b) ((r : Int), q) ∧ Ev (fun k => impl_matchBy.f k a b) ((r : Int), q) ∧ (GF a b → PT a b r) := by
  have la : a.length ≤ 1048576 := by have := ha.1; omega
  have lb : b.length ≤ 1048576 := by have := hb.1; omega
  unfold spec_l4Match.f impl_matchBy.f
  by_cases h0 : (b.length : Int) = 0
  · exact ⟨0, 0, Nat.zero_le _, Nat.zero_le _, by omega, Ev.bind (sMO_ev a la) (Ev.bind (sMO_ev b lb) (Ev.ifp h0 (Ev.now _))), Ev.bind (iMO_ev b lb) (Ev.bind (iMO_ev a la) (Ev.ifp h0 (Ev.now _))), fun _ => ⟨fun j hj => absurd hj (Nat.not_lt_zero _), fun _ h => by omega⟩⟩
  · have hw : wrap64 ((b.length : Int) - 1) = ((b.length - 1 : Nat) : Int) := pred_wrap (by omega) (by omega)
    obtain ⟨r, q, h1, h2, h3, h4, h5, h6⟩ := match_p a b ha hb b.length (b.length - 1) 1 (by omega) (by omega) (by omega) (by omega)
    refine ⟨r, q, h1, h2, h3, ?_, ?_, fun hg => h6 hg (fun u hu v hv _ => GE_mono hb (b.length - 1) v (by omega) (by omega))⟩
    · rw [hw]
      exact Ev.bind (sMO_ev a la) (Ev.bind (sMO_ev b lb) (Ev.ifn h0 (Ev.ifp (by omega) (Ev.ifp (by omega) h4))))
    · rw [hw]
      exact Ev.bind (iMO_ev b lb) (Ev.bind (iMO_ev a la) (Ev.ifn h0 (Ev.ifp (by omega) (Ev.ifp (by omega) h5))))
theorem PT_uniq {a b : List Int} {p q : Nat} (hp : PT a b p) (hq : PT a b q) (p1 : p ≤ a.length) (p2 : p ≤ b.length) (q1 : q ≤ a.length) (q2 : q ≤ b.length) : p = q := by
  rcases Nat.lt_trichotomy p q with h | h | h
  · exact absurd (hq.1 p h) (hp.2 (by omega) (by omega))
  · exact h
  · exact absurd (hp.1 q h) (hq.2 (by omega) (by omega))
theorem PT_take {a b : List Int} {p : Nat} (hp : PT a b p) (p1 : p ≤ a.length) (p2 : p ≤ b.length) : a.take p = b.take p := by
  refine ext_D (by rw [List.length_take, List.length_take]; omega) (fun j hj => ?_)
  rw [List.length_take] at hj
  rw [List.getD_eq_getElem?_getD, List.getD_eq_getElem?_getD, List.getElem?_take_of_lt (by omega), List.getElem?_take_of_lt (by omega)]
  have := hp.1 j (by omega)
  rw [List.getD_eq_getElem?_getD, List.getD_eq_getElem?_getD] at this
  exact this

/-! #### the reference's choices from bytes -/
theorem Ev.eq {α : Type} {g : Option α} {r : α} (h : g = some r) : Ev (fun _ => g) r := Ev.congr (f := fun _ => some r) (fun _ => h) (Ev.now r)
def BY (s : List Int) : Prop := ∀ x ∈ s, 0 ≤ x ∧ x ≤ 255
theorem BY_of {s : List Int} (h : ∀ x ∈ s, (Lit.int .u8 x).wf = true) : BY s := fun x hx => by
  have := h x hx
  simp [Lit.wf, IntKind.min, IntKind.max, IntKind.bits, IntKind.signed] at this
  omega
theorem u64_rng (n : Int) : 0 ≤ IntKind.u64.wrap n ∧ IntKind.u64.wrap n < 18446744073709551616 := by
  simp [IntKind.wrap, IntKind.bits, IntKind.signed]
  omega
theorem and255 (n : Int) : 0 ≤ wrap64 (Go.bits .and .u64 (IntKind.u64.wrap n / 1099511627776) 255) ∧ wrap64 (Go.bits .and .u64 (IntKind.u64.wrap n / 1099511627776) 255) ≤ 255 := by
  have hr := u64_rng n
  have h1 : 0 ≤ IntKind.u64.wrap n / 1099511627776 := by omega
  have h2 : IntKind.u64.wrap n / 1099511627776 < 2 ^ 24 := by omega
  have := bits_mask .u64 24 (by decide) (fun n h0 h1 => by simp [IntKind.wrap, IntKind.bits, IntKind.signed]; omega) 8 (by decide) _ h1 h2
  rw [show ((2 : Int) ^ 8 - 1) = 255 by decide, show ((2 : Int) ^ 8) = 256 by decide] at this
  rw [this, wrap_id (by omega) (by omega)]
  omega
theorem rd_mem {l : List Int} {i : Int} (h0 : 0 ≤ i) (h1 : i < l.length) : rd l i ∈ l := by
  obtain ⟨n, rfl⟩ := Int.eq_ofNat_of_zero_le h0
  rw [rd_nat]
  exact getD_mem (by omega) 0
theorem next_eq (s : List Int) (hb : BY s) (a q : Int) (h0 : 0 ≤ a) (h1 : a ≤ 1000000000000000) : ∃ r q', spec_l1Cur_next.f s a q = some (r, a + 1, q') ∧ 0 ≤ r ∧ r ≤ 255 := by
  have hw : wrap64 (a + 1) = a + 1 := wrap_id (by omega) (by omega)
  unfold spec_l1Cur_next.f
  rw [hw]
  by_cases h2 : a < (s.length : Int)
  · rw [if_pos h2, if_pos h0, if_pos (by omega)]
    have hm := hb _ (rd_mem h0 h2)
    exact ⟨_, _, rfl, by rw [wrap_id (by omega) (by omega)]; omega, by rw [wrap_id (by omega) (by omega)]; omega⟩
  · rw [if_neg h2, if_neg (by omega)]
    exact ⟨_, _, rfl, and255 _⟩
theorem pick_eq (s : List Int) (hb : BY s) (a q n : Int) (h0 : 0 ≤ a) (h1 : a ≤ 900000000000000) (hn : n ≤ 1000000) :
    ∃ r a' q', spec_l1Cur_pick.f s a q n = some (r, a', q') ∧ 0 ≤ r ∧ (1 ≤ n → r < n) ∧ a ≤ a' ∧ a' ≤ a + 2 := by
  unfold spec_l1Cur_pick.f
  by_cases h2 : n ≤ 1
  · rw [if_pos h2]
    exact ⟨_, _, _, rfl, by omega, fun h => by omega, by omega, by omega⟩
  · obtain ⟨x, q1, e1, x0, x1⟩ := next_eq s hb a q h0 (by omega)
    rw [if_neg h2, e1, Option.bind_some]
    by_cases h3 : n > 200
    · obtain ⟨y, q2, e2, y0, y1⟩ := next_eq s hb (a + 1) q1 (by omega) (by omega)
      rw [if_pos h3, e2, Option.bind_some, if_neg (by omega)]
      have hw : wrap64 (wrap64 (x * 256) + y) = x * 256 + y := by rw [wrap_id (x := x * 256) (by omega) (by omega), wrap_id (by omega) (by omega)]
      refine ⟨_, _, _, rfl, ?_, fun _ => ?_, by dsimp only; omega, by dsimp only; omega⟩
      · show 0 ≤ Int.tmod (wrap64 (wrap64 (x * 256) + y)) n
        rw [hw]
        exact Int.tmod_nonneg _ (by omega)
      · show Int.tmod (wrap64 (wrap64 (x * 256) + y)) n < n
        rw [hw]
        exact Int.tmod_lt_of_pos _ (by omega)
    · rw [if_neg h3, if_neg (by omega)]
      refine ⟨_, _, _, rfl, ?_, fun _ => ?_, by dsimp only; omega, by dsimp only; omega⟩
      · exact Int.tmod_nonneg _ (by omega)
      · exact Int.tmod_lt_of_pos _ (by omega)

theorem one_eq (s : List Int) (hb : BY s) (a q n : Int) (h0 : 0 ≤ a) (h1 : a ≤ 900000000000000) (hn : n ≤ 1000000) :
    ∃ b a' q', spec_l1Cur_one.f s a q n = some (b, a', q') ∧ a ≤ a' ∧ a' ≤ a + 2 := by
  obtain ⟨r, a', q', e, _, _, h2, h3⟩ := pick_eq s hb a q n h0 h1 hn
  unfold spec_l1Cur_one.f
  rw [e]
  exact ⟨_, _, _, rfl, h2, h3⟩

theorem among_eq (s : List Int) (hb : BY s) (a q : Int) (l : List Int) (h0 : 0 ≤ a) (h1 : a ≤ 900000000000000) (hn : 0 < l.length) (hn2 : l.length ≤ 1000) :
    ∃ r a' q', spec_l1Cur_among.f s a q l = some (r, a', q') ∧ r ∈ l ∧ a ≤ a' ∧ a' ≤ a + 2 := by
  obtain ⟨r, a', q', e, r0, r1, h2, h3⟩ := pick_eq s hb a q (l.length : Int) h0 h1 (by omega)
  have r2 := r1 (by omega)
  unfold spec_l1Cur_among.f
  rw [e, Option.bind_some, if_pos r0, if_pos r2]
  exact ⟨_, _, _, rfl, rd_mem r0 r2, h2, h3⟩

/-! #### drawn entries -/
def EL (l : List Int) : Prop := l.length ≤ 31 ∧ ∀ x ∈ l, -1 ≤ x ∧ x ≤ 101
theorem entries_j2 (s : List Int) (hb : BY s) (l : List Int) (h : EL l) (h2 : 0 < l.length) (b : Bool) (a q : Int) (h0 : 0 ≤ a) (h1 : a ≤ 800000000000000) :
    ∃ l' a' q', Ev (fun k => spec_l1Cur_entries.j2 k l b s a q) (l', a', q') ∧ EL l' ∧ a ≤ a' ∧ a' ≤ a + 4 := by
  cases b with
  | false => exact ⟨l, a, q, Ev.step (f := fun _ => some (l, a, q)) (fun k => by rw [spec_l1Cur_entries.j2, if_neg (by decide)]) (Ev.now _), h, by omega, by omega⟩
  | true =>
    have hll := h.1
    obtain ⟨r, a1, q1, e1, r0, r1, p1, p2⟩ := pick_eq s hb a q (l.length : Int) h0 (by omega) (by omega)
    obtain ⟨x, a2, q2, e2, hx, p3, p4⟩ := among_eq s hb a1 q1 [(-1), 0, 100, 101] (by omega) (by omega) (by decide) (by decide)
    have r2 := r1 (by omega)
    refine ⟨l.set r.toNat x, a2, q2, Ev.step (f := fun _ => some (l.set r.toNat x, a2, q2)) (fun k => ?_) (Ev.now _), ⟨by rw [List.length_set]; exact h.1, fun y hy => ?_⟩, by omega, by omega⟩
    · rw [spec_l1Cur_entries.j2, if_pos rfl, e1, Option.bind_some, e2, Option.bind_some, if_pos r0, if_pos r2]
    · rcases List.mem_or_eq_of_mem_set hy with hy | hy
      · exact h.2 y hy
      · rw [hy]
        simp at hx
        omega
theorem entries_l (s : List Int) (hb : BY s) : ∀ (d : Nat) (l : List Int) (e a q : Int), l.length + d ≤ 31 → 0 ≤ e → e ≤ 3 + 2 * (l.length : Int) → (∀ x ∈ l, 0 ≤ x ∧ x ≤ 100) → 0 ≤ a → a + 2 * (d : Int) ≤ 700000000000000 →
    ∃ l' a' q', Ev (fun k => spec_l1Cur_entries.l0 k l e (d : Int) s a q) (l', a', q') ∧ EL l' ∧ a ≤ a' ∧ a' ≤ a + 2 * (d : Int) + 6 := by
  intro d
  induction d with
  | zero =>
    intro l e a q hd he0 he1 hx h0 h1
    have hE : EL l := ⟨by omega, fun x hx' => by have := hx x hx'; omega⟩
    by_cases h2 : 0 < l.length
    · obtain ⟨b, a1, q1, e1, p1, p2⟩ := one_eq s hb a q 20 h0 (by omega) (by decide)
      obtain ⟨l', a', q', e2, h3, p3, p4⟩ := entries_j2 s hb l hE h2 b a1 q1 (by omega) (by omega)
      refine ⟨l', a', q', Ev.step (fun k => ?_) e2, h3, by omega, by omega⟩
      rw [spec_l1Cur_entries.l0, if_neg (by omega), if_pos (by omega), e1, Option.bind_some]
    · refine ⟨l, a, q, Ev.step (f := fun k => spec_l1Cur_entries.j2 k l false s a q) (fun k => ?_) (Ev.step (f := fun _ => some (l, a, q)) (fun k => by rw [spec_l1Cur_entries.j2, if_neg (by decide)]) (Ev.now _)), hE, by omega, by omega⟩
      rw [spec_l1Cur_entries.l0, if_neg (by omega), if_neg (by omega)]
  | succ d ih =>
    intro l e a q hd he0 he1 hx h0 h1
    obtain ⟨x, a1, q1, e1, hm, p1, p2⟩ := among_eq s hb a q [0, 0, 0, 1, 2] h0 (by omega) (by decide) (by decide)
    have hx2 : 0 ≤ x ∧ x ≤ 2 := by simp at hm; omega
    have hw : wrap64 (e + x) = e + x := wrap_id (by omega) (by omega)
    have hw2 : wrap64 (((d + 1 : Nat) : Int) - 1) = (d : Int) := by rw [wrap_id (by omega) (by omega)]; omega
    obtain ⟨l', a', q', e2, h3, p3, p4⟩ := ih (l ++ [e]) (e + x) a1 q1 (by rw [List.length_append, List.length_singleton]; omega) (by omega) (by rw [List.length_append, List.length_singleton]; omega)
      (fun y hy => by
        rcases List.mem_append.1 hy with hy | hy
        · exact hx y hy
        · rw [List.mem_singleton.1 hy]; omega) (by omega) (by omega)
    refine ⟨l', a', q', Ev.step (fun k => ?_) e2, h3, by omega, by omega⟩
    rw [spec_l1Cur_entries.l0, if_pos (by omega), if_pos (by omega), e1, Option.bind_some, hw, hw2]
theorem entries_ev (s : List Int) (hb : BY s) (a q : Int) (h0 : 0 ≤ a) (h1 : a ≤ 600000000000000) :
    ∃ l a' q', Ev (fun k => spec_l1Cur_entries.f k s a q) (l, a', q') ∧ EL l ∧ a ≤ a' ∧ a' ≤ a + 100 := by
  obtain ⟨e, a1, q1, e1, r0, r1, p1, p2⟩ := pick_eq s hb a q 3 h0 (by omega) (by decide)
  obtain ⟨n, a2, q2, e2, n0, n1, p3, p4⟩ := pick_eq s hb a1 q1 10 (by omega) (by omega) (by decide)
  obtain ⟨b, a3, q3, e3, p5, p6⟩ := one_eq s hb a2 q2 20 (by omega) (by omega) (by decide)
  have r2 := r1 (by decide)
  have n2 := n1 (by decide)
  unfold spec_l1Cur_entries.f
  simp only [e1, Option.bind_some, e2, e3]
  have go : ∀ (m : Nat) (a4 q4 : Int), m ≤ 31 → a ≤ a4 → a4 ≤ a + 8 → ∃ l a' q', Ev (fun k => spec_l1Cur_entries.j0 k [] e (m : Int) s a4 q4) (l, a', q') ∧ EL l ∧ a ≤ a' ∧ a' ≤ a + 100 := fun m a4 q4 hm h2 h3 => by
    obtain ⟨l', a', q', e4, h4, p7, p8⟩ := entries_l s hb m [] e a4 q4 (by simp only [List.length_nil]; omega) r0 (by simp only [List.length_nil]; omega) (fun x hx => by cases hx) (by omega) (by omega)
    exact ⟨l', a', q', Ev.step (fun k => by rw [spec_l1Cur_entries.j0]) e4, h4, by omega, by omega⟩
  cases b with
  | true =>
    obtain ⟨x, a4, q4, e4, x0, x1, p7, p8⟩ := pick_eq s hb a3 q3 2 (by omega) (by omega) (by decide)
    have x2 := x1 (by decide)
    obtain ⟨m, rfl⟩ := Int.eq_ofNat_of_zero_le x0
    obtain ⟨l', a', q', e5, h4, p9⟩ := go (30 + m) a4 q4 (by omega) (by omega) (by omega)
    refine ⟨l', a', q', Ev.congr (fun k => ?_) e5, h4, p9⟩
    rw [if_pos rfl, e4, Option.bind_some, show wrap64 (30 + (m : Int)) = ((30 + m : Nat) : Int) by rw [wrap_id (by omega) (by omega)]; omega]
  | false =>
    obtain ⟨m, rfl⟩ := Int.eq_ofNat_of_zero_le n0
    obtain ⟨l', a', q', e5, h4, p9⟩ := go m a3 q3 (by omega) (by omega) (by omega)
    exact ⟨l', a', q', Ev.congr (fun k => by rw [if_neg (by decide)]) e5, h4, p9⟩

theorem two_l (s : List Int) (hb : BY s) (x : List Int) : ∀ (d : Nat) (y : List Int) (e a q : Int), d ≤ 10 → y.length ≤ 31 → -9000000000000000000 ≤ e → e + 10 * (d : Int) ≤ 9000000000000000000 → 0 ≤ a → a + 10 * (d : Int) ≤ 800000000000000 →
    ∃ y' a' q', Ev (fun k => spec_l1Cur_twoLogs.l0 k x y e (d : Int) s a q) (x, y', a', q') ∧ y'.length ≤ 31 := by
  intro d
  induction d with
  | zero =>
    intro y e a q _ hy _ _ _ _
    exact ⟨y, a, q, Ev.step (f := fun _ => some (x, y, a, q)) (fun k => by rw [spec_l1Cur_twoLogs.l0, if_neg (by omega)]) (Ev.now _), hy⟩
  | succ d ih =>
    intro y e a q hd hy e0 e1 h0 h1
    by_cases hl : (y.length : Int) < 30
    · obtain ⟨r, a1, q1, ep, r0, r1, p1, p2⟩ := pick_eq s hb a q 3 h0 (by omega) (by decide)
      have r2 := r1 (by decide)
      have hw : wrap64 (e + r) = e + r := wrap_id (by omega) (by omega)
      have hw2 : wrap64 (((d + 1 : Nat) : Int) - 1) = (d : Int) := by rw [wrap_id (by omega) (by omega)]; omega
      obtain ⟨y', a', q', e2, h2⟩ := ih (y ++ [e + r]) (e + r) a1 q1 (by omega) (by rw [List.length_append, List.length_singleton]; omega) (by omega) (by omega) (by omega) (by omega)
      refine ⟨y', a', q', Ev.step (fun k => ?_) e2, h2⟩
      rw [spec_l1Cur_twoLogs.l0, if_pos (by omega), if_pos hl, ep, Option.bind_some, if_pos (by omega), hw, hw2]
    · refine ⟨y, a, q, Ev.step (f := fun _ => some (x, y, a, q)) (fun k => ?_) (Ev.now _), hy⟩
      rw [spec_l1Cur_twoLogs.l0, if_pos (by omega), if_neg hl]
theorem two_j1 (s : List Int) (hb : BY s) (x y : List Int) (hy : y.length ≤ 31) (e a q : Int) (e0 : -9000000000 ≤ e) (e1 : e ≤ 9000000000) (h0 : 0 ≤ a) (h1 : a ≤ 1000) :
    ∃ y' a' q', Ev (fun k => spec_l1Cur_twoLogs.j1 k x y e s a q) (x, y', a', q') ∧ y'.length ≤ 31 := by
  obtain ⟨r, a1, q1, ep, r0, r1, p1, p2⟩ := pick_eq s hb a q 5 h0 (by omega) (by decide)
  have r2 := r1 (by decide)
  obtain ⟨m, rfl⟩ := Int.eq_ofNat_of_zero_le r0
  obtain ⟨y', a', q', e2, h2⟩ := two_l s hb x m y e a1 q1 (by omega) hy (by omega) (by omega) (by omega) (by omega)
  refine ⟨y', a', q', Ev.step (fun k => ?_) e2, h2⟩
  rw [spec_l1Cur_twoLogs.j1, ep, Option.bind_some]
theorem two_j0 (s : List Int) (hb : BY s) (x : List Int) (hx : EL x) (b : Bool) (a q : Int) (h0 : 0 ≤ a) (h1 : a ≤ 500) :
    ∃ y' a' q', Ev (fun k => spec_l1Cur_twoLogs.j0 k x b s a q) (x, y', a', q') ∧ y'.length ≤ 31 := by
  have hxl := hx.1
  cases b with
  | true =>
    obtain ⟨l, a1, q1, e1, hE, _, _⟩ := entries_ev s hb a q h0 (by omega)
    refine ⟨l, a1, q1, Ev.succ ?_, hE.1⟩
    simp only [spec_l1Cur_twoLogs.j0]
    exact Ev.ifp trivial (Ev.bind e1 (Ev.now _))
  | false =>
    have hw : wrap64 ((x.length : Int) + 1) = ((x.length + 1 : Nat) : Int) := succ_wrap (by omega)
    obtain ⟨r, a1, q1, ep, r0, r1, p1, p2⟩ := pick_eq s hb a q ((x.length + 1 : Nat) : Int) h0 (by omega) (by omega)
    have r2 := r1 (by omega)
    obtain ⟨m, rfl⟩ := Int.eq_ofNat_of_zero_le r0
    have tl : (x.take m).length = m := by rw [List.length_take]; omega
    have tl2 : ([] ++ x.take m : List Int).length = m := by rw [List.nil_append, tl]
    by_cases hm : 0 < m
    · have hr : -1 ≤ rd ([] ++ x.take m) (((m - 1 : Nat) : Int)) ∧ rd ([] ++ x.take m) (((m - 1 : Nat) : Int)) ≤ 101 := by
        refine hx.2 _ (List.mem_of_mem_take (i := m) ?_)
        rw [List.nil_append]
        exact rd_mem (by omega) (by rw [tl]; omega)
      have hw2 : wrap64 ((([] ++ x.take m : List Int).length : Int) - 1) = ((m - 1 : Nat) : Int) := by rw [tl2]; exact pred_wrap hm (by omega)
      obtain ⟨y', a', q', e2, h2⟩ := two_j1 s hb x ([] ++ x.take m) (by omega) (rd ([] ++ x.take m) (((m - 1 : Nat) : Int))) a1 q1 (by omega) (by omega) (by omega) (by omega)
      refine ⟨y', a', q', Ev.succ ?_, h2⟩
      simp only [spec_l1Cur_twoLogs.j0, hw, ep, Option.bind_some, hw2, tn_nat]
      exact Ev.ifn (by decide) (Ev.ifp (by omega) (Ev.ifp (by omega) (Ev.ifp (by rw [tl, List.length_nil]; omega) (Ev.ifp (by omega) (Ev.ifp (by omega) (Ev.ifp (by omega) e2))))))
    · have hm0 : m = 0 := by omega
      subst hm0
      obtain ⟨y', a', q', e2, h2⟩ := two_j1 s hb x ([] ++ x.take 0) (by omega) 0 a1 q1 (by omega) (by omega) (by omega) (by omega)
      refine ⟨y', a', q', Ev.succ ?_, h2⟩
      simp only [spec_l1Cur_twoLogs.j0, hw, ep, Option.bind_some, tn_nat]
      exact Ev.ifn (by decide) (Ev.ifp (by omega) (Ev.ifp (by omega) (Ev.ifp (by rw [tl, List.length_nil]; omega) (Ev.ifn (by omega) e2))))
theorem two_ev (s : List Int) (hb : BY s) : ∃ x y a' q', Ev (fun k => spec_l1Cur_twoLogs.f k s 0 0) (x, y, a', q') ∧ x.length ≤ 31 ∧ y.length ≤ 31 := by
  obtain ⟨x, a1, q1, e1, hE, p1, p2⟩ := entries_ev s hb 0 0 (by decide) (by decide)
  have hx := hE.1
  obtain ⟨g, eg, _⟩ := sGE_ev x (by omega)
  unfold spec_l1Cur_twoLogs.f
  cases g with
  | true =>
    obtain ⟨b, a2, q2, e2, p3, p4⟩ := one_eq s hb a1 q1 6 (by omega) (by omega) (by decide)
    obtain ⟨y, a', q', e3, hy⟩ := two_j0 s hb x hE b a2 q2 (by omega) (by omega)
    exact ⟨x, y, a', q', Ev.bind e1 (Ev.bind eg (Ev.ifp rfl (Ev.bind (Ev.eq e2) e3))), hx, hy⟩
  | false =>
    obtain ⟨y, a', q', e3, hy⟩ := two_j0 s hb x hE true a1 q1 (by omega) (by omega)
    exact ⟨x, y, a', q', Ev.bind e1 (Ev.bind eg (Ev.ifn (by decide) e3)), hx, hy⟩
/-- What the answers are, if one of the two logs is not good. -/
theorem bad_ev (a b : List Int) (la : a.length ≤ 1048576) (lb : b.length ≤ 1048576) (h : ¬ (GE a ∧ GE b)) :
    Ev (fun k => spec_MatchBy.f k a b) (0, 0, false) ∧ Ev (fun k => impl_MatchBy.f k a b) (0, 0, false) ∧ (∃ p o, Ev (fun k => spec_PartAt.f k a b) (p, o) ∧ Ev (fun k => impl_PartAt.f k a b) (p, o)) ∧ Ev (fun k => spec_FollowBy.f k a b) ([], false) ∧ Ev (fun k => impl_FollowBy.f k a b) ([], false) := by
  unfold spec_MatchBy.f impl_MatchBy.f spec_FollowBy.f impl_FollowBy.f
  refine ⟨?_, ?_, PartAt_ev a b la lb, ?_, ?_⟩ <;> by_cases ga : GE a
  · exact Ev.bind ((sGE_ev a la).get ga) (Ev.ifp rfl (Ev.bind ((sGE_ev b lb).not (fun gb => h ⟨ga, gb⟩)) (Ev.ifn (by decide) (Ev.now _))))
  · exact Ev.bind ((sGE_ev a la).not ga) (Ev.ifn (by decide) (Ev.now _))
  · exact Ev.bind ((iGE_ev a la).get ga) (Ev.ifp rfl (Ev.bind ((iGE_ev b lb).not (fun gb => h ⟨ga, gb⟩)) (Ev.ifn (by decide) (Ev.now _))))
  · exact Ev.bind ((iGE_ev a la).not ga) (Ev.ifn (by decide) (Ev.now _))
  · exact Ev.bind ((sGE_ev a la).get ga) (Ev.ifp rfl (Ev.bind ((sGE_ev b lb).not (fun gb => h ⟨ga, gb⟩)) (Ev.ifn (by decide) (Ev.now _))))
  · exact Ev.bind ((sGE_ev a la).not ga) (Ev.ifn (by decide) (Ev.now _))
  · exact Ev.bind ((iGE_ev a la).get ga) (Ev.ifp rfl (Ev.bind ((iGE_ev b lb).not (fun gb => h ⟨ga, gb⟩)) (Ev.ifn (by decide) (Ev.now _))))
  · exact Ev.bind ((iGE_ev a la).not ga) (Ev.ifn (by decide) (Ev.now _))
theorem good_part {a b : List Int} (ga : GE a) (gb : GE b) : ∃ p : Nat, p ≤ a.length ∧ p ≤ b.length ∧ PT a b p ∧ Ev (fun k => spec_PartAt.f k a b) ((p : Int), true) ∧ Ev (fun k => impl_PartAt.f k a b) ((p : Int), true) := by
  have la : a.length ≤ 1048576 := by have := ga.1; omega
  have lb : b.length ≤ 1048576 := by have := gb.1; omega
  obtain ⟨p, _, h2, h3, h4, h5, h6, h7⟩ := PA_l a b la lb (min a.length b.length) 0 (by omega)
  refine ⟨p, h2, h3, ⟨fun j hj => h4 j (Nat.zero_le _) hj, h5⟩, ?_, ?_⟩
  · unfold spec_PartAt.f
    refine Ev.bind ((sGE_ev a la).get ga) (Ev.ifp rfl (Ev.bind ((sGE_ev b lb).get gb) (Ev.succ ?_)))
    simp only [spec_PartAt.j0]
    exact Ev.ifn (by decide) h6
  · unfold impl_PartAt.f
    refine Ev.bind ((iGE_ev a la).get ga) (Ev.ifp rfl (Ev.bind ((iGE_ev b lb).get gb) (Ev.succ ?_)))
    simp only [impl_PartAt.j0]
    exact Ev.ifn (by decide) h7
theorem good_follow {a b : List Int} (ga : GE a) (gb : GE b) {r : Nat} {q : Int} (h2 : r ≤ a.length) (h3 : r ≤ b.length) (h4 : Ev (fun k => spec_l4Match.f k a b) ((r : Int), q)) (h5 : Ev (fun k => impl_matchBy.f k a b) ((r : Int), q)) :
    Ev (fun k => spec_FollowBy.f k a b) (([] ++ b.take r) ++ a.drop r, true) ∧ Ev (fun k => impl_FollowBy.f k a b) (([] ++ b.take r) ++ a.drop r, true) := by
  have la := ga.1
  have lb := gb.1
  have ht : ((List.nil : List Int) ++ b.take r).length ≤ 30 := by rw [List.nil_append, List.length_take]; omega
  have hd : (a.drop r).length ≤ 30 := by rw [List.length_drop]; omega
  have ht' : (b.take r).length ≤ 30 := by rw [List.length_take]; omega
  unfold spec_FollowBy.f impl_FollowBy.f
  constructor
  · exact Ev.bind ((sGE_ev a (by omega)).get ga) (Ev.ifp rfl (Ev.bind ((sGE_ev b (by omega)).get gb) (Ev.ifp rfl (Ev.bind h4 (Ev.bind (Ev.now _) (Ev.ifp (show (0 : Int) ≤ (r : Int) by omega) (Ev.ifp (show (r : Int) ≤ (b.length : Int) by omega) (Ev.ifp (by dsimp only; rw [List.length_nil, tn_nat]; omega) (Ev.bind (Ev.now _) (Ev.ifp (show (r : Int) ≤ (a.length : Int) by omega) (Ev.ifp (by dsimp only; rw [tn_nat]; omega) (Ev.now _))))))))))))
  · exact Ev.bind ((iGE_ev a (by omega)).get ga) (Ev.ifp rfl (Ev.bind ((iGE_ev b (by omega)).get gb) (Ev.ifp rfl (Ev.bind h5 (Ev.bind (Ev.now _) (Ev.ifp (show (0 : Int) ≤ (r : Int) by omega) (Ev.ifp (show (r : Int) ≤ (b.length : Int) by omega) (Ev.ifp (by dsimp only; rw [List.length_nil, tn_nat]; omega) (Ev.bind (Ev.now _) (Ev.ifp (show (r : Int) ≤ (a.length : Int) by omega) (Ev.ifp (by dsimp only; rw [tn_nat]; omega) (Ev.now _))))))))))))
theorem part_j1 {a b : List Int} (ga : GE a) (gb : GE b) {r p : Nat} {q : Int} (r1 : r ≤ a.length) (r2 : r ≤ b.length) (hq : q ≤ (b.length : Int)) (hr : GF a b → PT a b r) (p1 : p ≤ a.length) (p2 : p ≤ b.length) (hp : PT a b p) :
    Ev (fun k => laws_FnParted.j1 k a b (r : Int) q (p : Int) (([] ++ b.take r) ++ a.drop r) true false) true := by
  have la := ga.1
  have lb := gb.1
  obtain ⟨g, eg, hg⟩ := grew_ev a b (by omega) (by omega)
  have fin : Ev (fun _ => some (decide (q ≤ (b.length : Int)))) true := by
    rw [decide_eq_true hq]
    exact Ev.now _
  refine Ev.succ ?_
  simp only [laws_FnParted.j1]
  cases g with
  | false => exact Ev.ifn (by decide) (Ev.bind eg (Ev.ifn (by decide) fin))
  | true =>
    have h1 := hr (hg rfl)
    have h2 : r = p := PT_uniq h1 hp r1 r2 p1 p2
    have h3 : ([] ++ b.take r) ++ a.drop r = a := by rw [List.nil_append, ← PT_take h1 r1 r2, List.take_append_drop]
    refine Ev.ifn (by decide) (Ev.bind eg (Ev.ifp rfl (Ev.ifp (by rw [h2]) (Ev.ifp trivial ?_))))
    rw [h3]
    exact Ev.bind (same_yes a (by omega)) (Ev.ifp rfl fin)
theorem part_j0 {a b : List Int} (ga : GE a) (gb : GE b) {r p : Nat} {q : Int} (r1 : r ≤ a.length) (r2 : r ≤ b.length) (hq : q ≤ (b.length : Int)) (hr : GF a b → PT a b r) (p1 : p ≤ a.length) (p2 : p ≤ b.length) (hp : PT a b p) :
    Ev (fun k => laws_FnParted.j0 k a b (r : Int) q true (p : Int) true (([] ++ b.take r) ++ a.drop r) true false) true := by
  have la := ga.1
  have lb := gb.1
  have last : Ev (fun k => laws_FnParted.j1 k a b (r : Int) q (p : Int) (([] ++ b.take r) ++ a.drop r) true (decide ((r : Int) > (b.length : Int)))) true := by
    rw [decide_eq_false (show ¬ ((r : Int) > (b.length : Int)) by omega)]
    exact part_j1 ga gb r1 r2 hq hr p1 p2 hp
  have hs : Ev (fun k => laws_sameInts.f k (a.take p) (b.take p)) true := by
    rw [PT_take hp p1 p2]
    exact same_yes _ (by rw [List.length_take]; omega)
  refine Ev.succ ?_
  simp only [laws_FnParted.j0, tn_nat]
  refine Ev.ifn (by decide) (Ev.ifp trivial (Ev.ifp trivial (Ev.ifn (by omega) (Ev.ifn (by omega) (Ev.ifp (by omega) (Ev.ifp (by omega) (Ev.ifp (by omega) (Ev.bind hs (Ev.ifp rfl ?_)))))))))
  by_cases h1 : (p : Int) < (a.length : Int)
  · refine Ev.ifp h1 ?_
    by_cases h2 : (p : Int) < (b.length : Int)
    · exact Ev.ifp h2 (Ev.ifn (by rw [rd_nat, rd_nat]; exact hp.2 (by omega) (by omega)) (Ev.ifn (by omega) last))
    · exact Ev.ifn h2 (Ev.ifn (by omega) last)
  · exact Ev.ifn h1 (Ev.ifn (by omega) last)
theorem FnParted : laws_FnParted.Pure := by
  intro c h1
  have hb := BY_of h1.2
  apply Ev.rounds
  unfold laws_FnParted.f
  by_cases hz : (c.length : Int) > 1048576
  · exact Ev.ifp hz (Ev.now _)
  · obtain ⟨a, b, a', q', e1, la, lb⟩ := two_ev c hb
    have d1 : Ev (fun k => spec_DrawMatchBy.f k c) (a, b) := by
      unfold spec_DrawMatchBy.f spec_DrawPartAt.f
      exact Ev.bind (Ev.bind e1 (Ev.now _)) (Ev.now _)
    obtain ⟨g, gs, gi, hg⟩ := both (sGE_ev a (by omega)) (iGE_ev a (by omega))
    have gi' : Ev (fun k => impl_GoodEntries.f k a) g := by
      unfold impl_GoodEntries.f
      exact Ev.bind gi (Ev.now _)
    by_cases hgd : GE a ∧ GE b
    · obtain ⟨r, q, r1, r2, hq, ms, mi, hr⟩ := matchP_ev a b hgd.1 hgd.2
      obtain ⟨p, p1, p2, hp, ps, pi⟩ := good_part hgd.1 hgd.2
      obtain ⟨fs, fi⟩ := good_follow hgd.1 hgd.2 r1 r2 ms mi
      have Ms : Ev (fun k => spec_MatchBy.f k a b) ((r : Int), q, true) := by
        unfold spec_MatchBy.f
        exact Ev.bind ((sGE_ev a (by omega)).get hgd.1) (Ev.ifp rfl (Ev.bind ((sGE_ev b (by omega)).get hgd.2) (Ev.ifp rfl (Ev.bind ms (Ev.now _)))))
      have Mi : Ev (fun k => impl_MatchBy.f k a b) ((r : Int), q, true) := by
        unfold impl_MatchBy.f
        exact Ev.bind ((iGE_ev a (by omega)).get hgd.1) (Ev.ifp rfl (Ev.bind ((iGE_ev b (by omega)).get hgd.2) (Ev.ifp rfl (Ev.bind mi (Ev.now _)))))
      have fl : (([] ++ b.take r) ++ a.drop r).length ≤ 1048576 := by rw [List.nil_append, List.length_append, List.length_take, List.length_drop]; omega
      refine Ev.ifn hz (Ev.bind d1 (Ev.bind Mi (Ev.bind Ms (Ev.bind pi (Ev.bind ps (Ev.bind fi (Ev.bind fs (Ev.ifn (by simp) (Ev.ifp rfl (Ev.ifp rfl (Ev.ifn (by simp) (Ev.ifp rfl (Ev.ifn (by simp) (Ev.bind (same_yes _ fl) (Ev.ifp rfl (Ev.bind gi' (Ev.bind gs ?_)))))))))))))))))
      rw [bne_self_eq_false]
      exact part_j0 hgd.1 hgd.2 r1 r2 hq hr p1 p2 hp
    · obtain ⟨Ms, Mi, ⟨p, o, ps, pi⟩, fs, fi⟩ := bad_ev a b (by omega) (by omega) hgd
      refine Ev.ifn hz (Ev.bind d1 (Ev.bind Mi (Ev.bind Ms (Ev.bind pi (Ev.bind ps (Ev.bind fi (Ev.bind fs (Ev.ifn (by simp) (Ev.ifp rfl (Ev.ifp rfl (Ev.ifn (by simp) (Ev.ifp rfl (Ev.ifn (by simp) (Ev.bind (same_yes [] (by decide)) (Ev.ifp rfl (Ev.bind gi' (Ev.bind gs ?_)))))))))))))))))
      rw [bne_self_eq_false]
      refine Ev.succ ?_
      simp only [laws_FnParted.j0]
      exact Ev.ifn (by decide) (Ev.ifn (by decide) (Ev.now _))

end Go.Proofs.Ytopddfiiglookaa.Pure
