/- EndOfEpoch of the program answers as the reference's, for every list of marks and all numbers. Conditions: none but the statement's own. -/
import Derived.Test.YtopddfiiglookaaQFnExactEndOfEpochx5
namespace Go.Proofs.Ytopddfiiglookaa.Pure
open Go.RowKit Go.Proofs.Ytopddfiiglookaa.QFnExactEndOfEpoch Go.Proofs.YtopddfiiglookaaW.PrintWords Go.Proofs.YtopddfiiglookaaW.PrintLast Go.Proofs.YtopddfiiglookaaW.PrintMore
set_option linter.unusedVariables false
set_option linter.unusedSimpArgs false
/-! #### words -/
theorem Ev.succ {α : Type} {g : Nat → Option α} {r : α} (k : Ev (fun n => g (n + 1)) r) : Ev g r := Ev.step (fun _ => rfl) k
theorem Ev.ifp {α : Type} {c : Prop} [Decidable c] {f g : Nat → Option α} {r : α} (h : c) (k : Ev f r) : Ev (fun n => if c then f n else g n) r := Ev.congr (fun n => if_pos h) k
theorem Ev.ifn {α : Type} {c : Prop} [Decidable c] {f g : Nat → Option α} {r : α} (h : ¬ c) (k : Ev g r) : Ev (fun n => if c then f n else g n) r := Ev.congr (fun n => if_neg h) k
theorem Ev.uniq {α : Type} {g : Nat → Option α} {r q : α} (h : Ev g r) (k : Ev g q) : r = q := by
  obtain ⟨a, ha⟩ := h
  obtain ⟨b, hb⟩ := k
  have h1 := ha (max a b) (Nat.le_max_left _ _)
  have h2 := hb (max a b) (Nat.le_max_right _ _)
  rw [h1] at h2
  exact Option.some.inj h2
/-- It answers a Bool that tells whether Q. -/
def EvB (g : Nat → Option Bool) (Q : Prop) : Prop := ∃ b : Bool, Ev g b ∧ (b = true ↔ Q)
theorem EvB.step {g f : Nat → Option Bool} {Q : Prop} (h : ∀ k, g (k + 1) = f k) (k : EvB f Q) : EvB g Q := by
  obtain ⟨b, hb, hq⟩ := k
  exact ⟨b, Ev.step h hb, hq⟩
theorem EvB.iff {g : Nat → Option Bool} {Q R : Prop} (k : EvB g Q) (h : Q ↔ R) : EvB g R := by
  obtain ⟨b, hb, hq⟩ := k
  exact ⟨b, hb, hq.trans h⟩
theorem EvB.no {g : Nat → Option Bool} {Q : Prop} (h : ∀ k, g (k + 1) = some false) (hq : ¬ Q) : EvB g Q := ⟨false, Ev.step (f := fun _ => some false) h (Ev.now _), Iff.intro (fun h => by cases h) (fun h => absurd h hq)⟩
theorem EvB.yes {g : Nat → Option Bool} {Q : Prop} (h : ∀ k, g (k + 1) = some true) (hq : Q) : EvB g Q := ⟨true, Ev.step (f := fun _ => some true) h (Ev.now _), ⟨fun _ => hq, fun _ => rfl⟩⟩
theorem EvB.ev {g : Nat → Option Bool} {Q : Prop} [Decidable Q] (k : EvB g Q) : Ev g (decide Q) := by
  obtain ⟨b, hb, hq⟩ := k
  have : b = decide Q := by
    by_cases h : Q
    · rw [hq.2 h, decide_eq_true h]
    · rw [decide_eq_false h]
      cases b with
      | false => rfl
      | true => exact absurd (hq.1 rfl) h
  rw [← this]
  exact hb
theorem EvB.get {g : Nat → Option Bool} {Q : Prop} (k : EvB g Q) (h : Q) : Ev g true := by
  obtain ⟨b, hb, hq⟩ := k
  rw [← hq.2 h]
  exact hb
theorem EvB.not {g : Nat → Option Bool} {Q : Prop} (k : EvB g Q) (h : ¬ Q) : Ev g false := by
  obtain ⟨b, hb, hq⟩ := k
  cases b with
  | false => exact hb
  | true => exact absurd (hq.1 rfl) h
theorem wrap_id {x : Int} (h0 : -9223372036854775808 ≤ x) (h1 : x ≤ 9223372036854775807) : wrap64 x = x := by
  unfold wrap64
  omega
theorem succ_wrap {i : Nat} (h : i ≤ 9000000000000000000) : wrap64 ((i : Int) + 1) = ((i + 1 : Nat) : Int) := by
  rw [wrap_id (by omega) (by omega)]
  omega
theorem pred_wrap {i : Nat} (h0 : 0 < i) (h : i ≤ 9000000000000000000) : wrap64 ((i : Int) - 1) = ((i - 1 : Nat) : Int) := by
  rw [wrap_id (by omega) (by omega)]
  omega
theorem pred_zero : wrap64 (((0 : Nat) : Int) - 1) = -1 := by
  unfold wrap64
  omega
theorem rd_nat (l : List Int) (i : Nat) : rd l (i : Int) = l.getD i 0 := rfl
theorem tn_nat (i : Nat) : ((i : Int)).toNat = i := rfl
theorem len_nat {α : Type} (l : List α) {k : Nat} (h : l.length ≤ k) : ¬ ((l.length : Int) > (k : Int)) := by omega

/-- A list is made, element by element. -/
theorem conv_ev {β : Type} (n : Nat) (F : List β → Nat → Nat → Option (List β)) (c : Nat → β) (h1 : ∀ x : List β, x.length = n → Ev (F x n) x)
    (h2 : ∀ (x : List β) (i : Nat), i < n → x.length = n → ∀ r, Ev (F (x.set i (c i)) (i + 1)) r → Ev (F x i) r) : ∀ x0 : List β, x0.length = n → Ev (F x0 0) ((List.range n).map c) := by
  have key : ∀ d i (x : List β), i + d = n → x.length = n → Ev (F x i) (x.take i ++ (List.range d).map fun j => c (i + j)) := by
    intro d
    induction d with
    | zero =>
      intro i x hd hx
      have hi : i = n := by omega
      subst hi
      have : x.take i ++ (List.range 0).map (fun j => c (i + j)) = x := by
        rw [List.take_of_length_le (by omega)]
        simp
      rw [this]
      exact h1 x hx
    | succ d ih =>
      intro i x hd hx
      have hi : i < n := by omega
      have := ih (i + 1) (x.set i (c i)) (by omega) (by rw [List.length_set]; exact hx)
      have e : (x.set i (c i)).take (i + 1) ++ (List.range d).map (fun j => c (i + 1 + j)) = x.take i ++ (List.range (d + 1)).map (fun j => c (i + j)) := by
        rw [List.range_succ_eq_map, List.map_cons, List.map_map]
        have ht : (x.set i (c i)).take (i + 1) = x.take i ++ [c i] := by
          rw [List.take_succ_eq_append_getElem (by rw [List.length_set]; omega)]
          rw [List.take_set_of_le (Nat.le_refl _), List.getElem_set_self]
        rw [ht, List.append_assoc]
        congr 1
        rw [List.singleton_append]
        congr 1
        apply List.map_congr_left
        intro j _
        show c (i + 1 + j) = c (i + (j + 1))
        congr 1
        omega
      rw [e] at this
      exact h2 x i hi hx _ this
  intro x0 hx0
  have := key n 0 x0 (by omega) hx0
  rw [List.take_zero, List.nil_append] at this
  have e : (fun j => c (0 + j)) = c := by
    funext j
    rw [Nat.zero_add]
  rw [e] at this
  exact this

/-- Two rows are held against each other, element by element. -/
theorem all_ev (n : Nat) (F : Nat → Nat → Option Bool) (h1 : Ev (F n) true) (h2 : ∀ i, i < n → Ev (F (i + 1)) true → Ev (F i) true) : Ev (F 0) true := by
  have key : ∀ d i, i + d = n → Ev (F i) true := by
    intro d
    induction d with
    | zero =>
      intro i hd
      have hi : i = n := by omega
      subst hi
      exact h1
    | succ d ih =>
      intro i hd
      exact h2 i (by omega) (ih (i + 1) (by omega))
  exact key n 0 (by omega)

/-- The elements are numbered through; and so they are found. -/
def markL {β : Type} (mk : β → Nat → β) (cnt : β → Nat) : List β → Nat → List β
  | [], _ => []
  | b :: r, m => mk b m :: markL mk cnt r (m + cnt b)
def cntL {β : Type} (cnt : β → Nat) : List β → Nat
  | [] => 0
  | b :: r => cnt b + cntL cnt r
theorem markL_length {β : Type} (mk : β → Nat → β) (cnt : β → Nat) : ∀ (l : List β) (m : Nat), (markL mk cnt l m).length = l.length
  | [], _ => rfl
  | b :: r, m => by
    show (markL mk cnt r _).length + 1 = r.length + 1
    rw [markL_length mk cnt r]
theorem cntL_le {β : Type} (cnt : β → Nat) (c : Nat) : ∀ l : List β, (∀ b ∈ l, cnt b ≤ c) → cntL cnt l ≤ c * l.length
  | [], _ => Nat.zero_le _
  | b :: r, h => by
    have h1 := cntL_le cnt c r (fun x hx => h x (List.mem_cons_of_mem _ hx))
    have h2 := h b List.mem_cons_self
    show cnt b + cntL cnt r ≤ c * (r.length + 1)
    rw [Nat.mul_add, Nat.mul_one]
    omega
theorem mark_ev {β : Type} (z : β) (mk : β → Nat → β) (cnt : β → Nat) (B n : Nat) (F : List β → Nat → Nat → Nat → Option (Int × List β)) (h1 : ∀ (x : List β) (m : Nat), x.length = n → Ev (F x m n) ((m : Int), x))
    (h2 : ∀ (x : List β) (m i : Nat), x.length = n → i < n → m + cnt (x.getD i z) ≤ B → ∀ r, Ev (F (x.set i (mk (x.getD i z) m)) (m + cnt (x.getD i z)) (i + 1)) r → Ev (F x m i) r) :
    ∀ (x : List β) (m : Nat), x.length = n → m + cntL cnt x ≤ B → Ev (F x m 0) (((m + cntL cnt x : Nat) : Int), markL mk cnt x m) := by
  have key : ∀ (rest done : List β) (m : Nat), done.length + rest.length = n → m + cntL cnt rest ≤ B → Ev (F (done ++ rest) m done.length) (((m + cntL cnt rest : Nat) : Int), done ++ markL mk cnt rest m) := by
    intro rest
    induction rest with
    | nil =>
      intro done m hn _
      have hn' : done.length = n := hn
      have := h1 done m hn'
      rw [← hn'] at this
      rw [List.append_nil]
      show Ev _ (((m + 0 : Nat) : Int), done ++ [])
      rw [List.append_nil]
      exact this
    | cons b r ih =>
      intro done m hn hm
      have hn' : done.length + (r.length + 1) = n := hn
      have hm' : m + (cnt b + cntL cnt r) ≤ B := hm
      have hg : (done ++ b :: r).getD done.length z = b := by simp [List.getD]
      have hs : (done ++ b :: r).set done.length (mk b m) = (done ++ [mk b m]) ++ r := by simp [List.set_append]
      have := ih (done ++ [mk b m]) (m + cnt b) (by rw [List.length_append, List.length_singleton]; omega) (by omega)
      refine h2 _ m done.length (by simp; omega) (by omega) (by rw [hg]; omega) _ ?_
      rw [hg, hs]
      rw [List.length_append, List.length_singleton] at this
      have e : m + cnt b + cntL cnt r = m + (cnt b + cntL cnt r) := by omega
      have e2 : done ++ [mk b m] ++ markL mk cnt r (m + cnt b) = done ++ (mk b m :: markL mk cnt r (m + cnt b)) := by rw [List.append_assoc, List.singleton_append]
      rw [e, e2] at this
      exact this
  intro x m hn hm
  exact key x [] m (by simpa using hn) hm
theorem held_ev {β : Type} (z : β) (mk : β → Nat → β) (cnt : β → Nat) (B n : Nat) (H : List β → Nat → Nat → Nat → Option Int) (h1 : ∀ (x : List β) (m : Nat), x.length = n → Ev (H x m n) (m : Int))
    (h2 : ∀ (x : List β) (m i : Nat) (b : β), x.length = n → i < n → x.getD i z = mk b m → m + cnt b ≤ B → ∀ r, Ev (H x (m + cnt b) (i + 1)) r → Ev (H x m i) r) :
    ∀ (x : List β) (m : Nat), x.length = n → m + cntL cnt x ≤ B → Ev (H (markL mk cnt x m) m 0) ((m + cntL cnt x : Nat) : Int) := by
  have key : ∀ (rest done : List β) (m : Nat), done.length + rest.length = n → m + cntL cnt rest ≤ B → Ev (H (done ++ markL mk cnt rest m) m done.length) ((m + cntL cnt rest : Nat) : Int) := by
    intro rest
    induction rest with
    | nil =>
      intro done m hn _
      have hn' : done.length = n := hn
      have := h1 done m hn'
      rw [← hn'] at this
      show Ev (H (done ++ []) m done.length) _
      rw [List.append_nil]
      exact this
    | cons b r ih =>
      intro done m hn hm
      have hn' : done.length + (r.length + 1) = n := hn
      have hm' : m + (cnt b + cntL cnt r) ≤ B := hm
      have := ih (done ++ [mk b m]) (m + cnt b) (by rw [List.length_append, List.length_singleton]; omega) (by omega)
      show Ev (H (done ++ (mk b m :: markL mk cnt r (m + cnt b))) m done.length) _
      refine h2 _ m done.length b (by simp [markL_length]; omega) (by omega) (by simp [List.getD]) (by omega) _ ?_
      rw [List.length_append, List.length_singleton, List.append_assoc, List.singleton_append] at this
      have e : m + cnt b + cntL cnt r = m + (cnt b + cntL cnt r) := by omega
      rw [e] at this
      exact this
  intro x m hn hm
  exact key x [] m (by simpa using hn) hm

theorem map_range_getD {α β : Type} (l : List α) (z : α) (f : α → β) : (List.range l.length).map (fun i => f (l.getD i z)) = l.map f := by
  apply List.ext_getElem
  · simp
  · intro i h1 h2
    simp at h1 h2
    simp [h2]
theorem map_range_self {α : Type} (l : List α) (z : α) : (List.range l.length).map (fun i => l.getD i z) = l := by
  have := map_range_getD l z id
  simpa using this
theorem getD_mem {α : Type} {l : List α} {i : Nat} (h : i < l.length) (z : α) : l.getD i z ∈ l := by
  rw [List.getD_eq_getElem?_getD, List.getElem?_eq_getElem h, Option.getD_some]
  exact List.getElem_mem h

/-! #### []EpochMark -/
def cvEM (x : S62) : S60 := ⟨x.f0, x.f1⟩
theorem szEM_ev (l : List S62) (hl : l.length ≤ maxLen) : Ev (fun _ => laws_szEpochMarkS.f l 1048576) (if l.length ≤ 1048576 then 1048576 - (l.length : Int) else -1) := by
  have h : l.length ≤ 9223372036854775807 := hl
  refine Ev.congr (fun _ => ?_) (Ev.now _)
  unfold laws_szEpochMarkS.f
  rw [wrap_id (by omega) (by omega)]
  by_cases hc : l.length ≤ 1048576
  · rw [if_neg (by omega), if_pos hc]
  · rw [if_pos (by omega), if_neg hc]
theorem toEM_ev (l : List S62) (hl : l.length ≤ 1048576) : Ev (fun k => laws_toEpochMarkS.f k l) (l.map cvEM) := by
  have h := conv_ev l.length (fun x i k => laws_toEpochMarkS.l0 k l x (i : Int)) (fun i => cvEM (l.getD i z62))
    (fun x hx => Ev.step (f := fun _ => some x) (fun k => by
      show laws_toEpochMarkS.l0 (k + 1) l x ((l.length : Nat) : Int) = some x
      rw [laws_toEpochMarkS.l0, if_neg (by omega)]) (Ev.now _))
    (fun x i hi hx r hr => Ev.step (fun k => by
      show laws_toEpochMarkS.l0 (k + 1) l x (i : Int) = laws_toEpochMarkS.l0 k l (x.set i (cvEM (l.getD i z62))) ((i + 1 : Nat) : Int)
      rw [laws_toEpochMarkS.l0, if_pos (by omega), if_pos (by omega)]
      unfold laws_toEpochMark.f
      rw [Option.bind_some, if_pos (by omega), succ_wrap (by omega)]
      rfl) hr)
    (List.replicate l.length z60) (by simp)
  rw [map_range_getD] at h
  refine Ev.congr (fun k => ?_) h
  unfold laws_toEpochMarkS.f
  rw [if_pos (by omega), if_pos (by rw [tn_nat]; omega)]
  rfl

theorem eqEM_ev (l : List S60) (hl : l.length ≤ 1048576) : Ev (fun k => laws_eqEpochMarkS.f k l l) true := by
  have h := all_ev l.length (fun i k => laws_eqEpochMarkS.l0 k l l (i : Int))
    (Ev.step (f := fun _ => some true) (fun k => by
      show laws_eqEpochMarkS.l0 (k + 1) l l ((l.length : Nat) : Int) = some true
      rw [laws_eqEpochMarkS.l0, if_neg (by omega)]) (Ev.now _))
    (fun i hi hr => Ev.step (fun k => by
      show laws_eqEpochMarkS.l0 (k + 1) l l (i : Int) = laws_eqEpochMarkS.l0 k l l ((i + 1 : Nat) : Int)
      rw [laws_eqEpochMarkS.l0, if_pos (by omega), if_pos (by omega), if_pos (by omega)]
      unfold laws_eqEpochMark.f
      rw [if_pos rfl, if_pos rfl, Option.bind_some, if_pos rfl, succ_wrap (by omega)]) hr)
  refine Ev.congr (fun k => ?_) h
  unfold laws_eqEpochMarkS.f
  rw [if_pos rfl]
  rfl

/-! #### a number between two -/
theorem sin (a b c : Int) : spec_l1In.f a b c = some (decide (b ≤ a ∧ a ≤ c)) := by
  unfold spec_l1In.f
  by_cases h : a ≥ b
  · rw [if_pos h]
    have e : (b ≤ a ∧ a ≤ c) ↔ a ≤ c := ⟨fun h => h.2, fun h' => ⟨h, h'⟩⟩
    simp only [e]
  · rw [if_neg h, decide_eq_false]
    intro h'
    exact h h'.1

theorem iin (a b c : Int) : impl_in.f a b c = some (decide (b ≤ a ∧ a ≤ c)) := by
  unfold impl_in.f
  by_cases h : a ≥ b
  · rw [if_pos h]
    have e : (b ≤ a ∧ a ≤ c) ↔ a ≤ c := ⟨fun h => h.2, fun h' => ⟨h, h'⟩⟩
    simp only [e]
  · rw [if_neg h, decide_eq_false]
    intro h'
    exact h h'.1

theorem em_nat (l : List S60) (i : Nat) : rd_T60 l (i : Int) = l.getD i z60 := rfl

/-! #### good marks -/
def PM (l : List S60) (j : Nat) : Prop := (0 ≤ (l.getD j z60).f0 ∧ (l.getD j z60).f0 ≤ 100) ∧ (0 ≤ (l.getD j z60).f1 ∧ (l.getD j z60).f1 ≤ 29) ∧
  (0 < j → (l.getD (j - 1) z60).f0 < (l.getD j z60).f0 ∧ (l.getD (j - 1) z60).f1 < (l.getD j z60).f1)
def GM (l : List S60) : Prop := l.length ≤ 30 ∧ ∀ j, j < l.length → PM l j

theorem sGM_l (l : List S60) (hl : l.length ≤ 1048576) : ∀ d i : Nat, i + d = l.length →
    EvB (fun k => spec_GoodMarks.l0 k l l (l.length : Int) (i : Int)) (l.length ≤ 30 ∧ ∀ j, i ≤ j → j < l.length → PM l j)
  | 0, i, hd => by
    refine ⟨decide ((l.length : Int) ≤ 30), Ev.step (f := fun _ => some (decide ((l.length : Int) ≤ 30))) (fun k => by rw [spec_GoodMarks.l0, if_neg (by omega)]) (Ev.now _), ?_⟩
    rw [decide_eq_true_iff]
    exact ⟨fun h => ⟨by omega, fun j h1 h2 => by omega⟩, fun h => by omega⟩
  | d + 1, i, hd => by
    by_cases hr : 0 ≤ (l.getD i z60).f0 ∧ (l.getD i z60).f0 ≤ 100
    · by_cases hs : 0 ≤ (l.getD i z60).f1 ∧ (l.getD i z60).f1 ≤ 29
      · by_cases hi : 0 < i
        · by_cases hp : (l.getD (i - 1) z60).f0 ≥ (l.getD i z60).f0
          · refine EvB.no (fun k => ?_) (fun h => ?_)
            · rw [spec_GoodMarks.l0, if_pos (by omega), if_pos (by omega), if_pos (by omega), sin, em_nat, decide_eq_true hr, Option.bind_some, if_pos rfl, sin, decide_eq_true hs, Option.bind_some, if_pos rfl, if_pos (by omega), pred_wrap hi (by omega), if_pos (by omega), if_pos (by omega), em_nat, if_pos hp]
            · have := ((h.2 i (Nat.le_refl _) (by omega)).2.2 hi).1
              omega
          · by_cases hq : (l.getD (i - 1) z60).f1 ≥ (l.getD i z60).f1
            · refine EvB.no (fun k => ?_) (fun h => ?_)
              · rw [spec_GoodMarks.l0, if_pos (by omega), if_pos (by omega), if_pos (by omega), sin, em_nat, decide_eq_true hr, Option.bind_some, if_pos rfl, sin, decide_eq_true hs, Option.bind_some, if_pos rfl, if_pos (by omega), pred_wrap hi (by omega), if_pos (by omega), if_pos (by omega), em_nat, if_neg hp, if_pos hq]
              · have := ((h.2 i (Nat.le_refl _) (by omega)).2.2 hi).2
                omega
            · refine EvB.step (fun k => ?_) (EvB.iff (sGM_l l hl d (i + 1) (by omega)) ?_)
              · show spec_GoodMarks.l0 (k + 1) l l (l.length : Int) (i : Int) = spec_GoodMarks.l0 k l l (l.length : Int) ((i + 1 : Nat) : Int)
                rw [spec_GoodMarks.l0, if_pos (by omega), if_pos (by omega), if_pos (by omega), sin, em_nat, decide_eq_true hr, Option.bind_some, if_pos rfl, sin, decide_eq_true hs, Option.bind_some, if_pos rfl, if_pos (by omega), pred_wrap hi (by omega), if_pos (by omega), if_pos (by omega), em_nat, if_neg hp, if_neg hq, succ_wrap (by omega)]
              · refine and_congr_right fun _ => ⟨fun h j h1 h2 => ?_, fun h j h1 h2 => h j (by omega) h2⟩
                by_cases e : j = i
                · subst e
                  exact ⟨hr, hs, fun _ => ⟨by omega, by omega⟩⟩
                · exact h j (by omega) h2
        · have h0 : i = 0 := by omega
          subst h0
          refine EvB.step (fun k => ?_) (EvB.iff (sGM_l l hl d 1 (by omega)) ?_)
          · show spec_GoodMarks.l0 (k + 1) l l (l.length : Int) ((0 : Nat) : Int) = spec_GoodMarks.l0 k l l (l.length : Int) ((0 + 1 : Nat) : Int)
            rw [spec_GoodMarks.l0, if_pos (by omega), if_pos (by omega), if_pos (by omega), sin, em_nat, decide_eq_true hr, Option.bind_some, if_pos rfl, sin, decide_eq_true hs, Option.bind_some, if_pos rfl, if_neg (by omega), succ_wrap (by omega)]
          · refine and_congr_right fun _ => ⟨fun h j h1 h2 => ?_, fun h j h1 h2 => h j (by omega) h2⟩
            by_cases e : j = 0
            · subst e
              exact ⟨hr, hs, fun h => absurd h (Nat.lt_irrefl _)⟩
            · exact h j (by omega) h2
      · refine EvB.no (fun k => ?_) (fun h => hs (h.2 i (Nat.le_refl _) (by omega)).2.1)
        rw [spec_GoodMarks.l0, if_pos (by omega), if_pos (by omega), if_pos (by omega), sin, em_nat, decide_eq_true hr, Option.bind_some, if_pos rfl, sin, decide_eq_false hs, Option.bind_some, if_neg (by decide)]
    · refine EvB.no (fun k => ?_) (fun h => hr (h.2 i (Nat.le_refl _) (by omega)).1)
      rw [spec_GoodMarks.l0, if_pos (by omega), if_pos (by omega), if_pos (by omega), sin, em_nat, decide_eq_false hr, Option.bind_some, if_neg (by decide)]
theorem sGM_ev (l : List S60) (hl : l.length ≤ 1048576) : EvB (fun k => spec_GoodMarks.f k l) (GM l) := by
  have h := sGM_l l hl l.length 0 (by omega)
  exact h.iff ⟨fun h => ⟨h.1, fun j hj => h.2 j (Nat.zero_le _) hj⟩, fun h => ⟨h.1, fun j _ hj => h.2 j hj⟩⟩

theorem iGM_l (l : List S60) (hl : l.length ≤ 1048576) : ∀ d i : Nat, i + d = l.length →
    EvB (fun k => impl_areMarks.l0 k l l (l.length : Int) (i : Int)) (l.length ≤ 30 ∧ ∀ j, i ≤ j → j < l.length → PM l j)
  | 0, i, hd => by
    refine ⟨decide ((l.length : Int) ≤ 30), Ev.step (f := fun _ => some (decide ((l.length : Int) ≤ 30))) (fun k => by rw [impl_areMarks.l0, if_neg (by omega)]) (Ev.now _), ?_⟩
    rw [decide_eq_true_iff]
    exact ⟨fun h => ⟨by omega, fun j h1 h2 => by omega⟩, fun h => by omega⟩
  | d + 1, i, hd => by
    by_cases hr : 0 ≤ (l.getD i z60).f0 ∧ (l.getD i z60).f0 ≤ 100
    · by_cases hs : 0 ≤ (l.getD i z60).f1 ∧ (l.getD i z60).f1 ≤ 29
      · by_cases hi : 0 < i
        · by_cases hp : (l.getD (i - 1) z60).f0 ≥ (l.getD i z60).f0
          · refine EvB.no (fun k => ?_) (fun h => ?_)
            · rw [impl_areMarks.l0, if_pos (by omega), if_pos (by omega), if_pos (by omega), iin, em_nat, decide_eq_true hr, Option.bind_some, if_pos rfl, iin, decide_eq_true hs, Option.bind_some, if_pos rfl, if_pos (by omega), pred_wrap hi (by omega), if_pos (by omega), if_pos (by omega), em_nat, if_pos hp]
            · have := ((h.2 i (Nat.le_refl _) (by omega)).2.2 hi).1
              omega
          · by_cases hq : (l.getD (i - 1) z60).f1 ≥ (l.getD i z60).f1
            · refine EvB.no (fun k => ?_) (fun h => ?_)
              · rw [impl_areMarks.l0, if_pos (by omega), if_pos (by omega), if_pos (by omega), iin, em_nat, decide_eq_true hr, Option.bind_some, if_pos rfl, iin, decide_eq_true hs, Option.bind_some, if_pos rfl, if_pos (by omega), pred_wrap hi (by omega), if_pos (by omega), if_pos (by omega), em_nat, if_neg hp, if_pos hq]
              · have := ((h.2 i (Nat.le_refl _) (by omega)).2.2 hi).2
                omega
            · refine EvB.step (fun k => ?_) (EvB.iff (iGM_l l hl d (i + 1) (by omega)) ?_)
              · show impl_areMarks.l0 (k + 1) l l (l.length : Int) (i : Int) = impl_areMarks.l0 k l l (l.length : Int) ((i + 1 : Nat) : Int)
                rw [impl_areMarks.l0, if_pos (by omega), if_pos (by omega), if_pos (by omega), iin, em_nat, decide_eq_true hr, Option.bind_some, if_pos rfl, iin, decide_eq_true hs, Option.bind_some, if_pos rfl, if_pos (by omega), pred_wrap hi (by omega), if_pos (by omega), if_pos (by omega), em_nat, if_neg hp, if_neg hq, succ_wrap (by omega)]
              · refine and_congr_right fun _ => ⟨fun h j h1 h2 => ?_, fun h j h1 h2 => h j (by omega) h2⟩
                by_cases e : j = i
                · subst e
                  exact ⟨hr, hs, fun _ => ⟨by omega, by omega⟩⟩
                · exact h j (by omega) h2
        · have h0 : i = 0 := by omega
          subst h0
          refine EvB.step (fun k => ?_) (EvB.iff (iGM_l l hl d 1 (by omega)) ?_)
          · show impl_areMarks.l0 (k + 1) l l (l.length : Int) ((0 : Nat) : Int) = impl_areMarks.l0 k l l (l.length : Int) ((0 + 1 : Nat) : Int)
            rw [impl_areMarks.l0, if_pos (by omega), if_pos (by omega), if_pos (by omega), iin, em_nat, decide_eq_true hr, Option.bind_some, if_pos rfl, iin, decide_eq_true hs, Option.bind_some, if_pos rfl, if_neg (by omega), succ_wrap (by omega)]
          · refine and_congr_right fun _ => ⟨fun h j h1 h2 => ?_, fun h j h1 h2 => h j (by omega) h2⟩
            by_cases e : j = 0
            · subst e
              exact ⟨hr, hs, fun h => absurd h (Nat.lt_irrefl _)⟩
            · exact h j (by omega) h2
      · refine EvB.no (fun k => ?_) (fun h => hs (h.2 i (Nat.le_refl _) (by omega)).2.1)
        rw [impl_areMarks.l0, if_pos (by omega), if_pos (by omega), if_pos (by omega), iin, em_nat, decide_eq_true hr, Option.bind_some, if_pos rfl, iin, decide_eq_false hs, Option.bind_some, if_neg (by decide)]
    · refine EvB.no (fun k => ?_) (fun h => hr (h.2 i (Nat.le_refl _) (by omega)).1)
      rw [impl_areMarks.l0, if_pos (by omega), if_pos (by omega), if_pos (by omega), iin, em_nat, decide_eq_false hr, Option.bind_some, if_neg (by decide)]
theorem iGM_ev (l : List S60) (hl : l.length ≤ 1048576) : EvB (fun k => impl_areMarks.f k l) (GM l) := by
  have h := iGM_l l hl l.length 0 (by omega)
  exact h.iff ⟨fun h => ⟨h.1, fun j hj => h.2 j (Nat.zero_le _) hj⟩, fun h => ⟨h.1, fun j _ hj => h.2 j hj⟩⟩

/-! #### where an epoch ends -/
/-- Among the first n marks. -/
def EE (m : List S60) (e ep : Int) : Nat → Int × Int
  | 0 => (-1, 0)
  | i + 1 => if (m.getD i z60).f0 ≤ ep then ((m.getD i z60).f0, if i + 1 < m.length then (m.getD (i + 1) z60).f1 else e) else EE m e ep i
theorem sEE_l (m : List S60) (e ep : Int) (hm : m.length ≤ 1048576) : ∀ n : Nat, n ≤ m.length → ∀ x y : Int, x = (n : Int) - 1 → y = (if n < m.length then (m.getD n z60).f1 else e) →
    Ev (fun k => spec_l4End.l0 k m y ep x) (EE m e ep n)
  | 0, _ => fun x y hx hy => Ev.step (f := fun _ => some (-1, 0)) (fun k => by rw [spec_l4End.l0, if_neg (by omega)]) (Ev.now _)
  | i + 1, hn => fun x y hx hy => by
    obtain rfl : x = (i : Int) := by omega
    rw [EE]
    by_cases h : (m.getD i z60).f0 ≤ ep
    · rw [if_pos h, ← hy]
      refine Ev.step (f := fun _ => some ((m.getD i z60).f0, y)) (fun k => ?_) (Ev.now _)
      rw [spec_l4End.l0, if_pos (by omega), if_pos (by omega), if_pos (by omega), em_nat, if_pos h]
    · rw [if_neg h]
      refine Ev.step (fun k => ?_) (sEE_l m e ep hm i (by omega) ((i : Int) - 1) (m.getD i z60).f1 rfl (by rw [if_pos (by omega)]))
      show spec_l4End.l0 (k + 1) m y ep (i : Int) = spec_l4End.l0 k m (m.getD i z60).f1 ep ((i : Int) - 1)
      rw [spec_l4End.l0, if_pos (by omega), if_pos (by omega), if_pos (by omega), em_nat, if_neg h, wrap_id (by omega) (by omega)]
theorem iEE_l (m : List S60) (e ep : Int) (hm : m.length ≤ 1048576) : ∀ n : Nat, n ≤ m.length → ∀ x : Int, x = (n : Int) - 1 →
    Ev (fun k => impl_endOfEpoch.l0 k m e ep x) (EE m e ep n)
  | 0, _ => fun x hx => Ev.step (f := fun _ => some (-1, 0)) (fun k => by rw [impl_endOfEpoch.l0, if_neg (by omega)]) (Ev.now _)
  | i + 1, hn => fun x hx => by
    obtain rfl : x = (i : Int) := by omega
    rw [EE]
    by_cases h : (m.getD i z60).f0 ≤ ep
    · rw [if_pos h]
      by_cases h2 : i + 1 < m.length
      · rw [if_pos h2]
        refine Ev.step (f := fun _ => some ((m.getD i z60).f0, (m.getD (i + 1) z60).f1)) (fun k => ?_) (Ev.now _)
        rw [impl_endOfEpoch.l0, if_pos (by omega), if_pos (by omega), if_pos (by omega), em_nat, if_neg (by omega), succ_wrap (by omega), if_pos (by omega), if_pos (by omega), em_nat]
      · rw [if_neg h2]
        refine Ev.step (f := fun _ => some ((m.getD i z60).f0, e)) (fun k => ?_) (Ev.now _)
        rw [impl_endOfEpoch.l0, if_pos (by omega), if_pos (by omega), if_pos (by omega), em_nat, if_neg (by omega), succ_wrap (by omega), if_neg (by omega)]
    · rw [if_neg h]
      refine Ev.step (fun k => ?_) (iEE_l m e ep hm i (by omega) ((i : Int) - 1) rfl)
      show impl_endOfEpoch.l0 (k + 1) m e ep (i : Int) = impl_endOfEpoch.l0 k m e ep ((i : Int) - 1)
      rw [impl_endOfEpoch.l0, if_pos (by omega), if_pos (by omega), if_pos (by omega), em_nat, if_pos (by omega), wrap_id (by omega) (by omega)]
theorem sEE_ev (m : List S60) (e ep : Int) (hm : m.length ≤ 1048576) : Ev (fun k => spec_l4End.f k m e ep) (EE m e ep m.length) := by
  have h := sEE_l m e ep hm m.length (Nat.le_refl _) ((m.length : Int) - 1) e rfl (by rw [if_neg (Nat.lt_irrefl _)])
  refine Ev.congr (fun k => ?_) h
  unfold spec_l4End.f
  rw [wrap_id (by omega) (by omega)]
theorem iEE_ev (m : List S60) (e ep : Int) (hm : m.length ≤ 1048576) : Ev (fun k => impl_endOfEpoch.f k m e ep) (EE m e ep m.length) := by
  have h := iEE_l m e ep hm m.length (Nat.le_refl _) ((m.length : Int) - 1) rfl
  refine Ev.congr (fun k => ?_) h
  unfold impl_endOfEpoch.f
  rw [wrap_id (by omega) (by omega)]
theorem EE_le (m : List S60) (e ep : Int) : ∀ n, (EE m e ep n).1 ≤ ep ∨ (EE m e ep n).1 = -1
  | 0 => Or.inr rfl
  | i + 1 => by
    rw [EE]
    split
    · exact Or.inl (by assumption)
    · exact EE_le m e ep i
theorem EE_end (m : List S60) (e ep : Int) (he : 0 ≤ e) (h : ∀ x ∈ m, 0 ≤ x.f1 ∧ x.f1 ≤ e) : ∀ n, 0 ≤ (EE m e ep n).2 ∧ (EE m e ep n).2 ≤ e
  | 0 => ⟨Int.le_refl _, he⟩
  | i + 1 => by
    rw [EE]
    split
    · split
      · rename_i h2
        exact h _ (getD_mem h2 _)
      · exact ⟨he, Int.le_refl _⟩
    · exact EE_end m e ep he h i

theorem EndOfEpoch_ev (m : List S60) (hm : m.length ≤ 1048576) (e ep : Int) :
    ∃ (a b : Int) (o : Bool), Ev (fun k => spec_EndOfEpoch.f k m e ep) (a, b, o) ∧ Ev (fun k => impl_EndOfEpoch.f k m e ep) (a, b, o) := by
  obtain ⟨x, hsx, hqx⟩ := sGM_ev m hm
  obtain ⟨x', hix, hqx'⟩ := iGM_ev m hm
  obtain rfl : x' = x := Bool.eq_iff_iff.2 (hqx'.trans hqx.symm)
  have hs := sEE_ev m e ep hm
  have hi := iEE_ev m e ep hm
  unfold spec_EndOfEpoch.f impl_EndOfEpoch.f
  simp only [sin, iin, Option.bind_some]
  cases x' with
  | false => exact ⟨0, 0, false, Ev.bind hsx (Ev.ifn (by decide) (Ev.now _)), Ev.bind hix (Ev.ifn (by decide) (Ev.now _))⟩
  | true =>
    by_cases h1 : decide ((0 : Int) ≤ e ∧ e ≤ 30) = true
    · by_cases h2 : (m.length : Int) > 0
      · have h3 : wrap64 ((m.length : Int) - 1) = (m.length : Int) - 1 := wrap_id (by omega) (by omega)
        rw [h3]
        by_cases h4 : (rd_T60 m ((m.length : Int) - 1)).f1 ≥ e
        · exact ⟨0, 0, false, Ev.bind hsx (Ev.ifp rfl (Ev.ifp h1 (Ev.ifp h2 (Ev.ifp (by omega) (Ev.ifp (by omega) (Ev.ifp h4 (Ev.now _))))))), Ev.bind hix (Ev.ifp rfl (Ev.ifp h1 (Ev.ifp h2 (Ev.ifp (by omega) (Ev.ifp (by omega) (Ev.ifp h4 (Ev.now _)))))))⟩
        · by_cases h5 : decide ((0 : Int) ≤ ep ∧ ep ≤ 100) = true
          · exact ⟨_, _, true, Ev.bind hsx (Ev.ifp rfl (Ev.ifp h1 (Ev.ifp h2 (Ev.ifp (by omega) (Ev.ifp (by omega) (Ev.ifn h4 (Ev.ifp h5 (Ev.bind hs (Ev.now _))))))))), Ev.bind hix (Ev.ifp rfl (Ev.ifp h1 (Ev.ifp h2 (Ev.ifp (by omega) (Ev.ifp (by omega) (Ev.ifn h4 (Ev.ifp h5 (Ev.bind hi (Ev.now _)))))))))⟩
          · exact ⟨0, 0, false, Ev.bind hsx (Ev.ifp rfl (Ev.ifp h1 (Ev.ifp h2 (Ev.ifp (by omega) (Ev.ifp (by omega) (Ev.ifn h4 (Ev.ifn h5 (Ev.now _)))))))), Ev.bind hix (Ev.ifp rfl (Ev.ifp h1 (Ev.ifp h2 (Ev.ifp (by omega) (Ev.ifp (by omega) (Ev.ifn h4 (Ev.ifn h5 (Ev.now _))))))))⟩
      · by_cases h5 : decide ((0 : Int) ≤ ep ∧ ep ≤ 100) = true
        · exact ⟨_, _, true, Ev.bind hsx (Ev.ifp rfl (Ev.ifp h1 (Ev.ifn h2 (Ev.ifp h5 (Ev.bind hs (Ev.now _)))))), Ev.bind hix (Ev.ifp rfl (Ev.ifp h1 (Ev.ifn h2 (Ev.ifp h5 (Ev.bind hi (Ev.now _))))))⟩
        · exact ⟨0, 0, false, Ev.bind hsx (Ev.ifp rfl (Ev.ifp h1 (Ev.ifn h2 (Ev.ifn h5 (Ev.now _))))), Ev.bind hix (Ev.ifp rfl (Ev.ifp h1 (Ev.ifn h2 (Ev.ifn h5 (Ev.now _)))))⟩
    · exact ⟨0, 0, false, Ev.bind hsx (Ev.ifp rfl (Ev.ifn h1 (Ev.now _))), Ev.bind hix (Ev.ifp rfl (Ev.ifn h1 (Ev.now _)))⟩

theorem FnExactEndOfEpoch : laws_FnExactEndOfEpoch.Pure := by
  intro l0 a1 a2 hok _ _
  apply Ev.rounds
  unfold laws_FnExactEndOfEpoch.f
  refine Ev.bind (szEM_ev l0 hok.1) ?_
  by_cases hb : l0.length ≤ 1048576
  · rw [if_pos hb]
    have hb' : (l0.map cvEM).length ≤ 1048576 := by rw [List.length_map]; exact hb
    obtain ⟨x, y, o, hs, hi⟩ := EndOfEpoch_ev (l0.map cvEM) hb' a1 a2
    repeat first
      | with_reducible exact Ev.now _
      | (with_reducible refine Ev.bind (toEM_ev _ hb) ?_; try dsimp only)
      | (with_reducible refine Ev.bind (hs) ?_; try dsimp only)
      | (with_reducible refine Ev.bind (hi) ?_; try dsimp only)
      | (with_reducible refine Ev.bind (eqEM_ev _ hb') ?_; try dsimp only)
      | (with_reducible refine Ev.ifp ?hc ?_; (case hc => first | rfl | omega | (simp; done)))
      | (with_reducible refine Ev.ifn ?hc ?_; (case hc => first | decide | omega | (simp; done)))
      | (with_reducible refine Ev.succ (g := fun k_ => laws_FnExactEndOfEpoch.j0 k_ _ _ _) ?_; simp only [laws_FnExactEndOfEpoch.j0])
  · rw [if_neg hb]
    exact Ev.ifp (by decide) (Ev.now _)

end Go.Proofs.Ytopddfiiglookaa.Pure
