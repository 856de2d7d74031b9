/- CutMarks of the program answers as the reference's, for all marks and places; it turns no argument, and what it answers owns its memory. Conditions: none but the statement's own. -/
import Derived.Test.YtopddfiiglookaaQFnExactCutMarksx6
namespace Go.Proofs.Ytopddfiiglookaa.Pure
open Go.RowKit Go.Proofs.Ytopddfiiglookaa.QFnExactCutMarks Go.Proofs.YtopddfiiglookaaW.PrintWords Go.Proofs.YtopddfiiglookaaW.PrintLast Go.Proofs.YtopddfiiglookaaW.PrintMore
set_option linter.unusedVariables false
set_option linter.unusedSimpArgs false
/-! #### words -/
theorem Ev.succ {α : Type} {g : Nat → Option α} {r : α} (k : Ev (fun n => g (n + 1)) r) : Ev g r := Ev.step (fun _ => rfl) k
theorem Ev.ifp {α : Type} {c : Prop} [Decidable c] {f g : Nat → Option α} {r : α} (h : c) (k : Ev f r) : Ev (fun n => if c then f n else g n) r := Ev.congr (fun n => if_pos h) k
theorem Ev.ifn {α : Type} {c : Prop} [Decidable c] {f g : Nat → Option α} {r : α} (h : ¬ c) (k : Ev g r) : Ev (fun n => if c then f n else g n) r := Ev.congr (fun n => if_neg h) k
theorem Ev.uniq {α : Type} {g : Nat → Option α} {r q : α} (h : Ev g r) (k : Ev g q) : r = q := by
  obtain ⟨a, ha⟩ := h
  obtain ⟨b, hb⟩ := k
  have h1 := ha (max a b) (Nat.le_max_left _ _)
  have h2 := hb (max a b) (Nat.le_max_right _ _)
  rw [h1] at h2
  exact Option.some.inj h2
/-- It answers a Bool that tells whether Q. -/
def EvB (g : Nat → Option Bool) (Q : Prop) : Prop := ∃ b : Bool, Ev g b ∧ (b = true ↔ Q)
theorem EvB.step {g f : Nat → Option Bool} {Q : Prop} (h : ∀ k, g (k + 1) = f k) (k : EvB f Q) : EvB g Q := by
  obtain ⟨b, hb, hq⟩ := k
  exact ⟨b, Ev.step h hb, hq⟩
theorem EvB.iff {g : Nat → Option Bool} {Q R : Prop} (k : EvB g Q) (h : Q ↔ R) : EvB g R := by
  obtain ⟨b, hb, hq⟩ := k
  exact ⟨b, hb, hq.trans h⟩
theorem EvB.no {g : Nat → Option Bool} {Q : Prop} (h : ∀ k, g (k + 1) = some false) (hq : ¬ Q) : EvB g Q := ⟨false, Ev.step (f := fun _ => some false) h (Ev.now _), Iff.intro (fun h => by cases h) (fun h => absurd h hq)⟩
theorem EvB.yes {g : Nat → Option Bool} {Q : Prop} (h : ∀ k, g (k + 1) = some true) (hq : Q) : EvB g Q := ⟨true, Ev.step (f := fun _ => some true) h (Ev.now _), ⟨fun _ => hq, fun _ => rfl⟩⟩
theorem EvB.ev {g : Nat → Option Bool} {Q : Prop} [Decidable Q] (k : EvB g Q) : Ev g (decide Q) := by
  obtain ⟨b, hb, hq⟩ := k
  have : b = decide Q := by
    by_cases h : Q
    · rw [hq.2 h, decide_eq_true h]
    · rw [decide_eq_false h]
      cases b with
      | false => rfl
      | true => exact absurd (hq.1 rfl) h
  rw [← this]
  exact hb
theorem EvB.get {g : Nat → Option Bool} {Q : Prop} (k : EvB g Q) (h : Q) : Ev g true := by
  obtain ⟨b, hb, hq⟩ := k
  rw [← hq.2 h]
  exact hb
theorem EvB.not {g : Nat → Option Bool} {Q : Prop} (k : EvB g Q) (h : ¬ Q) : Ev g false := by
  obtain ⟨b, hb, hq⟩ := k
  cases b with
  | false => exact hb
  | true => exact absurd (hq.1 rfl) h
theorem wrap_id {x : Int} (h0 : -9223372036854775808 ≤ x) (h1 : x ≤ 9223372036854775807) : wrap64 x = x := by
  unfold wrap64
  omega
theorem succ_wrap {i : Nat} (h : i ≤ 9000000000000000000) : wrap64 ((i : Int) + 1) = ((i + 1 : Nat) : Int) := by
  rw [wrap_id (by omega) (by omega)]
  omega
theorem pred_wrap {i : Nat} (h0 : 0 < i) (h : i ≤ 9000000000000000000) : wrap64 ((i : Int) - 1) = ((i - 1 : Nat) : Int) := by
  rw [wrap_id (by omega) (by omega)]
  omega
theorem pred_zero : wrap64 (((0 : Nat) : Int) - 1) = -1 := by
  unfold wrap64
  omega
theorem rd_nat (l : List Int) (i : Nat) : rd l (i : Int) = l.getD i 0 := rfl
theorem tn_nat (i : Nat) : ((i : Int)).toNat = i := rfl
theorem len_nat {α : Type} (l : List α) {k : Nat} (h : l.length ≤ k) : ¬ ((l.length : Int) > (k : Int)) := by omega

/-- A list is made, element by element. -/
theorem conv_ev {β : Type} (n : Nat) (F : List β → Nat → Nat → Option (List β)) (c : Nat → β) (h1 : ∀ x : List β, x.length = n → Ev (F x n) x)
    (h2 : ∀ (x : List β) (i : Nat), i < n → x.length = n → ∀ r, Ev (F (x.set i (c i)) (i + 1)) r → Ev (F x i) r) : ∀ x0 : List β, x0.length = n → Ev (F x0 0) ((List.range n).map c) := by
  have key : ∀ d i (x : List β), i + d = n → x.length = n → Ev (F x i) (x.take i ++ (List.range d).map fun j => c (i + j)) := by
    intro d
    induction d with
    | zero =>
      intro i x hd hx
      have hi : i = n := by omega
      subst hi
      have : x.take i ++ (List.range 0).map (fun j => c (i + j)) = x := by
        rw [List.take_of_length_le (by omega)]
        simp
      rw [this]
      exact h1 x hx
    | succ d ih =>
      intro i x hd hx
      have hi : i < n := by omega
      have := ih (i + 1) (x.set i (c i)) (by omega) (by rw [List.length_set]; exact hx)
      have e : (x.set i (c i)).take (i + 1) ++ (List.range d).map (fun j => c (i + 1 + j)) = x.take i ++ (List.range (d + 1)).map (fun j => c (i + j)) := by
        rw [List.range_succ_eq_map, List.map_cons, List.map_map]
        have ht : (x.set i (c i)).take (i + 1) = x.take i ++ [c i] := by
          rw [List.take_succ_eq_append_getElem (by rw [List.length_set]; omega)]
          rw [List.take_set_of_le (Nat.le_refl _), List.getElem_set_self]
        rw [ht, List.append_assoc]
        congr 1
        rw [List.singleton_append]
        congr 1
        apply List.map_congr_left
        intro j _
        show c (i + 1 + j) = c (i + (j + 1))
        congr 1
        omega
      rw [e] at this
      exact h2 x i hi hx _ this
  intro x0 hx0
  have := key n 0 x0 (by omega) hx0
  rw [List.take_zero, List.nil_append] at this
  have e : (fun j => c (0 + j)) = c := by
    funext j
    rw [Nat.zero_add]
  rw [e] at this
  exact this

/-- Two rows are held against each other, element by element. -/
theorem all_ev (n : Nat) (F : Nat → Nat → Option Bool) (h1 : Ev (F n) true) (h2 : ∀ i, i < n → Ev (F (i + 1)) true → Ev (F i) true) : Ev (F 0) true := by
  have key : ∀ d i, i + d = n → Ev (F i) true := by
    intro d
    induction d with
    | zero =>
      intro i hd
      have hi : i = n := by omega
      subst hi
      exact h1
    | succ d ih =>
      intro i hd
      exact h2 i (by omega) (ih (i + 1) (by omega))
  exact key n 0 (by omega)

/-- The elements are numbered through; and so they are found. -/
def markL {β : Type} (mk : β → Nat → β) (cnt : β → Nat) : List β → Nat → List β
  | [], _ => []
  | b :: r, m => mk b m :: markL mk cnt r (m + cnt b)
def cntL {β : Type} (cnt : β → Nat) : List β → Nat
  | [] => 0
  | b :: r => cnt b + cntL cnt r
theorem markL_length {β : Type} (mk : β → Nat → β) (cnt : β → Nat) : ∀ (l : List β) (m : Nat), (markL mk cnt l m).length = l.length
  | [], _ => rfl
  | b :: r, m => by
    show (markL mk cnt r _).length + 1 = r.length + 1
    rw [markL_length mk cnt r]
theorem cntL_le {β : Type} (cnt : β → Nat) (c : Nat) : ∀ l : List β, (∀ b ∈ l, cnt b ≤ c) → cntL cnt l ≤ c * l.length
  | [], _ => Nat.zero_le _
  | b :: r, h => by
    have h1 := cntL_le cnt c r (fun x hx => h x (List.mem_cons_of_mem _ hx))
    have h2 := h b List.mem_cons_self
    show cnt b + cntL cnt r ≤ c * (r.length + 1)
    rw [Nat.mul_add, Nat.mul_one]
    omega
theorem mark_ev {β : Type} (z : β) (mk : β → Nat → β) (cnt : β → Nat) (B n : Nat) (F : List β → Nat → Nat → Nat → Option (Int × List β)) (h1 : ∀ (x : List β) (m : Nat), x.length = n → Ev (F x m n) ((m : Int), x))
    (h2 : ∀ (x : List β) (m i : Nat), x.length = n → i < n → m + cnt (x.getD i z) ≤ B → ∀ r, Ev (F (x.set i (mk (x.getD i z) m)) (m + cnt (x.getD i z)) (i + 1)) r → Ev (F x m i) r) :
    ∀ (x : List β) (m : Nat), x.length = n → m + cntL cnt x ≤ B → Ev (F x m 0) (((m + cntL cnt x : Nat) : Int), markL mk cnt x m) := by
  have key : ∀ (rest done : List β) (m : Nat), done.length + rest.length = n → m + cntL cnt rest ≤ B → Ev (F (done ++ rest) m done.length) (((m + cntL cnt rest : Nat) : Int), done ++ markL mk cnt rest m) := by
    intro rest
    induction rest with
    | nil =>
      intro done m hn _
      have hn' : done.length = n := hn
      have := h1 done m hn'
      rw [← hn'] at this
      rw [List.append_nil]
      show Ev _ (((m + 0 : Nat) : Int), done ++ [])
      rw [List.append_nil]
      exact this
    | cons b r ih =>
      intro done m hn hm
      have hn' : done.length + (r.length + 1) = n := hn
      have hm' : m + (cnt b + cntL cnt r) ≤ B := hm
      have hg : (done ++ b :: r).getD done.length z = b := by simp [List.getD]
      have hs : (done ++ b :: r).set done.length (mk b m) = (done ++ [mk b m]) ++ r := by simp [List.set_append]
      have := ih (done ++ [mk b m]) (m + cnt b) (by rw [List.length_append, List.length_singleton]; omega) (by omega)
      refine h2 _ m done.length (by simp; omega) (by omega) (by rw [hg]; omega) _ ?_
      rw [hg, hs]
      rw [List.length_append, List.length_singleton] at this
      have e : m + cnt b + cntL cnt r = m + (cnt b + cntL cnt r) := by omega
      have e2 : done ++ [mk b m] ++ markL mk cnt r (m + cnt b) = done ++ (mk b m :: markL mk cnt r (m + cnt b)) := by rw [List.append_assoc, List.singleton_append]
      rw [e, e2] at this
      exact this
  intro x m hn hm
  exact key x [] m (by simpa using hn) hm
theorem held_ev {β : Type} (z : β) (mk : β → Nat → β) (cnt : β → Nat) (B n : Nat) (H : List β → Nat → Nat → Nat → Option Int) (h1 : ∀ (x : List β) (m : Nat), x.length = n → Ev (H x m n) (m : Int))
    (h2 : ∀ (x : List β) (m i : Nat) (b : β), x.length = n → i < n → x.getD i z = mk b m → m + cnt b ≤ B → ∀ r, Ev (H x (m + cnt b) (i + 1)) r → Ev (H x m i) r) :
    ∀ (x : List β) (m : Nat), x.length = n → m + cntL cnt x ≤ B → Ev (H (markL mk cnt x m) m 0) ((m + cntL cnt x : Nat) : Int) := by
  have key : ∀ (rest done : List β) (m : Nat), done.length + rest.length = n → m + cntL cnt rest ≤ B → Ev (H (done ++ markL mk cnt rest m) m done.length) ((m + cntL cnt rest : Nat) : Int) := by
    intro rest
    induction rest with
    | nil =>
      intro done m hn _
      have hn' : done.length = n := hn
      have := h1 done m hn'
      rw [← hn'] at this
      show Ev (H (done ++ []) m done.length) _
      rw [List.append_nil]
      exact this
    | cons b r ih =>
      intro done m hn hm
      have hn' : done.length + (r.length + 1) = n := hn
      have hm' : m + (cnt b + cntL cnt r) ≤ B := hm
      have := ih (done ++ [mk b m]) (m + cnt b) (by rw [List.length_append, List.length_singleton]; omega) (by omega)
      show Ev (H (done ++ (mk b m :: markL mk cnt r (m + cnt b))) m done.length) _
      refine h2 _ m done.length b (by simp [markL_length]; omega) (by omega) (by simp [List.getD]) (by omega) _ ?_
      rw [List.length_append, List.length_singleton, List.append_assoc, List.singleton_append] at this
      have e : m + cnt b + cntL cnt r = m + (cnt b + cntL cnt r) := by omega
      rw [e] at this
      exact this
  intro x m hn hm
  exact key x [] m (by simpa using hn) hm

theorem map_range_getD {α β : Type} (l : List α) (z : α) (f : α → β) : (List.range l.length).map (fun i => f (l.getD i z)) = l.map f := by
  apply List.ext_getElem
  · simp
  · intro i h1 h2
    simp at h1 h2
    simp [h2]
theorem map_range_self {α : Type} (l : List α) (z : α) : (List.range l.length).map (fun i => l.getD i z) = l := by
  have := map_range_getD l z id
  simpa using this
theorem getD_mem {α : Type} {l : List α} {i : Nat} (h : i < l.length) (z : α) : l.getD i z ∈ l := by
  rw [List.getD_eq_getElem?_getD, List.getElem?_eq_getElem h, Option.getD_some]
  exact List.getElem_mem h

/-! #### []EpochMark -/
def cvEM (x : S62) : S60 := ⟨x.f0, x.f1⟩
theorem szEM_ev (l : List S62) (hl : l.length ≤ maxLen) : Ev (fun _ => laws_szEpochMarkS.f l 1048576) (if l.length ≤ 1048576 then 1048576 - (l.length : Int) else -1) := by
  have h : l.length ≤ 9223372036854775807 := hl
  refine Ev.congr (fun _ => ?_) (Ev.now _)
  unfold laws_szEpochMarkS.f
  rw [wrap_id (by omega) (by omega)]
  by_cases hc : l.length ≤ 1048576
  · rw [if_neg (by omega), if_pos hc]
  · rw [if_pos (by omega), if_neg hc]
theorem toEM_ev (l : List S62) (hl : l.length ≤ 1048576) : Ev (fun k => laws_toEpochMarkS.f k l) (l.map cvEM) := by
  have h := conv_ev l.length (fun x i k => laws_toEpochMarkS.l0 k l x (i : Int)) (fun i => cvEM (l.getD i z62))
    (fun x hx => Ev.step (f := fun _ => some x) (fun k => by
      show laws_toEpochMarkS.l0 (k + 1) l x ((l.length : Nat) : Int) = some x
      rw [laws_toEpochMarkS.l0, if_neg (by omega)]) (Ev.now _))
    (fun x i hi hx r hr => Ev.step (fun k => by
      show laws_toEpochMarkS.l0 (k + 1) l x (i : Int) = laws_toEpochMarkS.l0 k l (x.set i (cvEM (l.getD i z62))) ((i + 1 : Nat) : Int)
      rw [laws_toEpochMarkS.l0, if_pos (by omega), if_pos (by omega)]
      unfold laws_toEpochMark.f
      rw [Option.bind_some, if_pos (by omega), succ_wrap (by omega)]
      rfl) hr)
    (List.replicate l.length z60) (by simp)
  rw [map_range_getD] at h
  refine Ev.congr (fun k => ?_) h
  unfold laws_toEpochMarkS.f
  rw [if_pos (by omega), if_pos (by rw [tn_nat]; omega)]
  rfl

theorem eqEM_ev (l : List S60) (hl : l.length ≤ 1048576) : Ev (fun k => laws_eqEpochMarkS.f k l l) true := by
  have h := all_ev l.length (fun i k => laws_eqEpochMarkS.l0 k l l (i : Int))
    (Ev.step (f := fun _ => some true) (fun k => by
      show laws_eqEpochMarkS.l0 (k + 1) l l ((l.length : Nat) : Int) = some true
      rw [laws_eqEpochMarkS.l0, if_neg (by omega)]) (Ev.now _))
    (fun i hi hr => Ev.step (fun k => by
      show laws_eqEpochMarkS.l0 (k + 1) l l (i : Int) = laws_eqEpochMarkS.l0 k l l ((i + 1 : Nat) : Int)
      rw [laws_eqEpochMarkS.l0, if_pos (by omega), if_pos (by omega), if_pos (by omega)]
      unfold laws_eqEpochMark.f
      rw [if_pos rfl, if_pos rfl, Option.bind_some, if_pos rfl, succ_wrap (by omega)]) hr)
  refine Ev.congr (fun k => ?_) h
  unfold laws_eqEpochMarkS.f
  rw [if_pos rfl]
  rfl

def mkEM (_ : S60) (n : Nat) : S60 := ⟨(n : Int), ((n + 1 : Nat) : Int)⟩
theorem markEM_ev (l : List S60) (hl : l.length ≤ 1048576) (m : Nat) (hm : m ≤ 1000000000000) :
    Ev (fun k => laws_markEpochMarkS.f k l (m : Int)) (((m + cntL (fun _ => 2) l : Nat) : Int), markL mkEM (fun _ => 2) l m) := by
  have hc := cntL_le (fun _ : S60 => 2) 2 l (fun _ _ => Nat.le_refl _)
  exact mark_ev z60 mkEM (fun _ => 2) 2000000000000 l.length (fun x m i k => laws_markEpochMarkS.l0 k x (m : Int) (i : Int))
    (fun x m hx => Ev.step (f := fun _ => some ((m : Int), x)) (fun k => by
      show laws_markEpochMarkS.l0 (k + 1) x (m : Int) ((l.length : Nat) : Int) = _
      rw [laws_markEpochMarkS.l0, if_neg (by omega)]) (Ev.now _))
    (fun x m i hx hi hb r hr => Ev.step (fun k => by
      show laws_markEpochMarkS.l0 (k + 1) x (m : Int) (i : Int) = laws_markEpochMarkS.l0 k (x.set i (mkEM (x.getD i z60) m)) ((m + 2 : Nat) : Int) ((i + 1 : Nat) : Int)
      rw [laws_markEpochMarkS.l0, if_pos (by omega), if_pos (by omega), Option.bind_some, succ_wrap (i := m) (by omega), succ_wrap (i := m + 1) (by omega), succ_wrap (i := i) (by omega), tn_nat, List.set_set]
      have e : (rd_T60 (x.set i (⟨(m : Int), (rd_T60 x (i : Int)).f1⟩ : S60)) (i : Int)).f0 = (m : Int) := by
        show ((x.set i (⟨(m : Int), (rd_T60 x (i : Int)).f1⟩ : S60)).getD i z60).f0 = _
        rw [List.getD_eq_getElem?_getD, List.getElem?_set_self (by omega)]
        rfl
      rw [e]
      rfl) hr) l m rfl (by omega)
theorem heldEM_ev (l : List S60) (hl : l.length ≤ 1048576) (m : Nat) (hm : m ≤ 1000000000000) :
    Ev (fun k => laws_heldEpochMarkS.f k (markL mkEM (fun _ => 2) l m) (m : Int)) ((m + cntL (fun _ => 2) l : Nat) : Int) := by
  have hc := cntL_le (fun _ : S60 => 2) 2 l (fun _ _ => Nat.le_refl _)
  exact held_ev z60 mkEM (fun _ => 2) 2000000000000 l.length (fun x m i k => laws_heldEpochMarkS.l0 k x (m : Int) (i : Int))
    (fun x m hx => Ev.step (f := fun _ => some (m : Int)) (fun k => by
      show laws_heldEpochMarkS.l0 (k + 1) x (m : Int) ((l.length : Nat) : Int) = _
      rw [laws_heldEpochMarkS.l0, if_neg (by omega)]) (Ev.now _))
    (fun x m i b hx hi hg hb r hr => Ev.step (fun k => by
      show laws_heldEpochMarkS.l0 (k + 1) x (m : Int) (i : Int) = laws_heldEpochMarkS.l0 k x ((m + 2 : Nat) : Int) ((i + 1 : Nat) : Int)
      have e : rd_T60 x (i : Int) = mkEM b m := hg
      rw [laws_heldEpochMarkS.l0, if_pos (by omega), if_pos (by omega), e, succ_wrap (i := m) (by omega), if_pos (show (mkEM b m).f0 = (m : Int) from rfl), if_pos (show (mkEM b m).f1 = ((m + 1 : Nat) : Int) from rfl), succ_wrap (i := m + 1) (by omega), succ_wrap (i := i) (by omega)]) hr) l m rfl (by omega)

theorem iin (a b c : Int) : impl_in.f a b c = some (decide (b ≤ a ∧ a ≤ c)) := by
  unfold impl_in.f
  by_cases h : a ≥ b
  · rw [if_pos h]
    have e : (b ≤ a ∧ a ≤ c) ↔ a ≤ c := ⟨fun h => h.2, fun h' => ⟨h, h'⟩⟩
    simp only [e]
  · rw [if_neg h, decide_eq_false]
    intro h'
    exact h h'.1

/-! #### a number between two -/
theorem sin (a b c : Int) : spec_l1In.f a b c = some (decide (b ≤ a ∧ a ≤ c)) := by
  unfold spec_l1In.f
  by_cases h : a ≥ b
  · rw [if_pos h]
    have e : (b ≤ a ∧ a ≤ c) ↔ a ≤ c := ⟨fun h => h.2, fun h' => ⟨h, h'⟩⟩
    simp only [e]
  · rw [if_neg h, decide_eq_false]
    intro h'
    exact h h'.1

theorem em_nat (l : List S60) (i : Nat) : rd_T60 l (i : Int) = l.getD i z60 := rfl

/-! #### good marks -/
def PM (l : List S60) (j : Nat) : Prop := (0 ≤ (l.getD j z60).f0 ∧ (l.getD j z60).f0 ≤ 100) ∧ (0 ≤ (l.getD j z60).f1 ∧ (l.getD j z60).f1 ≤ 29) ∧
  (0 < j → (l.getD (j - 1) z60).f0 < (l.getD j z60).f0 ∧ (l.getD (j - 1) z60).f1 < (l.getD j z60).f1)
def GM (l : List S60) : Prop := l.length ≤ 30 ∧ ∀ j, j < l.length → PM l j

theorem sGM_l (l : List S60) (hl : l.length ≤ 1048576) : ∀ d i : Nat, i + d = l.length →
    EvB (fun k => spec_GoodMarks.l0 k l l (l.length : Int) (i : Int)) (l.length ≤ 30 ∧ ∀ j, i ≤ j → j < l.length → PM l j)
  | 0, i, hd => by
    refine ⟨decide ((l.length : Int) ≤ 30), Ev.step (f := fun _ => some (decide ((l.length : Int) ≤ 30))) (fun k => by rw [spec_GoodMarks.l0, if_neg (by omega)]) (Ev.now _), ?_⟩
    rw [decide_eq_true_iff]
    exact ⟨fun h => ⟨by omega, fun j h1 h2 => by omega⟩, fun h => by omega⟩
  | d + 1, i, hd => by
    by_cases hr : 0 ≤ (l.getD i z60).f0 ∧ (l.getD i z60).f0 ≤ 100
    · by_cases hs : 0 ≤ (l.getD i z60).f1 ∧ (l.getD i z60).f1 ≤ 29
      · by_cases hi : 0 < i
        · by_cases hp : (l.getD (i - 1) z60).f0 ≥ (l.getD i z60).f0
          · refine EvB.no (fun k => ?_) (fun h => ?_)
            · rw [spec_GoodMarks.l0, if_pos (by omega), if_pos (by omega), if_pos (by omega), sin, em_nat, decide_eq_true hr, Option.bind_some, if_pos rfl, sin, decide_eq_true hs, Option.bind_some, if_pos rfl, if_pos (by omega), pred_wrap hi (by omega), if_pos (by omega), if_pos (by omega), em_nat, if_pos hp]
            · have := ((h.2 i (Nat.le_refl _) (by omega)).2.2 hi).1
              omega
          · by_cases hq : (l.getD (i - 1) z60).f1 ≥ (l.getD i z60).f1
            · refine EvB.no (fun k => ?_) (fun h => ?_)
              · rw [spec_GoodMarks.l0, if_pos (by omega), if_pos (by omega), if_pos (by omega), sin, em_nat, decide_eq_true hr, Option.bind_some, if_pos rfl, sin, decide_eq_true hs, Option.bind_some, if_pos rfl, if_pos (by omega), pred_wrap hi (by omega), if_pos (by omega), if_pos (by omega), em_nat, if_neg hp, if_pos hq]
              · have := ((h.2 i (Nat.le_refl _) (by omega)).2.2 hi).2
                omega
            · refine EvB.step (fun k => ?_) (EvB.iff (sGM_l l hl d (i + 1) (by omega)) ?_)
              · show spec_GoodMarks.l0 (k + 1) l l (l.length : Int) (i : Int) = spec_GoodMarks.l0 k l l (l.length : Int) ((i + 1 : Nat) : Int)
                rw [spec_GoodMarks.l0, if_pos (by omega), if_pos (by omega), if_pos (by omega), sin, em_nat, decide_eq_true hr, Option.bind_some, if_pos rfl, sin, decide_eq_true hs, Option.bind_some, if_pos rfl, if_pos (by omega), pred_wrap hi (by omega), if_pos (by omega), if_pos (by omega), em_nat, if_neg hp, if_neg hq, succ_wrap (by omega)]
              · refine and_congr_right fun _ => ⟨fun h j h1 h2 => ?_, fun h j h1 h2 => h j (by omega) h2⟩
                by_cases e : j = i
                · subst e
                  exact ⟨hr, hs, fun _ => ⟨by omega, by omega⟩⟩
                · exact h j (by omega) h2
        · have h0 : i = 0 := by omega
          subst h0
          refine EvB.step (fun k => ?_) (EvB.iff (sGM_l l hl d 1 (by omega)) ?_)
          · show spec_GoodMarks.l0 (k + 1) l l (l.length : Int) ((0 : Nat) : Int) = spec_GoodMarks.l0 k l l (l.length : Int) ((0 + 1 : Nat) : Int)
            rw [spec_GoodMarks.l0, if_pos (by omega), if_pos (by omega), if_pos (by omega), sin, em_nat, decide_eq_true hr, Option.bind_some, if_pos rfl, sin, decide_eq_true hs, Option.bind_some, if_pos rfl, if_neg (by omega), succ_wrap (by omega)]
          · refine and_congr_right fun _ => ⟨fun h j h1 h2 => ?_, fun h j h1 h2 => h j (by omega) h2⟩
            by_cases e : j = 0
            · subst e
              exact ⟨hr, hs, fun h => absurd h (Nat.lt_irrefl _)⟩
            · exact h j (by omega) h2
      · refine EvB.no (fun k => ?_) (fun h => hs (h.2 i (Nat.le_refl _) (by omega)).2.1)
        rw [spec_GoodMarks.l0, if_pos (by omega), if_pos (by omega), if_pos (by omega), sin, em_nat, decide_eq_true hr, Option.bind_some, if_pos rfl, sin, decide_eq_false hs, Option.bind_some, if_neg (by decide)]
    · refine EvB.no (fun k => ?_) (fun h => hr (h.2 i (Nat.le_refl _) (by omega)).1)
      rw [spec_GoodMarks.l0, if_pos (by omega), if_pos (by omega), if_pos (by omega), sin, em_nat, decide_eq_false hr, Option.bind_some, if_neg (by decide)]
theorem sGM_ev (l : List S60) (hl : l.length ≤ 1048576) : EvB (fun k => spec_GoodMarks.f k l) (GM l) := by
  have h := sGM_l l hl l.length 0 (by omega)
  exact h.iff ⟨fun h => ⟨h.1, fun j hj => h.2 j (Nat.zero_le _) hj⟩, fun h => ⟨h.1, fun j _ hj => h.2 j hj⟩⟩

theorem iGM_l (l : List S60) (hl : l.length ≤ 1048576) : ∀ d i : Nat, i + d = l.length →
    EvB (fun k => impl_areMarks.l0 k l l (l.length : Int) (i : Int)) (l.length ≤ 30 ∧ ∀ j, i ≤ j → j < l.length → PM l j)
  | 0, i, hd => by
    refine ⟨decide ((l.length : Int) ≤ 30), Ev.step (f := fun _ => some (decide ((l.length : Int) ≤ 30))) (fun k => by rw [impl_areMarks.l0, if_neg (by omega)]) (Ev.now _), ?_⟩
    rw [decide_eq_true_iff]
    exact ⟨fun h => ⟨by omega, fun j h1 h2 => by omega⟩, fun h => by omega⟩
  | d + 1, i, hd => by
    by_cases hr : 0 ≤ (l.getD i z60).f0 ∧ (l.getD i z60).f0 ≤ 100
    · by_cases hs : 0 ≤ (l.getD i z60).f1 ∧ (l.getD i z60).f1 ≤ 29
      · by_cases hi : 0 < i
        · by_cases hp : (l.getD (i - 1) z60).f0 ≥ (l.getD i z60).f0
          · refine EvB.no (fun k => ?_) (fun h => ?_)
            · rw [impl_areMarks.l0, if_pos (by omega), if_pos (by omega), if_pos (by omega), iin, em_nat, decide_eq_true hr, Option.bind_some, if_pos rfl, iin, decide_eq_true hs, Option.bind_some, if_pos rfl, if_pos (by omega), pred_wrap hi (by omega), if_pos (by omega), if_pos (by omega), em_nat, if_pos hp]
            · have := ((h.2 i (Nat.le_refl _) (by omega)).2.2 hi).1
              omega
          · by_cases hq : (l.getD (i - 1) z60).f1 ≥ (l.getD i z60).f1
            · refine EvB.no (fun k => ?_) (fun h => ?_)
              · rw [impl_areMarks.l0, if_pos (by omega), if_pos (by omega), if_pos (by omega), iin, em_nat, decide_eq_true hr, Option.bind_some, if_pos rfl, iin, decide_eq_true hs, Option.bind_some, if_pos rfl, if_pos (by omega), pred_wrap hi (by omega), if_pos (by omega), if_pos (by omega), em_nat, if_neg hp, if_pos hq]
              · have := ((h.2 i (Nat.le_refl _) (by omega)).2.2 hi).2
                omega
            · refine EvB.step (fun k => ?_) (EvB.iff (iGM_l l hl d (i + 1) (by omega)) ?_)
              · show impl_areMarks.l0 (k + 1) l l (l.length : Int) (i : Int) = impl_areMarks.l0 k l l (l.length : Int) ((i + 1 : Nat) : Int)
                rw [impl_areMarks.l0, if_pos (by omega), if_pos (by omega), if_pos (by omega), iin, em_nat, decide_eq_true hr, Option.bind_some, if_pos rfl, iin, decide_eq_true hs, Option.bind_some, if_pos rfl, if_pos (by omega), pred_wrap hi (by omega), if_pos (by omega), if_pos (by omega), em_nat, if_neg hp, if_neg hq, succ_wrap (by omega)]
              · refine and_congr_right fun _ => ⟨fun h j h1 h2 => ?_, fun h j h1 h2 => h j (by omega) h2⟩
                by_cases e : j = i
                · subst e
                  exact ⟨hr, hs, fun _ => ⟨by omega, by omega⟩⟩
                · exact h j (by omega) h2
        · have h0 : i = 0 := by omega
          subst h0
          refine EvB.step (fun k => ?_) (EvB.iff (iGM_l l hl d 1 (by omega)) ?_)
          · show impl_areMarks.l0 (k + 1) l l (l.length : Int) ((0 : Nat) : Int) = impl_areMarks.l0 k l l (l.length : Int) ((0 + 1 : Nat) : Int)
            rw [impl_areMarks.l0, if_pos (by omega), if_pos (by omega), if_pos (by omega), iin, em_nat, decide_eq_true hr, Option.bind_some, if_pos rfl, iin, decide_eq_true hs, Option.bind_some, if_pos rfl, if_neg (by omega), succ_wrap (by omega)]
          · refine and_congr_right fun _ => ⟨fun h j h1 h2 => ?_, fun h j h1 h2 => h j (by omega) h2⟩
            by_cases e : j = 0
            · subst e
              exact ⟨hr, hs, fun h => absurd h (Nat.lt_irrefl _)⟩
            · exact h j (by omega) h2
      · refine EvB.no (fun k => ?_) (fun h => hs (h.2 i (Nat.le_refl _) (by omega)).2.1)
        rw [impl_areMarks.l0, if_pos (by omega), if_pos (by omega), if_pos (by omega), iin, em_nat, decide_eq_true hr, Option.bind_some, if_pos rfl, iin, decide_eq_false hs, Option.bind_some, if_neg (by decide)]
    · refine EvB.no (fun k => ?_) (fun h => hr (h.2 i (Nat.le_refl _) (by omega)).1)
      rw [impl_areMarks.l0, if_pos (by omega), if_pos (by omega), if_pos (by omega), iin, em_nat, decide_eq_false hr, Option.bind_some, if_neg (by decide)]
theorem iGM_ev (l : List S60) (hl : l.length ≤ 1048576) : EvB (fun k => impl_areMarks.f k l) (GM l) := by
  have h := iGM_l l hl l.length 0 (by omega)
  exact h.iff ⟨fun h => ⟨h.1, fun j hj => h.2 j (Nat.zero_le _) hj⟩, fun h => ⟨h.1, fun j _ hj => h.2 j hj⟩⟩

theorem EvB.and {P Q : Prop} [Decidable P] {g : Nat → Option Bool} (h : EvB g Q) : EvB (fun k => if decide P = true then g k else some false) (P ∧ Q) := by
  obtain ⟨b, hb, hq⟩ := h
  by_cases hp : P
  · exact ⟨b, Ev.ifp (by rw [decide_eq_true hp]) hb, ⟨fun h => ⟨hp, hq.1 h⟩, fun h => hq.2 h.2⟩⟩
  · exact ⟨false, Ev.ifn (by rw [decide_eq_false hp]; decide) (Ev.now _), Iff.intro (fun h => by cases h) (fun h => absurd h.1 hp)⟩
theorem EvB.dec {P : Prop} [Decidable P] : EvB (fun _ => some (decide P)) P := ⟨decide P, Ev.now _, decide_eq_true_iff⟩
theorem both {g f : Nat → Option Bool} {Q : Prop} (h : EvB g Q) (k : EvB f Q) : ∃ b : Bool, Ev g b ∧ Ev f b ∧ (b = true ↔ Q) := by
  obtain ⟨b, hb, hq⟩ := h
  obtain ⟨c, hc, hr⟩ := k
  obtain rfl : c = b := Bool.eq_iff_iff.2 (hr.trans hq.symm)
  exact ⟨c, hb, hc, hq⟩

/-! #### marks, cut -/
def cutM (l : List S60) (a : Int) : List S60 := l.filter fun x => !(decide (x.f1 ≥ a))
theorem sCM_l (l : List S60) (a : Int) (hl : l.length ≤ 1048576) : ∀ d i : Nat, i + d = l.length → ∀ acc : List S60, acc.length ≤ i →
    Ev (fun k => spec_CutMarks.l0 k a acc l (l.length : Int) (i : Int)) (acc ++ cutM (l.drop i) a, true)
  | 0, i, hd, acc, hc => by
    have e : i = l.length := by omega
    subst e
    rw [List.drop_length, show cutM [] a = [] from rfl, List.append_nil]
    exact Ev.step (f := fun _ => some (acc, true)) (fun k => by rw [spec_CutMarks.l0, if_neg (by omega)]) (Ev.now _)
  | d + 1, i, hd, acc, hc => by
    have hi : i < l.length := by omega
    have e : l.drop i = l.getD i z60 :: l.drop (i + 1) := by
      rw [List.drop_eq_getElem_cons hi, List.getD_eq_getElem?_getD, List.getElem?_eq_getElem hi]
      rfl
    rw [e]
    by_cases h : (l.getD i z60).f1 < a
    · have e2 : acc ++ cutM (l.getD i z60 :: l.drop (i + 1)) a = (acc ++ [l.getD i z60]) ++ cutM (l.drop (i + 1)) a := by
        have hd : decide ((l.getD i z60).f1 ≥ a) = false := decide_eq_false (by omega)
        unfold cutM
        rw [List.filter_cons, hd, List.append_assoc, List.singleton_append]
        rfl
      rw [e2]
      refine Ev.step (fun k => ?_) (sCM_l l a hl d (i + 1) (by omega) (acc ++ [l.getD i z60]) (by rw [List.length_append, List.length_singleton]; omega))
      rw [spec_CutMarks.l0, if_pos (by omega), if_pos (by omega), if_pos (by omega), em_nat, if_pos h, if_pos (by omega), succ_wrap (by omega)]
    · have e2 : cutM (l.getD i z60 :: l.drop (i + 1)) a = cutM (l.drop (i + 1)) a := by
        have hd : decide ((l.getD i z60).f1 ≥ a) = true := decide_eq_true (by omega)
        unfold cutM
        rw [List.filter_cons, hd]
        rfl
      rw [e2]
      refine Ev.step (fun k => ?_) (sCM_l l a hl d (i + 1) (by omega) acc (by omega))
      rw [spec_CutMarks.l0, if_pos (by omega), if_pos (by omega), if_pos (by omega), em_nat, if_neg h, succ_wrap (by omega)]
theorem CutMarks_ev (l : List S60) (a : Int) (hl : l.length ≤ 1048576) : ∃ (r : List S60) (b : Bool), r.length ≤ 1048576 ∧ Ev (fun k => spec_CutMarks.f k l a) (r, b) ∧ Ev (fun k => impl_CutMarks.f k l a) (r, b) := by
  obtain ⟨b, hsp, him, hq⟩ := both (sGM_ev l hl) (iGM_ev l hl)
  have no : Ev (fun k => spec_CutMarks.j0 k l a true) (([] : List S60), false) := Ev.step (f := fun _ => some ([], false)) (fun k => by rw [spec_CutMarks.j0, if_pos rfl]) (Ev.now _)
  unfold spec_CutMarks.f impl_CutMarks.f
  simp only [sin, iin, Option.bind_some]
  cases b with
  | false => exact ⟨[], false, Nat.zero_le _, Ev.bind hsp (Ev.ifn (by decide) no), Ev.bind him (Ev.ifn (by decide) (Ev.now _))⟩
  | true =>
    by_cases ha : 0 ≤ a ∧ a ≤ 30
    · rw [decide_eq_true ha]
      have h := sCM_l l a hl l.length 0 (by omega) [] (by simp)
      rw [List.drop_zero, List.nil_append] at h
      refine ⟨cutM l a, true, Nat.le_trans (List.length_filter_le _ _) hl, Ev.bind hsp (Ev.ifp rfl (Ev.step (fun k => by rw [spec_CutMarks.j0, if_neg (by decide)]; rfl) h)), Ev.bind him (Ev.ifp rfl (Ev.ifp rfl (Ev.ifp hl (Ev.now _))))⟩
    · rw [decide_eq_false ha]
      exact ⟨[], false, Nat.zero_le _, Ev.bind hsp (Ev.ifp rfl no), Ev.bind him (Ev.ifp rfl (Ev.ifn (by decide) (Ev.now _)))⟩

theorem FnExactCutMarks : laws_FnExactCutMarks.Pure := by
  intro l0 a hok _
  apply Ev.rounds
  unfold laws_FnExactCutMarks.f
  refine Ev.bind (szEM_ev l0 hok.1) ?_
  by_cases hb : l0.length ≤ 1048576
  · rw [if_pos hb]
    have hb' : (l0.map cvEM).length ≤ 1048576 := by rw [List.length_map]; exact hb
    obtain ⟨r, b, hr, hs, hi⟩ := CutMarks_ev (l0.map cvEM) a hb'
    have m1 := markEM_ev r hr 1 (by omega)
    have m2 := heldEM_ev r hr 1 (by omega)
    have m3 := markEM_ev (l0.map cvEM) hb' 1 (by omega)
    repeat first
      | with_reducible exact Ev.now _
      | (with_reducible refine Ev.bind (toEM_ev _ hb) ?_; try dsimp only)
      | (with_reducible refine Ev.bind (hs) ?_; try dsimp only)
      | (with_reducible refine Ev.bind (hi) ?_; try dsimp only)
      | (with_reducible refine Ev.bind (eqEM_ev _ hr) ?_; try dsimp only)
      | (with_reducible refine Ev.bind (eqEM_ev _ hb') ?_; try dsimp only)
      | (with_reducible refine Ev.bind (m3) ?_; try dsimp only)
      | (with_reducible refine Ev.bind (m1) ?_; try dsimp only)
      | (with_reducible refine Ev.bind (m2) ?_; try dsimp only)
      | (with_reducible refine Ev.ifp ?hc ?_; (case hc => first | rfl | omega | (simp; done)))
      | (with_reducible refine Ev.ifn ?hc ?_; (case hc => first | decide | omega | (simp; done)))
      | (with_reducible refine Ev.succ (g := fun k_ => laws_FnExactCutMarks.j0 k_ _ _ _ _ _ _ _ _) ?_; simp only [laws_FnExactCutMarks.j0])
      | (with_reducible refine Ev.succ (g := fun k_ => laws_FnExactCutMarks.j1 k_ _ _ _ _ _ _) ?_; simp only [laws_FnExactCutMarks.j1])
      | (with_reducible refine Ev.succ (g := fun k_ => laws_FnExactCutMarks.j2 k_ _ _ _) ?_; simp only [laws_FnExactCutMarks.j2])
  · rw [if_neg hb]
    exact Ev.ifp (by decide) (Ev.now _)

end Go.Proofs.Ytopddfiiglookaa.Pure
