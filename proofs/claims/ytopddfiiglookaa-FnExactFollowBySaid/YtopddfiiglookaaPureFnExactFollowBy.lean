/- FollowBy of the program answers as the reference's, for every two lists. Conditions: none but the statement's own. -/
import Derived.Test.YtopddfiiglookaaQFnExactFollowByx4
namespace Go.Proofs.Ytopddfiiglookaa.Pure
open Go.RowKit Go.Proofs.Ytopddfiiglookaa.QFnExactFollowBy Go.Proofs.YtopddfiiglookaaW.PrintWords Go.Proofs.YtopddfiiglookaaW.PrintLast Go.Proofs.YtopddfiiglookaaW.PrintMore
set_option linter.unusedVariables false
set_option linter.unusedSimpArgs false
/-! #### words -/
theorem Ev.succ {α : Type} {g : Nat → Option α} {r : α} (k : Ev (fun n => g (n + 1)) r) : Ev g r := Ev.step (fun _ => rfl) k
theorem Ev.ifp {α : Type} {c : Prop} [Decidable c] {f g : Nat → Option α} {r : α} (h : c) (k : Ev f r) : Ev (fun n => if c then f n else g n) r := Ev.congr (fun n => if_pos h) k
theorem Ev.ifn {α : Type} {c : Prop} [Decidable c] {f g : Nat → Option α} {r : α} (h : ¬ c) (k : Ev g r) : Ev (fun n => if c then f n else g n) r := Ev.congr (fun n => if_neg h) k
theorem Ev.uniq {α : Type} {g : Nat → Option α} {r q : α} (h : Ev g r) (k : Ev g q) : r = q := by
  obtain ⟨a, ha⟩ := h
  obtain ⟨b, hb⟩ := k
  have h1 := ha (max a b) (Nat.le_max_left _ _)
  have h2 := hb (max a b) (Nat.le_max_right _ _)
  rw [h1] at h2
  exact Option.some.inj h2
/-- It answers a Bool that tells whether Q. -/
def EvB (g : Nat → Option Bool) (Q : Prop) : Prop := ∃ b : Bool, Ev g b ∧ (b = true ↔ Q)
theorem EvB.step {g f : Nat → Option Bool} {Q : Prop} (h : ∀ k, g (k + 1) = f k) (k : EvB f Q) : EvB g Q := by
  obtain ⟨b, hb, hq⟩ := k
  exact ⟨b, Ev.step h hb, hq⟩
theorem EvB.iff {g : Nat → Option Bool} {Q R : Prop} (k : EvB g Q) (h : Q ↔ R) : EvB g R := by
  obtain ⟨b, hb, hq⟩ := k
  exact ⟨b, hb, hq.trans h⟩
theorem EvB.no {g : Nat → Option Bool} {Q : Prop} (h : ∀ k, g (k + 1) = some false) (hq : ¬ Q) : EvB g Q := ⟨false, Ev.step (f := fun _ => some false) h (Ev.now _), Iff.intro (fun h => by cases h) (fun h => absurd h hq)⟩
theorem EvB.yes {g : Nat → Option Bool} {Q : Prop} (h : ∀ k, g (k + 1) = some true) (hq : Q) : EvB g Q := ⟨true, Ev.step (f := fun _ => some true) h (Ev.now _), ⟨fun _ => hq, fun _ => rfl⟩⟩
theorem EvB.ev {g : Nat → Option Bool} {Q : Prop} [Decidable Q] (k : EvB g Q) : Ev g (decide Q) := by
  obtain ⟨b, hb, hq⟩ := k
  have : b = decide Q := by
    by_cases h : Q
    · rw [hq.2 h, decide_eq_true h]
    · rw [decide_eq_false h]
      cases b with
      | false => rfl
      | true => exact absurd (hq.1 rfl) h
  rw [← this]
  exact hb
theorem EvB.get {g : Nat → Option Bool} {Q : Prop} (k : EvB g Q) (h : Q) : Ev g true := by
  obtain ⟨b, hb, hq⟩ := k
  rw [← hq.2 h]
  exact hb
theorem EvB.not {g : Nat → Option Bool} {Q : Prop} (k : EvB g Q) (h : ¬ Q) : Ev g false := by
  obtain ⟨b, hb, hq⟩ := k
  cases b with
  | false => exact hb
  | true => exact absurd (hq.1 rfl) h
theorem wrap_id {x : Int} (h0 : -9223372036854775808 ≤ x) (h1 : x ≤ 9223372036854775807) : wrap64 x = x := by
  unfold wrap64
  omega
theorem succ_wrap {i : Nat} (h : i ≤ 9000000000000000000) : wrap64 ((i : Int) + 1) = ((i + 1 : Nat) : Int) := by
  rw [wrap_id (by omega) (by omega)]
  omega
theorem pred_wrap {i : Nat} (h0 : 0 < i) (h : i ≤ 9000000000000000000) : wrap64 ((i : Int) - 1) = ((i - 1 : Nat) : Int) := by
  rw [wrap_id (by omega) (by omega)]
  omega
theorem pred_zero : wrap64 (((0 : Nat) : Int) - 1) = -1 := by
  unfold wrap64
  omega
theorem rd_nat (l : List Int) (i : Nat) : rd l (i : Int) = l.getD i 0 := rfl
theorem tn_nat (i : Nat) : ((i : Int)).toNat = i := rfl
theorem len_nat {α : Type} (l : List α) {k : Nat} (h : l.length ≤ k) : ¬ ((l.length : Int) > (k : Int)) := by omega

/-- A list is made, element by element. -/
theorem conv_ev {β : Type} (n : Nat) (F : List β → Nat → Nat → Option (List β)) (c : Nat → β) (h1 : ∀ x : List β, x.length = n → Ev (F x n) x)
    (h2 : ∀ (x : List β) (i : Nat), i < n → x.length = n → ∀ r, Ev (F (x.set i (c i)) (i + 1)) r → Ev (F x i) r) : ∀ x0 : List β, x0.length = n → Ev (F x0 0) ((List.range n).map c) := by
  have key : ∀ d i (x : List β), i + d = n → x.length = n → Ev (F x i) (x.take i ++ (List.range d).map fun j => c (i + j)) := by
    intro d
    induction d with
    | zero =>
      intro i x hd hx
      have hi : i = n := by omega
      subst hi
      have : x.take i ++ (List.range 0).map (fun j => c (i + j)) = x := by
        rw [List.take_of_length_le (by omega)]
        simp
      rw [this]
      exact h1 x hx
    | succ d ih =>
      intro i x hd hx
      have hi : i < n := by omega
      have := ih (i + 1) (x.set i (c i)) (by omega) (by rw [List.length_set]; exact hx)
      have e : (x.set i (c i)).take (i + 1) ++ (List.range d).map (fun j => c (i + 1 + j)) = x.take i ++ (List.range (d + 1)).map (fun j => c (i + j)) := by
        rw [List.range_succ_eq_map, List.map_cons, List.map_map]
        have ht : (x.set i (c i)).take (i + 1) = x.take i ++ [c i] := by
          rw [List.take_succ_eq_append_getElem (by rw [List.length_set]; omega)]
          rw [List.take_set_of_le (Nat.le_refl _), List.getElem_set_self]
        rw [ht, List.append_assoc]
        congr 1
        rw [List.singleton_append]
        congr 1
        apply List.map_congr_left
        intro j _
        show c (i + 1 + j) = c (i + (j + 1))
        congr 1
        omega
      rw [e] at this
      exact h2 x i hi hx _ this
  intro x0 hx0
  have := key n 0 x0 (by omega) hx0
  rw [List.take_zero, List.nil_append] at this
  have e : (fun j => c (0 + j)) = c := by
    funext j
    rw [Nat.zero_add]
  rw [e] at this
  exact this

/-- Two rows are held against each other, element by element. -/
theorem all_ev (n : Nat) (F : Nat → Nat → Option Bool) (h1 : Ev (F n) true) (h2 : ∀ i, i < n → Ev (F (i + 1)) true → Ev (F i) true) : Ev (F 0) true := by
  have key : ∀ d i, i + d = n → Ev (F i) true := by
    intro d
    induction d with
    | zero =>
      intro i hd
      have hi : i = n := by omega
      subst hi
      exact h1
    | succ d ih =>
      intro i hd
      exact h2 i (by omega) (ih (i + 1) (by omega))
  exact key n 0 (by omega)

/-- The elements are numbered through; and so they are found. -/
def markL {β : Type} (mk : β → Nat → β) (cnt : β → Nat) : List β → Nat → List β
  | [], _ => []
  | b :: r, m => mk b m :: markL mk cnt r (m + cnt b)
def cntL {β : Type} (cnt : β → Nat) : List β → Nat
  | [] => 0
  | b :: r => cnt b + cntL cnt r
theorem markL_length {β : Type} (mk : β → Nat → β) (cnt : β → Nat) : ∀ (l : List β) (m : Nat), (markL mk cnt l m).length = l.length
  | [], _ => rfl
  | b :: r, m => by
    show (markL mk cnt r _).length + 1 = r.length + 1
    rw [markL_length mk cnt r]
theorem cntL_le {β : Type} (cnt : β → Nat) (c : Nat) : ∀ l : List β, (∀ b ∈ l, cnt b ≤ c) → cntL cnt l ≤ c * l.length
  | [], _ => Nat.zero_le _
  | b :: r, h => by
    have h1 := cntL_le cnt c r (fun x hx => h x (List.mem_cons_of_mem _ hx))
    have h2 := h b List.mem_cons_self
    show cnt b + cntL cnt r ≤ c * (r.length + 1)
    rw [Nat.mul_add, Nat.mul_one]
    omega
theorem mark_ev {β : Type} (z : β) (mk : β → Nat → β) (cnt : β → Nat) (B n : Nat) (F : List β → Nat → Nat → Nat → Option (Int × List β)) (h1 : ∀ (x : List β) (m : Nat), x.length = n → Ev (F x m n) ((m : Int), x))
    (h2 : ∀ (x : List β) (m i : Nat), x.length = n → i < n → m + cnt (x.getD i z) ≤ B → ∀ r, Ev (F (x.set i (mk (x.getD i z) m)) (m + cnt (x.getD i z)) (i + 1)) r → Ev (F x m i) r) :
    ∀ (x : List β) (m : Nat), x.length = n → m + cntL cnt x ≤ B → Ev (F x m 0) (((m + cntL cnt x : Nat) : Int), markL mk cnt x m) := by
  have key : ∀ (rest done : List β) (m : Nat), done.length + rest.length = n → m + cntL cnt rest ≤ B → Ev (F (done ++ rest) m done.length) (((m + cntL cnt rest : Nat) : Int), done ++ markL mk cnt rest m) := by
    intro rest
    induction rest with
    | nil =>
      intro done m hn _
      have hn' : done.length = n := hn
      have := h1 done m hn'
      rw [← hn'] at this
      rw [List.append_nil]
      show Ev _ (((m + 0 : Nat) : Int), done ++ [])
      rw [List.append_nil]
      exact this
    | cons b r ih =>
      intro done m hn hm
      have hn' : done.length + (r.length + 1) = n := hn
      have hm' : m + (cnt b + cntL cnt r) ≤ B := hm
      have hg : (done ++ b :: r).getD done.length z = b := by simp [List.getD]
      have hs : (done ++ b :: r).set done.length (mk b m) = (done ++ [mk b m]) ++ r := by simp [List.set_append]
      have := ih (done ++ [mk b m]) (m + cnt b) (by rw [List.length_append, List.length_singleton]; omega) (by omega)
      refine h2 _ m done.length (by simp; omega) (by omega) (by rw [hg]; omega) _ ?_
      rw [hg, hs]
      rw [List.length_append, List.length_singleton] at this
      have e : m + cnt b + cntL cnt r = m + (cnt b + cntL cnt r) := by omega
      have e2 : done ++ [mk b m] ++ markL mk cnt r (m + cnt b) = done ++ (mk b m :: markL mk cnt r (m + cnt b)) := by rw [List.append_assoc, List.singleton_append]
      rw [e, e2] at this
      exact this
  intro x m hn hm
  exact key x [] m (by simpa using hn) hm
theorem held_ev {β : Type} (z : β) (mk : β → Nat → β) (cnt : β → Nat) (B n : Nat) (H : List β → Nat → Nat → Nat → Option Int) (h1 : ∀ (x : List β) (m : Nat), x.length = n → Ev (H x m n) (m : Int))
    (h2 : ∀ (x : List β) (m i : Nat) (b : β), x.length = n → i < n → x.getD i z = mk b m → m + cnt b ≤ B → ∀ r, Ev (H x (m + cnt b) (i + 1)) r → Ev (H x m i) r) :
    ∀ (x : List β) (m : Nat), x.length = n → m + cntL cnt x ≤ B → Ev (H (markL mk cnt x m) m 0) ((m + cntL cnt x : Nat) : Int) := by
  have key : ∀ (rest done : List β) (m : Nat), done.length + rest.length = n → m + cntL cnt rest ≤ B → Ev (H (done ++ markL mk cnt rest m) m done.length) ((m + cntL cnt rest : Nat) : Int) := by
    intro rest
    induction rest with
    | nil =>
      intro done m hn _
      have hn' : done.length = n := hn
      have := h1 done m hn'
      rw [← hn'] at this
      show Ev (H (done ++ []) m done.length) _
      rw [List.append_nil]
      exact this
    | cons b r ih =>
      intro done m hn hm
      have hn' : done.length + (r.length + 1) = n := hn
      have hm' : m + (cnt b + cntL cnt r) ≤ B := hm
      have := ih (done ++ [mk b m]) (m + cnt b) (by rw [List.length_append, List.length_singleton]; omega) (by omega)
      show Ev (H (done ++ (mk b m :: markL mk cnt r (m + cnt b))) m done.length) _
      refine h2 _ m done.length b (by simp [markL_length]; omega) (by omega) (by simp [List.getD]) (by omega) _ ?_
      rw [List.length_append, List.length_singleton, List.append_assoc, List.singleton_append] at this
      have e : m + cnt b + cntL cnt r = m + (cnt b + cntL cnt r) := by omega
      rw [e] at this
      exact this
  intro x m hn hm
  exact key x [] m (by simpa using hn) hm

theorem map_range_getD {α β : Type} (l : List α) (z : α) (f : α → β) : (List.range l.length).map (fun i => f (l.getD i z)) = l.map f := by
  apply List.ext_getElem
  · simp
  · intro i h1 h2
    simp at h1 h2
    simp [h2]
theorem map_range_self {α : Type} (l : List α) (z : α) : (List.range l.length).map (fun i => l.getD i z) = l := by
  have := map_range_getD l z id
  simpa using this
theorem getD_mem {α : Type} {l : List α} {i : Nat} (h : i < l.length) (z : α) : l.getD i z ∈ l := by
  rw [List.getD_eq_getElem?_getD, List.getElem?_eq_getElem h, Option.getD_some]
  exact List.getElem_mem h

/-! #### []int -/
theorem toIntS_ev (l : List Int) (hl : l.length ≤ 1048576) : Ev (fun k => laws_toIntS.f k l) l := by
  have h := conv_ev l.length (fun x i k => laws_toIntS.l0 k l x (i : Int)) (fun i => l.getD i 0)
    (fun x hx => Ev.step (f := fun _ => some x) (fun k => by
      show laws_toIntS.l0 (k + 1) l x ((l.length : Nat) : Int) = some x
      rw [laws_toIntS.l0, if_neg (by omega)]) (Ev.now _))
    (fun x i hi hx r hr => Ev.step (fun k => by
      show laws_toIntS.l0 (k + 1) l x (i : Int) = laws_toIntS.l0 k l (x.set i (l.getD i 0)) ((i + 1 : Nat) : Int)
      rw [laws_toIntS.l0, if_pos (by omega), if_pos (by omega), if_pos (by omega), succ_wrap (by omega)]
      rfl) hr)
    (List.replicate l.length 0) (by simp)
  rw [map_range_self] at h
  refine Ev.congr (fun k => ?_) h
  unfold laws_toIntS.f
  rw [if_pos (by omega), if_pos (by rw [tn_nat]; omega)]
  rfl
theorem eqIntS_ev (l : List Int) (hl : l.length ≤ 1048576) : Ev (fun k => laws_eqIntS.f k l l) true := by
  have h := all_ev l.length (fun i k => laws_eqIntS.l0 k l l (i : Int))
    (Ev.step (f := fun _ => some true) (fun k => by
      show laws_eqIntS.l0 (k + 1) l l ((l.length : Nat) : Int) = some true
      rw [laws_eqIntS.l0, if_neg (by omega)]) (Ev.now _))
    (fun i hi hr => Ev.step (fun k => by
      show laws_eqIntS.l0 (k + 1) l l (i : Int) = laws_eqIntS.l0 k l l ((i + 1 : Nat) : Int)
      rw [laws_eqIntS.l0, if_pos (by omega), if_pos (by omega), if_pos (by omega), if_pos rfl, succ_wrap (by omega)]) hr)
  refine Ev.congr (fun k => ?_) h
  unfold laws_eqIntS.f
  rw [if_pos rfl]
  rfl

theorem markIntS_ev (l : List Int) (hl : l.length ≤ 1048576) (m : Nat) (hm : m ≤ 1000000000000) :
    Ev (fun k => laws_markIntS.f k l (m : Int)) (((m + cntL (fun _ => 1) l : Nat) : Int), markL (fun _ n => (n : Int)) (fun _ => 1) l m) := by
  have hc := cntL_le (fun _ : Int => 1) 1 l (fun _ _ => Nat.le_refl _)
  exact mark_ev (0 : Int) (fun _ n => (n : Int)) (fun _ => 1) 2000000000000 l.length (fun x m i k => laws_markIntS.l0 k x (m : Int) (i : Int))
    (fun x m hx => Ev.step (f := fun _ => some ((m : Int), x)) (fun k => by
      show laws_markIntS.l0 (k + 1) x (m : Int) ((l.length : Nat) : Int) = _
      rw [laws_markIntS.l0, if_neg (by omega)]) (Ev.now _))
    (fun x m i hx hi hb r hr => Ev.step (fun k => by
      show laws_markIntS.l0 (k + 1) x (m : Int) (i : Int) = laws_markIntS.l0 k (x.set i (m : Int)) ((m + 1 : Nat) : Int) ((i + 1 : Nat) : Int)
      rw [laws_markIntS.l0, if_pos (by omega), if_pos (by omega), succ_wrap (by omega), succ_wrap (by omega)]
      rfl) hr) l m rfl (by omega)

theorem heldIntS_ev (l : List Int) (hl : l.length ≤ 1048576) (m : Nat) (hm : m ≤ 1000000000000) :
    Ev (fun k => laws_heldIntS.f k (markL (fun _ n => (n : Int)) (fun _ => 1) l m) (m : Int)) ((m + cntL (fun _ => 1) l : Nat) : Int) := by
  have hc := cntL_le (fun _ : Int => 1) 1 l (fun _ _ => Nat.le_refl _)
  exact held_ev (0 : Int) (fun _ n => (n : Int)) (fun _ => 1) 2000000000000 l.length (fun x m i k => laws_heldIntS.l0 k x (m : Int) (i : Int))
    (fun x m hx => Ev.step (f := fun _ => some (m : Int)) (fun k => by
      show laws_heldIntS.l0 (k + 1) x (m : Int) ((l.length : Nat) : Int) = _
      rw [laws_heldIntS.l0, if_neg (by omega)]) (Ev.now _))
    (fun x m i b hx hi hg hb r hr => Ev.step (fun k => by
      show laws_heldIntS.l0 (k + 1) x (m : Int) (i : Int) = laws_heldIntS.l0 k x ((m + 1 : Nat) : Int) ((i + 1 : Nat) : Int)
      rw [laws_heldIntS.l0, if_pos (by omega), if_pos (by omega), rd_nat, hg, if_pos rfl, succ_wrap (by omega), succ_wrap (by omega)]) hr) l m rfl (by omega)

/-! #### a number between two -/
theorem sin (a b c : Int) : spec_l1In.f a b c = some (decide (b ≤ a ∧ a ≤ c)) := by
  unfold spec_l1In.f
  by_cases h : a ≥ b
  · rw [if_pos h]
    have e : (b ≤ a ∧ a ≤ c) ↔ a ≤ c := ⟨fun h => h.2, fun h' => ⟨h, h'⟩⟩
    simp only [e]
  · rw [if_neg h, decide_eq_false]
    intro h'
    exact h h'.1

theorem iin (a b c : Int) : impl_in.f a b c = some (decide (b ≤ a ∧ a ≤ c)) := by
  unfold impl_in.f
  by_cases h : a ≥ b
  · rw [if_pos h]
    have e : (b ≤ a ∧ a ≤ c) ↔ a ≤ c := ⟨fun h => h.2, fun h' => ⟨h, h'⟩⟩
    simp only [e]
  · rw [if_neg h, decide_eq_false]
    intro h'
    exact h h'.1

/-! #### good entries -/
def PE (l : List Int) (j : Nat) : Prop := (0 ≤ l.getD j 0 ∧ l.getD j 0 ≤ 100) ∧ (0 < j → l.getD (j - 1) 0 ≤ l.getD j 0)
def GE (l : List Int) : Prop := l.length ≤ 30 ∧ ∀ j, j < l.length → PE l j

theorem sGE_l (l : List Int) (hl : l.length ≤ 1048576) : ∀ d i : Nat, i + d = l.length →
    EvB (fun k => spec_GoodEntries.l0 k l l (l.length : Int) (i : Int)) (l.length ≤ 30 ∧ ∀ j, i ≤ j → j < l.length → PE l j)
  | 0, i, hd => by
    refine ⟨decide ((l.length : Int) ≤ 30), Ev.step (f := fun _ => some (decide ((l.length : Int) ≤ 30))) (fun k => by rw [spec_GoodEntries.l0, if_neg (by omega)]) (Ev.now _), ?_⟩
    rw [decide_eq_true_iff]
    exact ⟨fun h => ⟨by omega, fun j h1 h2 => by omega⟩, fun h => by omega⟩
  | d + 1, i, hd => by
    by_cases hr : 0 ≤ l.getD i 0 ∧ l.getD i 0 ≤ 100
    · by_cases hi : 0 < i
      · by_cases hp : l.getD (i - 1) 0 > l.getD i 0
        · refine EvB.no (fun k => ?_) (fun h => ?_)
          · rw [spec_GoodEntries.l0, if_pos (by omega), if_pos (by omega), if_pos (by omega), sin, rd_nat, decide_eq_true hr, Option.bind_some, if_pos rfl, if_pos (by omega), pred_wrap hi (by omega), if_pos (by omega), if_pos (by omega), rd_nat, if_pos hp]
          · have := (h.2 i (Nat.le_refl _) (by omega)).2 hi
            omega
        · refine EvB.step (fun k => ?_) (EvB.iff (sGE_l l hl d (i + 1) (by omega)) ?_)
          · show spec_GoodEntries.l0 (k + 1) l l (l.length : Int) (i : Int) = spec_GoodEntries.l0 k l l (l.length : Int) ((i + 1 : Nat) : Int)
            rw [spec_GoodEntries.l0, if_pos (by omega), if_pos (by omega), if_pos (by omega), sin, rd_nat, decide_eq_true hr, Option.bind_some, if_pos rfl, if_pos (by omega), pred_wrap hi (by omega), if_pos (by omega), if_pos (by omega), rd_nat, if_neg hp, succ_wrap (by omega)]
          · refine and_congr_right fun _ => ⟨fun h j h1 h2 => ?_, fun h j h1 h2 => h j (by omega) h2⟩
            by_cases e : j = i
            · subst e
              exact ⟨hr, fun _ => by omega⟩
            · exact h j (by omega) h2
      · have h0 : i = 0 := by omega
        subst h0
        refine EvB.step (fun k => ?_) (EvB.iff (sGE_l l hl d 1 (by omega)) ?_)
        · show spec_GoodEntries.l0 (k + 1) l l (l.length : Int) ((0 : Nat) : Int) = spec_GoodEntries.l0 k l l (l.length : Int) ((0 + 1 : Nat) : Int)
          rw [spec_GoodEntries.l0, if_pos (by omega), if_pos (by omega), if_pos (by omega), sin, rd_nat, decide_eq_true hr, Option.bind_some, if_pos rfl, if_neg (by omega), succ_wrap (by omega)]
        · refine and_congr_right fun _ => ⟨fun h j h1 h2 => ?_, fun h j h1 h2 => h j (by omega) h2⟩
          by_cases e : j = 0
          · subst e
            exact ⟨hr, fun h => absurd h (Nat.lt_irrefl _)⟩
          · exact h j (by omega) h2
    · refine EvB.no (fun k => ?_) (fun h => hr (h.2 i (Nat.le_refl _) (by omega)).1)
      rw [spec_GoodEntries.l0, if_pos (by omega), if_pos (by omega), if_pos (by omega), sin, rd_nat, decide_eq_false hr, Option.bind_some, if_neg (by decide)]
theorem sGE_ev (l : List Int) (hl : l.length ≤ 1048576) : EvB (fun k => spec_GoodEntries.f k l) (GE l) := by
  have h := sGE_l l hl l.length 0 (by omega)
  exact h.iff ⟨fun h => ⟨h.1, fun j hj => h.2 j (Nat.zero_le _) hj⟩, fun h => ⟨h.1, fun j _ hj => h.2 j hj⟩⟩

theorem iGE_l (l : List Int) (hl : l.length ≤ 1048576) : ∀ d i : Nat, i + d = l.length →
    EvB (fun k => impl_areEntries.l0 k l l (l.length : Int) (i : Int)) (l.length ≤ 30 ∧ ∀ j, i ≤ j → j < l.length → PE l j)
  | 0, i, hd => by
    refine ⟨decide ((l.length : Int) ≤ 30), Ev.step (f := fun _ => some (decide ((l.length : Int) ≤ 30))) (fun k => by rw [impl_areEntries.l0, if_neg (by omega)]) (Ev.now _), ?_⟩
    rw [decide_eq_true_iff]
    exact ⟨fun h => ⟨by omega, fun j h1 h2 => by omega⟩, fun h => by omega⟩
  | d + 1, i, hd => by
    by_cases hr : 0 ≤ l.getD i 0 ∧ l.getD i 0 ≤ 100
    · by_cases hi : 0 < i
      · by_cases hp : l.getD (i - 1) 0 > l.getD i 0
        · refine EvB.no (fun k => ?_) (fun h => ?_)
          · rw [impl_areEntries.l0, if_pos (by omega), if_pos (by omega), if_pos (by omega), iin, rd_nat, decide_eq_true hr, Option.bind_some, if_pos rfl, if_pos (by omega), pred_wrap hi (by omega), if_pos (by omega), if_pos (by omega), rd_nat, if_pos hp]
          · have := (h.2 i (Nat.le_refl _) (by omega)).2 hi
            omega
        · refine EvB.step (fun k => ?_) (EvB.iff (iGE_l l hl d (i + 1) (by omega)) ?_)
          · show impl_areEntries.l0 (k + 1) l l (l.length : Int) (i : Int) = impl_areEntries.l0 k l l (l.length : Int) ((i + 1 : Nat) : Int)
            rw [impl_areEntries.l0, if_pos (by omega), if_pos (by omega), if_pos (by omega), iin, rd_nat, decide_eq_true hr, Option.bind_some, if_pos rfl, if_pos (by omega), pred_wrap hi (by omega), if_pos (by omega), if_pos (by omega), rd_nat, if_neg hp, succ_wrap (by omega)]
          · refine and_congr_right fun _ => ⟨fun h j h1 h2 => ?_, fun h j h1 h2 => h j (by omega) h2⟩
            by_cases e : j = i
            · subst e
              exact ⟨hr, fun _ => by omega⟩
            · exact h j (by omega) h2
      · have h0 : i = 0 := by omega
        subst h0
        refine EvB.step (fun k => ?_) (EvB.iff (iGE_l l hl d 1 (by omega)) ?_)
        · show impl_areEntries.l0 (k + 1) l l (l.length : Int) ((0 : Nat) : Int) = impl_areEntries.l0 k l l (l.length : Int) ((0 + 1 : Nat) : Int)
          rw [impl_areEntries.l0, if_pos (by omega), if_pos (by omega), if_pos (by omega), iin, rd_nat, decide_eq_true hr, Option.bind_some, if_pos rfl, if_neg (by omega), succ_wrap (by omega)]
        · refine and_congr_right fun _ => ⟨fun h j h1 h2 => ?_, fun h j h1 h2 => h j (by omega) h2⟩
          by_cases e : j = 0
          · subst e
            exact ⟨hr, fun h => absurd h (Nat.lt_irrefl _)⟩
          · exact h j (by omega) h2
    · refine EvB.no (fun k => ?_) (fun h => hr (h.2 i (Nat.le_refl _) (by omega)).1)
      rw [impl_areEntries.l0, if_pos (by omega), if_pos (by omega), if_pos (by omega), iin, rd_nat, decide_eq_false hr, Option.bind_some, if_neg (by decide)]
theorem iGE_ev (l : List Int) (hl : l.length ≤ 1048576) : EvB (fun k => impl_areEntries.f k l) (GE l) := by
  have h := iGE_l l hl l.length 0 (by omega)
  exact h.iff ⟨fun h => ⟨h.1, fun j hj => h.2 j (Nat.zero_le _) hj⟩, fun h => ⟨h.1, fun j _ hj => h.2 j hj⟩⟩

theorem em_nat (l : List S60) (i : Nat) : rd_T60 l (i : Int) = l.getD i z60 := rfl

/-! #### marks of a log -/
/-- The marks of the d entries from i on. -/
def MO (l : List Int) : Nat → Nat → List S60
  | _, 0 => []
  | i, d + 1 => if i = 0 ∨ ¬ l.getD (i - 1) 0 = l.getD i 0 then ⟨l.getD i 0, (i : Int)⟩ :: MO l (i + 1) d else MO l (i + 1) d
theorem MO_length (l : List Int) : ∀ d i, (MO l i d).length ≤ d
  | 0, _ => Nat.le_refl _
  | d + 1, i => by
    have := MO_length l d (i + 1)
    rw [MO]
    split
    · rw [List.length_cons]
      omega
    · omega

theorem sMO_l (l : List Int) (hl : l.length ≤ 1048576) : ∀ d i : Nat, i + d = l.length → ∀ x : List S60, x.length ≤ i →
    Ev (fun k => spec_l4Marks.l0 k l x l (l.length : Int) (i : Int)) (x ++ MO l i d)
  | 0, i, hd => fun x hx => by
    refine Ev.step (f := fun _ => some x) (fun k => by rw [spec_l4Marks.l0, if_neg (by omega)]) ?_
    show Ev _ (x ++ [])
    rw [List.append_nil]
    exact Ev.now _
  | d + 1, i, hd => fun x hx => by
    by_cases hi : 0 < i
    · by_cases hp : l.getD (i - 1) 0 = l.getD i 0
      · have h := sMO_l l hl d (i + 1) (by omega) x (by omega)
        refine Ev.step (fun k => ?_) (f := fun k => spec_l4Marks.l0 k l x l (l.length : Int) ((i + 1 : Nat) : Int)) ?_
        · show spec_l4Marks.l0 (k + 1) l x l (l.length : Int) (i : Int) = _
          rw [spec_l4Marks.l0, if_pos (by omega), if_pos (by omega), if_pos (by omega), if_neg (by omega), pred_wrap hi (by omega), if_pos (by omega), if_pos (by omega), rd_nat, rd_nat, if_pos hp, succ_wrap (by omega)]
        · rw [MO, if_neg (fun h' => h'.elim (fun h0 => by omega) (fun h1 => h1 hp))]
          exact h
      · have h := sMO_l l hl d (i + 1) (by omega) (x ++ [⟨l.getD i 0, (i : Int)⟩]) (by rw [List.length_append, List.length_singleton]; omega)
        refine Ev.step (fun k => ?_) (f := fun k => spec_l4Marks.l0 k l (x ++ [⟨l.getD i 0, (i : Int)⟩]) l (l.length : Int) ((i + 1 : Nat) : Int)) ?_
        · show spec_l4Marks.l0 (k + 1) l x l (l.length : Int) (i : Int) = _
          rw [spec_l4Marks.l0, if_pos (by omega), if_pos (by omega), if_pos (by omega), if_neg (by omega), pred_wrap hi (by omega), if_pos (by omega), if_pos (by omega), rd_nat, rd_nat, if_neg hp, if_pos (by omega), succ_wrap (by omega)]
        · rw [MO, if_pos (Or.inr hp)]
          rw [List.append_assoc, List.singleton_append] at h
          exact h
    · have h0 : i = 0 := by omega
      subst h0
      have h := sMO_l l hl d 1 (by omega) (x ++ [⟨l.getD 0 0, ((0 : Nat) : Int)⟩]) (by rw [List.length_append, List.length_singleton]; omega)
      refine Ev.step (fun k => ?_) (f := fun k => spec_l4Marks.l0 k l (x ++ [⟨l.getD 0 0, ((0 : Nat) : Int)⟩]) l (l.length : Int) ((0 + 1 : Nat) : Int)) ?_
      · show spec_l4Marks.l0 (k + 1) l x l (l.length : Int) ((0 : Nat) : Int) = _
        rw [spec_l4Marks.l0, if_pos (by omega), if_pos (by omega), if_pos (by omega), if_pos (by omega), if_pos (by omega), succ_wrap (by omega), rd_nat]
      · rw [MO, if_pos (Or.inl rfl)]
        rw [List.append_assoc, List.singleton_append] at h
        exact h
theorem sMO_ev (l : List Int) (hl : l.length ≤ 1048576) : Ev (fun k => spec_l4Marks.f k l) (MO l 0 l.length) := sMO_l l hl l.length 0 (by omega) [] (Nat.zero_le _)

theorem iMO_l (l : List Int) (hl : l.length ≤ 1048576) : ∀ d i : Nat, i + d = l.length → ∀ x : List S60, x.length ≤ i →
    Ev (fun k => impl_marksOf.l0 k l x l (l.length : Int) (i : Int)) (x ++ MO l i d)
  | 0, i, hd => fun x hx => by
    refine Ev.step (f := fun _ => some x) (fun k => by rw [impl_marksOf.l0, if_neg (by omega)]) ?_
    show Ev _ (x ++ [])
    rw [List.append_nil]
    exact Ev.now _
  | d + 1, i, hd => fun x hx => by
    by_cases hi : 0 < i
    · by_cases hp : l.getD (i - 1) 0 = l.getD i 0
      · have h := iMO_l l hl d (i + 1) (by omega) x (by omega)
        refine Ev.step (fun k => ?_) (f := fun k => impl_marksOf.l0 k l x l (l.length : Int) ((i + 1 : Nat) : Int)) ?_
        · show impl_marksOf.l0 (k + 1) l x l (l.length : Int) (i : Int) = _
          rw [impl_marksOf.l0, if_pos (by omega), if_pos (by omega), if_pos (by omega), if_neg (by omega), pred_wrap hi (by omega), if_pos (by omega), if_pos (by omega), rd_nat, rd_nat, if_pos hp, succ_wrap (by omega)]
        · rw [MO, if_neg (fun h' => h'.elim (fun h0 => by omega) (fun h1 => h1 hp))]
          exact h
      · have h := iMO_l l hl d (i + 1) (by omega) (x ++ [⟨l.getD i 0, (i : Int)⟩]) (by rw [List.length_append, List.length_singleton]; omega)
        refine Ev.step (fun k => ?_) (f := fun k => impl_marksOf.l0 k l (x ++ [⟨l.getD i 0, (i : Int)⟩]) l (l.length : Int) ((i + 1 : Nat) : Int)) ?_
        · show impl_marksOf.l0 (k + 1) l x l (l.length : Int) (i : Int) = _
          rw [impl_marksOf.l0, if_pos (by omega), if_pos (by omega), if_pos (by omega), if_neg (by omega), pred_wrap hi (by omega), if_pos (by omega), if_pos (by omega), rd_nat, rd_nat, if_neg hp, if_pos (by omega), succ_wrap (by omega)]
        · rw [MO, if_pos (Or.inr hp)]
          rw [List.append_assoc, List.singleton_append] at h
          exact h
    · have h0 : i = 0 := by omega
      subst h0
      have h := iMO_l l hl d 1 (by omega) (x ++ [⟨l.getD 0 0, ((0 : Nat) : Int)⟩]) (by rw [List.length_append, List.length_singleton]; omega)
      refine Ev.step (fun k => ?_) (f := fun k => impl_marksOf.l0 k l (x ++ [⟨l.getD 0 0, ((0 : Nat) : Int)⟩]) l (l.length : Int) ((0 + 1 : Nat) : Int)) ?_
      · show impl_marksOf.l0 (k + 1) l x l (l.length : Int) ((0 : Nat) : Int) = _
        rw [impl_marksOf.l0, if_pos (by omega), if_pos (by omega), if_pos (by omega), if_pos (by omega), if_pos (by omega), succ_wrap (by omega), rd_nat]
      · rw [MO, if_pos (Or.inl rfl)]
        rw [List.append_assoc, List.singleton_append] at h
        exact h
theorem iMO_ev (l : List Int) (hl : l.length ≤ 1048576) : Ev (fun k => impl_marksOf.f k l) (MO l 0 l.length) := iMO_l l hl l.length 0 (by omega) [] (Nat.zero_le _)

/-! #### where an epoch ends -/
/-- Among the first n marks. -/
def EE (m : List S60) (e ep : Int) : Nat → Int × Int
  | 0 => (-1, 0)
  | i + 1 => if (m.getD i z60).f0 ≤ ep then ((m.getD i z60).f0, if i + 1 < m.length then (m.getD (i + 1) z60).f1 else e) else EE m e ep i
theorem sEE_l (m : List S60) (e ep : Int) (hm : m.length ≤ 1048576) : ∀ n : Nat, n ≤ m.length → ∀ x y : Int, x = (n : Int) - 1 → y = (if n < m.length then (m.getD n z60).f1 else e) →
    Ev (fun k => spec_l4End.l0 k m y ep x) (EE m e ep n)
  | 0, _ => fun x y hx hy => Ev.step (f := fun _ => some (-1, 0)) (fun k => by rw [spec_l4End.l0, if_neg (by omega)]) (Ev.now _)
  | i + 1, hn => fun x y hx hy => by
    obtain rfl : x = (i : Int) := by omega
    rw [EE]
    by_cases h : (m.getD i z60).f0 ≤ ep
    · rw [if_pos h, ← hy]
      refine Ev.step (f := fun _ => some ((m.getD i z60).f0, y)) (fun k => ?_) (Ev.now _)
      rw [spec_l4End.l0, if_pos (by omega), if_pos (by omega), if_pos (by omega), em_nat, if_pos h]
    · rw [if_neg h]
      refine Ev.step (fun k => ?_) (sEE_l m e ep hm i (by omega) ((i : Int) - 1) (m.getD i z60).f1 rfl (by rw [if_pos (by omega)]))
      show spec_l4End.l0 (k + 1) m y ep (i : Int) = spec_l4End.l0 k m (m.getD i z60).f1 ep ((i : Int) - 1)
      rw [spec_l4End.l0, if_pos (by omega), if_pos (by omega), if_pos (by omega), em_nat, if_neg h, wrap_id (by omega) (by omega)]
theorem iEE_l (m : List S60) (e ep : Int) (hm : m.length ≤ 1048576) : ∀ n : Nat, n ≤ m.length → ∀ x : Int, x = (n : Int) - 1 →
    Ev (fun k => impl_endOfEpoch.l0 k m e ep x) (EE m e ep n)
  | 0, _ => fun x hx => Ev.step (f := fun _ => some (-1, 0)) (fun k => by rw [impl_endOfEpoch.l0, if_neg (by omega)]) (Ev.now _)
  | i + 1, hn => fun x hx => by
    obtain rfl : x = (i : Int) := by omega
    rw [EE]
    by_cases h : (m.getD i z60).f0 ≤ ep
    · rw [if_pos h]
      by_cases h2 : i + 1 < m.length
      · rw [if_pos h2]
        refine Ev.step (f := fun _ => some ((m.getD i z60).f0, (m.getD (i + 1) z60).f1)) (fun k => ?_) (Ev.now _)
        rw [impl_endOfEpoch.l0, if_pos (by omega), if_pos (by omega), if_pos (by omega), em_nat, if_neg (by omega), succ_wrap (by omega), if_pos (by omega), if_pos (by omega), em_nat]
      · rw [if_neg h2]
        refine Ev.step (f := fun _ => some ((m.getD i z60).f0, e)) (fun k => ?_) (Ev.now _)
        rw [impl_endOfEpoch.l0, if_pos (by omega), if_pos (by omega), if_pos (by omega), em_nat, if_neg (by omega), succ_wrap (by omega), if_neg (by omega)]
    · rw [if_neg h]
      refine Ev.step (fun k => ?_) (iEE_l m e ep hm i (by omega) ((i : Int) - 1) rfl)
      show impl_endOfEpoch.l0 (k + 1) m e ep (i : Int) = impl_endOfEpoch.l0 k m e ep ((i : Int) - 1)
      rw [impl_endOfEpoch.l0, if_pos (by omega), if_pos (by omega), if_pos (by omega), em_nat, if_pos (by omega), wrap_id (by omega) (by omega)]
theorem sEE_ev (m : List S60) (e ep : Int) (hm : m.length ≤ 1048576) : Ev (fun k => spec_l4End.f k m e ep) (EE m e ep m.length) := by
  have h := sEE_l m e ep hm m.length (Nat.le_refl _) ((m.length : Int) - 1) e rfl (by rw [if_neg (Nat.lt_irrefl _)])
  refine Ev.congr (fun k => ?_) h
  unfold spec_l4End.f
  rw [wrap_id (by omega) (by omega)]
theorem iEE_ev (m : List S60) (e ep : Int) (hm : m.length ≤ 1048576) : Ev (fun k => impl_endOfEpoch.f k m e ep) (EE m e ep m.length) := by
  have h := iEE_l m e ep hm m.length (Nat.le_refl _) ((m.length : Int) - 1) rfl
  refine Ev.congr (fun k => ?_) h
  unfold impl_endOfEpoch.f
  rw [wrap_id (by omega) (by omega)]
theorem EE_le (m : List S60) (e ep : Int) : ∀ n, (EE m e ep n).1 ≤ ep ∨ (EE m e ep n).1 = -1
  | 0 => Or.inr rfl
  | i + 1 => by
    rw [EE]
    split
    · exact Or.inl (by assumption)
    · exact EE_le m e ep i
theorem EE_end (m : List S60) (e ep : Int) (he : 0 ≤ e) (h : ∀ x ∈ m, 0 ≤ x.f1 ∧ x.f1 ≤ e) : ∀ n, 0 ≤ (EE m e ep n).2 ∧ (EE m e ep n).2 ≤ e
  | 0 => ⟨Int.le_refl _, he⟩
  | i + 1 => by
    rw [EE]
    split
    · split
      · rename_i h2
        exact h _ (getD_mem h2 _)
      · exact ⟨he, Int.le_refl _⟩
    · exact EE_end m e ep he h i

/-! #### to how many entries a follower is cut -/
theorem MO_mem (l : List Int) : ∀ d i, ∀ x ∈ MO l i d, (i : Int) ≤ x.f1 ∧ x.f1 < ((i + d : Nat) : Int) ∧ ∃ j, i ≤ j ∧ j < i + d ∧ x.f0 = l.getD j 0
  | 0, i => fun x hx => by cases hx
  | d + 1, i => fun x hx => by
    rw [MO] at hx
    have rest : x ∈ MO l (i + 1) d → (i : Int) ≤ x.f1 ∧ x.f1 < ((i + (d + 1) : Nat) : Int) ∧ ∃ j, i ≤ j ∧ j < i + (d + 1) ∧ x.f0 = l.getD j 0 := fun hx => by
      obtain ⟨h1, h2, j, h3, h4, h5⟩ := MO_mem l d (i + 1) x hx
      exact ⟨by omega, by omega, j, by omega, by omega, h5⟩
    split at hx
    · rcases List.mem_cons.1 hx with rfl | hx
      · exact ⟨Int.le_refl _, (show (i : Int) < ((i + (d + 1) : Nat) : Int) by omega), i, Nat.le_refl _, by omega, rfl⟩
      · exact rest hx
    · exact rest hx
theorem match_l (a b : List Int) (ha : a.length ≤ 1048576) (hb : b.length ≤ 1048576) : ∀ (n : Nat) (ep ask : Int), 0 ≤ ep → ep < n → 0 ≤ ask → ask + n ≤ 1000000 →
    ∃ (r q : Int), 0 ≤ r ∧ r ≤ a.length ∧ r ≤ b.length ∧ Ev (fun k => spec_l4Match.l0 k a b (MO a 0 a.length) (MO b 0 b.length) ep ask) (r, q) ∧ Ev (fun k => impl_matchBy.l0 k a b (MO b 0 b.length) (MO a 0 a.length) ep ask) (r, q) := by
  have hA := Nat.le_trans (MO_length a a.length 0) ha
  have hB := Nat.le_trans (MO_length b b.length 0) hb
  have hAm : ∀ x ∈ MO a 0 a.length, 0 ≤ x.f1 ∧ x.f1 ≤ (a.length : Int) := fun x hx => by
    obtain ⟨h1, h2, _⟩ := MO_mem a a.length 0 x hx
    exact ⟨by omega, by omega⟩
  have hBm : ∀ x ∈ MO b 0 b.length, 0 ≤ x.f1 ∧ x.f1 ≤ (b.length : Int) := fun x hx => by
    obtain ⟨h1, h2, _⟩ := MO_mem b b.length 0 x hx
    exact ⟨by omega, by omega⟩
  intro n
  induction n with
  | zero => intro ep ask h0 h1; omega
  | succ n ih =>
    intro ep ask h0 h1 h2 h3
    have t1 := sEE_ev _ (a.length : Int) ep hA
    have t2 := iEE_ev _ (a.length : Int) ep hA
    have tl := EE_le (MO a 0 a.length) (a.length : Int) ep (MO a 0 a.length).length
    have te := EE_end (MO a 0 a.length) (a.length : Int) ep (by omega) hAm (MO a 0 a.length).length
    have u1 := sEE_ev _ (b.length : Int) ep hB
    have u2 := iEE_ev _ (b.length : Int) ep hB
    have ue := EE_end (MO b 0 b.length) (b.length : Int) ep (by omega) hBm (MO b 0 b.length).length
    generalize EE (MO a 0 a.length) (a.length : Int) ep (MO a 0 a.length).length = t at t1 t2 tl te
    generalize EE (MO b 0 b.length) (b.length : Int) ep (MO b 0 b.length).length = u at u1 u2 ue
    have v1 := sEE_ev _ (b.length : Int) t.1 hB
    have v2 := iEE_ev _ (b.length : Int) t.1 hB
    have vl := EE_le (MO b 0 b.length) (b.length : Int) t.1 (MO b 0 b.length).length
    generalize EE (MO b 0 b.length) (b.length : Int) t.1 (MO b 0 b.length).length = v at v1 v2 vl
    by_cases ht : t.1 = ep
    · refine ⟨mn t.2 u.2, ask, by unfold mn; split <;> omega, by unfold mn; split <;> omega, by unfold mn; split <;> omega, Ev.succ ?_, Ev.succ ?_⟩
      · simp only [spec_l4Match.l0]
        refine Ev.bind t1 (Ev.ifp ht (Ev.bind u1 ?_))
        unfold mn
        by_cases hq : u.2 < t.2
        · have e : (if u.2 < t.2 then u.2 else t.2, ask) = (u.2, ask) := by rw [if_pos hq]
          rw [e]
          exact Ev.ifp hq (Ev.now _)
        · have e : (if u.2 < t.2 then u.2 else t.2, ask) = (t.2, ask) := by rw [if_neg hq]
          rw [e]
          exact Ev.ifn hq (Ev.now _)
      · simp only [impl_matchBy.l0]
        exact Ev.bind t2 (Ev.ifp ht (Ev.bind u2 (Ev.now _)))
    · by_cases hv : v.1 < 0
      · refine ⟨0, ask, Int.le_refl _, by omega, by omega, Ev.succ ?_, Ev.succ ?_⟩
        · simp only [spec_l4Match.l0]
          exact Ev.bind t1 (Ev.ifn ht (Ev.bind v1 (Ev.ifp hv (Ev.now _))))
        · simp only [impl_matchBy.l0]
          exact Ev.bind t2 (Ev.ifn ht (Ev.bind v2 (Ev.ifp hv (Ev.now _))))
      · obtain ⟨r, q, h4, h5, h6, h7, h8⟩ := ih v.1 (ask + 1) (by omega) (by omega) (by omega) (by omega)
        have hw : wrap64 (ask + 1) = ask + 1 := wrap_id (by omega) (by omega)
        refine ⟨r, q, h4, h5, h6, Ev.succ ?_, Ev.succ ?_⟩
        · simp only [spec_l4Match.l0, hw]
          exact Ev.bind t1 (Ev.ifn ht (Ev.bind v1 (Ev.ifn hv h7)))
        · simp only [impl_matchBy.l0, hw]
          exact Ev.bind t2 (Ev.ifn ht (Ev.bind v2 (Ev.ifn hv h8)))
theorem match_ev (a b : List Int) (ha : GE a) (hb : GE b) :
    ∃ (r q : Int), 0 ≤ r ∧ r ≤ a.length ∧ r ≤ b.length ∧ Ev (fun k => spec_l4Match.f k a b) (r, q) ∧ Ev (fun k => impl_matchBy.f k a b) (r, q) := by
  have la : a.length ≤ 1048576 := by have := ha.1; omega
  have lb : b.length ≤ 1048576 := by have := hb.1; omega
  unfold spec_l4Match.f impl_matchBy.f
  by_cases h0 : (b.length : Int) = 0
  · exact ⟨0, 0, Int.le_refl _, by omega, by omega, Ev.bind (sMO_ev a la) (Ev.bind (sMO_ev b lb) (Ev.ifp h0 (Ev.now _))), Ev.bind (iMO_ev b lb) (Ev.bind (iMO_ev a la) (Ev.ifp h0 (Ev.now _)))⟩
  · have hw : wrap64 ((b.length : Int) - 1) = ((b.length - 1 : Nat) : Int) := pred_wrap (by omega) (by omega)
    obtain ⟨hr, _⟩ := hb.2 (b.length - 1) (by omega)
    obtain ⟨r, q, h1, h2, h3, h4, h5⟩ := match_l a b la lb 101 (b.getD (b.length - 1) 0) 1 hr.1 (by omega) (by omega) (by omega)
    refine ⟨r, q, h1, h2, h3, ?_, ?_⟩
    · rw [hw]
      exact Ev.bind (sMO_ev a la) (Ev.bind (sMO_ev b lb) (Ev.ifn h0 (Ev.ifp (by omega) (Ev.ifp (by omega) h4))))
    · rw [hw]
      exact Ev.bind (iMO_ev b lb) (Ev.bind (iMO_ev a la) (Ev.ifn h0 (Ev.ifp (by omega) (Ev.ifp (by omega) h5))))

theorem FollowBy_ev (a b : List Int) (ha : a.length ≤ 1048576) (hb : b.length ≤ 1048576) :
    ∃ (x : List Int) (o : Bool), x.length ≤ 1048576 ∧ Ev (fun k => spec_FollowBy.f k a b) (x, o) ∧ Ev (fun k => impl_FollowBy.f k a b) (x, o) := by
  obtain ⟨x, hsx, hqx⟩ := sGE_ev a ha
  obtain ⟨x', hix, hqx'⟩ := iGE_ev a ha
  obtain rfl : x' = x := Bool.eq_iff_iff.2 (hqx'.trans hqx.symm)
  obtain ⟨y, hsy, hqy⟩ := sGE_ev b hb
  obtain ⟨y', hiy, hqy'⟩ := iGE_ev b hb
  obtain rfl : y' = y := Bool.eq_iff_iff.2 (hqy'.trans hqy.symm)
  unfold spec_FollowBy.f impl_FollowBy.f
  cases x' with
  | false => exact ⟨[], false, Nat.zero_le _, Ev.bind hsx (Ev.ifn (by decide) (Ev.now _)), Ev.bind hix (Ev.ifn (by decide) (Ev.now _))⟩
  | true =>
    cases y' with
    | false => exact ⟨[], false, Nat.zero_le _, Ev.bind hsx (Ev.ifp rfl (Ev.bind hsy (Ev.ifn (by decide) (Ev.now _)))), Ev.bind hix (Ev.ifp rfl (Ev.bind hiy (Ev.ifn (by decide) (Ev.now _))))⟩
    | true =>
      obtain ⟨r, q, h1, h2, h3, h4, h5⟩ := match_ev a b (hqx.1 rfl) (hqy.1 rfl)
      have la := (hqx.1 rfl).1
      have lb := (hqy.1 rfl).1
      have ht : ((List.nil : List Int) ++ b.take r.toNat).length ≤ 30 := by
        rw [List.nil_append, List.length_take]
        omega
      have hd : (a.drop r.toNat).length ≤ 30 := by
        rw [List.length_drop]
        omega
      have ht' : (b.take r.toNat).length ≤ 30 := by
        rw [List.length_take]
        omega
      refine ⟨([] ++ b.take r.toNat) ++ a.drop r.toNat, true, by rw [List.length_append]; omega, ?_, ?_⟩
      · exact Ev.bind hsx (Ev.ifp rfl (Ev.bind hsy (Ev.ifp rfl (Ev.bind h4 (Ev.bind (Ev.now _) (Ev.ifp h1 (Ev.ifp h3 (Ev.ifp (by dsimp only; rw [List.length_nil]; omega) (Ev.bind (Ev.now _) (Ev.ifp h2 (Ev.ifp (by dsimp only; omega) (Ev.now _))))))))))))
      · exact Ev.bind hix (Ev.ifp rfl (Ev.bind hiy (Ev.ifp rfl (Ev.bind h5 (Ev.bind (Ev.now _) (Ev.ifp h1 (Ev.ifp h3 (Ev.ifp (by dsimp only; rw [List.length_nil]; omega) (Ev.bind (Ev.now _) (Ev.ifp h2 (Ev.ifp (by dsimp only; omega) (Ev.now _))))))))))))

theorem FnExactFollowBy : laws_FnExactFollowBy.Pure := by
  intro l0 l1 _ _
  apply Ev.rounds
  unfold laws_FnExactFollowBy.f
  by_cases hb : l0.length ≤ 1048576
  · by_cases hc : l1.length ≤ 1048576
    · obtain ⟨x, o, hx, hs, hi⟩ := FollowBy_ev l0 l1 hb hc
      have c0 := cntL_le (fun _ : Int => 1) 1 l0 (fun _ _ => Nat.le_refl _)
      have m1 : Ev (fun k => laws_markIntS.f k l0 1) _ := markIntS_ev l0 hb 1 (by omega)
      have m2 := markIntS_ev l1 hc (1 + cntL (fun _ => 1) l0) (by omega)
      have m3 : Ev (fun k => laws_markIntS.f k x 1) _ := markIntS_ev x hx 1 (by omega)
      have m4 : Ev (fun k => laws_heldIntS.f k (markL (fun _ n => (n : Int)) (fun _ => 1) x 1) 1) _ := heldIntS_ev x hx 1 (by omega)
      repeat first
        | with_reducible exact Ev.now _
        | (with_reducible refine Ev.bind (toIntS_ev _ hb) ?_; try dsimp only)
        | (with_reducible refine Ev.bind (toIntS_ev _ hc) ?_; try dsimp only)
        | (with_reducible refine Ev.bind (hs) ?_; try dsimp only)
        | (with_reducible refine Ev.bind (hi) ?_; try dsimp only)
        | (with_reducible refine Ev.bind (eqIntS_ev _ hb) ?_; try dsimp only)
        | (with_reducible refine Ev.bind (eqIntS_ev _ hc) ?_; try dsimp only)
        | (with_reducible refine Ev.bind (eqIntS_ev _ hx) ?_; try dsimp only)
        | (with_reducible refine Ev.bind (m1) ?_; try dsimp only)
        | (with_reducible refine Ev.bind (m2) ?_; try dsimp only)
        | (with_reducible refine Ev.bind (m3) ?_; try dsimp only)
        | (with_reducible refine Ev.bind (m4) ?_; try dsimp only)
        | (with_reducible refine Ev.ifp ?hc ?_; (case hc => first | rfl | omega | (simp; done)))
        | (with_reducible refine Ev.ifn ?hc ?_; (case hc => first | decide | omega | (simp; done)))
        | (with_reducible refine Ev.succ (g := fun k_ => laws_FnExactFollowBy.j0 k_ _ _ _ _ _ _ _ _ _) ?_; simp only [laws_FnExactFollowBy.j0])
        | (with_reducible refine Ev.succ (g := fun k_ => laws_FnExactFollowBy.j1 k_ _ _ _ _ _ _) ?_; simp only [laws_FnExactFollowBy.j1])
        | (with_reducible refine Ev.succ (g := fun k_ => laws_FnExactFollowBy.j2 k_ _ _ _) ?_; simp only [laws_FnExactFollowBy.j2])
    · exact Ev.ifn (by omega) (Ev.ifp (by omega) (Ev.now _))
  · exact Ev.ifp (by omega) (Ev.now _)

end Go.Proofs.Ytopddfiiglookaa.Pure
