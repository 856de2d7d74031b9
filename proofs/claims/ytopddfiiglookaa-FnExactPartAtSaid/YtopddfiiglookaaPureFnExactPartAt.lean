/- PartAt of the program answers as the reference's, for every two lists. Conditions: none but the statement's own. -/
import Derived.Test.YtopddfiiglookaaQFnExactPartAtx2
namespace Go.Proofs.Ytopddfiiglookaa.Pure
open Go.RowKit Go.Proofs.Ytopddfiiglookaa.QFnExactPartAt Go.Proofs.YtopddfiiglookaaW.PrintWords Go.Proofs.YtopddfiiglookaaW.PrintLast Go.Proofs.YtopddfiiglookaaW.PrintMore
set_option linter.unusedVariables false
set_option linter.unusedSimpArgs false
/-! #### words -/
theorem Ev.succ {α : Type} {g : Nat → Option α} {r : α} (k : Ev (fun n => g (n + 1)) r) : Ev g r := Ev.step (fun _ => rfl) k
theorem Ev.ifp {α : Type} {c : Prop} [Decidable c] {f g : Nat → Option α} {r : α} (h : c) (k : Ev f r) : Ev (fun n => if c then f n else g n) r := Ev.congr (fun n => if_pos h) k
theorem Ev.ifn {α : Type} {c : Prop} [Decidable c] {f g : Nat → Option α} {r : α} (h : ¬ c) (k : Ev g r) : Ev (fun n => if c then f n else g n) r := Ev.congr (fun n => if_neg h) k
theorem Ev.uniq {α : Type} {g : Nat → Option α} {r q : α} (h : Ev g r) (k : Ev g q) : r = q := by
  obtain ⟨a, ha⟩ := h
  obtain ⟨b, hb⟩ := k
  have h1 := ha (max a b) (Nat.le_max_left _ _)
  have h2 := hb (max a b) (Nat.le_max_right _ _)
  rw [h1] at h2
  exact Option.some.inj h2
/-- It answers a Bool that tells whether Q. -/
def EvB (g : Nat → Option Bool) (Q : Prop) : Prop := ∃ b : Bool, Ev g b ∧ (b = true ↔ Q)
theorem EvB.step {g f : Nat → Option Bool} {Q : Prop} (h : ∀ k, g (k + 1) = f k) (k : EvB f Q) : EvB g Q := by
  obtain ⟨b, hb, hq⟩ := k
  exact ⟨b, Ev.step h hb, hq⟩
theorem EvB.iff {g : Nat → Option Bool} {Q R : Prop} (k : EvB g Q) (h : Q ↔ R) : EvB g R := by
  obtain ⟨b, hb, hq⟩ := k
  exact ⟨b, hb, hq.trans h⟩
theorem EvB.no {g : Nat → Option Bool} {Q : Prop} (h : ∀ k, g (k + 1) = some false) (hq : ¬ Q) : EvB g Q := ⟨false, Ev.step (f := fun _ => some false) h (Ev.now _), Iff.intro (fun h => by cases h) (fun h => absurd h hq)⟩
theorem EvB.yes {g : Nat → Option Bool} {Q : Prop} (h : ∀ k, g (k + 1) = some true) (hq : Q) : EvB g Q := ⟨true, Ev.step (f := fun _ => some true) h (Ev.now _), ⟨fun _ => hq, fun _ => rfl⟩⟩
theorem EvB.ev {g : Nat → Option Bool} {Q : Prop} [Decidable Q] (k : EvB g Q) : Ev g (decide Q) := by
  obtain ⟨b, hb, hq⟩ := k
  have : b = decide Q := by
    by_cases h : Q
    · rw [hq.2 h, decide_eq_true h]
    · rw [decide_eq_false h]
      cases b with
      | false => rfl
      | true => exact absurd (hq.1 rfl) h
  rw [← this]
  exact hb
theorem EvB.get {g : Nat → Option Bool} {Q : Prop} (k : EvB g Q) (h : Q) : Ev g true := by
  obtain ⟨b, hb, hq⟩ := k
  rw [← hq.2 h]
  exact hb
theorem EvB.not {g : Nat → Option Bool} {Q : Prop} (k : EvB g Q) (h : ¬ Q) : Ev g false := by
  obtain ⟨b, hb, hq⟩ := k
  cases b with
  | false => exact hb
  | true => exact absurd (hq.1 rfl) h
theorem wrap_id {x : Int} (h0 : -9223372036854775808 ≤ x) (h1 : x ≤ 9223372036854775807) : wrap64 x = x := by
  unfold wrap64
  omega
theorem succ_wrap {i : Nat} (h : i ≤ 9000000000000000000) : wrap64 ((i : Int) + 1) = ((i + 1 : Nat) : Int) := by
  rw [wrap_id (by omega) (by omega)]
  omega
theorem pred_wrap {i : Nat} (h0 : 0 < i) (h : i ≤ 9000000000000000000) : wrap64 ((i : Int) - 1) = ((i - 1 : Nat) : Int) := by
  rw [wrap_id (by omega) (by omega)]
  omega
theorem pred_zero : wrap64 (((0 : Nat) : Int) - 1) = -1 := by
  unfold wrap64
  omega
theorem rd_nat (l : List Int) (i : Nat) : rd l (i : Int) = l.getD i 0 := rfl
theorem tn_nat (i : Nat) : ((i : Int)).toNat = i := rfl
theorem len_nat {α : Type} (l : List α) {k : Nat} (h : l.length ≤ k) : ¬ ((l.length : Int) > (k : Int)) := by omega

/-- A list is made, element by element. -/
theorem conv_ev {β : Type} (n : Nat) (F : List β → Nat → Nat → Option (List β)) (c : Nat → β) (h1 : ∀ x : List β, x.length = n → Ev (F x n) x)
    (h2 : ∀ (x : List β) (i : Nat), i < n → x.length = n → ∀ r, Ev (F (x.set i (c i)) (i + 1)) r → Ev (F x i) r) : ∀ x0 : List β, x0.length = n → Ev (F x0 0) ((List.range n).map c) := by
  have key : ∀ d i (x : List β), i + d = n → x.length = n → Ev (F x i) (x.take i ++ (List.range d).map fun j => c (i + j)) := by
    intro d
    induction d with
    | zero =>
      intro i x hd hx
      have hi : i = n := by omega
      subst hi
      have : x.take i ++ (List.range 0).map (fun j => c (i + j)) = x := by
        rw [List.take_of_length_le (by omega)]
        simp
      rw [this]
      exact h1 x hx
    | succ d ih =>
      intro i x hd hx
      have hi : i < n := by omega
      have := ih (i + 1) (x.set i (c i)) (by omega) (by rw [List.length_set]; exact hx)
      have e : (x.set i (c i)).take (i + 1) ++ (List.range d).map (fun j => c (i + 1 + j)) = x.take i ++ (List.range (d + 1)).map (fun j => c (i + j)) := by
        rw [List.range_succ_eq_map, List.map_cons, List.map_map]
        have ht : (x.set i (c i)).take (i + 1) = x.take i ++ [c i] := by
          rw [List.take_succ_eq_append_getElem (by rw [List.length_set]; omega)]
          rw [List.take_set_of_le (Nat.le_refl _), List.getElem_set_self]
        rw [ht, List.append_assoc]
        congr 1
        rw [List.singleton_append]
        congr 1
        apply List.map_congr_left
        intro j _
        show c (i + 1 + j) = c (i + (j + 1))
        congr 1
        omega
      rw [e] at this
      exact h2 x i hi hx _ this
  intro x0 hx0
  have := key n 0 x0 (by omega) hx0
  rw [List.take_zero, List.nil_append] at this
  have e : (fun j => c (0 + j)) = c := by
    funext j
    rw [Nat.zero_add]
  rw [e] at this
  exact this

/-- Two rows are held against each other, element by element. -/
theorem all_ev (n : Nat) (F : Nat → Nat → Option Bool) (h1 : Ev (F n) true) (h2 : ∀ i, i < n → Ev (F (i + 1)) true → Ev (F i) true) : Ev (F 0) true := by
  have key : ∀ d i, i + d = n → Ev (F i) true := by
    intro d
    induction d with
    | zero =>
      intro i hd
      have hi : i = n := by omega
      subst hi
      exact h1
    | succ d ih =>
      intro i hd
      exact h2 i (by omega) (ih (i + 1) (by omega))
  exact key n 0 (by omega)

/-- The elements are numbered through; and so they are found. -/
def markL {β : Type} (mk : β → Nat → β) (cnt : β → Nat) : List β → Nat → List β
  | [], _ => []
  | b :: r, m => mk b m :: markL mk cnt r (m + cnt b)
def cntL {β : Type} (cnt : β → Nat) : List β → Nat
  | [] => 0
  | b :: r => cnt b + cntL cnt r
theorem markL_length {β : Type} (mk : β → Nat → β) (cnt : β → Nat) : ∀ (l : List β) (m : Nat), (markL mk cnt l m).length = l.length
  | [], _ => rfl
  | b :: r, m => by
    show (markL mk cnt r _).length + 1 = r.length + 1
    rw [markL_length mk cnt r]
theorem cntL_le {β : Type} (cnt : β → Nat) (c : Nat) : ∀ l : List β, (∀ b ∈ l, cnt b ≤ c) → cntL cnt l ≤ c * l.length
  | [], _ => Nat.zero_le _
  | b :: r, h => by
    have h1 := cntL_le cnt c r (fun x hx => h x (List.mem_cons_of_mem _ hx))
    have h2 := h b List.mem_cons_self
    show cnt b + cntL cnt r ≤ c * (r.length + 1)
    rw [Nat.mul_add, Nat.mul_one]
    omega
theorem mark_ev {β : Type} (z : β) (mk : β → Nat → β) (cnt : β → Nat) (B n : Nat) (F : List β → Nat → Nat → Nat → Option (Int × List β)) (h1 : ∀ (x : List β) (m : Nat), x.length = n → Ev (F x m n) ((m : Int), x))
    (h2 : ∀ (x : List β) (m i : Nat), x.length = n → i < n → m + cnt (x.getD i z) ≤ B → ∀ r, Ev (F (x.set i (mk (x.getD i z) m)) (m + cnt (x.getD i z)) (i + 1)) r → Ev (F x m i) r) :
    ∀ (x : List β) (m : Nat), x.length = n → m + cntL cnt x ≤ B → Ev (F x m 0) (((m + cntL cnt x : Nat) : Int), markL mk cnt x m) := by
  have key : ∀ (rest done : List β) (m : Nat), done.length + rest.length = n → m + cntL cnt rest ≤ B → Ev (F (done ++ rest) m done.length) (((m + cntL cnt rest : Nat) : Int), done ++ markL mk cnt rest m) := by
    intro rest
    induction rest with
    | nil =>
      intro done m hn _
      have hn' : done.length = n := hn
      have := h1 done m hn'
      rw [← hn'] at this
      rw [List.append_nil]
      show Ev _ (((m + 0 : Nat) : Int), done ++ [])
      rw [List.append_nil]
      exact this
    | cons b r ih =>
      intro done m hn hm
      have hn' : done.length + (r.length + 1) = n := hn
      have hm' : m + (cnt b + cntL cnt r) ≤ B := hm
      have hg : (done ++ b :: r).getD done.length z = b := by simp [List.getD]
      have hs : (done ++ b :: r).set done.length (mk b m) = (done ++ [mk b m]) ++ r := by simp [List.set_append]
      have := ih (done ++ [mk b m]) (m + cnt b) (by rw [List.length_append, List.length_singleton]; omega) (by omega)
      refine h2 _ m done.length (by simp; omega) (by omega) (by rw [hg]; omega) _ ?_
      rw [hg, hs]
      rw [List.length_append, List.length_singleton] at this
      have e : m + cnt b + cntL cnt r = m + (cnt b + cntL cnt r) := by omega
      have e2 : done ++ [mk b m] ++ markL mk cnt r (m + cnt b) = done ++ (mk b m :: markL mk cnt r (m + cnt b)) := by rw [List.append_assoc, List.singleton_append]
      rw [e, e2] at this
      exact this
  intro x m hn hm
  exact key x [] m (by simpa using hn) hm
theorem held_ev {β : Type} (z : β) (mk : β → Nat → β) (cnt : β → Nat) (B n : Nat) (H : List β → Nat → Nat → Nat → Option Int) (h1 : ∀ (x : List β) (m : Nat), x.length = n → Ev (H x m n) (m : Int))
    (h2 : ∀ (x : List β) (m i : Nat) (b : β), x.length = n → i < n → x.getD i z = mk b m → m + cnt b ≤ B → ∀ r, Ev (H x (m + cnt b) (i + 1)) r → Ev (H x m i) r) :
    ∀ (x : List β) (m : Nat), x.length = n → m + cntL cnt x ≤ B → Ev (H (markL mk cnt x m) m 0) ((m + cntL cnt x : Nat) : Int) := by
  have key : ∀ (rest done : List β) (m : Nat), done.length + rest.length = n → m + cntL cnt rest ≤ B → Ev (H (done ++ markL mk cnt rest m) m done.length) ((m + cntL cnt rest : Nat) : Int) := by
    intro rest
    induction rest with
    | nil =>
      intro done m hn _
      have hn' : done.length = n := hn
      have := h1 done m hn'
      rw [← hn'] at this
      show Ev (H (done ++ []) m done.length) _
      rw [List.append_nil]
      exact this
    | cons b r ih =>
      intro done m hn hm
      have hn' : done.length + (r.length + 1) = n := hn
      have hm' : m + (cnt b + cntL cnt r) ≤ B := hm
      have := ih (done ++ [mk b m]) (m + cnt b) (by rw [List.length_append, List.length_singleton]; omega) (by omega)
      show Ev (H (done ++ (mk b m :: markL mk cnt r (m + cnt b))) m done.length) _
      refine h2 _ m done.length b (by simp [markL_length]; omega) (by omega) (by simp [List.getD]) (by omega) _ ?_
      rw [List.length_append, List.length_singleton, List.append_assoc, List.singleton_append] at this
      have e : m + cnt b + cntL cnt r = m + (cnt b + cntL cnt r) := by omega
      rw [e] at this
      exact this
  intro x m hn hm
  exact key x [] m (by simpa using hn) hm

theorem map_range_getD {α β : Type} (l : List α) (z : α) (f : α → β) : (List.range l.length).map (fun i => f (l.getD i z)) = l.map f := by
  apply List.ext_getElem
  · simp
  · intro i h1 h2
    simp at h1 h2
    simp [h2]
theorem map_range_self {α : Type} (l : List α) (z : α) : (List.range l.length).map (fun i => l.getD i z) = l := by
  have := map_range_getD l z id
  simpa using this
theorem getD_mem {α : Type} {l : List α} {i : Nat} (h : i < l.length) (z : α) : l.getD i z ∈ l := by
  rw [List.getD_eq_getElem?_getD, List.getElem?_eq_getElem h, Option.getD_some]
  exact List.getElem_mem h

/-! #### []int -/
theorem toIntS_ev (l : List Int) (hl : l.length ≤ 1048576) : Ev (fun k => laws_toIntS.f k l) l := by
  have h := conv_ev l.length (fun x i k => laws_toIntS.l0 k l x (i : Int)) (fun i => l.getD i 0)
    (fun x hx => Ev.step (f := fun _ => some x) (fun k => by
      show laws_toIntS.l0 (k + 1) l x ((l.length : Nat) : Int) = some x
      rw [laws_toIntS.l0, if_neg (by omega)]) (Ev.now _))
    (fun x i hi hx r hr => Ev.step (fun k => by
      show laws_toIntS.l0 (k + 1) l x (i : Int) = laws_toIntS.l0 k l (x.set i (l.getD i 0)) ((i + 1 : Nat) : Int)
      rw [laws_toIntS.l0, if_pos (by omega), if_pos (by omega), if_pos (by omega), succ_wrap (by omega)]
      rfl) hr)
    (List.replicate l.length 0) (by simp)
  rw [map_range_self] at h
  refine Ev.congr (fun k => ?_) h
  unfold laws_toIntS.f
  rw [if_pos (by omega), if_pos (by rw [tn_nat]; omega)]
  rfl
theorem eqIntS_ev (l : List Int) (hl : l.length ≤ 1048576) : Ev (fun k => laws_eqIntS.f k l l) true := by
  have h := all_ev l.length (fun i k => laws_eqIntS.l0 k l l (i : Int))
    (Ev.step (f := fun _ => some true) (fun k => by
      show laws_eqIntS.l0 (k + 1) l l ((l.length : Nat) : Int) = some true
      rw [laws_eqIntS.l0, if_neg (by omega)]) (Ev.now _))
    (fun i hi hr => Ev.step (fun k => by
      show laws_eqIntS.l0 (k + 1) l l (i : Int) = laws_eqIntS.l0 k l l ((i + 1 : Nat) : Int)
      rw [laws_eqIntS.l0, if_pos (by omega), if_pos (by omega), if_pos (by omega), if_pos rfl, succ_wrap (by omega)]) hr)
  refine Ev.congr (fun k => ?_) h
  unfold laws_eqIntS.f
  rw [if_pos rfl]
  rfl

/-! #### a number between two -/
theorem sin (a b c : Int) : spec_l1In.f a b c = some (decide (b ≤ a ∧ a ≤ c)) := by
  unfold spec_l1In.f
  by_cases h : a ≥ b
  · rw [if_pos h]
    have e : (b ≤ a ∧ a ≤ c) ↔ a ≤ c := ⟨fun h => h.2, fun h' => ⟨h, h'⟩⟩
    simp only [e]
  · rw [if_neg h, decide_eq_false]
    intro h'
    exact h h'.1

theorem iin (a b c : Int) : impl_in.f a b c = some (decide (b ≤ a ∧ a ≤ c)) := by
  unfold impl_in.f
  by_cases h : a ≥ b
  · rw [if_pos h]
    have e : (b ≤ a ∧ a ≤ c) ↔ a ≤ c := ⟨fun h => h.2, fun h' => ⟨h, h'⟩⟩
    simp only [e]
  · rw [if_neg h, decide_eq_false]
    intro h'
    exact h h'.1

/-! #### good entries -/
def PE (l : List Int) (j : Nat) : Prop := (0 ≤ l.getD j 0 ∧ l.getD j 0 ≤ 100) ∧ (0 < j → l.getD (j - 1) 0 ≤ l.getD j 0)
def GE (l : List Int) : Prop := l.length ≤ 30 ∧ ∀ j, j < l.length → PE l j

theorem sGE_l (l : List Int) (hl : l.length ≤ 1048576) : ∀ d i : Nat, i + d = l.length →
    EvB (fun k => spec_GoodEntries.l0 k l l (l.length : Int) (i : Int)) (l.length ≤ 30 ∧ ∀ j, i ≤ j → j < l.length → PE l j)
  | 0, i, hd => by
    refine ⟨decide ((l.length : Int) ≤ 30), Ev.step (f := fun _ => some (decide ((l.length : Int) ≤ 30))) (fun k => by rw [spec_GoodEntries.l0, if_neg (by omega)]) (Ev.now _), ?_⟩
    rw [decide_eq_true_iff]
    exact ⟨fun h => ⟨by omega, fun j h1 h2 => by omega⟩, fun h => by omega⟩
  | d + 1, i, hd => by
    by_cases hr : 0 ≤ l.getD i 0 ∧ l.getD i 0 ≤ 100
    · by_cases hi : 0 < i
      · by_cases hp : l.getD (i - 1) 0 > l.getD i 0
        · refine EvB.no (fun k => ?_) (fun h => ?_)
          · rw [spec_GoodEntries.l0, if_pos (by omega), if_pos (by omega), if_pos (by omega), sin, rd_nat, decide_eq_true hr, Option.bind_some, if_pos rfl, if_pos (by omega), pred_wrap hi (by omega), if_pos (by omega), if_pos (by omega), rd_nat, if_pos hp]
          · have := (h.2 i (Nat.le_refl _) (by omega)).2 hi
            omega
        · refine EvB.step (fun k => ?_) (EvB.iff (sGE_l l hl d (i + 1) (by omega)) ?_)
          · show spec_GoodEntries.l0 (k + 1) l l (l.length : Int) (i : Int) = spec_GoodEntries.l0 k l l (l.length : Int) ((i + 1 : Nat) : Int)
            rw [spec_GoodEntries.l0, if_pos (by omega), if_pos (by omega), if_pos (by omega), sin, rd_nat, decide_eq_true hr, Option.bind_some, if_pos rfl, if_pos (by omega), pred_wrap hi (by omega), if_pos (by omega), if_pos (by omega), rd_nat, if_neg hp, succ_wrap (by omega)]
          · refine and_congr_right fun _ => ⟨fun h j h1 h2 => ?_, fun h j h1 h2 => h j (by omega) h2⟩
            by_cases e : j = i
            · subst e
              exact ⟨hr, fun _ => by omega⟩
            · exact h j (by omega) h2
      · have h0 : i = 0 := by omega
        subst h0
        refine EvB.step (fun k => ?_) (EvB.iff (sGE_l l hl d 1 (by omega)) ?_)
        · show spec_GoodEntries.l0 (k + 1) l l (l.length : Int) ((0 : Nat) : Int) = spec_GoodEntries.l0 k l l (l.length : Int) ((0 + 1 : Nat) : Int)
          rw [spec_GoodEntries.l0, if_pos (by omega), if_pos (by omega), if_pos (by omega), sin, rd_nat, decide_eq_true hr, Option.bind_some, if_pos rfl, if_neg (by omega), succ_wrap (by omega)]
        · refine and_congr_right fun _ => ⟨fun h j h1 h2 => ?_, fun h j h1 h2 => h j (by omega) h2⟩
          by_cases e : j = 0
          · subst e
            exact ⟨hr, fun h => absurd h (Nat.lt_irrefl _)⟩
          · exact h j (by omega) h2
    · refine EvB.no (fun k => ?_) (fun h => hr (h.2 i (Nat.le_refl _) (by omega)).1)
      rw [spec_GoodEntries.l0, if_pos (by omega), if_pos (by omega), if_pos (by omega), sin, rd_nat, decide_eq_false hr, Option.bind_some, if_neg (by decide)]
theorem sGE_ev (l : List Int) (hl : l.length ≤ 1048576) : EvB (fun k => spec_GoodEntries.f k l) (GE l) := by
  have h := sGE_l l hl l.length 0 (by omega)
  exact h.iff ⟨fun h => ⟨h.1, fun j hj => h.2 j (Nat.zero_le _) hj⟩, fun h => ⟨h.1, fun j _ hj => h.2 j hj⟩⟩

theorem iGE_l (l : List Int) (hl : l.length ≤ 1048576) : ∀ d i : Nat, i + d = l.length →
    EvB (fun k => impl_areEntries.l0 k l l (l.length : Int) (i : Int)) (l.length ≤ 30 ∧ ∀ j, i ≤ j → j < l.length → PE l j)
  | 0, i, hd => by
    refine ⟨decide ((l.length : Int) ≤ 30), Ev.step (f := fun _ => some (decide ((l.length : Int) ≤ 30))) (fun k => by rw [impl_areEntries.l0, if_neg (by omega)]) (Ev.now _), ?_⟩
    rw [decide_eq_true_iff]
    exact ⟨fun h => ⟨by omega, fun j h1 h2 => by omega⟩, fun h => by omega⟩
  | d + 1, i, hd => by
    by_cases hr : 0 ≤ l.getD i 0 ∧ l.getD i 0 ≤ 100
    · by_cases hi : 0 < i
      · by_cases hp : l.getD (i - 1) 0 > l.getD i 0
        · refine EvB.no (fun k => ?_) (fun h => ?_)
          · rw [impl_areEntries.l0, if_pos (by omega), if_pos (by omega), if_pos (by omega), iin, rd_nat, decide_eq_true hr, Option.bind_some, if_pos rfl, if_pos (by omega), pred_wrap hi (by omega), if_pos (by omega), if_pos (by omega), rd_nat, if_pos hp]
          · have := (h.2 i (Nat.le_refl _) (by omega)).2 hi
            omega
        · refine EvB.step (fun k => ?_) (EvB.iff (iGE_l l hl d (i + 1) (by omega)) ?_)
          · show impl_areEntries.l0 (k + 1) l l (l.length : Int) (i : Int) = impl_areEntries.l0 k l l (l.length : Int) ((i + 1 : Nat) : Int)
            rw [impl_areEntries.l0, if_pos (by omega), if_pos (by omega), if_pos (by omega), iin, rd_nat, decide_eq_true hr, Option.bind_some, if_pos rfl, if_pos (by omega), pred_wrap hi (by omega), if_pos (by omega), if_pos (by omega), rd_nat, if_neg hp, succ_wrap (by omega)]
          · refine and_congr_right fun _ => ⟨fun h j h1 h2 => ?_, fun h j h1 h2 => h j (by omega) h2⟩
            by_cases e : j = i
            · subst e
              exact ⟨hr, fun _ => by omega⟩
            · exact h j (by omega) h2
      · have h0 : i = 0 := by omega
        subst h0
        refine EvB.step (fun k => ?_) (EvB.iff (iGE_l l hl d 1 (by omega)) ?_)
        · show impl_areEntries.l0 (k + 1) l l (l.length : Int) ((0 : Nat) : Int) = impl_areEntries.l0 k l l (l.length : Int) ((0 + 1 : Nat) : Int)
          rw [impl_areEntries.l0, if_pos (by omega), if_pos (by omega), if_pos (by omega), iin, rd_nat, decide_eq_true hr, Option.bind_some, if_pos rfl, if_neg (by omega), succ_wrap (by omega)]
        · refine and_congr_right fun _ => ⟨fun h j h1 h2 => ?_, fun h j h1 h2 => h j (by omega) h2⟩
          by_cases e : j = 0
          · subst e
            exact ⟨hr, fun h => absurd h (Nat.lt_irrefl _)⟩
          · exact h j (by omega) h2
    · refine EvB.no (fun k => ?_) (fun h => hr (h.2 i (Nat.le_refl _) (by omega)).1)
      rw [impl_areEntries.l0, if_pos (by omega), if_pos (by omega), if_pos (by omega), iin, rd_nat, decide_eq_false hr, Option.bind_some, if_neg (by decide)]
theorem iGE_ev (l : List Int) (hl : l.length ≤ 1048576) : EvB (fun k => impl_areEntries.f k l) (GE l) := by
  have h := iGE_l l hl l.length 0 (by omega)
  exact h.iff ⟨fun h => ⟨h.1, fun j hj => h.2 j (Nat.zero_le _) hj⟩, fun h => ⟨h.1, fun j _ hj => h.2 j hj⟩⟩

/-! #### where two logs part -/
theorem PA_l (a b : List Int) (ha : a.length ≤ 1048576) (hb : b.length ≤ 1048576) : ∀ d i : Nat, i + d = min a.length b.length →
    ∃ p : Nat, i ≤ p ∧ p ≤ a.length ∧ p ≤ b.length ∧ (∀ j, i ≤ j → j < p → a.getD j 0 = b.getD j 0) ∧ (p < a.length → p < b.length → a.getD p 0 ≠ b.getD p 0) ∧
      Ev (fun k => spec_PartAt.l0 k a b (i : Int)) ((p : Int), true) ∧ Ev (fun k => impl_PartAt.l0 k a b (i : Int)) ((p : Int), true)
  | 0, i, hd => by
    refine ⟨i, Nat.le_refl _, by omega, by omega, fun j h1 h2 => by omega, fun h1 h2 => by omega, ?_, ?_⟩
    · refine Ev.step (f := fun _ => some ((i : Int), true)) (fun k => ?_) (Ev.now _)
      by_cases h : (i : Int) < (a.length : Int)
      · rw [spec_PartAt.l0, if_pos h, if_neg (by omega)]
      · rw [spec_PartAt.l0, if_neg h]
    · refine Ev.step (f := fun _ => some ((i : Int), true)) (fun k => ?_) (Ev.now _)
      rw [impl_PartAt.l0, if_neg (by unfold mn; split <;> omega)]
  | d + 1, i, hd => by
    by_cases hp : a.getD i 0 = b.getD i 0
    · obtain ⟨p, h1, h2, h3, h4, h5, h6, h7⟩ := PA_l a b ha hb d (i + 1) (by omega)
      refine ⟨p, by omega, h2, h3, fun j hj1 hj2 => ?_, h5, Ev.step (fun k => ?_) h6, Ev.step (fun k => ?_) h7⟩
      · by_cases e : j = i
        · rw [e]
          exact hp
        · exact h4 j (by omega) hj2
      · show spec_PartAt.l0 (k + 1) a b (i : Int) = spec_PartAt.l0 k a b ((i + 1 : Nat) : Int)
        rw [spec_PartAt.l0, if_pos (by omega), if_pos (by omega), if_pos (by omega), rd_nat, rd_nat, if_pos hp, succ_wrap (by omega)]
      · show impl_PartAt.l0 (k + 1) a b (i : Int) = impl_PartAt.l0 k a b ((i + 1 : Nat) : Int)
        rw [impl_PartAt.l0, if_pos (by unfold mn; split <;> omega), if_pos (by omega), if_pos (by omega), if_pos (by omega), rd_nat, rd_nat, if_pos hp, succ_wrap (by omega)]
    · refine ⟨i, Nat.le_refl _, by omega, by omega, fun j h1 h2 => by omega, fun _ _ => hp, ?_, ?_⟩
      · refine Ev.step (f := fun _ => some ((i : Int), true)) (fun k => ?_) (Ev.now _)
        rw [spec_PartAt.l0, if_pos (by omega), if_pos (by omega), if_pos (by omega), rd_nat, rd_nat, if_neg hp]
      · refine Ev.step (f := fun _ => some ((i : Int), true)) (fun k => ?_) (Ev.now _)
        rw [impl_PartAt.l0, if_pos (by unfold mn; split <;> omega), if_pos (by omega), if_pos (by omega), if_pos (by omega), rd_nat, rd_nat, if_neg hp]
theorem PartAt_ev (a b : List Int) (ha : a.length ≤ 1048576) (hb : b.length ≤ 1048576) :
    ∃ (p : Int) (o : Bool), Ev (fun k => spec_PartAt.f k a b) (p, o) ∧ Ev (fun k => impl_PartAt.f k a b) (p, o) := by
  obtain ⟨x, hsx, hqx⟩ := sGE_ev a ha
  obtain ⟨x', hix, hqx'⟩ := iGE_ev a ha
  obtain rfl : x' = x := Bool.eq_iff_iff.2 (hqx'.trans hqx.symm)
  obtain ⟨y, hsy, hqy⟩ := sGE_ev b hb
  obtain ⟨y', hiy, hqy'⟩ := iGE_ev b hb
  obtain rfl : y' = y := Bool.eq_iff_iff.2 (hqy'.trans hqy.symm)
  unfold spec_PartAt.f impl_PartAt.f
  cases x' with
  | false =>
    refine ⟨0, false, Ev.bind hsx (Ev.ifn (by decide) (Ev.succ ?_)), Ev.bind hix (Ev.ifn (by decide) (Ev.succ ?_))⟩
    · simp only [spec_PartAt.j0]
      exact Ev.ifp trivial (Ev.now _)
    · simp only [impl_PartAt.j0]
      exact Ev.ifp trivial (Ev.now _)
  | true =>
    cases y' with
    | false =>
      refine ⟨0, false, Ev.bind hsx (Ev.ifp rfl (Ev.bind hsy (Ev.succ ?_))), Ev.bind hix (Ev.ifp rfl (Ev.bind hiy (Ev.succ ?_)))⟩
      · simp only [spec_PartAt.j0]
        exact Ev.ifp (by decide) (Ev.now _)
      · simp only [impl_PartAt.j0]
        exact Ev.ifp (by decide) (Ev.now _)
    | true =>
      obtain ⟨p, _, _, _, _, _, h6, h7⟩ := PA_l a b ha hb (min a.length b.length) 0 (by omega)
      refine ⟨p, true, Ev.bind hsx (Ev.ifp rfl (Ev.bind hsy (Ev.succ ?_))), Ev.bind hix (Ev.ifp rfl (Ev.bind hiy (Ev.succ ?_)))⟩
      · simp only [spec_PartAt.j0]
        exact Ev.ifn (by decide) h6
      · simp only [impl_PartAt.j0]
        exact Ev.ifn (by decide) h7

theorem FnExactPartAt : laws_FnExactPartAt.Pure := by
  intro l0 l1 _ _
  apply Ev.rounds
  unfold laws_FnExactPartAt.f
  by_cases hb : l0.length ≤ 1048576
  · by_cases hc : l1.length ≤ 1048576
    · obtain ⟨p, o, hs, hi⟩ := PartAt_ev l0 l1 hb hc
      repeat first
        | with_reducible exact Ev.now _
        | (with_reducible refine Ev.bind (toIntS_ev _ hb) ?_; try dsimp only)
        | (with_reducible refine Ev.bind (toIntS_ev _ hc) ?_; try dsimp only)
        | (with_reducible refine Ev.bind (hs) ?_; try dsimp only)
        | (with_reducible refine Ev.bind (hi) ?_; try dsimp only)
        | (with_reducible refine Ev.bind (eqIntS_ev _ hb) ?_; try dsimp only)
        | (with_reducible refine Ev.bind (eqIntS_ev _ hc) ?_; try dsimp only)
        | (with_reducible refine Ev.ifp ?hc ?_; (case hc => first | rfl | omega | (simp; done)))
        | (with_reducible refine Ev.ifn ?hc ?_; (case hc => first | decide | omega | (simp; done)))
        | (with_reducible refine Ev.succ (g := fun k_ => laws_FnExactPartAt.j0 k_ _ _ _ _ _) ?_; simp only [laws_FnExactPartAt.j0])
    · exact Ev.ifn (by omega) (Ev.ifp (by omega) (Ev.now _))
  · exact Ev.ifp (by omega) (Ev.now _)

end Go.Proofs.Ytopddfiiglookaa.Pure
