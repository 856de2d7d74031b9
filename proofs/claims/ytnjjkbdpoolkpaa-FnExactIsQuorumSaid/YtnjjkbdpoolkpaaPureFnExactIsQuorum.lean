/- IsQuorum of the program answers as the reference's, for all votes and groups. Conditions: none but the statement's own. -/
import Derived.Test.YtnjjkbdpoolkpaaQFnExactIsQuorumx4
namespace Go.Proofs.Ytnjjkbdpoolkpaa.Pure
open Go.RowKit Go.Proofs.Ytnjjkbdpoolkpaa.QFnExactIsQuorum Go.Proofs.YtnjjkbdpoolkpaaW.PrintWords Go.Proofs.YtnjjkbdpoolkpaaW.PrintLast Go.Proofs.YtnjjkbdpoolkpaaW.PrintMore
set_option linter.unusedVariables false
set_option linter.unusedSimpArgs false
/-! #### words -/
theorem Ev.succ {α : Type} {g : Nat → Option α} {r : α} (k : Ev (fun n => g (n + 1)) r) : Ev g r := Ev.step (fun _ => rfl) k
theorem Ev.ifp {α : Type} {c : Prop} [Decidable c] {f g : Nat → Option α} {r : α} (h : c) (k : Ev f r) : Ev (fun n => if c then f n else g n) r := Ev.congr (fun n => if_pos h) k
theorem Ev.ifn {α : Type} {c : Prop} [Decidable c] {f g : Nat → Option α} {r : α} (h : ¬ c) (k : Ev g r) : Ev (fun n => if c then f n else g n) r := Ev.congr (fun n => if_neg h) k
theorem Ev.uniq {α : Type} {g : Nat → Option α} {r q : α} (h : Ev g r) (k : Ev g q) : r = q := by
  obtain ⟨a, ha⟩ := h
  obtain ⟨b, hb⟩ := k
  have h1 := ha (max a b) (Nat.le_max_left _ _)
  have h2 := hb (max a b) (Nat.le_max_right _ _)
  rw [h1] at h2
  exact Option.some.inj h2
/-- It answers a Bool that tells whether Q. -/
def EvB (g : Nat → Option Bool) (Q : Prop) : Prop := ∃ b : Bool, Ev g b ∧ (b = true ↔ Q)
theorem EvB.step {g f : Nat → Option Bool} {Q : Prop} (h : ∀ k, g (k + 1) = f k) (k : EvB f Q) : EvB g Q := by
  obtain ⟨b, hb, hq⟩ := k
  exact ⟨b, Ev.step h hb, hq⟩
theorem EvB.iff {g : Nat → Option Bool} {Q R : Prop} (k : EvB g Q) (h : Q ↔ R) : EvB g R := by
  obtain ⟨b, hb, hq⟩ := k
  exact ⟨b, hb, hq.trans h⟩
theorem EvB.no {g : Nat → Option Bool} {Q : Prop} (h : ∀ k, g (k + 1) = some false) (hq : ¬ Q) : EvB g Q := ⟨false, Ev.step (f := fun _ => some false) h (Ev.now _), Iff.intro (fun h => by cases h) (fun h => absurd h hq)⟩
theorem EvB.yes {g : Nat → Option Bool} {Q : Prop} (h : ∀ k, g (k + 1) = some true) (hq : Q) : EvB g Q := ⟨true, Ev.step (f := fun _ => some true) h (Ev.now _), ⟨fun _ => hq, fun _ => rfl⟩⟩
theorem EvB.ev {g : Nat → Option Bool} {Q : Prop} [Decidable Q] (k : EvB g Q) : Ev g (decide Q) := by
  obtain ⟨b, hb, hq⟩ := k
  have : b = decide Q := by
    by_cases h : Q
    · rw [hq.2 h, decide_eq_true h]
    · rw [decide_eq_false h]
      cases b with
      | false => rfl
      | true => exact absurd (hq.1 rfl) h
  rw [← this]
  exact hb
theorem EvB.get {g : Nat → Option Bool} {Q : Prop} (k : EvB g Q) (h : Q) : Ev g true := by
  obtain ⟨b, hb, hq⟩ := k
  rw [← hq.2 h]
  exact hb
theorem EvB.not {g : Nat → Option Bool} {Q : Prop} (k : EvB g Q) (h : ¬ Q) : Ev g false := by
  obtain ⟨b, hb, hq⟩ := k
  cases b with
  | false => exact hb
  | true => exact absurd (hq.1 rfl) h
theorem wrap_id {x : Int} (h0 : -9223372036854775808 ≤ x) (h1 : x ≤ 9223372036854775807) : wrap64 x = x := by
  unfold wrap64
  omega
theorem succ_wrap {i : Nat} (h : i ≤ 9000000000000000000) : wrap64 ((i : Int) + 1) = ((i + 1 : Nat) : Int) := by
  rw [wrap_id (by omega) (by omega)]
  omega
theorem pred_wrap {i : Nat} (h0 : 0 < i) (h : i ≤ 9000000000000000000) : wrap64 ((i : Int) - 1) = ((i - 1 : Nat) : Int) := by
  rw [wrap_id (by omega) (by omega)]
  omega
theorem pred_zero : wrap64 (((0 : Nat) : Int) - 1) = -1 := by
  unfold wrap64
  omega
theorem rd_nat (l : List Int) (i : Nat) : rd l (i : Int) = l.getD i 0 := rfl
theorem tn_nat (i : Nat) : ((i : Int)).toNat = i := rfl
theorem len_nat {α : Type} (l : List α) {k : Nat} (h : l.length ≤ k) : ¬ ((l.length : Int) > (k : Int)) := by omega

/-- A list is made, element by element. -/
theorem conv_ev {β : Type} (n : Nat) (F : List β → Nat → Nat → Option (List β)) (c : Nat → β) (h1 : ∀ x : List β, x.length = n → Ev (F x n) x)
    (h2 : ∀ (x : List β) (i : Nat), i < n → x.length = n → ∀ r, Ev (F (x.set i (c i)) (i + 1)) r → Ev (F x i) r) : ∀ x0 : List β, x0.length = n → Ev (F x0 0) ((List.range n).map c) := by
  have key : ∀ d i (x : List β), i + d = n → x.length = n → Ev (F x i) (x.take i ++ (List.range d).map fun j => c (i + j)) := by
    intro d
    induction d with
    | zero =>
      intro i x hd hx
      have hi : i = n := by omega
      subst hi
      have : x.take i ++ (List.range 0).map (fun j => c (i + j)) = x := by
        rw [List.take_of_length_le (by omega)]
        simp
      rw [this]
      exact h1 x hx
    | succ d ih =>
      intro i x hd hx
      have hi : i < n := by omega
      have := ih (i + 1) (x.set i (c i)) (by omega) (by rw [List.length_set]; exact hx)
      have e : (x.set i (c i)).take (i + 1) ++ (List.range d).map (fun j => c (i + 1 + j)) = x.take i ++ (List.range (d + 1)).map (fun j => c (i + j)) := by
        rw [List.range_succ_eq_map, List.map_cons, List.map_map]
        have ht : (x.set i (c i)).take (i + 1) = x.take i ++ [c i] := by
          rw [List.take_succ_eq_append_getElem (by rw [List.length_set]; omega)]
          rw [List.take_set_of_le (Nat.le_refl _), List.getElem_set_self]
        rw [ht, List.append_assoc]
        congr 1
        rw [List.singleton_append]
        congr 1
        apply List.map_congr_left
        intro j _
        show c (i + 1 + j) = c (i + (j + 1))
        congr 1
        omega
      rw [e] at this
      exact h2 x i hi hx _ this
  intro x0 hx0
  have := key n 0 x0 (by omega) hx0
  rw [List.take_zero, List.nil_append] at this
  have e : (fun j => c (0 + j)) = c := by
    funext j
    rw [Nat.zero_add]
  rw [e] at this
  exact this

/-- Two rows are held against each other, element by element. -/
theorem all_ev (n : Nat) (F : Nat → Nat → Option Bool) (h1 : Ev (F n) true) (h2 : ∀ i, i < n → Ev (F (i + 1)) true → Ev (F i) true) : Ev (F 0) true := by
  have key : ∀ d i, i + d = n → Ev (F i) true := by
    intro d
    induction d with
    | zero =>
      intro i hd
      have hi : i = n := by omega
      subst hi
      exact h1
    | succ d ih =>
      intro i hd
      exact h2 i (by omega) (ih (i + 1) (by omega))
  exact key n 0 (by omega)

/-- The elements are numbered through; and so they are found. -/
def markL {β : Type} (mk : β → Nat → β) (cnt : β → Nat) : List β → Nat → List β
  | [], _ => []
  | b :: r, m => mk b m :: markL mk cnt r (m + cnt b)
def cntL {β : Type} (cnt : β → Nat) : List β → Nat
  | [] => 0
  | b :: r => cnt b + cntL cnt r
theorem markL_length {β : Type} (mk : β → Nat → β) (cnt : β → Nat) : ∀ (l : List β) (m : Nat), (markL mk cnt l m).length = l.length
  | [], _ => rfl
  | b :: r, m => by
    show (markL mk cnt r _).length + 1 = r.length + 1
    rw [markL_length mk cnt r]
theorem cntL_le {β : Type} (cnt : β → Nat) (c : Nat) : ∀ l : List β, (∀ b ∈ l, cnt b ≤ c) → cntL cnt l ≤ c * l.length
  | [], _ => Nat.zero_le _
  | b :: r, h => by
    have h1 := cntL_le cnt c r (fun x hx => h x (List.mem_cons_of_mem _ hx))
    have h2 := h b List.mem_cons_self
    show cnt b + cntL cnt r ≤ c * (r.length + 1)
    rw [Nat.mul_add, Nat.mul_one]
    omega
theorem mark_ev {β : Type} (z : β) (mk : β → Nat → β) (cnt : β → Nat) (B n : Nat) (F : List β → Nat → Nat → Nat → Option (Int × List β)) (h1 : ∀ (x : List β) (m : Nat), x.length = n → Ev (F x m n) ((m : Int), x))
    (h2 : ∀ (x : List β) (m i : Nat), x.length = n → i < n → m + cnt (x.getD i z) ≤ B → ∀ r, Ev (F (x.set i (mk (x.getD i z) m)) (m + cnt (x.getD i z)) (i + 1)) r → Ev (F x m i) r) :
    ∀ (x : List β) (m : Nat), x.length = n → m + cntL cnt x ≤ B → Ev (F x m 0) (((m + cntL cnt x : Nat) : Int), markL mk cnt x m) := by
  have key : ∀ (rest done : List β) (m : Nat), done.length + rest.length = n → m + cntL cnt rest ≤ B → Ev (F (done ++ rest) m done.length) (((m + cntL cnt rest : Nat) : Int), done ++ markL mk cnt rest m) := by
    intro rest
    induction rest with
    | nil =>
      intro done m hn _
      have hn' : done.length = n := hn
      have := h1 done m hn'
      rw [← hn'] at this
      rw [List.append_nil]
      show Ev _ (((m + 0 : Nat) : Int), done ++ [])
      rw [List.append_nil]
      exact this
    | cons b r ih =>
      intro done m hn hm
      have hn' : done.length + (r.length + 1) = n := hn
      have hm' : m + (cnt b + cntL cnt r) ≤ B := hm
      have hg : (done ++ b :: r).getD done.length z = b := by simp [List.getD]
      have hs : (done ++ b :: r).set done.length (mk b m) = (done ++ [mk b m]) ++ r := by simp [List.set_append]
      have := ih (done ++ [mk b m]) (m + cnt b) (by rw [List.length_append, List.length_singleton]; omega) (by omega)
      refine h2 _ m done.length (by simp; omega) (by omega) (by rw [hg]; omega) _ ?_
      rw [hg, hs]
      rw [List.length_append, List.length_singleton] at this
      have e : m + cnt b + cntL cnt r = m + (cnt b + cntL cnt r) := by omega
      have e2 : done ++ [mk b m] ++ markL mk cnt r (m + cnt b) = done ++ (mk b m :: markL mk cnt r (m + cnt b)) := by rw [List.append_assoc, List.singleton_append]
      rw [e, e2] at this
      exact this
  intro x m hn hm
  exact key x [] m (by simpa using hn) hm
theorem held_ev {β : Type} (z : β) (mk : β → Nat → β) (cnt : β → Nat) (B n : Nat) (H : List β → Nat → Nat → Nat → Option Int) (h1 : ∀ (x : List β) (m : Nat), x.length = n → Ev (H x m n) (m : Int))
    (h2 : ∀ (x : List β) (m i : Nat) (b : β), x.length = n → i < n → x.getD i z = mk b m → m + cnt b ≤ B → ∀ r, Ev (H x (m + cnt b) (i + 1)) r → Ev (H x m i) r) :
    ∀ (x : List β) (m : Nat), x.length = n → m + cntL cnt x ≤ B → Ev (H (markL mk cnt x m) m 0) ((m + cntL cnt x : Nat) : Int) := by
  have key : ∀ (rest done : List β) (m : Nat), done.length + rest.length = n → m + cntL cnt rest ≤ B → Ev (H (done ++ markL mk cnt rest m) m done.length) ((m + cntL cnt rest : Nat) : Int) := by
    intro rest
    induction rest with
    | nil =>
      intro done m hn _
      have hn' : done.length = n := hn
      have := h1 done m hn'
      rw [← hn'] at this
      show Ev (H (done ++ []) m done.length) _
      rw [List.append_nil]
      exact this
    | cons b r ih =>
      intro done m hn hm
      have hn' : done.length + (r.length + 1) = n := hn
      have hm' : m + (cnt b + cntL cnt r) ≤ B := hm
      have := ih (done ++ [mk b m]) (m + cnt b) (by rw [List.length_append, List.length_singleton]; omega) (by omega)
      show Ev (H (done ++ (mk b m :: markL mk cnt r (m + cnt b))) m done.length) _
      refine h2 _ m done.length b (by simp [markL_length]; omega) (by omega) (by simp [List.getD]) (by omega) _ ?_
      rw [List.length_append, List.length_singleton, List.append_assoc, List.singleton_append] at this
      have e : m + cnt b + cntL cnt r = m + (cnt b + cntL cnt r) := by omega
      rw [e] at this
      exact this
  intro x m hn hm
  exact key x [] m (by simpa using hn) hm

theorem map_range_getD {α β : Type} (l : List α) (z : α) (f : α → β) : (List.range l.length).map (fun i => f (l.getD i z)) = l.map f := by
  apply List.ext_getElem
  · simp
  · intro i h1 h2
    simp at h1 h2
    simp [h2]
theorem map_range_self {α : Type} (l : List α) (z : α) : (List.range l.length).map (fun i => l.getD i z) = l := by
  have := map_range_getD l z id
  simpa using this
theorem getD_mem {α : Type} {l : List α} {i : Nat} (h : i < l.length) (z : α) : l.getD i z ∈ l := by
  rw [List.getD_eq_getElem?_getD, List.getElem?_eq_getElem h, Option.getD_some]
  exact List.getElem_mem h

/-! #### []int -/
theorem toIntS_ev (l : List Int) (hl : l.length ≤ 1048576) : Ev (fun k => laws_toIntS.f k l) l := by
  have h := conv_ev l.length (fun x i k => laws_toIntS.l0 k l x (i : Int)) (fun i => l.getD i 0)
    (fun x hx => Ev.step (f := fun _ => some x) (fun k => by
      show laws_toIntS.l0 (k + 1) l x ((l.length : Nat) : Int) = some x
      rw [laws_toIntS.l0, if_neg (by omega)]) (Ev.now _))
    (fun x i hi hx r hr => Ev.step (fun k => by
      show laws_toIntS.l0 (k + 1) l x (i : Int) = laws_toIntS.l0 k l (x.set i (l.getD i 0)) ((i + 1 : Nat) : Int)
      rw [laws_toIntS.l0, if_pos (by omega), if_pos (by omega), if_pos (by omega), succ_wrap (by omega)]
      rfl) hr)
    (List.replicate l.length 0) (by simp)
  rw [map_range_self] at h
  refine Ev.congr (fun k => ?_) h
  unfold laws_toIntS.f
  rw [if_pos (by omega), if_pos (by rw [tn_nat]; omega)]
  rfl
theorem eqIntS_ev (l : List Int) (hl : l.length ≤ 1048576) : Ev (fun k => laws_eqIntS.f k l l) true := by
  have h := all_ev l.length (fun i k => laws_eqIntS.l0 k l l (i : Int))
    (Ev.step (f := fun _ => some true) (fun k => by
      show laws_eqIntS.l0 (k + 1) l l ((l.length : Nat) : Int) = some true
      rw [laws_eqIntS.l0, if_neg (by omega)]) (Ev.now _))
    (fun i hi hr => Ev.step (fun k => by
      show laws_eqIntS.l0 (k + 1) l l (i : Int) = laws_eqIntS.l0 k l l ((i + 1 : Nat) : Int)
      rw [laws_eqIntS.l0, if_pos (by omega), if_pos (by omega), if_pos (by omega), if_pos rfl, succ_wrap (by omega)]) hr)
  refine Ev.congr (fun k => ?_) h
  unfold laws_eqIntS.f
  rw [if_pos rfl]
  rfl

/-! #### Votes -/
theorem szV_ev (l : List Int) (n : Int) (hl : l.length ≤ maxLen) : Ev (fun _ => laws_szVotes.f l n 1048576) (if l.length ≤ 1048576 then 1048576 - (l.length : Int) else -1) := by
  have h : l.length ≤ 9223372036854775807 := hl
  have e : laws_szIntS.f l 1048576 = some (if l.length ≤ 1048576 then 1048576 - (l.length : Int) else -1) := by
    unfold laws_szIntS.f
    rw [wrap_id (by omega) (by omega)]
    by_cases hc : l.length ≤ 1048576
    · rw [if_neg (by omega), if_pos hc]
    · rw [if_pos (by omega), if_neg hc]
  unfold laws_szVotes.f
  refine Ev.bind (a := if l.length ≤ 1048576 then 1048576 - (l.length : Int) else -1) (Ev.congr (fun _ => e) (Ev.now _)) ?_
  by_cases hc : l.length ≤ 1048576
  · rw [if_pos hc]
    exact Ev.ifn (by omega) (Ev.now _)
  · rw [if_neg hc]
    exact Ev.ifp (by omega) (Ev.now _)
theorem toV_ev (l : List Int) (n : Int) (hl : l.length ≤ 1048576) : Ev (fun k => laws_toVotes.f k l n) (l, n) := by
  unfold laws_toVotes.f
  exact Ev.bind (toIntS_ev l hl) (Ev.now _)
theorem eqV_ev (l : List Int) (n : Int) (hl : l.length ≤ 1048576) : Ev (fun k => laws_eqVotes.f k l n l n) true := by
  unfold laws_eqVotes.f
  exact Ev.bind (eqIntS_ev l hl) (Ev.ifp rfl (Ev.ifp rfl (Ev.now _)))

/-! #### a number between two -/
theorem sin (a b c : Int) : spec_l1In.f a b c = some (decide (b ≤ a ∧ a ≤ c)) := by
  unfold spec_l1In.f
  by_cases h : a ≥ b
  · rw [if_pos h]
    have e : (b ≤ a ∧ a ≤ c) ↔ a ≤ c := ⟨fun h => h.2, fun h' => ⟨h, h'⟩⟩
    simp only [e]
  · rw [if_neg h, decide_eq_false]
    intro h'
    exact h h'.1

theorem iin (a b c : Int) : impl_in.f a b c = some (decide (b ≤ a ∧ a ≤ c)) := by
  unfold impl_in.f
  by_cases h : a ≥ b
  · rw [if_pos h]
    have e : (b ≤ a ∧ a ≤ c) ↔ a ≤ c := ⟨fun h => h.2, fun h' => ⟨h, h'⟩⟩
    simp only [e]
  · rw [if_neg h, decide_eq_false]
    intro h'
    exact h h'.1

theorem EvB.and {P Q : Prop} [Decidable P] {g : Nat → Option Bool} (h : EvB g Q) : EvB (fun k => if decide P = true then g k else some false) (P ∧ Q) := by
  obtain ⟨b, hb, hq⟩ := h
  by_cases hp : P
  · exact ⟨b, Ev.ifp (by rw [decide_eq_true hp]) hb, ⟨fun h => ⟨hp, hq.1 h⟩, fun h => hq.2 h.2⟩⟩
  · exact ⟨false, Ev.ifn (by rw [decide_eq_false hp]; decide) (Ev.now _), Iff.intro (fun h => by cases h) (fun h => absurd h.1 hp)⟩
theorem EvB.dec {P : Prop} [Decidable P] : EvB (fun _ => some (decide P)) P := ⟨decide P, Ev.now _, decide_eq_true_iff⟩
theorem both {g f : Nat → Option Bool} {Q : Prop} (h : EvB g Q) (k : EvB f Q) : ∃ b : Bool, Ev g b ∧ Ev f b ∧ (b = true ↔ Q) := by
  obtain ⟨b, hb, hq⟩ := h
  obtain ⟨c, hc, hr⟩ := k
  obtain rfl : c = b := Bool.eq_iff_iff.2 (hr.trans hq.symm)
  exact ⟨c, hb, hc, hq⟩

/-! #### good votes -/
theorem ixV_iff (q : Nat → Bool) : ∀ d i, (0 ≤ areVotes_ix q i d) ↔ ∃ j, i ≤ j ∧ j < i + d ∧ q j = true
  | 0, i => by
    rw [areVotes_ix]
    exact ⟨fun h => by omega, fun ⟨j, h1, h2, _⟩ => by omega⟩
  | d + 1, i => by
    rw [areVotes_ix]
    by_cases h : q i = true
    · rw [if_pos h]
      exact ⟨fun _ => ⟨i, Nat.le_refl _, by omega, h⟩, fun _ => by omega⟩
    · rw [if_neg h, ixV_iff q d (i + 1)]
      refine ⟨fun ⟨j, h1, h2, h3⟩ => ⟨j, by omega, by omega, h3⟩, fun ⟨j, h1, h2, h3⟩ => ⟨j, ?_, by omega, h3⟩⟩
      by_cases e : j = i
      · rw [e] at h3
        exact absurd h3 h
      · omega
def GV (l : List Int) (n : Int) : Prop := (∀ j, j < l.length → 0 ≤ l.getD j 0 ∧ l.getD j 0 ≤ 9) ∧ (1 ≤ (l.length : Int) ∧ (l.length : Int) ≤ 7) ∧ (1 ≤ n ∧ n ≤ 100)
theorem sGV_l (l : List Int) (n : Int) (hl : l.length ≤ 1048576) : ∀ d i : Nat, i + d = l.length →
    EvB (fun k => spec_GoodVotes.l0 k l (l.length : Int) (i : Int) l n) ((∀ j, i ≤ j → j < l.length → 0 ≤ l.getD j 0 ∧ l.getD j 0 ≤ 9) ∧ (1 ≤ (l.length : Int) ∧ (l.length : Int) ≤ 7) ∧ (1 ≤ n ∧ n ≤ 100))
  | 0, i, hd => by
    refine EvB.step (f := fun _ => if decide (1 ≤ (l.length : Int) ∧ (l.length : Int) ≤ 7) = true then some (decide ((1 : Int) ≤ n ∧ n ≤ 100)) else some false) (fun k => ?_) ?_
    · rw [spec_GoodVotes.l0, if_neg (by omega)]
      simp only [sin, Option.bind_some]
    · exact EvB.iff (EvB.and EvB.dec) ⟨fun h => ⟨fun j h1 h2 => by omega, h⟩, fun h => h.2⟩
  | d + 1, i, hd => by
    by_cases hz : 0 ≤ l.getD i 0 ∧ l.getD i 0 ≤ 9
    · refine EvB.step (fun k => ?_) (EvB.iff (sGV_l l n hl d (i + 1) (by omega)) ?_)
      · show spec_GoodVotes.l0 (k + 1) l (l.length : Int) (i : Int) l n = spec_GoodVotes.l0 k l (l.length : Int) ((i + 1 : Nat) : Int) l n
        rw [spec_GoodVotes.l0, if_pos (by omega), if_pos (by omega), if_pos (by omega), sin, rd_nat, decide_eq_true hz, Option.bind_some, if_pos rfl, succ_wrap (by omega)]
      · refine and_congr_left fun _ => ⟨fun h j h1 h2 => ?_, fun h j h1 h2 => h j (by omega) h2⟩
        by_cases e : j = i
        · rw [e]
          exact hz
        · exact h j (by omega) h2
    · refine EvB.no (fun k => ?_) (fun h => hz (h.1 i (Nat.le_refl _) (by omega)))
      rw [spec_GoodVotes.l0, if_pos (by omega), if_pos (by omega), if_pos (by omega), sin, rd_nat, decide_eq_false hz, Option.bind_some, if_neg (by decide)]
theorem sGV_ev (l : List Int) (n : Int) (hl : l.length ≤ 1048576) : EvB (fun k => spec_GoodVotes.f k l n) (GV l n) := by
  have h := sGV_l l n hl l.length 0 (by omega)
  exact h.iff ⟨fun h => ⟨fun j hj => h.1 j (Nat.zero_le _) hj, h.2⟩, fun h => ⟨fun j _ hj => h.1 j hj, h.2⟩⟩
theorem iGV_ev (l : List Int) (n : Int) : EvB (fun _ => impl_areVotes.f l n) (GV l n) := by
  have hq : ∀ j, impl_areVotes.q l j = true ↔ ¬ (0 ≤ l.getD j 0 ∧ l.getD j 0 ≤ 9) := fun j => by
    unfold impl_areVotes.q
    rw [Bool.not_eq_true', decide_eq_false_iff_not, rd_nat]
  unfold impl_areVotes.f
  simp only [iin, Option.bind_some]
  refine EvB.iff (EvB.and (EvB.and ⟨_, Ev.now _, Iff.rfl⟩)) ?_
  rw [Bool.not_eq_true', decide_eq_false_iff_not, ixV_iff]
  unfold GV
  constructor
  · rintro ⟨h1, h2, h3⟩
    refine ⟨fun j hj => ?_, h1, h2⟩
    by_cases hz : 0 ≤ l.getD j 0 ∧ l.getD j 0 ≤ 9
    · exact hz
    · exact absurd ⟨j, Nat.zero_le _, by omega, (hq j).2 hz⟩ h3
  · rintro ⟨h3, h1, h2⟩
    exact ⟨h1, h2, fun ⟨j, _, h5, h6⟩ => (hq j).1 h6 (h3 j (by omega))⟩

/-! #### weights of members, told by bits -/
theorem wraps_i64 (n : Int) (h₀ : 0 ≤ n) (h₁ : n < 2 ^ 62) : IntKind.i64.wrap n = n := by
  rw [IntKind.wrap_i64]
  omega
theorem and_one (x : Nat) (h : x < 2 ^ 62) : Go.bits .and .i64 (x : Int) 1 = ((x % 2 : Nat) : Int) := by
  have := bits_mask .i64 62 (by decide) wraps_i64 1 (by decide) (x : Int) (by omega) (by omega)
  have e : ((2 : Int) ^ 1 - 1) = 1 := by decide
  rw [e] at this
  rw [this]
  omega
theorem or_nat (a b : Nat) (ha : a < 2 ^ 62) (hb : b < 2 ^ 62) : Go.bits .or .i64 (a : Int) (b : Int) = ((a ||| b : Nat) : Int) := (bits_nat .i64 62 (by decide) wraps_i64 a b ha hb).2
theorem shr_nat (x i : Nat) (h : i ≤ 64) : shr .i64 (x : Int) (i : Int) = ((x / 2 ^ i : Nat) : Int) := by
  unfold shr
  have e : min ((i : Int)).toNat IntKind.i64.bits = i := by
    rw [tn_nat]
    exact Nat.min_eq_left h
  have e2 : ((2 : Int) ^ i) = ((2 ^ i : Nat) : Int) := by simp
  rw [e, e2, ← Int.natCast_ediv]
theorem shl_nat (i : Nat) (h : i ≤ 60) : shl .i64 1 (i : Int) = ((2 ^ i : Nat) : Int) := by
  unfold shl
  have e : min ((i : Int)).toNat IntKind.i64.bits = i := by
    rw [tn_nat]
    exact Nat.min_eq_left (Nat.le_trans h (by decide))
  rw [e, Int.one_mul]
  have h1 : 2 ^ i ≤ 2 ^ 60 := Nat.pow_le_pow_right (by decide) h
  have e2 : ((2 : Int) ^ i) = ((2 ^ i : Nat) : Int) := by simp
  rw [e2]
  exact wraps_i64 _ (Int.natCast_nonneg _) (by omega)
theorem bit_nat (x i : Nat) (h : x < 2 ^ 62) (hi : i ≤ 64) : Go.bits .and .i64 (shr .i64 (x : Int) (i : Int)) 1 = 1 ↔ x.testBit i = true := by
  rw [shr_nat x i hi, and_one _ (Nat.lt_of_le_of_lt (Nat.div_le_self _ _) h), Nat.testBit_eq_decide_div_mod_eq, decide_eq_true_iff]
  omega
/-- The weights together of those of the first n members of whom f holds. -/
def wsum (v : List Int) (f : Nat → Bool) : Nat → Int
  | 0 => 0
  | n + 1 => wsum v f n + (if f n = true then v.getD n 0 else 0)
theorem wsum_bd (v : List Int) (f : Nat → Bool) (hv : ∀ j, j < v.length → 0 ≤ v.getD j 0 ∧ v.getD j 0 ≤ 9) : ∀ n, n ≤ v.length → 0 ≤ wsum v f n ∧ wsum v f n ≤ 9 * n
  | 0, _ => ⟨Int.le_refl _, Int.le_refl _⟩
  | n + 1, h => by
    have h1 := wsum_bd v f hv n (by omega)
    have h2 := hv n (by omega)
    rw [wsum]
    split <;> exact ⟨by omega, by omega⟩
theorem weigh_l (v : List Int) (x : Nat) (hx : x < 2 ^ 62) (hl : v.length ≤ 60) (hv : ∀ j, j < v.length → 0 ≤ v.getD j 0 ∧ v.getD j 0 ≤ 9) : ∀ d i : Nat, i + d = v.length →
    Ev (fun k => impl_Votes_weigh.l0 k (x : Int) (wsum v x.testBit i) v (v.length : Int) (i : Int)) (wsum v x.testBit v.length)
  | 0, i, hd => by
    have e : i = v.length := by omega
    subst e
    exact Ev.step (f := fun _ => some (wsum v x.testBit v.length)) (fun k => by rw [impl_Votes_weigh.l0, if_neg (by omega)]) (Ev.now _)
  | d + 1, i, hd => by
    have hb := wsum_bd v x.testBit hv i (by omega)
    have hi := hv i (by omega)
    refine Ev.step (fun k => ?_) (weigh_l v x hx hl hv d (i + 1) (by omega))
    show impl_Votes_weigh.l0 (k + 1) (x : Int) (wsum v x.testBit i) v (v.length : Int) (i : Int) = impl_Votes_weigh.l0 k (x : Int) (wsum v x.testBit (i + 1)) v (v.length : Int) ((i + 1 : Nat) : Int)
    rw [impl_Votes_weigh.l0, if_pos (by omega), if_pos (by omega), if_pos (by omega), succ_wrap (by omega), rd_nat, wrap_id (x := wsum v x.testBit i + v.getD i 0) (by omega) (by omega), wsum]
    by_cases hbit : x.testBit i = true
    · rw [if_pos ((bit_nat x i hx (by omega)).2 hbit), if_pos hbit]
    · rw [if_neg (fun h => hbit ((bit_nat x i hx (by omega)).1 h)), if_neg hbit, Int.add_zero]
theorem weigh_ev (v : List Int) (n : Int) (x : Nat) (hx : x < 2 ^ 62) (hl : v.length ≤ 60) (hv : ∀ j, j < v.length → 0 ≤ v.getD j 0 ∧ v.getD j 0 ≤ 9) :
    Ev (fun k => impl_Votes_weigh.f k v n (x : Int)) (wsum v x.testBit v.length) := weigh_l v x hx hl hv v.length 0 (by omega)
theorem wsum_congr (v : List Int) (f g : Nat → Bool) : ∀ n, (∀ j, j < n → f j = g j) → wsum v f n = wsum v g n
  | 0, _ => rfl
  | n + 1, h => by rw [wsum, wsum, wsum_congr v f g n (fun j hj => h j (by omega)), h n (Nat.lt_succ_self n)]

/-! #### a group of members: in range and rising -/
def GRP (g : List Int) (n : Int) (i : Nat) : Prop := ∀ j, i ≤ j → j < g.length → 0 ≤ g.getD j 0 ∧ g.getD j 0 < n ∧ (0 < j → g.getD (j - 1) 0 < g.getD j 0)
theorem GRP_step (g : List Int) (n : Int) (i : Nat) (h0 : 0 ≤ g.getD i 0) (h1 : g.getD i 0 < n) (h2 : 0 < i → g.getD (i - 1) 0 < g.getD i 0) : GRP g n (i + 1) ↔ GRP g n i := by
  refine ⟨fun h j h3 h4 => ?_, fun h j h3 h4 => h j (by omega) h4⟩
  by_cases e : j = i
  · rw [e]
    exact ⟨h0, h1, h2⟩
  · exact h j (by omega) h4
theorem pred_cast {i : Nat} (h : 0 < i) (hb : i ≤ 1048576) : wrap64 ((i : Int) - 1) = ((i - 1 : Nat) : Int) := by
  rw [wrap_id (by omega) (by omega)]
  omega
theorem sG_l (g : List Int) (n : Int) (hl : g.length ≤ 1048576) : ∀ d i : Nat, i + d = g.length → EvB (fun k => spec_l6Group.l0 k g n g (g.length : Int) (i : Int)) (GRP g n i)
  | 0, i, hd => by
    refine EvB.yes (fun k => ?_) (fun j h1 h2 => by omega)
    rw [spec_l6Group.l0, if_neg (by omega)]
  | d + 1, i, hd => by
    by_cases h0 : 0 ≤ g.getD i 0
    · by_cases h1 : g.getD i 0 < n
      · by_cases hi : 0 < i
        · by_cases h2 : g.getD (i - 1) 0 < g.getD i 0
          · refine EvB.step (fun k => ?_) (EvB.iff (sG_l g n hl d (i + 1) (by omega)) (GRP_step g n i h0 h1 (fun _ => h2)))
            show spec_l6Group.l0 (k + 1) g n g (g.length : Int) (i : Int) = spec_l6Group.l0 k g n g (g.length : Int) ((i + 1 : Nat) : Int)
            rw [spec_l6Group.l0, pred_cast hi (by omega), rd_nat, rd_nat, if_pos (by omega), if_pos (by omega), if_pos (by omega), if_neg (by omega), if_neg (by omega), if_pos (by omega), if_pos (by omega), if_pos (by omega), if_neg (by omega), succ_wrap (by omega)]
          · refine EvB.no (fun k => ?_) (fun h => h2 ((h i (Nat.le_refl _) (by omega)).2.2 hi))
            rw [spec_l6Group.l0, pred_cast hi (by omega), rd_nat, rd_nat, if_pos (by omega), if_pos (by omega), if_pos (by omega), if_neg (by omega), if_neg (by omega), if_pos (by omega), if_pos (by omega), if_pos (by omega), if_pos (by omega)]
        · refine EvB.step (fun k => ?_) (EvB.iff (sG_l g n hl d (i + 1) (by omega)) (GRP_step g n i h0 h1 (fun h => absurd h hi)))
          show spec_l6Group.l0 (k + 1) g n g (g.length : Int) (i : Int) = spec_l6Group.l0 k g n g (g.length : Int) ((i + 1 : Nat) : Int)
          rw [spec_l6Group.l0, rd_nat, if_pos (by omega), if_pos (by omega), if_pos (by omega), if_neg (by omega), if_neg (by omega), if_neg (by omega), succ_wrap (by omega)]
      · refine EvB.no (fun k => ?_) (fun h => h1 (h i (Nat.le_refl _) (by omega)).2.1)
        rw [spec_l6Group.l0, rd_nat, if_pos (by omega), if_pos (by omega), if_pos (by omega), if_neg (by omega), if_pos (by omega)]
    · refine EvB.no (fun k => ?_) (fun h => h0 (h i (Nat.le_refl _) (by omega)).1)
      rw [spec_l6Group.l0, rd_nat, if_pos (by omega), if_pos (by omega), if_pos (by omega), if_pos (by omega)]
theorem sG_ev (g : List Int) (n : Int) (hl : g.length ≤ 1048576) : EvB (fun k => spec_l6Group.f k g n) (GRP g n 0) := sG_l g n hl g.length 0 (by omega)
theorem iG_l (g : List Int) (n : Int) (hn : 0 ≤ n ∧ n ≤ 1048576) (hl : g.length ≤ 1048576) : ∀ d i : Nat, i + d = g.length → EvB (fun k => impl_areMembers.l0 k g n g (g.length : Int) (i : Int)) (GRP g n i)
  | 0, i, hd => by
    refine EvB.yes (fun k => ?_) (fun j h1 h2 => by omega)
    rw [impl_areMembers.l0, if_neg (by omega)]
  | d + 1, i, hd => by
    have hw : wrap64 (n - 1) = n - 1 := wrap_id (by omega) (by omega)
    by_cases h0 : 0 ≤ g.getD i 0 ∧ g.getD i 0 ≤ n - 1
    · by_cases hi : 0 < i
      · by_cases h2 : g.getD (i - 1) 0 < g.getD i 0
        · refine EvB.step (fun k => ?_) (EvB.iff (iG_l g n hn hl d (i + 1) (by omega)) (GRP_step g n i h0.1 (by omega) (fun _ => h2)))
          show impl_areMembers.l0 (k + 1) g n g (g.length : Int) (i : Int) = impl_areMembers.l0 k g n g (g.length : Int) ((i + 1 : Nat) : Int)
          rw [impl_areMembers.l0, pred_cast hi (by omega), rd_nat, rd_nat, iin, hw, decide_eq_true h0, Option.bind_some, if_pos (by omega), if_pos (by omega), if_pos (by omega), if_pos rfl, if_pos (by omega), if_pos (by omega), if_pos (by omega), if_neg (by omega), succ_wrap (by omega)]
        · refine EvB.no (fun k => ?_) (fun h => h2 ((h i (Nat.le_refl _) (by omega)).2.2 hi))
          rw [impl_areMembers.l0, pred_cast hi (by omega), rd_nat, rd_nat, iin, hw, decide_eq_true h0, Option.bind_some, if_pos (by omega), if_pos (by omega), if_pos (by omega), if_pos rfl, if_pos (by omega), if_pos (by omega), if_pos (by omega), if_pos (by omega)]
      · refine EvB.step (fun k => ?_) (EvB.iff (iG_l g n hn hl d (i + 1) (by omega)) (GRP_step g n i h0.1 (by omega) (fun h => absurd h hi)))
        show impl_areMembers.l0 (k + 1) g n g (g.length : Int) (i : Int) = impl_areMembers.l0 k g n g (g.length : Int) ((i + 1 : Nat) : Int)
        rw [impl_areMembers.l0, rd_nat, iin, hw, decide_eq_true h0, Option.bind_some, if_pos (by omega), if_pos (by omega), if_pos (by omega), if_pos rfl, if_neg (by omega), succ_wrap (by omega)]
    · refine EvB.no (fun k => ?_) (fun h => h0 ?_)
      · rw [impl_areMembers.l0, rd_nat, iin, hw, decide_eq_false h0, Option.bind_some, if_pos (by omega), if_pos (by omega), if_pos (by omega), if_neg (by decide)]
      · have := h i (Nat.le_refl _) (by omega)
        exact ⟨this.1, by omega⟩
theorem iG_ev (g : List Int) (n : Int) (hn : 0 ≤ n ∧ n ≤ 1048576) (hl : g.length ≤ 1048576) : EvB (fun k => impl_areMembers.f k g n) (GRP g n 0) := iG_l g n hn hl g.length 0 (by omega)
theorem GRP_up (g : List Int) (n : Int) (h : GRP g n 0) : ∀ i, i < g.length → ∀ j, j < i → g.getD j 0 < g.getD i 0
  | 0, _, j, hj => by omega
  | i + 1, hi, j, hj => by
    have h1 := (h (i + 1) (Nat.zero_le _) hi).2.2 (by omega)
    rw [Nat.add_sub_cancel] at h1
    by_cases e : j = i
    · rw [e]
      exact h1
    · have := GRP_up g n h i (by omega) j (by omega)
      omega
/-- The bits of the first i members of a group. -/
def mk (g : List Int) : Nat → Nat
  | 0 => 0
  | i + 1 => mk g i ||| 2 ^ (g.getD i 0).toNat
theorem mk_lt (g : List Int) (n : Int) (h : GRP g n 0) (m : Nat) : ∀ i, i ≤ g.length → (∀ j, j < i → g.getD j 0 < (m : Int)) → mk g i < 2 ^ m
  | 0, _, _ => Nat.pow_pos (by decide)
  | i + 1, hi, hm => by
    rw [mk]
    refine Nat.or_lt_two_pow (mk_lt g n h m i (by omega) (fun j hj => hm j (by omega))) (Nat.pow_lt_pow_right (by decide) ?_)
    have := hm i (by omega)
    have := (h i (Nat.zero_le _) (by omega)).1
    omega
theorem wsum_add (v : List Int) (f f' : Nat → Bool) (b : Nat) (hf : f b = false) (hf' : f' b = true) (he : ∀ j, j ≠ b → f' j = f j) : ∀ n, wsum v f' n = wsum v f n + (if b < n then v.getD b 0 else 0)
  | 0 => rfl
  | n + 1 => by
    rw [wsum, wsum, wsum_add v f f' b hf hf' he n]
    by_cases e : n = b
    · subst e
      rw [hf, hf', if_neg (by omega), if_pos rfl, if_neg (by decide), if_pos (by omega)]
    · rw [he n e]
      by_cases hl : b < n
      · rw [if_pos hl, if_pos (show b < n + 1 by omega)]
        omega
      · rw [if_neg hl, if_neg (show ¬ b < n + 1 by omega)]
        omega
theorem wsum_mk (v g : List Int) (h : GRP g (v.length : Int) 0) (i : Nat) (hi : i < g.length) : wsum v (mk g (i + 1)).testBit v.length = wsum v (mk g i).testBit v.length + v.getD (g.getD i 0).toNat 0 := by
  have hg := h i (Nat.zero_le _) hi
  have hlt : mk g i < 2 ^ (g.getD i 0).toNat := mk_lt g _ h _ i (by omega) (fun j hj => by
    have := GRP_up g _ h i hi j hj
    omega)
  have := wsum_add v (mk g i).testBit (mk g (i + 1)).testBit (g.getD i 0).toNat (Nat.testBit_lt_two_pow hlt) (by rw [mk, Nat.testBit_or, Nat.testBit_two_pow_self, Bool.or_true])
    (fun j hj => by rw [mk, Nat.testBit_or, Nat.testBit_two_pow_of_ne (fun e => hj e.symm), Bool.or_false]) v.length
  rw [this, if_pos (by omega)]
theorem rd_tn (l : List Int) (x : Int) (h : 0 ≤ x) : rd l x = l.getD x.toNat 0 := by
  rw [← rd_nat, Int.toNat_of_nonneg h]
theorem sSum_l (v g : List Int) (n : Int) (hl : g.length ≤ 1048576) (hv7 : v.length ≤ 7) (hv : ∀ j, j < v.length → 0 ≤ v.getD j 0 ∧ v.getD j 0 ≤ 9) (h : GRP g (v.length : Int) 0) : ∀ d i : Nat, i + d = g.length →
    Ev (fun k => spec_l6Sum.l0 k (wsum v (mk g i).testBit v.length) g (g.length : Int) (i : Int) v n) (wsum v (mk g g.length).testBit v.length)
  | 0, i, hd => by
    have e : i = g.length := by omega
    subst e
    exact Ev.step (f := fun _ => some (wsum v (mk g g.length).testBit v.length)) (fun k => by rw [spec_l6Sum.l0, if_neg (by omega)]) (Ev.now _)
  | d + 1, i, hd => by
    have hg := h i (Nat.zero_le _) (by omega)
    have hb := wsum_bd v (mk g (i + 1)).testBit hv v.length (Nat.le_refl _)
    have hw := wsum_mk v g h i (by omega)
    refine Ev.step (fun k => ?_) (sSum_l v g n hl hv7 hv h d (i + 1) (by omega))
    show spec_l6Sum.l0 (k + 1) (wsum v (mk g i).testBit v.length) g (g.length : Int) (i : Int) v n = spec_l6Sum.l0 k (wsum v (mk g (i + 1)).testBit v.length) g (g.length : Int) ((i + 1 : Nat) : Int) v n
    rw [spec_l6Sum.l0, rd_nat, rd_tn v _ hg.1, ← hw, if_pos (by omega), if_pos (by omega), if_pos (by omega), if_pos (by omega), if_pos (by omega), succ_wrap (by omega), wrap_id (by omega) (by omega)]
theorem wsum_zero (v : List Int) : ∀ n, wsum v (Nat.testBit 0) n = 0
  | 0 => rfl
  | n + 1 => by rw [wsum, wsum_zero v n, Nat.zero_testBit, if_neg (by decide), Int.add_zero]
theorem sSum_ev (v g : List Int) (n : Int) (hl : g.length ≤ 1048576) (hv7 : v.length ≤ 7) (hv : ∀ j, j < v.length → 0 ≤ v.getD j 0 ∧ v.getD j 0 ≤ 9) (h : GRP g (v.length : Int) 0) :
    Ev (fun k => spec_l6Sum.f k v n g) (wsum v (mk g g.length).testBit v.length) := by
  have := sSum_l v g n hl hv7 hv h g.length 0 (by omega)
  rw [mk, wsum_zero] at this
  exact this
theorem mask_l (g : List Int) (n : Nat) (hn : n ≤ 7) (hl : g.length ≤ 1048576) (h : GRP g (n : Int) 0) : ∀ d i : Nat, i + d = g.length → Ev (fun k => impl_maskOf.l0 k (mk g i : Nat) g (g.length : Int) (i : Int)) ((mk g g.length : Nat) : Int)
  | 0, i, hd => by
    have e : i = g.length := by omega
    subst e
    exact Ev.step (f := fun _ => some ((mk g g.length : Nat) : Int)) (fun k => by rw [impl_maskOf.l0, if_neg (by omega)]) (Ev.now _)
  | d + 1, i, hd => by
    have hg := h i (Nat.zero_le _) (by omega)
    have hm : mk g i < 2 ^ 7 := mk_lt g _ h 7 i (by omega) (fun j hj => by
      have := (h j (Nat.zero_le _) (by omega)).2.1
      omega)
    have hp : 2 ^ (g.getD i 0).toNat < 2 ^ 7 := Nat.pow_lt_pow_right (by decide) (by omega)
    refine Ev.step (fun k => ?_) (mask_l g n hn hl h d (i + 1) (by omega))
    show impl_maskOf.l0 (k + 1) (mk g i : Nat) g (g.length : Int) (i : Int) = impl_maskOf.l0 k (mk g (i + 1) : Nat) g (g.length : Int) ((i + 1 : Nat) : Int)
    have e : shl .i64 1 (g.getD i 0) = ((2 ^ (g.getD i 0).toNat : Nat) : Int) := by
      have := shl_nat (g.getD i 0).toNat (by omega)
      rwa [Int.toNat_of_nonneg hg.1] at this
    rw [impl_maskOf.l0, rd_nat, e, or_nat _ _ (Nat.lt_trans hm (by decide)) (Nat.lt_trans hp (by decide)), if_pos (by omega), if_pos (by omega), if_pos (by omega), if_pos (by omega), succ_wrap (by omega), mk]
theorem mask_ev (g : List Int) (n : Nat) (hn : n ≤ 7) (hl : g.length ≤ 1048576) (h : GRP g (n : Int) 0) : Ev (fun k => impl_maskOf.f k g) ((mk g g.length : Nat) : Int) := mask_l g n hn hl h g.length 0 (by omega)
theorem IsQuorum_ev (v : List Int) (n : Int) (g : List Int) (hl : v.length ≤ 1048576) (hg : g.length ≤ 1048576) : ∃ (x y : Bool), Ev (fun k => spec_IsQuorum.f k v n g) (x, y) ∧ Ev (fun k => impl_IsQuorum.f k v n g) (x, y) := by
  obtain ⟨b, hsp, him, hq⟩ := both (sGV_ev v n hl) (iGV_ev v n)
  unfold spec_IsQuorum.f impl_IsQuorum.f
  cases b with
  | false =>
    refine ⟨false, false, Ev.bind hsp (Ev.ifn (by decide) (Ev.now _)), Ev.bind him (Ev.ifn (by decide) ?_)⟩
    exact Ev.step (f := fun _ => some (false, false)) (fun k => by rw [impl_IsQuorum.j0, if_pos rfl]) (Ev.now _)
  | true =>
    obtain ⟨hv, hv7, hn⟩ := hq.1 rfl
    obtain ⟨c, hsg, hig, hc⟩ := both (sG_ev g (v.length : Int) hg) (iG_ev g (v.length : Int) ⟨by omega, by omega⟩ hg)
    cases c with
    | false =>
      refine ⟨false, false, Ev.bind hsp (Ev.ifp rfl (Ev.bind hsg (Ev.ifn (by decide) (Ev.now _)))), Ev.bind him (Ev.ifp rfl (Ev.bind hig ?_))⟩
      exact Ev.step (f := fun _ => some (false, false)) (fun k => by rw [impl_IsQuorum.j0, if_pos (by decide)]) (Ev.now _)
    | true =>
      have h := hc.1 rfl
      refine ⟨_, true, Ev.bind hsp (Ev.ifp rfl (Ev.bind hsg (Ev.ifp rfl (Ev.bind (sSum_ev v g n hg (by omega) hv h) (Ev.now _))))), Ev.bind him (Ev.ifp rfl (Ev.bind hig ?_))⟩
      refine Ev.succ ?_
      have hm7 : mk g g.length < 2 ^ 7 := mk_lt g _ h 7 _ (Nat.le_refl _) (fun j hj => by
        have := (h j (Nat.zero_le _) hj).2.1
        omega)
      have hm : mk g g.length < 2 ^ 62 := Nat.lt_trans hm7 (by decide)
      refine Ev.congr (fun k => by rw [impl_IsQuorum.j0, if_neg (by decide)]) ?_
      exact Ev.bind (mask_ev g v.length (by omega) hg h) (Ev.bind (weigh_ev v n _ hm (by omega) hv) (Ev.now _))

theorem FnExactIsQuorum : laws_FnExactIsQuorum.Pure := by
  intro x0 l1 hok _
  obtain ⟨hl, _⟩ := hok
  apply Ev.rounds
  unfold laws_FnExactIsQuorum.f
  by_cases hc : l1.length ≤ 1048576
  · refine Ev.ifn (by omega) (Ev.bind (szV_ev x0.f0 x0.f1 hl.1) ?_)
    by_cases hb : x0.f0.length ≤ 1048576
    · rw [if_pos hb]
      obtain ⟨b, c, hs, hi⟩ := IsQuorum_ev x0.f0 x0.f1 l1 hb hc
      repeat first
        | with_reducible exact Ev.now _
        | (with_reducible refine Ev.bind (toV_ev _ _ hb) ?_; try dsimp only)
        | (with_reducible refine Ev.bind (toIntS_ev _ hc) ?_; try dsimp only)
        | (with_reducible refine Ev.bind (hs) ?_; try dsimp only)
        | (with_reducible refine Ev.bind (hi) ?_; try dsimp only)
        | (with_reducible refine Ev.bind (eqV_ev _ _ hb) ?_; try dsimp only)
        | (with_reducible refine Ev.bind (eqIntS_ev _ hc) ?_; try dsimp only)
        | (with_reducible refine Ev.ifp ?hc ?_; (case hc => first | rfl | omega | (simp; done)))
        | (with_reducible refine Ev.ifn ?hc ?_; (case hc => first | decide | omega | (simp; done)))
        | (with_reducible refine Ev.succ (g := fun k_ => laws_FnExactIsQuorum.j0 k_ _ _ _ _ _ _ _) ?_; simp only [laws_FnExactIsQuorum.j0])
    · rw [if_neg hb]
      exact Ev.ifp (by decide) (Ev.now _)
  · exact Ev.ifp (by omega) (Ev.now _)

end Go.Proofs.Ytnjjkbdpoolkpaa.Pure
