/- LogBytes of the program answers as the reference's, for every log. Conditions: none but the statement's own. -/
import Derived.Test.YtpjbggfhdklnmaaQFnExactLogBytesx9
namespace Go.Proofs.Ytpjbggfhdklnmaa.Pure
open Go.RowKit Go.Proofs.Ytpjbggfhdklnmaa.QFnExactLogBytes Go.Proofs.YtpjbggfhdklnmaaW.PrintWords Go.Proofs.YtpjbggfhdklnmaaW.PrintLast Go.Proofs.YtpjbggfhdklnmaaW.PrintMore
set_option linter.unusedVariables false
set_option linter.unusedSimpArgs false
/-! #### words -/
theorem Ev.succ {α : Type} {g : Nat → Option α} {r : α} (k : Ev (fun n => g (n + 1)) r) : Ev g r := Ev.step (fun _ => rfl) k
theorem Ev.ifp {α : Type} {c : Prop} [Decidable c] {f g : Nat → Option α} {r : α} (h : c) (k : Ev f r) : Ev (fun n => if c then f n else g n) r := Ev.congr (fun n => if_pos h) k
theorem Ev.ifn {α : Type} {c : Prop} [Decidable c] {f g : Nat → Option α} {r : α} (h : ¬ c) (k : Ev g r) : Ev (fun n => if c then f n else g n) r := Ev.congr (fun n => if_neg h) k
theorem Ev.uniq {α : Type} {g : Nat → Option α} {r q : α} (h : Ev g r) (k : Ev g q) : r = q := by
  obtain ⟨a, ha⟩ := h
  obtain ⟨b, hb⟩ := k
  have h1 := ha (max a b) (Nat.le_max_left _ _)
  have h2 := hb (max a b) (Nat.le_max_right _ _)
  rw [h1] at h2
  exact Option.some.inj h2
/-- It answers a Bool that tells whether Q. -/
def EvB (g : Nat → Option Bool) (Q : Prop) : Prop := ∃ b : Bool, Ev g b ∧ (b = true ↔ Q)
theorem EvB.step {g f : Nat → Option Bool} {Q : Prop} (h : ∀ k, g (k + 1) = f k) (k : EvB f Q) : EvB g Q := by
  obtain ⟨b, hb, hq⟩ := k
  exact ⟨b, Ev.step h hb, hq⟩
theorem EvB.iff {g : Nat → Option Bool} {Q R : Prop} (k : EvB g Q) (h : Q ↔ R) : EvB g R := by
  obtain ⟨b, hb, hq⟩ := k
  exact ⟨b, hb, hq.trans h⟩
theorem EvB.no {g : Nat → Option Bool} {Q : Prop} (h : ∀ k, g (k + 1) = some false) (hq : ¬ Q) : EvB g Q := ⟨false, Ev.step (f := fun _ => some false) h (Ev.now _), Iff.intro (fun h => by cases h) (fun h => absurd h hq)⟩
theorem EvB.yes {g : Nat → Option Bool} {Q : Prop} (h : ∀ k, g (k + 1) = some true) (hq : Q) : EvB g Q := ⟨true, Ev.step (f := fun _ => some true) h (Ev.now _), ⟨fun _ => hq, fun _ => rfl⟩⟩
theorem EvB.ev {g : Nat → Option Bool} {Q : Prop} [Decidable Q] (k : EvB g Q) : Ev g (decide Q) := by
  obtain ⟨b, hb, hq⟩ := k
  have : b = decide Q := by
    by_cases h : Q
    · rw [hq.2 h, decide_eq_true h]
    · rw [decide_eq_false h]
      cases b with
      | false => rfl
      | true => exact absurd (hq.1 rfl) h
  rw [← this]
  exact hb
theorem EvB.get {g : Nat → Option Bool} {Q : Prop} (k : EvB g Q) (h : Q) : Ev g true := by
  obtain ⟨b, hb, hq⟩ := k
  rw [← hq.2 h]
  exact hb
theorem EvB.not {g : Nat → Option Bool} {Q : Prop} (k : EvB g Q) (h : ¬ Q) : Ev g false := by
  obtain ⟨b, hb, hq⟩ := k
  cases b with
  | false => exact hb
  | true => exact absurd (hq.1 rfl) h
theorem wrap_id {x : Int} (h0 : -9223372036854775808 ≤ x) (h1 : x ≤ 9223372036854775807) : wrap64 x = x := by
  unfold wrap64
  omega
theorem succ_wrap {i : Nat} (h : i ≤ 9000000000000000000) : wrap64 ((i : Int) + 1) = ((i + 1 : Nat) : Int) := by
  rw [wrap_id (by omega) (by omega)]
  omega
theorem pred_wrap {i : Nat} (h0 : 0 < i) (h : i ≤ 9000000000000000000) : wrap64 ((i : Int) - 1) = ((i - 1 : Nat) : Int) := by
  rw [wrap_id (by omega) (by omega)]
  omega
theorem pred_zero : wrap64 (((0 : Nat) : Int) - 1) = -1 := by
  unfold wrap64
  omega
theorem rd_nat (l : List Int) (i : Nat) : rd l (i : Int) = l.getD i 0 := rfl
theorem tn_nat (i : Nat) : ((i : Int)).toNat = i := rfl
theorem len_nat {α : Type} (l : List α) {k : Nat} (h : l.length ≤ k) : ¬ ((l.length : Int) > (k : Int)) := by omega

/-- A list is made, element by element. -/
theorem conv_ev {β : Type} (n : Nat) (F : List β → Nat → Nat → Option (List β)) (c : Nat → β) (h1 : ∀ x : List β, x.length = n → Ev (F x n) x)
    (h2 : ∀ (x : List β) (i : Nat), i < n → x.length = n → ∀ r, Ev (F (x.set i (c i)) (i + 1)) r → Ev (F x i) r) : ∀ x0 : List β, x0.length = n → Ev (F x0 0) ((List.range n).map c) := by
  have key : ∀ d i (x : List β), i + d = n → x.length = n → Ev (F x i) (x.take i ++ (List.range d).map fun j => c (i + j)) := by
    intro d
    induction d with
    | zero =>
      intro i x hd hx
      have hi : i = n := by omega
      subst hi
      have : x.take i ++ (List.range 0).map (fun j => c (i + j)) = x := by
        rw [List.take_of_length_le (by omega)]
        simp
      rw [this]
      exact h1 x hx
    | succ d ih =>
      intro i x hd hx
      have hi : i < n := by omega
      have := ih (i + 1) (x.set i (c i)) (by omega) (by rw [List.length_set]; exact hx)
      have e : (x.set i (c i)).take (i + 1) ++ (List.range d).map (fun j => c (i + 1 + j)) = x.take i ++ (List.range (d + 1)).map (fun j => c (i + j)) := by
        rw [List.range_succ_eq_map, List.map_cons, List.map_map]
        have ht : (x.set i (c i)).take (i + 1) = x.take i ++ [c i] := by
          rw [List.take_succ_eq_append_getElem (by rw [List.length_set]; omega)]
          rw [List.take_set_of_le (Nat.le_refl _), List.getElem_set_self]
        rw [ht, List.append_assoc]
        congr 1
        rw [List.singleton_append]
        congr 1
        apply List.map_congr_left
        intro j _
        show c (i + 1 + j) = c (i + (j + 1))
        congr 1
        omega
      rw [e] at this
      exact h2 x i hi hx _ this
  intro x0 hx0
  have := key n 0 x0 (by omega) hx0
  rw [List.take_zero, List.nil_append] at this
  have e : (fun j => c (0 + j)) = c := by
    funext j
    rw [Nat.zero_add]
  rw [e] at this
  exact this

/-- Two rows are held against each other, element by element. -/
theorem all_ev (n : Nat) (F : Nat → Nat → Option Bool) (h1 : Ev (F n) true) (h2 : ∀ i, i < n → Ev (F (i + 1)) true → Ev (F i) true) : Ev (F 0) true := by
  have key : ∀ d i, i + d = n → Ev (F i) true := by
    intro d
    induction d with
    | zero =>
      intro i hd
      have hi : i = n := by omega
      subst hi
      exact h1
    | succ d ih =>
      intro i hd
      exact h2 i (by omega) (ih (i + 1) (by omega))
  exact key n 0 (by omega)

/-- The elements are numbered through; and so they are found. -/
def markL {β : Type} (mk : β → Nat → β) (cnt : β → Nat) : List β → Nat → List β
  | [], _ => []
  | b :: r, m => mk b m :: markL mk cnt r (m + cnt b)
def cntL {β : Type} (cnt : β → Nat) : List β → Nat
  | [] => 0
  | b :: r => cnt b + cntL cnt r
theorem markL_length {β : Type} (mk : β → Nat → β) (cnt : β → Nat) : ∀ (l : List β) (m : Nat), (markL mk cnt l m).length = l.length
  | [], _ => rfl
  | b :: r, m => by
    show (markL mk cnt r _).length + 1 = r.length + 1
    rw [markL_length mk cnt r]
theorem cntL_le {β : Type} (cnt : β → Nat) (c : Nat) : ∀ l : List β, (∀ b ∈ l, cnt b ≤ c) → cntL cnt l ≤ c * l.length
  | [], _ => Nat.zero_le _
  | b :: r, h => by
    have h1 := cntL_le cnt c r (fun x hx => h x (List.mem_cons_of_mem _ hx))
    have h2 := h b List.mem_cons_self
    show cnt b + cntL cnt r ≤ c * (r.length + 1)
    rw [Nat.mul_add, Nat.mul_one]
    omega
theorem mark_ev {β : Type} (z : β) (mk : β → Nat → β) (cnt : β → Nat) (B n : Nat) (F : List β → Nat → Nat → Nat → Option (Int × List β)) (h1 : ∀ (x : List β) (m : Nat), x.length = n → Ev (F x m n) ((m : Int), x))
    (h2 : ∀ (x : List β) (m i : Nat), x.length = n → i < n → m + cnt (x.getD i z) ≤ B → ∀ r, Ev (F (x.set i (mk (x.getD i z) m)) (m + cnt (x.getD i z)) (i + 1)) r → Ev (F x m i) r) :
    ∀ (x : List β) (m : Nat), x.length = n → m + cntL cnt x ≤ B → Ev (F x m 0) (((m + cntL cnt x : Nat) : Int), markL mk cnt x m) := by
  have key : ∀ (rest done : List β) (m : Nat), done.length + rest.length = n → m + cntL cnt rest ≤ B → Ev (F (done ++ rest) m done.length) (((m + cntL cnt rest : Nat) : Int), done ++ markL mk cnt rest m) := by
    intro rest
    induction rest with
    | nil =>
      intro done m hn _
      have hn' : done.length = n := hn
      have := h1 done m hn'
      rw [← hn'] at this
      rw [List.append_nil]
      show Ev _ (((m + 0 : Nat) : Int), done ++ [])
      rw [List.append_nil]
      exact this
    | cons b r ih =>
      intro done m hn hm
      have hn' : done.length + (r.length + 1) = n := hn
      have hm' : m + (cnt b + cntL cnt r) ≤ B := hm
      have hg : (done ++ b :: r).getD done.length z = b := by simp [List.getD]
      have hs : (done ++ b :: r).set done.length (mk b m) = (done ++ [mk b m]) ++ r := by simp [List.set_append]
      have := ih (done ++ [mk b m]) (m + cnt b) (by rw [List.length_append, List.length_singleton]; omega) (by omega)
      refine h2 _ m done.length (by simp; omega) (by omega) (by rw [hg]; omega) _ ?_
      rw [hg, hs]
      rw [List.length_append, List.length_singleton] at this
      have e : m + cnt b + cntL cnt r = m + (cnt b + cntL cnt r) := by omega
      have e2 : done ++ [mk b m] ++ markL mk cnt r (m + cnt b) = done ++ (mk b m :: markL mk cnt r (m + cnt b)) := by rw [List.append_assoc, List.singleton_append]
      rw [e, e2] at this
      exact this
  intro x m hn hm
  exact key x [] m (by simpa using hn) hm
theorem held_ev {β : Type} (z : β) (mk : β → Nat → β) (cnt : β → Nat) (B n : Nat) (H : List β → Nat → Nat → Nat → Option Int) (h1 : ∀ (x : List β) (m : Nat), x.length = n → Ev (H x m n) (m : Int))
    (h2 : ∀ (x : List β) (m i : Nat) (b : β), x.length = n → i < n → x.getD i z = mk b m → m + cnt b ≤ B → ∀ r, Ev (H x (m + cnt b) (i + 1)) r → Ev (H x m i) r) :
    ∀ (x : List β) (m : Nat), x.length = n → m + cntL cnt x ≤ B → Ev (H (markL mk cnt x m) m 0) ((m + cntL cnt x : Nat) : Int) := by
  have key : ∀ (rest done : List β) (m : Nat), done.length + rest.length = n → m + cntL cnt rest ≤ B → Ev (H (done ++ markL mk cnt rest m) m done.length) ((m + cntL cnt rest : Nat) : Int) := by
    intro rest
    induction rest with
    | nil =>
      intro done m hn _
      have hn' : done.length = n := hn
      have := h1 done m hn'
      rw [← hn'] at this
      show Ev (H (done ++ []) m done.length) _
      rw [List.append_nil]
      exact this
    | cons b r ih =>
      intro done m hn hm
      have hn' : done.length + (r.length + 1) = n := hn
      have hm' : m + (cnt b + cntL cnt r) ≤ B := hm
      have := ih (done ++ [mk b m]) (m + cnt b) (by rw [List.length_append, List.length_singleton]; omega) (by omega)
      show Ev (H (done ++ (mk b m :: markL mk cnt r (m + cnt b))) m done.length) _
      refine h2 _ m done.length b (by simp [markL_length]; omega) (by omega) (by simp [List.getD]) (by omega) _ ?_
      rw [List.length_append, List.length_singleton, List.append_assoc, List.singleton_append] at this
      have e : m + cnt b + cntL cnt r = m + (cnt b + cntL cnt r) := by omega
      rw [e] at this
      exact this
  intro x m hn hm
  exact key x [] m (by simpa using hn) hm

theorem map_range_getD {α β : Type} (l : List α) (z : α) (f : α → β) : (List.range l.length).map (fun i => f (l.getD i z)) = l.map f := by
  apply List.ext_getElem
  · simp
  · intro i h1 h2
    simp at h1 h2
    simp [h2]
theorem map_range_self {α : Type} (l : List α) (z : α) : (List.range l.length).map (fun i => l.getD i z) = l := by
  have := map_range_getD l z id
  simpa using this
theorem getD_mem {α : Type} {l : List α} {i : Nat} (h : i < l.length) (z : α) : l.getD i z ∈ l := by
  rw [List.getD_eq_getElem?_getD, List.getElem?_eq_getElem h, Option.getD_some]
  exact List.getElem_mem h

theorem st_nat (l : List ByteArray) (i : Nat) : rdOf ByteArray.empty l (i : Int) = l.getD i ByteArray.empty := rfl

theorem eqSS_ev (l : List ByteArray) (hl : l.length ≤ 1048576) : Ev (fun k => laws_eqStringS.f k l l) true := by
  have h := all_ev l.length (fun i k => laws_eqStringS.l0 k l l (i : Int))
    (Ev.step (f := fun _ => some true) (fun k => by
      show laws_eqStringS.l0 (k + 1) l l ((l.length : Nat) : Int) = some true
      rw [laws_eqStringS.l0, if_neg (by omega)]) (Ev.now _))
    (fun i hi hr => Ev.step (fun k => by
      show laws_eqStringS.l0 (k + 1) l l (i : Int) = laws_eqStringS.l0 k l l ((i + 1 : Nat) : Int)
      rw [laws_eqStringS.l0, if_pos (by omega), if_pos (by omega), if_pos (by omega), if_pos rfl, succ_wrap (by omega)]) hr)
  refine Ev.congr (fun k => ?_) h
  unfold laws_eqStringS.f
  rw [if_pos rfl]
  rfl

/-! #### []string -/
theorem szSS_l (l : List ByteArray) (hl : l.length ≤ 1048576) (hs : ∀ x ∈ l, x.size ≤ maxLen) : ∀ d i : Nat, i + d = l.length → ∀ m : Int, 0 ≤ m → m ≤ 1048576 →
    ∃ r : Int, Ev (fun k => laws_szStringS.l0 k l m (i : Int)) r ∧ -1 ≤ r ∧ r ≤ m ∧ (0 ≤ r → ∀ j, i ≤ j → j < l.length → ((l.getD j ByteArray.empty).size : Int) ≤ m)
  | 0, i, hd => fun m h0 h1 => ⟨m, Ev.step (f := fun _ => some m) (fun k => by rw [laws_szStringS.l0, if_neg (by omega)]) (Ev.now _), by omega, Int.le_refl _, fun _ j h2 h3 => by omega⟩
  | d + 1, i, hd => fun m h0 h1 => by
    have hz : (l.getD i ByteArray.empty).size ≤ 9223372036854775807 := hs _ (getD_mem (by omega) _)
    have hw : wrap64 (m - ((l.getD i ByteArray.empty).size : Int)) = m - ((l.getD i ByteArray.empty).size : Int) := wrap_id (by omega) (by omega)
    by_cases hn : m - ((l.getD i ByteArray.empty).size : Int) < 0
    · refine ⟨-1, Ev.step (f := fun _ => some (-1)) (fun k => ?_) (Ev.now _), by omega, by omega, fun h => by omega⟩
      rw [laws_szStringS.l0, if_pos (by omega), if_pos (by omega), st_nat, hw, if_pos hn]
    · obtain ⟨r, h2, h3, h4, h5⟩ := szSS_l l hl hs d (i + 1) (by omega) (m - ((l.getD i ByteArray.empty).size : Int)) (by omega) (by omega)
      refine ⟨r, Ev.step (fun k => ?_) h2, h3, by omega, fun h j h6 h7 => ?_⟩
      · show laws_szStringS.l0 (k + 1) l m (i : Int) = laws_szStringS.l0 k l (m - ((l.getD i ByteArray.empty).size : Int)) ((i + 1 : Nat) : Int)
        rw [laws_szStringS.l0, if_pos (by omega), if_pos (by omega), st_nat, hw, if_neg hn, succ_wrap (by omega)]
      · by_cases e : j = i
        · rw [e]
          omega
        · have := h5 h j (by omega) h7
          omega
theorem szSS_ev (l : List ByteArray) (hl : l.length ≤ maxLen) (hs : ∀ x ∈ l, x.size ≤ maxLen) (m : Int) (h0 : 0 ≤ m) (h1 : m ≤ 1048576) :
    ∃ r : Int, Ev (fun k => laws_szStringS.f k l m) r ∧ -1 ≤ r ∧ r ≤ m ∧ (0 ≤ r → l.length ≤ 1048576 ∧ ∀ j, j < l.length → (l.getD j ByteArray.empty).size ≤ 1048576) := by
  have hl' : l.length ≤ 9223372036854775807 := hl
  have hw : wrap64 (m - (l.length : Int)) = m - (l.length : Int) := wrap_id (by omega) (by omega)
  unfold laws_szStringS.f
  rw [hw]
  by_cases hn : m - (l.length : Int) < 0
  · exact ⟨-1, Ev.ifp hn (Ev.now _), by omega, by omega, fun h => by omega⟩
  · obtain ⟨r, h2, h3, h4, h5⟩ := szSS_l l (by omega) hs l.length 0 (by omega) (m - (l.length : Int)) (by omega) (by omega)
    refine ⟨r, Ev.ifn hn h2, h3, by omega, fun h => ⟨by omega, fun j hj => ?_⟩⟩
    have := h5 h j (Nat.zero_le _) hj
    omega
theorem toSS_ev (l : List ByteArray) (hl : l.length ≤ 1048576) : Ev (fun k => laws_toStringS.f k l) l := by
  have h := conv_ev l.length (fun x i k => laws_toStringS.l0 k l x (i : Int)) (fun i => l.getD i ByteArray.empty)
    (fun x hx => Ev.step (f := fun _ => some x) (fun k => by
      show laws_toStringS.l0 (k + 1) l x ((l.length : Nat) : Int) = some x
      rw [laws_toStringS.l0, if_neg (by omega)]) (Ev.now _))
    (fun x i hi hx r hr => Ev.step (fun k => by
      show laws_toStringS.l0 (k + 1) l x (i : Int) = laws_toStringS.l0 k l (x.set i (l.getD i ByteArray.empty)) ((i + 1 : Nat) : Int)
      rw [laws_toStringS.l0, if_pos (by omega), if_pos (by omega), if_pos (by omega), succ_wrap (by omega)]
      rfl) hr)
    (List.replicate l.length (⟨#[]⟩ : ByteArray)) (by simp)
  rw [map_range_self] at h
  refine Ev.congr (fun k => ?_) h
  unfold laws_toStringS.f
  rw [if_pos (by omega), if_pos (by rw [tn_nat]; omega)]
  rfl

theorem eqB_ev (o e p s : Int) (l : List ByteArray) (hl : l.length ≤ 1048576) : Ev (fun k => laws_eqBatch.f k o e p s l o e p s l) true := by
  unfold laws_eqBatch.f
  exact Ev.ifp rfl (Ev.ifp rfl (Ev.ifp rfl (Ev.ifp rfl (Ev.bind (eqSS_ev l hl) (Ev.ifp rfl (Ev.now _))))))

/-! #### Batch: its size, its copy, its likeness -/
theorem szB_ev (o e p s : Int) (l : List ByteArray) (hl : l.length ≤ maxLen) (hs : ∀ x ∈ l, x.size ≤ maxLen) (m : Int) (h0 : 0 ≤ m) (h1 : m ≤ 1048576) :
    ∃ r : Int, Ev (fun k => laws_szBatch.f k o e p s l m) r ∧ -1 ≤ r ∧ r ≤ m ∧ (0 ≤ r → l.length ≤ 1048576 ∧ ∀ j, j < l.length → (l.getD j ByteArray.empty).size ≤ 1048576) := by
  obtain ⟨r, h2, h3, h4, h5⟩ := szSS_ev l hl hs m h0 h1
  unfold laws_szBatch.f
  by_cases hr : r < 0
  · exact ⟨-1, Ev.bind h2 (Ev.ifp hr (Ev.now _)), by omega, by omega, fun h => by omega⟩
  · exact ⟨r, Ev.bind h2 (Ev.ifn hr (Ev.now _)), h3, h4, h5⟩
theorem toB_ev (o e p s : Int) (l : List ByteArray) (hl : l.length ≤ 1048576) : Ev (fun k => laws_toBatch.f k o e p s l) (o, e, p, s, l) := by
  unfold laws_toBatch.f
  exact Ev.bind (toSS_ev l hl) (Ev.now _)

theorem EvB.and {P Q : Prop} [Decidable P] {g : Nat → Option Bool} (h : EvB g Q) : EvB (fun k => if decide P = true then g k else some false) (P ∧ Q) := by
  obtain ⟨b, hb, hq⟩ := h
  by_cases hp : P
  · exact ⟨b, Ev.ifp (by rw [decide_eq_true hp]) hb, ⟨fun h => ⟨hp, hq.1 h⟩, fun h => hq.2 h.2⟩⟩
  · exact ⟨false, Ev.ifn (by rw [decide_eq_false hp]; decide) (Ev.now _), Iff.intro (fun h => by cases h) (fun h => absurd h.1 hp)⟩
theorem EvB.dec {P : Prop} [Decidable P] : EvB (fun _ => some (decide P)) P := ⟨decide P, Ev.now _, decide_eq_true_iff⟩
theorem both {g f : Nat → Option Bool} {Q : Prop} (h : EvB g Q) (k : EvB f Q) : ∃ b : Bool, Ev g b ∧ Ev f b ∧ (b = true ↔ Q) := by
  obtain ⟨b, hb, hq⟩ := h
  obtain ⟨c, hc, hr⟩ := k
  obtain rfl : c = b := Bool.eq_iff_iff.2 (hr.trans hq.symm)
  exact ⟨c, hb, hc, hq⟩

/-! #### []Batch: its size, its copy, its likeness -/
theorem EvB.andThen {g f : Nat → Option Bool} {P Q : Prop} (h : EvB g P) (k : P → EvB f Q) : EvB (fun n => (g n).bind fun t => if t = true then f n else some false) (P ∧ Q) := by
  obtain ⟨b, hb, hp⟩ := h
  cases b with
  | true =>
    obtain ⟨c, hc, hq⟩ := k (hp.1 rfl)
    exact ⟨c, Ev.bind hb (Ev.ifp rfl hc), ⟨fun h => ⟨hp.1 rfl, hq.1 h⟩, fun h => hq.2 h.2⟩⟩
  | false => exact ⟨false, Ev.bind hb (Ev.ifn (by decide) (Ev.now _)), Iff.intro (fun h => by cases h) (fun h => absurd (hp.2 h.1) (by decide))⟩
def cvB (x : S27) : S30 := ⟨x.f0, x.f1, x.f2, x.f3, x.f4⟩
theorem ba_nat (l : List S30) (i : Nat) : rd_T30 l (i : Int) = l.getD i z30 := rfl
theorem szBS_l (l : List S27) (hl : l.length ≤ 1048576) (hs : ∀ x ∈ l, x.f4.length ≤ maxLen ∧ ∀ y ∈ x.f4, y.size ≤ maxLen) : ∀ d i : Nat, i + d = l.length → ∀ m : Int, 0 ≤ m → m ≤ 1048576 →
    ∃ r : Int, Ev (fun k => laws_szBatchS.l0 k l m (i : Int)) r ∧ -1 ≤ r ∧ r ≤ m ∧ (0 ≤ r → ∀ j, i ≤ j → j < l.length → (l.getD j z27).f4.length ≤ 1048576)
  | 0, i, hd => fun m h0 h1 => ⟨m, Ev.step (f := fun _ => some m) (fun k => by rw [laws_szBatchS.l0, if_neg (by omega)]) (Ev.now _), by omega, Int.le_refl _, fun _ j h2 h3 => by omega⟩
  | d + 1, i, hd => fun m h0 h1 => by
    obtain ⟨hz1, hz2⟩ := hs _ (getD_mem (l := l) (i := i) (by omega) z27)
    obtain ⟨r, h2, h3, h4, h5⟩ := szB_ev (l.getD i z27).f0 (l.getD i z27).f1 (l.getD i z27).f2 (l.getD i z27).f3 (l.getD i z27).f4 hz1 hz2 m h0 h1
    have hst : ∀ k, laws_szBatchS.l0 (k + 1) l m (i : Int) = (laws_szBatch.f k (l.getD i z27).f0 (l.getD i z27).f1 (l.getD i z27).f2 (l.getD i z27).f3 (l.getD i z27).f4 m).bind fun t => if t < 0 then some (-1) else laws_szBatchS.l0 k l t ((i + 1 : Nat) : Int) := fun k => by
      rw [laws_szBatchS.l0, if_pos (by omega), if_pos (by omega), succ_wrap (by omega)]
      rfl
    by_cases hn : r < 0
    · exact ⟨-1, Ev.step hst (Ev.bind h2 (Ev.ifp hn (Ev.now _))), by omega, by omega, fun h => by omega⟩
    · obtain ⟨q, h6, h7, h8, h9⟩ := szBS_l l hl hs d (i + 1) (by omega) r (by omega) (by omega)
      refine ⟨q, Ev.step hst (Ev.bind h2 (Ev.ifn hn h6)), h7, by omega, fun h j h10 h11 => ?_⟩
      by_cases e : j = i
      · rw [e]
        exact (h5 (by omega)).1
      · exact h9 h j (by omega) h11
theorem szBS_ev (l : List S27) (hl : l.length ≤ maxLen) (hs : ∀ x ∈ l, x.f4.length ≤ maxLen ∧ ∀ y ∈ x.f4, y.size ≤ maxLen) :
    ∃ r : Int, Ev (fun k => laws_szBatchS.f k l 1048576) r ∧ (0 ≤ r → l.length ≤ 1048576 ∧ ∀ j, j < l.length → (l.getD j z27).f4.length ≤ 1048576) := by
  have hl' : l.length ≤ 9223372036854775807 := hl
  have hw : wrap64 (1048576 - (l.length : Int)) = 1048576 - (l.length : Int) := wrap_id (by omega) (by omega)
  unfold laws_szBatchS.f
  rw [hw]
  by_cases hn : 1048576 - (l.length : Int) < 0
  · exact ⟨-1, Ev.ifp hn (Ev.now _), fun h => by omega⟩
  · obtain ⟨r, h2, h3, h4, h5⟩ := szBS_l l (by omega) hs l.length 0 (by omega) (1048576 - (l.length : Int)) (by omega) (by omega)
    exact ⟨r, Ev.ifn hn h2, fun h => ⟨by omega, fun j hj => h5 h j (Nat.zero_le _) hj⟩⟩
theorem toBS_ev (l : List S27) (hl : l.length ≤ 1048576) (hs : ∀ j, j < l.length → (l.getD j z27).f4.length ≤ 1048576) : Ev (fun k => laws_toBatchS.f k l) (l.map cvB) := by
  have h := conv_ev l.length (fun x i k => laws_toBatchS.l0 k l x (i : Int)) (fun i => cvB (l.getD i z27))
    (fun x hx => Ev.step (f := fun _ => some x) (fun k => by
      show laws_toBatchS.l0 (k + 1) l x ((l.length : Nat) : Int) = some x
      rw [laws_toBatchS.l0, if_neg (by omega)]) (Ev.now _))
    (fun x i hi hx r hr => by
      refine Ev.step (f := fun k => (laws_toBatch.f k (l.getD i z27).f0 (l.getD i z27).f1 (l.getD i z27).f2 (l.getD i z27).f3 (l.getD i z27).f4).bind fun t => laws_toBatchS.l0 k l (x.set i ⟨t.1, t.2.1, t.2.2.1, t.2.2.2.1, t.2.2.2.2⟩) ((i + 1 : Nat) : Int)) (fun k => ?_) (Ev.bind (toB_ev _ _ _ _ _ (hs i hi)) hr)
      show laws_toBatchS.l0 (k + 1) l x (i : Int) = _
      rw [laws_toBatchS.l0, if_pos (by omega), if_pos (by omega)]
      refine congrArg _ (funext fun t => ?_)
      rw [if_pos (by omega), succ_wrap (by omega)]
      rfl)
    (List.replicate l.length z30) (by simp)
  rw [map_range_getD] at h
  refine Ev.congr (fun k => ?_) h
  unfold laws_toBatchS.f
  rw [if_pos (by omega), if_pos (by rw [tn_nat]; omega)]
  rfl
theorem eqBS_ev (l : List S30) (hl : l.length ≤ 1048576) (hs : ∀ j, j < l.length → (l.getD j z30).f4.length ≤ 1048576) : Ev (fun k => laws_eqBatchS.f k l l) true := by
  have h := all_ev l.length (fun i k => laws_eqBatchS.l0 k l l (i : Int))
    (Ev.step (f := fun _ => some true) (fun k => by
      show laws_eqBatchS.l0 (k + 1) l l ((l.length : Nat) : Int) = some true
      rw [laws_eqBatchS.l0, if_neg (by omega)]) (Ev.now _))
    (fun i hi hr => by
      refine Ev.step (f := fun k => (laws_eqBatch.f k (l.getD i z30).f0 (l.getD i z30).f1 (l.getD i z30).f2 (l.getD i z30).f3 (l.getD i z30).f4 (l.getD i z30).f0 (l.getD i z30).f1 (l.getD i z30).f2 (l.getD i z30).f3 (l.getD i z30).f4).bind fun t => if t = true then laws_eqBatchS.l0 k l l ((i + 1 : Nat) : Int) else some false) (fun k => ?_) (Ev.bind (eqB_ev _ _ _ _ _ (hs i hi)) (Ev.ifp rfl hr))
      show laws_eqBatchS.l0 (k + 1) l l (i : Int) = _
      rw [laws_eqBatchS.l0, if_pos (by omega), if_pos (by omega), if_pos (by omega), succ_wrap (by omega)]
      rfl)
  refine Ev.congr (fun k => ?_) h
  unfold laws_eqBatchS.f
  rw [if_pos rfl]
  rfl
theorem cvB_len (l : List S27) (hs : ∀ j, j < l.length → (l.getD j z27).f4.length ≤ 1048576) : ∀ j, j < (l.map cvB).length → ((l.map cvB).getD j z30).f4.length ≤ 1048576 := fun j hj => by
  rw [List.length_map] at hj
  have := hs j hj
  rw [List.getD_eq_getElem?_getD, List.getElem?_map, List.getElem?_eq_getElem hj]
  rw [List.getD_eq_getElem?_getD, List.getElem?_eq_getElem hj] at this
  exact this

/-! #### a number between two -/
theorem sin (a b c : Int) : spec_l1In.f a b c = some (decide (b ≤ a ∧ a ≤ c)) := by
  unfold spec_l1In.f
  by_cases h : a ≥ b
  · rw [if_pos h]
    have e : (b ≤ a ∧ a ≤ c) ↔ a ≤ c := ⟨fun h => h.2, fun h' => ⟨h, h'⟩⟩
    simp only [e]
  · rw [if_neg h, decide_eq_false]
    intro h'
    exact h h'.1

theorem iin (a b c : Int) : impl_in.f a b c = some (decide (b ≤ a ∧ a ≤ c)) := by
  unfold impl_in.f
  by_cases h : a ≥ b
  · rw [if_pos h]
    have e : (b ≤ a ∧ a ≤ c) ↔ a ≤ c := ⟨fun h => h.2, fun h' => ⟨h, h'⟩⟩
    simp only [e]
  · rw [if_neg h, decide_eq_false]
    intro h'
    exact h h'.1

/-! #### good batches -/
theorem ixS_iff (q : Nat → Bool) : ∀ d i, (0 ≤ ixS q i d) ↔ ∃ j, i ≤ j ∧ j < i + d ∧ q j = true
  | 0, i => by
    rw [ixS]
    exact ⟨fun h => by omega, fun ⟨j, h1, h2, _⟩ => by omega⟩
  | d + 1, i => by
    rw [ixS]
    by_cases h : q i = true
    · rw [if_pos h]
      exact ⟨fun _ => ⟨i, Nat.le_refl _, by omega, h⟩, fun _ => by omega⟩
    · rw [if_neg h, ixS_iff q d (i + 1)]
      refine ⟨fun ⟨j, h1, h2, h3⟩ => ⟨j, by omega, by omega, h3⟩, fun ⟨j, h1, h2, h3⟩ => ⟨j, ?_, by omega, h3⟩⟩
      by_cases e : j = i
      · rw [e] at h3
        exact absurd h3 h
      · omega
def GB (o e p s : Int) (l : List ByteArray) : Prop :=
  (∀ j, j < l.length → (l.getD j ByteArray.empty).size ≤ 20) ∧ (0 ≤ o ∧ o ≤ 100000) ∧ (0 ≤ e ∧ e ≤ 1000) ∧ (0 ≤ p ∧ p ≤ 65535) ∧ (0 ≤ s ∧ s ≤ 65535) ∧ (1 ≤ (l.length : Int) ∧ (l.length : Int) ≤ 8)
theorem sGB_l (o e p s : Int) (l : List ByteArray) (hl : l.length ≤ 1048576) : ∀ d i : Nat, i + d = l.length →
    EvB (fun k => spec_GoodBatch.l0 k l (l.length : Int) (i : Int) o e p s l) ((∀ j, i ≤ j → j < l.length → (l.getD j ByteArray.empty).size ≤ 20) ∧ (0 ≤ o ∧ o ≤ 100000) ∧ (0 ≤ e ∧ e ≤ 1000) ∧ (0 ≤ p ∧ p ≤ 65535) ∧ (0 ≤ s ∧ s ≤ 65535) ∧ (1 ≤ (l.length : Int) ∧ (l.length : Int) ≤ 8))
  | 0, i, hd => by
    refine EvB.step (f := fun _ => if decide ((0 : Int) ≤ o ∧ o ≤ 100000) = true then (if decide ((0 : Int) ≤ e ∧ e ≤ 1000) = true then (if decide ((0 : Int) ≤ p ∧ p ≤ 65535) = true then (if decide ((0 : Int) ≤ s ∧ s ≤ 65535) = true then some (decide (1 ≤ (l.length : Int) ∧ (l.length : Int) ≤ 8)) else some false) else some false) else some false) else some false) (fun k => ?_) ?_
    · rw [spec_GoodBatch.l0, if_neg (by omega)]
      simp only [sin, Option.bind_some]
    · refine EvB.iff (EvB.and (EvB.and (EvB.and (EvB.and EvB.dec)))) ⟨fun h => ⟨fun j h1 h2 => by omega, h⟩, fun h => h.2⟩
  | d + 1, i, hd => by
    by_cases hz : ((l.getD i ByteArray.empty).size : Int) > 20
    · refine EvB.no (fun k => ?_) (fun h => ?_)
      · rw [spec_GoodBatch.l0, if_pos (by omega), if_pos (by omega), if_pos (by omega), st_nat, if_pos hz]
      · have := h.1 i (Nat.le_refl _) (by omega)
        omega
    · refine EvB.step (fun k => ?_) (EvB.iff (sGB_l o e p s l hl d (i + 1) (by omega)) ?_)
      · show spec_GoodBatch.l0 (k + 1) l (l.length : Int) (i : Int) o e p s l = spec_GoodBatch.l0 k l (l.length : Int) ((i + 1 : Nat) : Int) o e p s l
        rw [spec_GoodBatch.l0, if_pos (by omega), if_pos (by omega), if_pos (by omega), st_nat, if_neg hz, succ_wrap (by omega)]
      · refine and_congr_left fun _ => ⟨fun h j h1 h2 => ?_, fun h j h1 h2 => h j (by omega) h2⟩
        by_cases e : j = i
        · rw [e]
          omega
        · exact h j (by omega) h2
theorem sGB_ev (o e p s : Int) (l : List ByteArray) (hl : l.length ≤ 1048576) : EvB (fun k => spec_GoodBatch.f k o e p s l) (GB o e p s l) := by
  have h := sGB_l o e p s l hl l.length 0 (by omega)
  exact h.iff ⟨fun h => ⟨fun j hj => h.1 j (Nat.zero_le _) hj, h.2⟩, fun h => ⟨fun j _ hj => h.1 j hj, h.2⟩⟩
theorem iGB_ev (o e p s : Int) (l : List ByteArray) : EvB (fun _ => impl_isBatch.f o e p s l) (GB o e p s l) := by
  have hq : ∀ j, impl_areRecords.q l j = true ↔ ¬ (l.getD j ByteArray.empty).size ≤ 20 := fun j => by
    unfold impl_areRecords.q
    rw [decide_eq_true_iff, st_nat]
    omega
  have ha : EvB (fun _ : Nat => impl_areRecords.f l) ((1 ≤ (l.length : Int) ∧ (l.length : Int) ≤ 8) ∧ ∀ j, j < l.length → (l.getD j ByteArray.empty).size ≤ 20) := by
    unfold impl_areRecords.f
    simp only [iin, Option.bind_some]
    refine EvB.and ⟨_, Ev.now _, ?_⟩
    rw [Bool.not_eq_true', decide_eq_false_iff_not, ixS_iff]
    refine ⟨fun h j hj => ?_, fun h ⟨j, h1, h2, h3⟩ => (hq j).1 h3 (h j (by omega))⟩
    by_cases hz : (l.getD j ByteArray.empty).size ≤ 20
    · exact hz
    · exact absurd ⟨j, Nat.zero_le _, by omega, (hq j).2 hz⟩ h
  obtain ⟨b, hb, hbq⟩ := ha
  have hb' : impl_areRecords.f l = some b := by
    obtain ⟨K, hK⟩ := hb
    exact hK K (Nat.le_refl _)
  unfold impl_isBatch.f
  simp only [iin, Option.bind_some, hb']
  refine EvB.iff (EvB.and (EvB.and (EvB.and (EvB.and ⟨b, Ev.now _, hbq⟩)))) ?_
  unfold GB
  constructor
  · rintro ⟨h1, h2, h3, h4, h5, h6⟩
    exact ⟨h6, h1, h2, h3, h4, h5⟩
  · rintro ⟨h6, h1, h2, h3, h4, h5⟩
    exact ⟨h1, h2, h3, h4, h5, h6⟩

/-! #### good logs -/
def GBx (x : S30) : Prop := GB x.f0 x.f1 x.f2 x.f3 x.f4
def NX (a b : S30) : Prop := b.f0 = wrap64 (a.f0 + (a.f4.length : Int)) ∧ b.f1 ≥ a.f1
def GLi (l : List S30) (i : Nat) : Prop := ∀ j, i ≤ j → j < l.length → GBx (l.getD j z30) ∧ (0 < j → NX (l.getD (j - 1) z30) (l.getD j z30))
theorem GLi_step (l : List S30) (i : Nat) (hi : i < l.length) : (GBx (l.getD i z30) ∧ (0 < i → NX (l.getD (i - 1) z30) (l.getD i z30)) ∧ GLi l (i + 1)) ↔ GLi l i := by
  refine ⟨fun ⟨h1, h2, h3⟩ j h4 h5 => ?_, fun h => ⟨(h i (Nat.le_refl _) hi).1, (h i (Nat.le_refl _) hi).2, fun j h4 h5 => h j (by omega) h5⟩⟩
  by_cases e : j = i
  · rw [e]
    exact ⟨h1, h2⟩
  · exact h3 j (by omega) h5
theorem sNX_ev (a b : S30) : EvB (fun _ => spec_l1Next.f a.f0 a.f1 a.f2 a.f3 a.f4 b.f0 b.f1 b.f2 b.f3 b.f4) (NX a b) := by
  unfold spec_l1Next.f NX
  by_cases h : b.f0 = wrap64 (a.f0 + (a.f4.length : Int))
  · exact ⟨decide (b.f1 ≥ a.f1), Ev.ifp h (Ev.now _), by rw [decide_eq_true_iff]; exact ⟨fun h' => ⟨h, h'⟩, fun h' => h'.2⟩⟩
  · exact ⟨false, Ev.ifn h (Ev.now _), Iff.intro (fun h => by cases h) (fun h' => absurd h'.1 h)⟩
theorem sGL_l (l : List S30) (hl : l.length ≤ 1048576) (hs : ∀ j, j < l.length → (l.getD j z30).f4.length ≤ 1048576) : ∀ d i : Nat, i + d = l.length → EvB (fun k => spec_GoodLog.l0 k l l (l.length : Int) (i : Int)) (GLi l i)
  | 0, i, hd => EvB.yes (fun k => by rw [spec_GoodLog.l0, if_neg (by omega)]) (fun j h1 h2 => by omega)
  | d + 1, i, hd => by
    have hg := sGB_ev (l.getD i z30).f0 (l.getD i z30).f1 (l.getD i z30).f2 (l.getD i z30).f3 (l.getD i z30).f4 (hs i (by omega))
    have ih := sGL_l l hl hs d (i + 1) (by omega)
    by_cases h0 : 0 < i
    · refine EvB.step (fun k => ?_) (EvB.iff (EvB.andThen hg (fun _ => EvB.andThen (sNX_ev (l.getD (i - 1) z30) (l.getD i z30)) (fun _ => ih))) ?_)
      · rw [spec_GoodLog.l0, if_pos (by omega), if_pos (by omega), if_pos (by omega), pred_wrap h0 (by omega), succ_wrap (by omega)]
        refine congrArg _ (funext fun t => ?_)
        rw [if_pos (show (i : Int) > 0 by omega), if_pos (show (0 : Int) ≤ ((i - 1 : Nat) : Int) by omega), if_pos (show ((i - 1 : Nat) : Int) < (l.length : Int) by omega)]
        rfl
      · refine Iff.trans ?_ (GLi_step l i (by omega))
        exact ⟨fun h => ⟨h.1, fun _ => h.2.1, h.2.2⟩, fun h => ⟨h.1, h.2.1 h0, h.2.2⟩⟩
    · refine EvB.step (fun k => ?_) (EvB.iff (EvB.andThen hg (fun _ => ih)) ?_)
      · rw [spec_GoodLog.l0, if_pos (by omega), if_pos (by omega), if_pos (by omega), succ_wrap (by omega)]
        refine congrArg _ (funext fun t => ?_)
        rw [if_neg (show ¬ (i : Int) > 0 by omega)]
      · refine Iff.trans ?_ (GLi_step l i (by omega))
        exact ⟨fun h => ⟨h.1, fun h' => absurd h' h0, h.2⟩, fun h => ⟨h.1, h.2.2⟩⟩
theorem sGL_ev (l : List S30) (hl : l.length ≤ 1048576) (hs : ∀ j, j < l.length → (l.getD j z30).f4.length ≤ 1048576) : EvB (fun k => spec_GoodLog.f k l) (GLi l 0) := sGL_l l hl hs l.length 0 (by omega)
theorem iFW_ev (l : List S30) (hl : l.length ≤ 1048576) (i : Nat) (hi : i < l.length) (b : S30) : EvB (fun _ => impl_follows.f (l.take i) b.f0 b.f1 b.f2 b.f3 b.f4) (0 < i → NX (l.getD (i - 1) z30) b) := by
  have hn : (l.take i).length = i := by rw [List.length_take]; omega
  unfold impl_follows.f impl_Batch_end.f
  rw [hn]
  by_cases h0 : 0 < i
  · rw [pred_wrap h0 (by omega), ba_nat]
    have e : (l.take i).getD (i - 1) z30 = l.getD (i - 1) z30 := by
      rw [List.getD_eq_getElem?_getD, List.getD_eq_getElem?_getD, List.getElem?_take, if_pos (by omega)]
    rw [e]
    unfold NX
    by_cases h : b.f0 = wrap64 ((l.getD (i - 1) z30).f0 + ((l.getD (i - 1) z30).f4.length : Int))
    · exact ⟨decide (b.f1 ≥ (l.getD (i - 1) z30).f1), Ev.ifn (by omega) (Ev.ifp (by omega) (Ev.ifp (by omega) (Ev.bind (Ev.now _) (Ev.ifp h (Ev.now _))))), by rw [decide_eq_true_iff]; exact ⟨fun h' _ => ⟨h, h'⟩, fun h' => (h' h0).2⟩⟩
    · exact ⟨false, Ev.ifn (by omega) (Ev.ifp (by omega) (Ev.ifp (by omega) (Ev.bind (Ev.now _) (Ev.ifn h (Ev.now _))))), Iff.intro (fun h => by cases h) (fun h' => absurd (h' h0).1 h)⟩
  · exact ⟨true, Ev.ifp (by omega) (Ev.now _), ⟨fun _ h => absurd h h0, fun _ => rfl⟩⟩
theorem iGL_l (l : List S30) (hl : l.length ≤ 1048576) : ∀ d i : Nat, i + d = l.length → EvB (fun k => impl_isLog.l0 k l l (l.length : Int) (i : Int)) (GLi l i)
  | 0, i, hd => EvB.yes (fun k => by rw [impl_isLog.l0, if_neg (by omega)]) (fun j h1 h2 => by omega)
  | d + 1, i, hd => by
    have hg := iGB_ev (l.getD i z30).f0 (l.getD i z30).f1 (l.getD i z30).f2 (l.getD i z30).f3 (l.getD i z30).f4
    have ih := iGL_l l hl d (i + 1) (by omega)
    refine EvB.step (fun k => ?_) (EvB.iff (EvB.andThen hg (fun _ => EvB.andThen (iFW_ev l hl i (by omega) (l.getD i z30)) (fun _ => ih))) (GLi_step l i (by omega)))
    rw [impl_isLog.l0, if_pos (by omega), if_pos (by omega), if_pos (by omega), succ_wrap (by omega)]
    refine congrArg _ (funext fun t => ?_)
    rw [if_pos (show (i : Int) ≤ (l.length : Int) by omega)]
    rfl
theorem iGL_ev (l : List S30) (hl : l.length ≤ 1048576) : EvB (fun k => impl_isLog.f k l) (GLi l 0) := iGL_l l hl l.length 0 (by omega)

/-! #### the sum of a text -/
theorem wr64 (n : Int) (h₀ : 0 ≤ n) (h₁ : n < 2 ^ 62) : IntKind.i64.wrap n = n := by
  rw [IntKind.wrap_i64]
  omega
theorem xor_nat (a b : Nat) (ha : a < 2 ^ 62) (hb : b < 2 ^ 62) : Go.bits .xor .i64 (a : Int) (b : Int) = ((a ^^^ b : Nat) : Int) := by
  have hx : a ^^^ b < 2 ^ 62 := Nat.xor_lt_two_pow ha hb
  have h1 : (BitVec.ofInt 64 (a : Int)).toNat = a := by
    rw [BitVec.ofInt_natCast, BitVec.toNat_ofNat]
    exact Nat.mod_eq_of_lt (by omega)
  have h2 : (BitVec.ofInt 64 (b : Int)).toNat = b := by
    rw [BitVec.ofInt_natCast, BitVec.toNat_ofNat]
    exact Nat.mod_eq_of_lt (by omega)
  show IntKind.i64.wrap ((BitVec.ofInt 64 (a : Int) ^^^ BitVec.ofInt 64 (b : Int)).toNat : Int) = _
  rw [BitVec.toNat_xor, h1, h2]
  exact wr64 _ (Int.natCast_nonneg _) (by omega)
theorem and_low (m : Nat) (h : m < 2 ^ 62) : Go.bits .and .i64 (m : Int) 65535 = ((m % 65536 : Nat) : Int) := by
  show Go.bits .and .i64 (m : Int) ((65535 : Nat) : Int) = _
  rw [(bits_nat .i64 62 (by decide) wr64 m 65535 h (by decide)).1]
  exact congrArg _ (Nat.and_two_pow_sub_one_eq_mod m 16)
theorem and_top (c : Nat) (h : c < 65536) : Go.bits .and .i64 (c : Int) 32768 = 0 ↔ c < 32768 := by
  show Go.bits .and .i64 (c : Int) ((32768 : Nat) : Int) = 0 ↔ _
  rw [(bits_nat .i64 62 (by decide) wr64 c 32768 (by omega) (by decide)).1]
  constructor
  · intro e
    by_cases hc : c < 32768
    · exact hc
    · have e' : c &&& 2 ^ 15 = 0 := by
        have : (2 : Nat) ^ 15 = 32768 := by decide
        rw [this]
        omega
      have t : (c &&& 2 ^ 15).testBit 15 = true := by
        rw [Nat.testBit_and, Nat.testBit_two_pow_self, Bool.and_true, Nat.testBit_eq_decide_div_mod_eq, decide_eq_true_iff]
        omega
      rw [e', Nat.zero_testBit] at t
      cases t
  · intro hc
    have e : c &&& 2 ^ 15 = 0 := by
      refine Nat.eq_of_testBit_eq fun j => ?_
      rw [Nat.testBit_and, Nat.zero_testBit]
      by_cases hj : j = 15
      · subst hj
        rw [Nat.testBit_lt_two_pow (x := c) (i := 15) (by omega), Bool.false_and]
      · rw [Nat.testBit_two_pow_of_ne (fun e => hj e.symm), Bool.and_false]
    have : (2 : Nat) ^ 15 = 32768 := by decide
    rw [this] at e
    rw [e]
    rfl
theorem bt_bd (s : ByteArray) (i : Int) : ∃ b : Nat, bt s i = (b : Int) ∧ b ≤ 255 := by
  unfold bt
  split
  · rename_i h
    have := UInt8.toNat_lt (s[i.toNat]'h)
    exact ⟨_, rfl, by omega⟩
  · exact ⟨0, rfl, by omega⟩
def stp (c : Nat) : Nat := if c < 32768 then c * 2 else (c * 2 % 65536) ^^^ 4129
theorem stp_lt (c : Nat) : stp c < 65536 := by
  unfold stp
  split
  · omega
  · exact Nat.xor_lt_two_pow (n := 16) (by omega) (by omega)
def stps : Nat → Nat → Nat
  | 0, c => c
  | d + 1, c => stps d (stp c)
theorem stps_lt : ∀ d c, c < 65536 → stps d c < 65536
  | 0, c, h => h
  | d + 1, c, _ => stps_lt d (stp c) (stp_lt c)
theorem sSum_in (x : ByteArray) (i : Int) (r : Int) : ∀ d j : Nat, j + d = 8 → ∀ c : Nat, c < 65536 → Ev (fun k => spec_l1Sum.l0 k x ((stps d c : Nat) : Int) (wrap64 (i + 1))) r → Ev (fun k => spec_l1Sum.l1 k x (c : Int) i (j : Int)) r
  | 0, j, hd => fun c hc h => Ev.step (fun k => by rw [spec_l1Sum.l1, if_neg (by omega)]; rfl) h
  | d + 1, j, hd => fun c hc h => by
    have w : wrap64 ((c : Int) * 2) = ((c * 2 : Nat) : Int) := by
      rw [wrap_id (by omega) (by omega)]
      omega
    refine Ev.step (fun k => ?_) (sSum_in x i r d (j + 1) (by omega) (stp c) (stp_lt c) h)
    show spec_l1Sum.l1 (k + 1) x (c : Int) i (j : Int) = spec_l1Sum.l1 k x ((stp c : Nat) : Int) i ((j + 1 : Nat) : Int)
    rw [spec_l1Sum.l1, if_pos (by omega), w, succ_wrap (by omega)]
    unfold stp
    by_cases hs : c < 32768
    · rw [if_neg (by omega), if_pos hs]
    · rw [if_pos (by omega), if_neg hs, and_low _ (by omega)]
      have e : Go.bits .xor .i64 ((c * 2 % 65536 : Nat) : Int) 4129 = ((c * 2 % 65536 ^^^ 4129 : Nat) : Int) := xor_nat _ 4129 (by omega) (by omega)
      rw [e]
theorem iSum_in (x : ByteArray) (n i : Int) (r : Int) : ∀ d j : Nat, j + d = 8 → ∀ c : Nat, c < 65536 → Ev (fun k => impl_sumOf.l0 k x ((stps d c : Nat) : Int) n (wrap64 (i + 1))) r → Ev (fun k => impl_sumOf.l1 k x (c : Int) n i (j : Int)) r
  | 0, j, hd => fun c hc h => Ev.step (fun k => by rw [impl_sumOf.l1, if_neg (by omega)]; rfl) h
  | d + 1, j, hd => fun c hc h => by
    have w : wrap64 ((c : Int) * 2) = ((c * 2 : Nat) : Int) := by
      rw [wrap_id (by omega) (by omega)]
      omega
    refine Ev.step (fun k => ?_) (iSum_in x n i r d (j + 1) (by omega) (stp c) (stp_lt c) h)
    show impl_sumOf.l1 (k + 1) x (c : Int) n i (j : Int) = impl_sumOf.l1 k x ((stp c : Nat) : Int) n i ((j + 1 : Nat) : Int)
    rw [impl_sumOf.l1, if_pos (by omega), w, succ_wrap (by omega), and_low _ (by omega)]
    unfold stp
    by_cases hs : c < 32768
    · rw [if_pos ((and_top c hc).2 hs), if_pos hs]
      have e : c * 2 % 65536 = c * 2 := by omega
      rw [e]
    · rw [if_neg (fun h => hs ((and_top c hc).1 h)), if_neg hs]
      have e : Go.bits .xor .i64 ((c * 2 % 65536 : Nat) : Int) 4129 = ((c * 2 % 65536 ^^^ 4129 : Nat) : Int) := xor_nat _ 4129 (by omega) (by omega)
      rw [e]
theorem sum_l (x : ByteArray) (hx : x.size ≤ 1000000000000000) : ∀ d i : Nat, i + d = x.size → ∀ c : Nat, c < 65536 →
    ∃ r : Nat, r < 65536 ∧ Ev (fun k => spec_l1Sum.l0 k x (c : Int) (i : Int)) (r : Int) ∧ Ev (fun k => impl_sumOf.l0 k x (c : Int) (x.size : Int) (i : Int)) (r : Int)
  | 0, i, hd => fun c hc => ⟨c, hc, Ev.step (f := fun _ => some (c : Int)) (fun k => by rw [spec_l1Sum.l0, if_neg (by omega)]) (Ev.now _), Ev.step (f := fun _ => some (c : Int)) (fun k => by rw [impl_sumOf.l0, if_neg (by omega)]) (Ev.now _)⟩
  | d + 1, i, hd => fun c hc => by
    obtain ⟨b, hb, hb2⟩ := bt_bd x (i : Int)
    have w1 : wrap64 (b : Int) = (b : Int) := wrap_id (by omega) (by omega)
    have w2 : wrap64 ((b : Int) * 256) = ((b * 256 : Nat) : Int) := by
      rw [wrap_id (by omega) (by omega)]
      omega
    have hx2 : c ^^^ b * 256 < 65536 := Nat.xor_lt_two_pow (n := 16) (by omega) (by omega)
    have e := xor_nat c (b * 256) (by omega) (by omega)
    obtain ⟨r, hr, h1, h2⟩ := sum_l x hx d (i + 1) (by omega) (stps 8 (c ^^^ b * 256)) (stps_lt 8 _ hx2)
    refine ⟨r, hr, ?_, ?_⟩
    · refine Ev.step (fun k => ?_) (sSum_in x (i : Int) (r : Int) 8 0 rfl _ hx2 ?_)
      · show spec_l1Sum.l0 (k + 1) x (c : Int) (i : Int) = spec_l1Sum.l1 k x ((c ^^^ b * 256 : Nat) : Int) (i : Int) 0
        rw [spec_l1Sum.l0, if_pos (by omega), if_pos (by omega), hb, w1, w2, e]
      · rw [succ_wrap (by omega)]
        exact h1
    · refine Ev.step (fun k => ?_) (iSum_in x (x.size : Int) (i : Int) (r : Int) 8 0 rfl _ hx2 ?_)
      · show impl_sumOf.l0 (k + 1) x (c : Int) (x.size : Int) (i : Int) = impl_sumOf.l1 k x ((c ^^^ b * 256 : Nat) : Int) (x.size : Int) (i : Int) 0
        rw [impl_sumOf.l0, if_pos (by omega), if_pos (by omega), if_pos (by omega), hb, w1, w2, e]
      · rw [succ_wrap (by omega)]
        exact h2
theorem sum_ev (x : ByteArray) (hx : x.size ≤ 1000000000000000) : ∃ r : Nat, r < 65536 ∧ Ev (fun k => spec_l1Sum.f k x) (r : Int) ∧ Ev (fun k => impl_sumOf.f k x) (r : Int) :=
  sum_l x hx x.size 0 (by omega) 65535 (by omega)

/-! #### a batch as a text -/
def bytF : Nat → Int → List Int → List Int
  | 0, _, x => x
  | d + 1, v, x => bytF d (v / 256) (x.set d (v % 256))
theorem bytF_len : ∀ (d : Nat) (v : Int) (x : List Int), (bytF d v x).length = x.length
  | 0, _, _ => rfl
  | d + 1, v, x => by rw [bytF, bytF_len d, List.length_set]
/-- The n bytes of a number, the highest first. -/
def byt (v : Int) (n : Nat) : ByteArray := strOfNums (bytF n v (List.replicate n 0))
theorem byt_size (v : Int) (n : Nat) : (byt v n).size = n := by
  unfold byt
  rw [strOfNums_size, bytF_len, List.length_replicate]
theorem sByt_l : ∀ (d : Nat) (v : Int) (x : List Int), d ≤ x.length → d ≤ 1000 → Ev (fun k => spec_l1Bytes.l0 k v x ((d : Int) - 1)) (strOfNums (bytF d v x))
  | 0, v, x, _, _ => Ev.step (f := fun _ => some (strOfNums x)) (fun k => by rw [spec_l1Bytes.l0, if_neg (by omega)]) (Ev.now _)
  | d + 1, v, x, h, h2 => by
    refine Ev.step (fun k => ?_) (sByt_l d (v / 256) (x.set d (v % 256)) (by rw [List.length_set]; omega) (by omega))
    have e : ((d + 1 : Nat) : Int) - 1 = (d : Int) := by omega
    show spec_l1Bytes.l0 (k + 1) v x (((d + 1 : Nat) : Int) - 1) = spec_l1Bytes.l0 k (v / 256) (x.set d (v % 256)) ((d : Int) - 1)
    rw [e, spec_l1Bytes.l0, if_pos (by omega), if_pos (by omega), if_pos (by omega), wrap_id (by omega) (by omega), tn_nat]
theorem iByt_l : ∀ (d : Nat) (v : Int) (x : List Int), d ≤ x.length → d ≤ 1000 → Ev (fun k => impl_put.l0 k v x ((d : Int) - 1)) (strOfNums (bytF d v x))
  | 0, v, x, _, _ => Ev.step (f := fun _ => some (strOfNums x)) (fun k => by rw [impl_put.l0, if_neg (by omega)]) (Ev.now _)
  | d + 1, v, x, h, h2 => by
    refine Ev.step (fun k => ?_) (iByt_l d (v / 256) (x.set d (v % 256)) (by rw [List.length_set]; omega) (by omega))
    have e : ((d + 1 : Nat) : Int) - 1 = (d : Int) := by omega
    show impl_put.l0 (k + 1) v x (((d + 1 : Nat) : Int) - 1) = impl_put.l0 k (v / 256) (x.set d (v % 256)) ((d : Int) - 1)
    rw [e, impl_put.l0, if_pos (by omega), if_pos (by omega), if_pos (by omega), wrap_id (by omega) (by omega), tn_nat]
theorem sByt_ev (v : Int) (n : Nat) (hn : n ≤ 1000) : Ev (fun k => spec_l1Bytes.f k v (n : Int)) (byt v n) := by
  unfold spec_l1Bytes.f
  rw [tn_nat, wrap_id (by omega) (by omega)]
  exact Ev.ifp (by omega) (Ev.ifp (by omega) (sByt_l n v _ (by rw [List.length_replicate]; omega) hn))
theorem iByt_ev (v : Int) (n : Nat) (hn : n ≤ 1000) : Ev (fun k => impl_put.f k v (n : Int)) (byt v n) := by
  unfold impl_put.f
  rw [tn_nat, wrap_id (by omega) (by omega)]
  exact Ev.ifp (by omega) (Ev.ifp (by omega) (iByt_l n v _ (by rw [List.length_replicate]; omega) hn))
open Classical in
noncomputable def sm (x : ByteArray) : Nat := if h : x.size ≤ 1000000000000000 then Classical.choose (sum_ev x h) else 0
theorem sm_ev (x : ByteArray) (h : x.size ≤ 1000000000000000) : Ev (fun k => spec_l1Sum.f k x) (sm x : Int) ∧ Ev (fun k => impl_sumOf.f k x) (sm x : Int) := by
  unfold sm
  rw [dif_pos h]
  exact (Classical.choose_spec (sum_ev x h)).2
/-- The records, each behind its length. -/
def rcs : List ByteArray → ByteArray → ByteArray
  | [], b => b
  | x :: xs, b => rcs xs (b ++ (byt (x.size : Int) 1 ++ x))
def rcl : List ByteArray → Nat
  | [] => 0
  | x :: xs => 1 + x.size + rcl xs
theorem rcs_size : ∀ (l : List ByteArray) (b : ByteArray), (rcs l b).size = b.size + rcl l
  | [], b => rfl
  | x :: xs, b => by
    rw [rcs, rcs_size xs, rcl, ByteArray.size_append, ByteArray.size_append, byt_size]
    omega
noncomputable def fin (b : ByteArray) : ByteArray := (byt ((b.size + 2 : Nat) : Int) 2 ++ b) ++ byt (sm (byt ((b.size + 2 : Nat) : Int) 2 ++ b) : Int) 2
theorem fin_size (b : ByteArray) : (fin b).size = b.size + 4 := by
  unfold fin
  rw [ByteArray.size_append, ByteArray.size_append, byt_size, byt_size]
  omega
def hdr (o e p s : Int) (n : Nat) : ByteArray := (((byt o 3 ++ byt e 2) ++ byt p 2) ++ byt s 2) ++ byt (n : Int) 1
theorem hdr_size (o e p s : Int) (n : Nat) : (hdr o e p s n).size = 10 := by
  unfold hdr
  simp only [ByteArray.size_append, byt_size]
/-- A batch as a text. -/
noncomputable def bb (o e p s : Int) (l : List ByteArray) : ByteArray := fin (rcs l (hdr o e p s l.length))
theorem bb_size (o e p s : Int) (l : List ByteArray) : (bb o e p s l).size = 14 + rcl l := by
  unfold bb
  rw [fin_size, rcs_size, hdr_size]
  omega
theorem sfin_ev (b : ByteArray) (hb : b.size ≤ 100000000) : Ev (fun k => (spec_l1Bytes.f k (wrap64 ((b.size : Int) + 2)) 2).bind fun t139 => (if t139.size + b.size ≤ 9223372036854775807 then ((spec_l1Sum.f k (t139 ++ b)).bind fun t140 => ((spec_l1Bytes.f k t140 2).bind fun t141 => (if (t139 ++ b).size + t141.size ≤ 9223372036854775807 then (some ((t139 ++ b) ++ t141)) else (none)))) else (none))) (fin b) := by
  have w : wrap64 ((b.size : Int) + 2) = ((b.size + 2 : Nat) : Int) := by
    rw [wrap_id (by omega) (by omega)]
    omega
  have hz : (byt ((b.size + 2 : Nat) : Int) 2 ++ b).size = 2 + b.size := by rw [ByteArray.size_append, byt_size]
  rw [w]
  refine Ev.bind (sByt_ev _ 2 (by omega)) (Ev.ifp (by rw [byt_size]; omega) (Ev.bind (sm_ev _ (by omega)).1 (Ev.bind (sByt_ev _ 2 (by omega)) (Ev.ifp (by rw [hz, byt_size]; omega) (Ev.now _)))))
theorem ifin_ev (b : ByteArray) (hb : b.size ≤ 100000000) : Ev (fun k => (impl_put.f k (wrap64 ((b.size : Int) + 2)) 2).bind fun t139 => (if t139.size + b.size ≤ 9223372036854775807 then ((impl_sumOf.f k (t139 ++ b)).bind fun t140 => ((impl_put.f k t140 2).bind fun t141 => (if (t139 ++ b).size + t141.size ≤ 9223372036854775807 then (some ((t139 ++ b) ++ t141)) else (none)))) else (none))) (fin b) := by
  have w : wrap64 ((b.size : Int) + 2) = ((b.size + 2 : Nat) : Int) := by
    rw [wrap_id (by omega) (by omega)]
    omega
  have hz : (byt ((b.size + 2 : Nat) : Int) 2 ++ b).size = 2 + b.size := by rw [ByteArray.size_append, byt_size]
  rw [w]
  refine Ev.bind (iByt_ev _ 2 (by omega)) (Ev.ifp (by rw [byt_size]; omega) (Ev.bind (sm_ev _ (by omega)).2 (Ev.bind (iByt_ev _ 2 (by omega)) (Ev.ifp (by rw [hz, byt_size]; omega) (Ev.now _)))))
theorem drop_getD {l : List ByteArray} {i : Nat} (h : i < l.length) : l.drop i = l.getD i ByteArray.empty :: l.drop (i + 1) := by
  rw [List.drop_eq_getElem_cons h, List.getD_eq_getElem?_getD, List.getElem?_eq_getElem h]
  rfl
theorem batch_l (l : List ByteArray) (hl : l.length ≤ 8) (hs : ∀ j, j < l.length → (l.getD j ByteArray.empty).size ≤ 20) : ∀ d i : Nat, i + d = l.length → ∀ b : ByteArray, b.size ≤ 1000 + 21 * i →
    Ev (fun k => spec_l1Batch.l0 k b l (l.length : Int) (i : Int)) (fin (rcs (l.drop i) b)) ∧ Ev (fun k => impl_batchBytes.l0 k b l (l.length : Int) (i : Int)) (fin (rcs (l.drop i) b))
  | 0, i, hd => fun b hb => by
    have e : i = l.length := by omega
    subst e
    rw [List.drop_length, rcs]
    exact ⟨Ev.step (fun k => by rw [spec_l1Batch.l0, if_neg (by omega)]) (sfin_ev b (by omega)), Ev.step (fun k => by rw [impl_batchBytes.l0, if_neg (by omega)]) (ifin_ev b (by omega))⟩
  | d + 1, i, hd => fun b hb => by
    have hz := hs i (by omega)
    have z1 : (byt ((l.getD i ByteArray.empty).size : Int) 1 ++ l.getD i ByteArray.empty).size = 1 + (l.getD i ByteArray.empty).size := by rw [ByteArray.size_append, byt_size]
    obtain ⟨h1, h2⟩ := batch_l l hl hs d (i + 1) (by omega) (b ++ (byt ((l.getD i ByteArray.empty).size : Int) 1 ++ l.getD i ByteArray.empty)) (by rw [ByteArray.size_append, z1]; omega)
    rw [drop_getD (show i < l.length by omega), rcs]
    constructor
    · refine Ev.step (f := fun k => (spec_l1Bytes.f k ((l.getD i ByteArray.empty).size : Int) 1).bind fun t => (if t.size + (l.getD i ByteArray.empty).size ≤ 9223372036854775807 then (if b.size + (t ++ l.getD i ByteArray.empty).size ≤ 9223372036854775807 then (spec_l1Batch.l0 k (b ++ (t ++ l.getD i ByteArray.empty)) l (l.length : Int) ((i + 1 : Nat) : Int)) else (none)) else (none))) (fun k => ?_) (Ev.bind (sByt_ev _ 1 (by omega)) (Ev.ifp (by rw [byt_size]; omega) (Ev.ifp (by rw [z1]; omega) h1)))
      rw [spec_l1Batch.l0, if_pos (by omega), if_pos (by omega), if_pos (by omega), succ_wrap (by omega)]
      rfl
    · refine Ev.step (f := fun k => (impl_put.f k ((l.getD i ByteArray.empty).size : Int) 1).bind fun t => (if t.size + (l.getD i ByteArray.empty).size ≤ 9223372036854775807 then (if b.size + (t ++ l.getD i ByteArray.empty).size ≤ 9223372036854775807 then (impl_batchBytes.l0 k (b ++ (t ++ l.getD i ByteArray.empty)) l (l.length : Int) ((i + 1 : Nat) : Int)) else (none)) else (none))) (fun k => ?_) (Ev.bind (iByt_ev _ 1 (by omega)) (Ev.ifp (by rw [byt_size]; omega) (Ev.ifp (by rw [z1]; omega) h2)))
      rw [impl_batchBytes.l0, if_pos (by omega), if_pos (by omega), if_pos (by omega), succ_wrap (by omega)]
      rfl
theorem rcl_le : ∀ (l : List ByteArray), (∀ j, j < l.length → (l.getD j ByteArray.empty).size ≤ 20) → rcl l ≤ 21 * l.length
  | [], _ => Nat.le_refl _
  | x :: xs, h => by
    have h0 : x.size ≤ 20 := h 0 (by simp)
    have h1 := rcl_le xs (fun j hj => h (j + 1) (by simp only [List.length_cons]; omega))
    rw [rcl, List.length_cons]
    omega
theorem batch_ev (o e p s : Int) (l : List ByteArray) (h : GB o e p s l) : Ev (fun k => spec_l1Batch.f k o e p s l) (bb o e p s l) ∧ Ev (fun k => impl_batchBytes.f k o e p s l) (bb o e p s l) := by
  obtain ⟨hs, _, _, _, _, hl⟩ := h
  obtain ⟨h1, h2⟩ := batch_l l (by omega) hs l.length 0 (by omega) (hdr o e p s l.length) (by rw [hdr_size]; omega)
  unfold spec_l1Batch.f impl_batchBytes.f
  constructor
  · refine Ev.bind (sByt_ev _ 3 (by omega)) (Ev.bind (sByt_ev _ 2 (by omega)) (Ev.ifp ?_ (Ev.bind (sByt_ev _ 2 (by omega)) (Ev.ifp ?_ (Ev.bind (sByt_ev _ 2 (by omega)) (Ev.ifp ?_ (Ev.bind (sByt_ev _ 1 (by omega)) (Ev.ifp ?_ h1))))))))
    all_goals simp only [ByteArray.size_append, byt_size]
    all_goals omega
  · refine Ev.bind (iByt_ev _ 3 (by omega)) (Ev.bind (iByt_ev _ 2 (by omega)) (Ev.ifp ?_ (Ev.bind (iByt_ev _ 2 (by omega)) (Ev.ifp ?_ (Ev.bind (iByt_ev _ 2 (by omega)) (Ev.ifp ?_ (Ev.bind (iByt_ev _ 1 (by omega)) (Ev.ifp ?_ h2))))))))
    all_goals simp only [ByteArray.size_append, byt_size]
    all_goals omega

/-! #### a log as a text -/
noncomputable def bbx (x : S30) : ByteArray := bb x.f0 x.f1 x.f2 x.f3 x.f4
noncomputable def lgb : List S30 → ByteArray → ByteArray
  | [], b => b
  | x :: xs, b => lgb xs (b ++ bbx x)
theorem bbx_size (x : S30) (h : GBx x) : 14 ≤ (bbx x).size ∧ (bbx x).size ≤ 182 := by
  obtain ⟨hs, _, _, _, _, hl⟩ := h
  have := rcl_le x.f4 hs
  unfold bbx
  rw [bb_size]
  omega
theorem lgb_size : ∀ (l : List S30) (b : ByteArray), (∀ x ∈ l, GBx x) → b.size + 14 * l.length ≤ (lgb l b).size
  | [], b, _ => Nat.le_refl _
  | x :: xs, b, h => by
    have h1 := (bbx_size x (h x List.mem_cons_self)).1
    have h2 := lgb_size xs (b ++ bbx x) (fun y hy => h y (List.mem_cons_of_mem _ hy))
    rw [ByteArray.size_append] at h2
    rw [lgb, List.length_cons]
    omega
theorem drop_getB {l : List S30} {i : Nat} (h : i < l.length) : l.drop i = l.getD i z30 :: l.drop (i + 1) := by
  rw [List.drop_eq_getElem_cons h, List.getD_eq_getElem?_getD, List.getElem?_eq_getElem h]
  rfl
theorem sLog_l (l : List S30) (hl : l.length ≤ 1048576) (hg : ∀ j, j < l.length → GBx (l.getD j z30)) : ∀ d i : Nat, i + d = l.length → ∀ b : ByteArray, b.size ≤ 182 * i →
    Ev (fun k => spec_l1Log.l0 k b l (l.length : Int) (i : Int)) (lgb (l.drop i) b) ∧
    Ev (fun k => impl_LogBytes.l0 k b l (l.length : Int) (i : Int)) (if (lgb (l.drop i) b).size > 600 then ((⟨#[]⟩ : ByteArray), false) else (lgb (l.drop i) b, true))
  | 0, i, hd => fun b hb => by
    have e : i = l.length := by omega
    subst e
    rw [List.drop_length, lgb]
    refine ⟨Ev.step (f := fun _ => some b) (fun k => by rw [spec_l1Log.l0, if_neg (by omega)]) (Ev.now _), ?_⟩
    by_cases h : b.size > 600
    · rw [if_pos h]
      exact Ev.step (f := fun _ => some ((⟨#[]⟩ : ByteArray), false)) (fun k => by rw [impl_LogBytes.l0, if_neg (by omega), if_pos (by omega)]) (Ev.now _)
    · rw [if_neg h]
      exact Ev.step (f := fun _ => some (b, true)) (fun k => by rw [impl_LogBytes.l0, if_neg (by omega), if_neg (by omega)]) (Ev.now _)
  | d + 1, i, hd => fun b hb => by
    have hx := hg i (by omega)
    have hz := bbx_size _ hx
    obtain ⟨h1, h2⟩ := batch_ev _ _ _ _ _ hx
    obtain ⟨h3, h4⟩ := sLog_l l hl hg d (i + 1) (by omega) (b ++ bbx (l.getD i z30)) (by rw [ByteArray.size_append]; omega)
    rw [drop_getB (show i < l.length by omega), lgb]
    constructor
    · refine Ev.step (f := fun k => (spec_l1Batch.f k (l.getD i z30).f0 (l.getD i z30).f1 (l.getD i z30).f2 (l.getD i z30).f3 (l.getD i z30).f4).bind fun t => (if b.size + t.size ≤ 9223372036854775807 then (spec_l1Log.l0 k (b ++ t) l (l.length : Int) ((i + 1 : Nat) : Int)) else (none))) (fun k => ?_) (Ev.bind h1 (Ev.ifp (by show b.size + (bbx (l.getD i z30)).size ≤ _; omega) h3))
      rw [spec_l1Log.l0, if_pos (by omega), if_pos (by omega), if_pos (by omega), succ_wrap (by omega)]
      rfl
    · refine Ev.step (f := fun k => (impl_batchBytes.f k (l.getD i z30).f0 (l.getD i z30).f1 (l.getD i z30).f2 (l.getD i z30).f3 (l.getD i z30).f4).bind fun t => (if b.size + t.size ≤ 9223372036854775807 then (impl_LogBytes.l0 k (b ++ t) l (l.length : Int) ((i + 1 : Nat) : Int)) else (none))) (fun k => ?_) (Ev.bind h2 (Ev.ifp (by show b.size + (bbx (l.getD i z30)).size ≤ _; omega) h4))
      rw [impl_LogBytes.l0, if_pos (by omega), if_pos (by omega), if_pos (by omega), succ_wrap (by omega)]
      rfl
theorem LogBytes_ev (l : List S30) (hl : l.length ≤ 1048576) (hs : ∀ j, j < l.length → (l.getD j z30).f4.length ≤ 1048576) : ∃ (n : ByteArray) (b : Bool), Ev (fun k => spec_LogBytes.f k l) (n, b) ∧ Ev (fun k => impl_LogBytes.f k l) (n, b) := by
  obtain ⟨b, hb, hi, hq⟩ := both (sGL_ev l hl hs) (iGL_ev l hl)
  unfold spec_LogBytes.f impl_LogBytes.f
  cases b with
  | false => exact ⟨(⟨#[]⟩ : ByteArray), false, Ev.bind hb (Ev.ifn (by decide) (Ev.step (f := fun _ => some ((⟨#[]⟩ : ByteArray), false)) (fun k => by rw [spec_LogBytes.j0, if_pos rfl]) (Ev.now _))), Ev.bind hi (Ev.ifn (by decide) (Ev.now _))⟩
  | true =>
    have hg := hq.1 rfl
    have hg1 : ∀ j, j < l.length → GBx (l.getD j z30) := fun j hj => (hg j (Nat.zero_le _) hj).1
    obtain ⟨h3, h4⟩ := sLog_l l hl hg1 l.length 0 (by omega) (⟨#[]⟩ : ByteArray) (by show 0 ≤ _; omega)
    rw [List.drop_zero] at h3 h4
    have h3' : Ev (fun k => spec_l1Log.f k l) (lgb l (⟨#[]⟩ : ByteArray)) := h3
    have hsz : 14 * l.length ≤ (lgb l (⟨#[]⟩ : ByteArray)).size := by
      have := lgb_size l (⟨#[]⟩ : ByteArray) (fun x hx => by
        obtain ⟨j, hj, e⟩ := List.getElem_of_mem hx
        have := hg1 j hj
        rw [List.getD_eq_getElem?_getD, List.getElem?_eq_getElem hj] at this
        rw [← e]
        exact this)
      omega
    by_cases hz : (lgb l (⟨#[]⟩ : ByteArray)).size > 600
    · rw [if_pos hz] at h4
      refine ⟨(⟨#[]⟩ : ByteArray), false, Ev.bind hb (Ev.ifp rfl ?_), Ev.bind hi (Ev.ifp rfl h4)⟩
      by_cases hn : (l.length : Int) > 600
      · rw [decide_eq_true hn]
        exact Ev.step (f := fun _ => some ((⟨#[]⟩ : ByteArray), false)) (fun k => by rw [spec_LogBytes.j0, if_pos rfl]) (Ev.now _)
      · rw [decide_eq_false hn]
        exact Ev.step (fun k => by rw [spec_LogBytes.j0, if_neg (by decide)]) (Ev.bind h3' (Ev.ifp (show ((lgb l (⟨#[]⟩ : ByteArray)).size : Int) > 600 by omega) (Ev.now _)))
    · rw [if_neg hz] at h4
      refine ⟨_, true, Ev.bind hb (Ev.ifp rfl ?_), Ev.bind hi (Ev.ifp rfl h4)⟩
      rw [decide_eq_false (show ¬ (l.length : Int) > 600 by omega)]
      exact Ev.step (fun k => by rw [spec_LogBytes.j0, if_neg (by decide)]) (Ev.bind h3' (Ev.ifn (show ¬ ((lgb l (⟨#[]⟩ : ByteArray)).size : Int) > 600 by omega) (Ev.now _)))

theorem FnExactLogBytes : laws_FnExactLogBytes.Pure := by
  intro l0 hok
  obtain ⟨hl, hs⟩ := hok
  apply Ev.rounds
  unfold laws_FnExactLogBytes.f
  obtain ⟨r, h1, h4⟩ := szBS_ev l0 hl (fun x hx => (hs x hx).2.2.2.2)
  refine Ev.bind h1 ?_
  by_cases hr : r < 0
  · exact Ev.ifp hr (Ev.now _)
  · obtain ⟨hb, hq⟩ := h4 (by omega)
    have hb' : (l0.map cvB).length ≤ 1048576 := by rw [List.length_map]; exact hb
    have hq' := cvB_len l0 hq
    obtain ⟨n, b, hsp, him⟩ := LogBytes_ev (l0.map cvB) hb' hq'
    refine Ev.ifn hr ?_
    repeat first
      | with_reducible exact Ev.now _
      | (with_reducible refine Ev.bind (toBS_ev _ hb hq) ?_; try dsimp only)
      | (with_reducible refine Ev.bind (hsp) ?_; try dsimp only)
      | (with_reducible refine Ev.bind (him) ?_; try dsimp only)
      | (with_reducible refine Ev.bind (eqBS_ev _ hb' hq') ?_; try dsimp only)
      | (with_reducible refine Ev.ifp ?hc ?_; (case hc => first | rfl | omega | (simp; done)))
      | (with_reducible refine Ev.ifn ?hc ?_; (case hc => first | decide | omega | (simp; done)))
      | (with_reducible refine Ev.succ (g := fun k_ => laws_FnExactLogBytes.j0 k_ _ _ _) ?_; simp only [laws_FnExactLogBytes.j0])

end Go.Proofs.Ytpjbggfhdklnmaa.Pure
