/- CrashDisk of the program answers as the reference's, for every disk and every numbers; its answer owns its memory. Conditions: none but the statement's own. -/
import Derived.Test.YtfflfbibblbbeaaQFnExactCrashDiskx8
namespace Go.Proofs.Ytfflfbibblbbeaa.Pure
open Go.RowKit Go.Proofs.Ytfflfbibblbbeaa.QFnExactCrashDisk Go.Proofs.YtfflfbibblbbeaaW.PrintWords Go.Proofs.YtfflfbibblbbeaaW.PrintLast Go.Proofs.YtfflfbibblbbeaaW.PrintMore
set_option linter.unusedVariables false
set_option linter.unusedSimpArgs false
/-! #### words -/
theorem Ev.succ {α : Type} {g : Nat → Option α} {r : α} (k : Ev (fun n => g (n + 1)) r) : Ev g r := Ev.step (fun _ => rfl) k
theorem Ev.ifp {α : Type} {c : Prop} [Decidable c] {f g : Nat → Option α} {r : α} (h : c) (k : Ev f r) : Ev (fun n => if c then f n else g n) r := Ev.congr (fun n => if_pos h) k
theorem Ev.ifn {α : Type} {c : Prop} [Decidable c] {f g : Nat → Option α} {r : α} (h : ¬ c) (k : Ev g r) : Ev (fun n => if c then f n else g n) r := Ev.congr (fun n => if_neg h) k
theorem Ev.uniq {α : Type} {g : Nat → Option α} {r q : α} (h : Ev g r) (k : Ev g q) : r = q := by
  obtain ⟨a, ha⟩ := h
  obtain ⟨b, hb⟩ := k
  have h1 := ha (max a b) (Nat.le_max_left _ _)
  have h2 := hb (max a b) (Nat.le_max_right _ _)
  rw [h1] at h2
  exact Option.some.inj h2
/-- It answers a Bool that tells whether Q. -/
def EvB (g : Nat → Option Bool) (Q : Prop) : Prop := ∃ b : Bool, Ev g b ∧ (b = true ↔ Q)
theorem EvB.step {g f : Nat → Option Bool} {Q : Prop} (h : ∀ k, g (k + 1) = f k) (k : EvB f Q) : EvB g Q := by
  obtain ⟨b, hb, hq⟩ := k
  exact ⟨b, Ev.step h hb, hq⟩
theorem EvB.iff {g : Nat → Option Bool} {Q R : Prop} (k : EvB g Q) (h : Q ↔ R) : EvB g R := by
  obtain ⟨b, hb, hq⟩ := k
  exact ⟨b, hb, hq.trans h⟩
theorem EvB.no {g : Nat → Option Bool} {Q : Prop} (h : ∀ k, g (k + 1) = some false) (hq : ¬ Q) : EvB g Q := ⟨false, Ev.step (f := fun _ => some false) h (Ev.now _), Iff.intro (fun h => by cases h) (fun h => absurd h hq)⟩
theorem EvB.yes {g : Nat → Option Bool} {Q : Prop} (h : ∀ k, g (k + 1) = some true) (hq : Q) : EvB g Q := ⟨true, Ev.step (f := fun _ => some true) h (Ev.now _), ⟨fun _ => hq, fun _ => rfl⟩⟩
theorem EvB.ev {g : Nat → Option Bool} {Q : Prop} [Decidable Q] (k : EvB g Q) : Ev g (decide Q) := by
  obtain ⟨b, hb, hq⟩ := k
  have : b = decide Q := by
    by_cases h : Q
    · rw [hq.2 h, decide_eq_true h]
    · rw [decide_eq_false h]
      cases b with
      | false => rfl
      | true => exact absurd (hq.1 rfl) h
  rw [← this]
  exact hb
theorem EvB.get {g : Nat → Option Bool} {Q : Prop} (k : EvB g Q) (h : Q) : Ev g true := by
  obtain ⟨b, hb, hq⟩ := k
  rw [← hq.2 h]
  exact hb
theorem EvB.not {g : Nat → Option Bool} {Q : Prop} (k : EvB g Q) (h : ¬ Q) : Ev g false := by
  obtain ⟨b, hb, hq⟩ := k
  cases b with
  | false => exact hb
  | true => exact absurd (hq.1 rfl) h
theorem wrap_id {x : Int} (h0 : -9223372036854775808 ≤ x) (h1 : x ≤ 9223372036854775807) : wrap64 x = x := by
  unfold wrap64
  omega
theorem succ_wrap {i : Nat} (h : i ≤ 9000000000000000000) : wrap64 ((i : Int) + 1) = ((i + 1 : Nat) : Int) := by
  rw [wrap_id (by omega) (by omega)]
  omega
theorem pred_wrap {i : Nat} (h0 : 0 < i) (h : i ≤ 9000000000000000000) : wrap64 ((i : Int) - 1) = ((i - 1 : Nat) : Int) := by
  rw [wrap_id (by omega) (by omega)]
  omega
theorem pred_zero : wrap64 (((0 : Nat) : Int) - 1) = -1 := by
  unfold wrap64
  omega
theorem rd_nat (l : List Int) (i : Nat) : rd l (i : Int) = l.getD i 0 := rfl
theorem tn_nat (i : Nat) : ((i : Int)).toNat = i := rfl
theorem len_nat {α : Type} (l : List α) {k : Nat} (h : l.length ≤ k) : ¬ ((l.length : Int) > (k : Int)) := by omega

/-- A list is made, element by element. -/
theorem conv_ev {β : Type} (n : Nat) (F : List β → Nat → Nat → Option (List β)) (c : Nat → β) (h1 : ∀ x : List β, x.length = n → Ev (F x n) x)
    (h2 : ∀ (x : List β) (i : Nat), i < n → x.length = n → ∀ r, Ev (F (x.set i (c i)) (i + 1)) r → Ev (F x i) r) : ∀ x0 : List β, x0.length = n → Ev (F x0 0) ((List.range n).map c) := by
  have key : ∀ d i (x : List β), i + d = n → x.length = n → Ev (F x i) (x.take i ++ (List.range d).map fun j => c (i + j)) := by
    intro d
    induction d with
    | zero =>
      intro i x hd hx
      have hi : i = n := by omega
      subst hi
      have : x.take i ++ (List.range 0).map (fun j => c (i + j)) = x := by
        rw [List.take_of_length_le (by omega)]
        simp
      rw [this]
      exact h1 x hx
    | succ d ih =>
      intro i x hd hx
      have hi : i < n := by omega
      have := ih (i + 1) (x.set i (c i)) (by omega) (by rw [List.length_set]; exact hx)
      have e : (x.set i (c i)).take (i + 1) ++ (List.range d).map (fun j => c (i + 1 + j)) = x.take i ++ (List.range (d + 1)).map (fun j => c (i + j)) := by
        rw [List.range_succ_eq_map, List.map_cons, List.map_map]
        have ht : (x.set i (c i)).take (i + 1) = x.take i ++ [c i] := by
          rw [List.take_succ_eq_append_getElem (by rw [List.length_set]; omega)]
          rw [List.take_set_of_le (Nat.le_refl _), List.getElem_set_self]
        rw [ht, List.append_assoc]
        congr 1
        rw [List.singleton_append]
        congr 1
        apply List.map_congr_left
        intro j _
        show c (i + 1 + j) = c (i + (j + 1))
        congr 1
        omega
      rw [e] at this
      exact h2 x i hi hx _ this
  intro x0 hx0
  have := key n 0 x0 (by omega) hx0
  rw [List.take_zero, List.nil_append] at this
  have e : (fun j => c (0 + j)) = c := by
    funext j
    rw [Nat.zero_add]
  rw [e] at this
  exact this

/-- Two rows are held against each other, element by element. -/
theorem all_ev (n : Nat) (F : Nat → Nat → Option Bool) (h1 : Ev (F n) true) (h2 : ∀ i, i < n → Ev (F (i + 1)) true → Ev (F i) true) : Ev (F 0) true := by
  have key : ∀ d i, i + d = n → Ev (F i) true := by
    intro d
    induction d with
    | zero =>
      intro i hd
      have hi : i = n := by omega
      subst hi
      exact h1
    | succ d ih =>
      intro i hd
      exact h2 i (by omega) (ih (i + 1) (by omega))
  exact key n 0 (by omega)

/-- The elements are numbered through; and so they are found. -/
def markL {β : Type} (mk : β → Nat → β) (cnt : β → Nat) : List β → Nat → List β
  | [], _ => []
  | b :: r, m => mk b m :: markL mk cnt r (m + cnt b)
def cntL {β : Type} (cnt : β → Nat) : List β → Nat
  | [] => 0
  | b :: r => cnt b + cntL cnt r
theorem markL_length {β : Type} (mk : β → Nat → β) (cnt : β → Nat) : ∀ (l : List β) (m : Nat), (markL mk cnt l m).length = l.length
  | [], _ => rfl
  | b :: r, m => by
    show (markL mk cnt r _).length + 1 = r.length + 1
    rw [markL_length mk cnt r]
theorem cntL_le {β : Type} (cnt : β → Nat) (c : Nat) : ∀ l : List β, (∀ b ∈ l, cnt b ≤ c) → cntL cnt l ≤ c * l.length
  | [], _ => Nat.zero_le _
  | b :: r, h => by
    have h1 := cntL_le cnt c r (fun x hx => h x (List.mem_cons_of_mem _ hx))
    have h2 := h b List.mem_cons_self
    show cnt b + cntL cnt r ≤ c * (r.length + 1)
    rw [Nat.mul_add, Nat.mul_one]
    omega
theorem mark_ev {β : Type} (z : β) (mk : β → Nat → β) (cnt : β → Nat) (B n : Nat) (F : List β → Nat → Nat → Nat → Option (Int × List β)) (h1 : ∀ (x : List β) (m : Nat), x.length = n → Ev (F x m n) ((m : Int), x))
    (h2 : ∀ (x : List β) (m i : Nat), x.length = n → i < n → m + cnt (x.getD i z) ≤ B → ∀ r, Ev (F (x.set i (mk (x.getD i z) m)) (m + cnt (x.getD i z)) (i + 1)) r → Ev (F x m i) r) :
    ∀ (x : List β) (m : Nat), x.length = n → m + cntL cnt x ≤ B → Ev (F x m 0) (((m + cntL cnt x : Nat) : Int), markL mk cnt x m) := by
  have key : ∀ (rest done : List β) (m : Nat), done.length + rest.length = n → m + cntL cnt rest ≤ B → Ev (F (done ++ rest) m done.length) (((m + cntL cnt rest : Nat) : Int), done ++ markL mk cnt rest m) := by
    intro rest
    induction rest with
    | nil =>
      intro done m hn _
      have hn' : done.length = n := hn
      have := h1 done m hn'
      rw [← hn'] at this
      rw [List.append_nil]
      show Ev _ (((m + 0 : Nat) : Int), done ++ [])
      rw [List.append_nil]
      exact this
    | cons b r ih =>
      intro done m hn hm
      have hn' : done.length + (r.length + 1) = n := hn
      have hm' : m + (cnt b + cntL cnt r) ≤ B := hm
      have hg : (done ++ b :: r).getD done.length z = b := by simp [List.getD]
      have hs : (done ++ b :: r).set done.length (mk b m) = (done ++ [mk b m]) ++ r := by simp [List.set_append]
      have := ih (done ++ [mk b m]) (m + cnt b) (by rw [List.length_append, List.length_singleton]; omega) (by omega)
      refine h2 _ m done.length (by simp; omega) (by omega) (by rw [hg]; omega) _ ?_
      rw [hg, hs]
      rw [List.length_append, List.length_singleton] at this
      have e : m + cnt b + cntL cnt r = m + (cnt b + cntL cnt r) := by omega
      have e2 : done ++ [mk b m] ++ markL mk cnt r (m + cnt b) = done ++ (mk b m :: markL mk cnt r (m + cnt b)) := by rw [List.append_assoc, List.singleton_append]
      rw [e, e2] at this
      exact this
  intro x m hn hm
  exact key x [] m (by simpa using hn) hm
theorem held_ev {β : Type} (z : β) (mk : β → Nat → β) (cnt : β → Nat) (B n : Nat) (H : List β → Nat → Nat → Nat → Option Int) (h1 : ∀ (x : List β) (m : Nat), x.length = n → Ev (H x m n) (m : Int))
    (h2 : ∀ (x : List β) (m i : Nat) (b : β), x.length = n → i < n → x.getD i z = mk b m → m + cnt b ≤ B → ∀ r, Ev (H x (m + cnt b) (i + 1)) r → Ev (H x m i) r) :
    ∀ (x : List β) (m : Nat), x.length = n → m + cntL cnt x ≤ B → Ev (H (markL mk cnt x m) m 0) ((m + cntL cnt x : Nat) : Int) := by
  have key : ∀ (rest done : List β) (m : Nat), done.length + rest.length = n → m + cntL cnt rest ≤ B → Ev (H (done ++ markL mk cnt rest m) m done.length) ((m + cntL cnt rest : Nat) : Int) := by
    intro rest
    induction rest with
    | nil =>
      intro done m hn _
      have hn' : done.length = n := hn
      have := h1 done m hn'
      rw [← hn'] at this
      show Ev (H (done ++ []) m done.length) _
      rw [List.append_nil]
      exact this
    | cons b r ih =>
      intro done m hn hm
      have hn' : done.length + (r.length + 1) = n := hn
      have hm' : m + (cnt b + cntL cnt r) ≤ B := hm
      have := ih (done ++ [mk b m]) (m + cnt b) (by rw [List.length_append, List.length_singleton]; omega) (by omega)
      show Ev (H (done ++ (mk b m :: markL mk cnt r (m + cnt b))) m done.length) _
      refine h2 _ m done.length b (by simp [markL_length]; omega) (by omega) (by simp [List.getD]) (by omega) _ ?_
      rw [List.length_append, List.length_singleton, List.append_assoc, List.singleton_append] at this
      have e : m + cnt b + cntL cnt r = m + (cnt b + cntL cnt r) := by omega
      rw [e] at this
      exact this
  intro x m hn hm
  exact key x [] m (by simpa using hn) hm

theorem map_range_getD {α β : Type} (l : List α) (z : α) (f : α → β) : (List.range l.length).map (fun i => f (l.getD i z)) = l.map f := by
  apply List.ext_getElem
  · simp
  · intro i h1 h2
    simp at h1 h2
    simp [h2]
theorem map_range_self {α : Type} (l : List α) (z : α) : (List.range l.length).map (fun i => l.getD i z) = l := by
  have := map_range_getD l z id
  simpa using this
theorem getD_mem {α : Type} {l : List α} {i : Nat} (h : i < l.length) (z : α) : l.getD i z ∈ l := by
  rw [List.getD_eq_getElem?_getD, List.getElem?_eq_getElem h, Option.getD_some]
  exact List.getElem_mem h

/-! #### []int -/
theorem toIntS_ev (l : List Int) (hl : l.length ≤ 1048576) : Ev (fun k => laws_toIntS.f k l) l := by
  have h := conv_ev l.length (fun x i k => laws_toIntS.l0 k l x (i : Int)) (fun i => l.getD i 0)
    (fun x hx => Ev.step (f := fun _ => some x) (fun k => by
      show laws_toIntS.l0 (k + 1) l x ((l.length : Nat) : Int) = some x
      rw [laws_toIntS.l0, if_neg (by omega)]) (Ev.now _))
    (fun x i hi hx r hr => Ev.step (fun k => by
      show laws_toIntS.l0 (k + 1) l x (i : Int) = laws_toIntS.l0 k l (x.set i (l.getD i 0)) ((i + 1 : Nat) : Int)
      rw [laws_toIntS.l0, if_pos (by omega), if_pos (by omega), if_pos (by omega), succ_wrap (by omega)]
      rfl) hr)
    (List.replicate l.length 0) (by simp)
  rw [map_range_self] at h
  refine Ev.congr (fun k => ?_) h
  unfold laws_toIntS.f
  rw [if_pos (by omega), if_pos (by rw [tn_nat]; omega)]
  rfl
theorem eqIntS_ev (l : List Int) (hl : l.length ≤ 1048576) : Ev (fun k => laws_eqIntS.f k l l) true := by
  have h := all_ev l.length (fun i k => laws_eqIntS.l0 k l l (i : Int))
    (Ev.step (f := fun _ => some true) (fun k => by
      show laws_eqIntS.l0 (k + 1) l l ((l.length : Nat) : Int) = some true
      rw [laws_eqIntS.l0, if_neg (by omega)]) (Ev.now _))
    (fun i hi hr => Ev.step (fun k => by
      show laws_eqIntS.l0 (k + 1) l l (i : Int) = laws_eqIntS.l0 k l l ((i + 1 : Nat) : Int)
      rw [laws_eqIntS.l0, if_pos (by omega), if_pos (by omega), if_pos (by omega), if_pos rfl, succ_wrap (by omega)]) hr)
  refine Ev.congr (fun k => ?_) h
  unfold laws_eqIntS.f
  rw [if_pos rfl]
  rfl

/-! #### []File, Disk -/
def cvF (x : S109) : S70 := ⟨x.f0, x.f1⟩
theorem fl_nat (l : List S70) (i : Nat) : rd_T70 l (i : Int) = l.getD i z70 := rfl
theorem szF_l (l : List S109) (hl : l.length ≤ 1048576) (hs : ∀ x ∈ l, x.f0.size ≤ maxLen) : ∀ d i : Nat, i + d = l.length → ∀ m : Int, 0 ≤ m → m ≤ 1048576 →
    ∃ r : Int, Ev (fun k => laws_szFileS.l0 k l m (i : Int)) r ∧ -1 ≤ r ∧ r ≤ m
  | 0, i, hd => fun m h0 h1 => ⟨m, Ev.step (f := fun _ => some m) (fun k => by rw [laws_szFileS.l0, if_neg (by omega)]) (Ev.now _), by omega, Int.le_refl _⟩
  | d + 1, i, hd => fun m h0 h1 => by
    have hz : (l.getD i z109).f0.size ≤ 9223372036854775807 := hs _ (getD_mem (by omega) _)
    have hw : wrap64 (m - ((l.getD i z109).f0.size : Int)) = m - ((l.getD i z109).f0.size : Int) := wrap_id (by omega) (by omega)
    have hrd : rd_T109 l (i : Int) = l.getD i z109 := rfl
    by_cases hn : m - ((l.getD i z109).f0.size : Int) < 0
    · refine ⟨-1, Ev.step (f := fun _ => some (-1)) (fun k => ?_) (Ev.now _), by omega, by omega⟩
      rw [laws_szFileS.l0, if_pos (by omega), if_pos (by omega), hrd]
      unfold laws_szFile.f
      rw [hw, if_pos hn, Option.bind_some, if_pos (by omega)]
    · obtain ⟨r, h2, h3, h4⟩ := szF_l l hl hs d (i + 1) (by omega) (m - ((l.getD i z109).f0.size : Int)) (by omega) (by omega)
      refine ⟨r, Ev.step (fun k => ?_) h2, h3, by omega⟩
      show laws_szFileS.l0 (k + 1) l m (i : Int) = laws_szFileS.l0 k l (m - ((l.getD i z109).f0.size : Int)) ((i + 1 : Nat) : Int)
      rw [laws_szFileS.l0, if_pos (by omega), if_pos (by omega), hrd]
      unfold laws_szFile.f
      rw [hw, if_neg hn, Option.bind_some, if_neg (by omega), succ_wrap (by omega)]
theorem szD_ev (l : List S109) (hl : l.length ≤ maxLen) (hs : ∀ x ∈ l, x.f0.size ≤ maxLen) :
    ∃ r : Int, Ev (fun k => laws_szDisk.f k l 1048576) r ∧ -1 ≤ r ∧ r ≤ 1048576 ∧ (0 ≤ r → l.length ≤ 1048576) := by
  have hl' : l.length ≤ 9223372036854775807 := hl
  have hw : wrap64 (1048576 - (l.length : Int)) = 1048576 - (l.length : Int) := wrap_id (by omega) (by omega)
  unfold laws_szDisk.f laws_szFileS.f
  rw [hw]
  by_cases hn : 1048576 - (l.length : Int) < 0
  · exact ⟨-1, Ev.bind (Ev.ifp hn (Ev.now _)) (Ev.ifp (by decide) (Ev.now _)), by omega, by omega, fun h => by omega⟩
  · obtain ⟨r, h2, h3, h4⟩ := szF_l l (by omega) hs l.length 0 (by omega) (1048576 - (l.length : Int)) (by omega) (by omega)
    by_cases hr : r < 0
    · exact ⟨-1, Ev.bind (Ev.ifn hn h2) (Ev.ifp hr (Ev.now _)), by omega, by omega, fun h => by omega⟩
    · exact ⟨r, Ev.bind (Ev.ifn hn h2) (Ev.ifn hr (Ev.now _)), h3, by omega, fun _ => by omega⟩
theorem toD_ev (l : List S109) (hl : l.length ≤ 1048576) : Ev (fun k => laws_toDisk.f k l) (l.map cvF) := by
  have h := conv_ev l.length (fun x i k => laws_toFileS.l0 k l x (i : Int)) (fun i => cvF (l.getD i z109))
    (fun x hx => Ev.step (f := fun _ => some x) (fun k => by
      show laws_toFileS.l0 (k + 1) l x ((l.length : Nat) : Int) = some x
      rw [laws_toFileS.l0, if_neg (by omega)]) (Ev.now _))
    (fun x i hi hx r hr => Ev.step (fun k => by
      show laws_toFileS.l0 (k + 1) l x (i : Int) = laws_toFileS.l0 k l (x.set i (cvF (l.getD i z109))) ((i + 1 : Nat) : Int)
      rw [laws_toFileS.l0, if_pos (by omega), if_pos (by omega)]
      unfold laws_toFile.f
      rw [Option.bind_some, if_pos (by omega), succ_wrap (by omega)]
      rfl) hr)
    (List.replicate l.length z70) (by simp)
  rw [map_range_getD] at h
  unfold laws_toDisk.f
  refine Ev.bind (Ev.congr (fun k => ?_) h) (Ev.now _)
  unfold laws_toFileS.f
  rw [if_pos (by omega), if_pos (by rw [tn_nat]; omega)]
  rfl

theorem eqD_ev (l : List S70) (hl : l.length ≤ 1048576) : Ev (fun k => laws_eqDisk.f k l l) true := by
  have h := all_ev l.length (fun i k => laws_eqFileS.l0 k l l (i : Int))
    (Ev.step (f := fun _ => some true) (fun k => by
      show laws_eqFileS.l0 (k + 1) l l ((l.length : Nat) : Int) = some true
      rw [laws_eqFileS.l0, if_neg (by omega)]) (Ev.now _))
    (fun i hi hr => Ev.step (fun k => by
      show laws_eqFileS.l0 (k + 1) l l (i : Int) = laws_eqFileS.l0 k l l ((i + 1 : Nat) : Int)
      rw [laws_eqFileS.l0, if_pos (by omega), if_pos (by omega), if_pos (by omega)]
      unfold laws_eqFile.f
      rw [if_pos rfl, if_pos rfl, Option.bind_some, if_pos rfl, succ_wrap (by omega)]) hr)
  unfold laws_eqDisk.f
  refine Ev.bind (Ev.congr (fun k => ?_) h) (Ev.ifp rfl (Ev.now _))
  unfold laws_eqFileS.f
  rw [if_pos rfl]
  rfl

/-! #### the text of a mark -/
theorem markText_l : ∀ n : Nat, ∀ x : ByteArray, x.size + n ≤ 1000000000000000 → ∃ t, Ev (fun k => laws_markText.l0 k (n : Int) x) t := by
  intro n
  induction n using Nat.strongRecOn with
  | ind n ih =>
    intro x hx
    by_cases h0 : n = 0
    · subst h0
      refine ⟨_, Ev.step (f := fun _ => some ((⟨#[109]⟩ : ByteArray) ++ x)) (fun k => ?_) (Ev.now _)⟩
      rw [laws_markText.l0, if_neg (by omega), if_pos (by omega)]
    · have hs : (strOfNums [(wrap64 (48 + (Int.tmod (n : Int) 10))) % 256] ++ x).size + n / 10 ≤ 1000000000000000 := by
        rw [ByteArray.size_append, strOfNums_size]
        simp only [List.length_cons, List.length_nil]
        omega
      obtain ⟨t, ht⟩ := ih (n / 10) (by omega) _ hs
      refine ⟨t, Ev.step (fun k => ?_) ht⟩
      show laws_markText.l0 (k + 1) (n : Int) x = _
      have e : wrap64 (Int.tdiv (n : Int) 10) = ((n / 10 : Nat) : Int) := by
        have e1 : Int.tdiv (n : Int) 10 = ((n / 10 : Nat) : Int) := rfl
        rw [e1]
        exact wrap_id (by omega) (by omega)
      rw [laws_markText.l0, if_pos (by omega), Option.bind_some, if_pos (by rw [strOfNums_size]; simp only [List.length_cons, List.length_nil]; omega), e]
theorem markText_ex (n : Nat) (h : n ≤ 100000000000000) : ∃ t, Ev (fun k => laws_markText.f k (n : Int)) t := by
  unfold laws_markText.f
  by_cases h0 : (n : Int) ≤ 0
  · exact ⟨_, Ev.ifp h0 (Ev.now _)⟩
  · obtain ⟨t, ht⟩ := markText_l n (⟨#[]⟩ : ByteArray) (by show 0 + n ≤ _; omega)
    exact ⟨t, Ev.ifn h0 ht⟩
open Classical in
noncomputable def mtx (n : Nat) : ByteArray := if h : ∃ t, Ev (fun k => laws_markText.f k (n : Int)) t then Classical.choose h else ByteArray.empty
theorem mtx_ev (n : Nat) (h : n ≤ 100000000000000) : Ev (fun k => laws_markText.f k (n : Int)) (mtx n) := by
  unfold mtx
  rw [dif_pos (markText_ex n h)]
  exact Classical.choose_spec (markText_ex n h)

theorem fl_nat' (l : List S70) (i : Nat) : rd_T70 l (i : Int) = l.getD i z70 := rfl
noncomputable def mkF (_ : S70) (n : Nat) : S70 := ⟨mtx n, ((n + 1 : Nat) : Int)⟩
theorem markD_ev (l : List S70) (hl : l.length ≤ 1048576) (m : Nat) (hm : m ≤ 1000000000000) :
    Ev (fun k => laws_markDisk.f k l (m : Int)) (((m + cntL (fun _ => 2) l : Nat) : Int), markL mkF (fun _ => 2) l m) := by
  have hc := cntL_le (fun _ : S70 => 2) 2 l (fun _ _ => Nat.le_refl _)
  have h := mark_ev z70 mkF (fun _ => 2) 2000000000000 l.length (fun x m i k => laws_markFileS.l0 k x (m : Int) (i : Int))
    (fun x m hx => Ev.step (f := fun _ => some ((m : Int), x)) (fun k => by
      show laws_markFileS.l0 (k + 1) x (m : Int) ((l.length : Nat) : Int) = _
      rw [laws_markFileS.l0, if_neg (by omega)]) (Ev.now _))
    (fun x m i hx hi hb r hr => by
      refine Ev.step (f := fun k => (laws_markText.f k (m : Int)).bind fun t => laws_markFileS.l0 k (x.set i ⟨t, ((m + 1 : Nat) : Int)⟩) ((m + 2 : Nat) : Int) ((i + 1 : Nat) : Int)) (fun k => ?_) (Ev.bind (mtx_ev m (by omega)) hr)
      show laws_markFileS.l0 (k + 1) x (m : Int) (i : Int) = _
      rw [laws_markFileS.l0, if_pos (by omega)]
      congr 1
      funext t
      rw [if_pos (by omega), Option.bind_some, succ_wrap (i := m) (by omega), succ_wrap (i := m + 1) (by omega), succ_wrap (i := i) (by omega), tn_nat, List.set_set]
      have e : (rd_T70 (x.set i (⟨t, (rd_T70 x (i : Int)).f1⟩ : S70)) (i : Int)).f0 = t := by
        show ((x.set i (⟨t, (rd_T70 x (i : Int)).f1⟩ : S70)).getD i z70).f0 = _
        rw [List.getD_eq_getElem?_getD, List.getElem?_set_self (by omega)]
        rfl
      rw [e]) l m rfl (by omega)
  unfold laws_markDisk.f
  exact Ev.bind h (Ev.now _)
theorem heldD_ev (l : List S70) (hl : l.length ≤ 1048576) (m : Nat) (hm : m ≤ 1000000000000) :
    Ev (fun k => laws_heldDisk.f k (markL mkF (fun _ => 2) l m) (m : Int)) ((m + cntL (fun _ => 2) l : Nat) : Int) := by
  have hc := cntL_le (fun _ : S70 => 2) 2 l (fun _ _ => Nat.le_refl _)
  have h := held_ev z70 mkF (fun _ => 2) 2000000000000 l.length (fun x m i k => laws_heldFileS.l0 k x (m : Int) (i : Int))
    (fun x m hx => Ev.step (f := fun _ => some (m : Int)) (fun k => by
      show laws_heldFileS.l0 (k + 1) x (m : Int) ((l.length : Nat) : Int) = _
      rw [laws_heldFileS.l0, if_neg (by omega)]) (Ev.now _))
    (fun x m i b hx hi hg hb r hr => by
      refine Ev.step (f := fun k => (laws_markText.f k (m : Int)).bind fun t => if (mtx m).toList = t.toList then laws_heldFileS.l0 k x ((m + 2 : Nat) : Int) ((i + 1 : Nat) : Int) else some (-1)) (fun k => ?_) (Ev.bind (mtx_ev m (by omega)) (Ev.ifp rfl hr))
      show laws_heldFileS.l0 (k + 1) x (m : Int) (i : Int) = _
      have e : rd_T70 x (i : Int) = mkF b m := hg
      rw [laws_heldFileS.l0, if_pos (by omega), if_pos (by omega)]
      congr 1
      funext t
      rw [e, succ_wrap (i := m) (by omega), if_pos (show (mkF b m).f1 = ((m + 1 : Nat) : Int) from rfl), succ_wrap (i := m + 1) (by omega), succ_wrap (i := i) (by omega)]
      rfl) l m rfl (by omega)
  unfold laws_heldDisk.f
  exact Ev.bind h (Ev.ifn (by omega) (Ev.now _))

theorem markIntS_ev (l : List Int) (hl : l.length ≤ 1048576) (m : Nat) (hm : m ≤ 1000000000000) :
    Ev (fun k => laws_markIntS.f k l (m : Int)) (((m + cntL (fun _ => 1) l : Nat) : Int), markL (fun _ n => (n : Int)) (fun _ => 1) l m) := by
  have hc := cntL_le (fun _ : Int => 1) 1 l (fun _ _ => Nat.le_refl _)
  exact mark_ev (0 : Int) (fun _ n => (n : Int)) (fun _ => 1) 2000000000000 l.length (fun x m i k => laws_markIntS.l0 k x (m : Int) (i : Int))
    (fun x m hx => Ev.step (f := fun _ => some ((m : Int), x)) (fun k => by
      show laws_markIntS.l0 (k + 1) x (m : Int) ((l.length : Nat) : Int) = _
      rw [laws_markIntS.l0, if_neg (by omega)]) (Ev.now _))
    (fun x m i hx hi hb r hr => Ev.step (fun k => by
      show laws_markIntS.l0 (k + 1) x (m : Int) (i : Int) = laws_markIntS.l0 k (x.set i (m : Int)) ((m + 1 : Nat) : Int) ((i + 1 : Nat) : Int)
      rw [laws_markIntS.l0, if_pos (by omega), if_pos (by omega), succ_wrap (by omega), succ_wrap (by omega)]
      rfl) hr) l m rfl (by omega)

/-! #### a number between two -/
theorem sin (a b c : Int) : spec_l1In.f a b c = some (decide (b ≤ a ∧ a ≤ c)) := by
  unfold spec_l1In.f
  by_cases h : a ≥ b
  · rw [if_pos h]
    have e : (b ≤ a ∧ a ≤ c) ↔ a ≤ c := ⟨fun h => h.2, fun h' => ⟨h, h'⟩⟩
    simp only [e]
  · rw [if_neg h, decide_eq_false]
    intro h'
    exact h h'.1

theorem iin (a b c : Int) : impl_in.f a b c = some (decide (b ≤ a ∧ a ≤ c)) := by
  unfold impl_in.f
  by_cases h : a ≥ b
  · rw [if_pos h]
    have e : (b ≤ a ∧ a ≤ c) ↔ a ≤ c := ⟨fun h => h.2, fun h' => ⟨h, h'⟩⟩
    simp only [e]
  · rw [if_neg h, decide_eq_false]
    intro h'
    exact h h'.1

theorem EvB.and {P Q : Prop} [Decidable P] {g : Nat → Option Bool} (h : EvB g Q) : EvB (fun k => if decide P = true then g k else some false) (P ∧ Q) := by
  obtain ⟨b, hb, hq⟩ := h
  by_cases hp : P
  · exact ⟨b, Ev.ifp (by rw [decide_eq_true hp]) hb, ⟨fun h => ⟨hp, hq.1 h⟩, fun h => hq.2 h.2⟩⟩
  · exact ⟨false, Ev.ifn (by rw [decide_eq_false hp]; decide) (Ev.now _), Iff.intro (fun h => by cases h) (fun h => absurd h.1 hp)⟩
theorem EvB.dec {P : Prop} [Decidable P] : EvB (fun _ => some (decide P)) P := ⟨decide P, Ev.now _, decide_eq_true_iff⟩
theorem both {g f : Nat → Option Bool} {Q : Prop} (h : EvB g Q) (k : EvB f Q) : ∃ b : Bool, Ev g b ∧ Ev f b ∧ (b = true ↔ Q) := by
  obtain ⟨b, hb, hq⟩ := h
  obtain ⟨c, hc, hr⟩ := k
  obtain rfl : c = b := Bool.eq_iff_iff.2 (hr.trans hq.symm)
  exact ⟨c, hb, hc, hq⟩

/-! #### good disks -/
theorem fl_nat'' (l : List S70) (i : Nat) : rd_T70 l (i : Int) = l.getD i z70 := rfl
theorem ixD_iff (q : Nat → Bool) : ∀ d i, (0 ≤ isDisk_ix q i d) ↔ ∃ j, i ≤ j ∧ j < i + d ∧ q j = true
  | 0, i => by
    rw [isDisk_ix]
    exact ⟨fun h => by omega, fun ⟨j, h1, h2, _⟩ => by omega⟩
  | d + 1, i => by
    rw [isDisk_ix]
    by_cases h : q i = true
    · rw [if_pos h]
      exact ⟨fun _ => ⟨i, Nat.le_refl _, by omega, h⟩, fun _ => by omega⟩
    · rw [if_neg h, ixD_iff q d (i + 1)]
      refine ⟨fun ⟨j, h1, h2, h3⟩ => ⟨j, by omega, by omega, h3⟩, fun ⟨j, h1, h2, h3⟩ => ⟨j, ?_, by omega, h3⟩⟩
      by_cases e : j = i
      · rw [e] at h3
        exact absurd h3 h
      · omega
def GF (x : S70) : Prop := (x.f0.size : Int) ≤ 400 ∧ 0 ≤ x.f1 ∧ x.f1 ≤ (x.f0.size : Int)
def GD (l : List S70) : Prop := (∀ j, j < l.length → GF (l.getD j z70)) ∧ (1 ≤ (l.length : Int) ∧ (l.length : Int) ≤ 4)
theorem sGD_l (l : List S70) (hl : l.length ≤ 1048576) : ∀ d i : Nat, i + d = l.length →
    EvB (fun k => spec_GoodDisk.l0 k l (l.length : Int) (i : Int) l) ((∀ j, i ≤ j → j < l.length → GF (l.getD j z70)) ∧ (1 ≤ (l.length : Int) ∧ (l.length : Int) ≤ 4))
  | 0, i, hd => by
    refine EvB.step (f := fun _ => some (decide (1 ≤ (l.length : Int) ∧ (l.length : Int) ≤ 4))) (fun k => ?_) ?_
    · rw [spec_GoodDisk.l0, if_neg (by omega)]
      simp only [sin, Option.bind_some]
    · exact EvB.iff EvB.dec ⟨fun h => ⟨fun j h1 h2 => by omega, h⟩, fun h => h.2⟩
  | d + 1, i, hd => by
    by_cases h1 : ((l.getD i z70).f0.size : Int) > 400
    · refine EvB.no (fun k => ?_) (fun h => ?_)
      · rw [spec_GoodDisk.l0, if_pos (by omega), if_pos (by omega), if_pos (by omega), fl_nat'', if_pos h1]
      · have := (h.1 i (Nat.le_refl _) (by omega)).1
        omega
    · by_cases h2 : (l.getD i z70).f1 < 0
      · refine EvB.no (fun k => ?_) (fun h => ?_)
        · rw [spec_GoodDisk.l0, if_pos (by omega), if_pos (by omega), if_pos (by omega), fl_nat'', if_neg h1, if_pos h2]
        · have := (h.1 i (Nat.le_refl _) (by omega)).2.1
          omega
      · by_cases h3 : (l.getD i z70).f1 > ((l.getD i z70).f0.size : Int)
        · refine EvB.no (fun k => ?_) (fun h => ?_)
          · rw [spec_GoodDisk.l0, if_pos (by omega), if_pos (by omega), if_pos (by omega), fl_nat'', if_neg h1, if_neg h2, if_pos h3]
          · have := (h.1 i (Nat.le_refl _) (by omega)).2.2
            omega
        · refine EvB.step (fun k => ?_) (EvB.iff (sGD_l l hl d (i + 1) (by omega)) ?_)
          · show spec_GoodDisk.l0 (k + 1) l (l.length : Int) (i : Int) l = spec_GoodDisk.l0 k l (l.length : Int) ((i + 1 : Nat) : Int) l
            rw [spec_GoodDisk.l0, if_pos (by omega), if_pos (by omega), if_pos (by omega), fl_nat'', if_neg h1, if_neg h2, if_neg h3, succ_wrap (by omega)]
          · refine and_congr_left fun _ => ⟨fun h j h4 h5 => ?_, fun h j h4 h5 => h j (by omega) h5⟩
            by_cases e : j = i
            · rw [e]
              exact ⟨by omega, by omega, by omega⟩
            · exact h j (by omega) h5
theorem sGD_ev (l : List S70) (hl : l.length ≤ 1048576) : EvB (fun k => spec_GoodDisk.f k l) (GD l) := by
  have h := sGD_l l hl l.length 0 (by omega)
  exact h.iff ⟨fun h => ⟨fun j hj => h.1 j (Nat.zero_le _) hj, h.2⟩, fun h => ⟨fun j _ hj => h.1 j hj, h.2⟩⟩
theorem iGD_ev (l : List S70) : EvB (fun _ => impl_isDisk.f l) (GD l) := by
  have hq : ∀ j, impl_isDisk.q l j = true ↔ ¬ GF (l.getD j z70) := fun j => by
    unfold impl_isDisk.q impl_isDisk.q1 GF
    rw [fl_nat'']
    by_cases h1 : ((l.getD j z70).f0.size : Int) > 400
    · rw [if_pos h1]
      exact ⟨fun _ h => by omega, fun _ => rfl⟩
    · rw [if_neg h1, Bool.not_eq_true', decide_eq_false_iff_not]
      exact ⟨fun h h' => h ⟨h'.2.1, h'.2.2⟩, fun h h' => h ⟨by omega, h'.1, h'.2⟩⟩
  unfold impl_isDisk.f
  simp only [iin, Option.bind_some]
  refine EvB.iff (EvB.and ⟨_, Ev.now _, Iff.rfl⟩) ?_
  rw [Bool.not_eq_true', decide_eq_false_iff_not, ixD_iff]
  unfold GD
  constructor
  · rintro ⟨h1, h3⟩
    refine ⟨fun j hj => ?_, h1⟩
    by_cases hz : GF (l.getD j z70)
    · exact hz
    · exact absurd ⟨j, Nat.zero_le _, by omega, (hq j).2 hz⟩ h3
  · rintro ⟨h3, h1⟩
    exact ⟨h1, fun ⟨j, _, h5, h6⟩ => (hq j).1 h6 (h3 j (by omega))⟩

theorem sOwn (l : List S70) (hl : l.length ≤ 1048576) : spec_l3Own.f l = some l := by
  unfold spec_l3Own.f
  rw [Option.bind_some, if_pos (by simp only [List.length_nil]; omega), List.nil_append]

/-! #### a crash: each file keeps what is synced, and so many bytes behind it -/
def crF (x : S70) (n : Int) : S70 := ⟨x.f0.extract 0 (x.f1 + n).toNat, x.f1 + n⟩
theorem set_app {α : Type} {n i : Nat} {z : α} (x y : List α) (hx : x.length = n) (hy : y.length = i) (he : ∀ j, j < i → x.getD j z = y.getD j z) (hi : i < n) (v : α) : ∀ j, j < i + 1 → (x.set i v).getD j z = (y ++ [v]).getD j z := fun j hj => by
  by_cases e : j = i
  · subst e
    have e1 : (x.set j v).getD j z = v := by
      rw [List.getD_eq_getElem?_getD, List.getElem?_set_self (by omega)]
      rfl
    have e2 : (y ++ [v]).getD j z = v := by
      rw [List.getD_eq_getElem?_getD, List.getElem?_append_right (by omega), hy, Nat.sub_self]
      rfl
    rw [e1, e2]
  · have e1 : (x.set i v).getD j z = x.getD j z := by rw [List.getD_eq_getElem?_getD, List.getElem?_set_ne (fun h => e h.symm), ← List.getD_eq_getElem?_getD]
    have e2 : (y ++ [v]).getD j z = y.getD j z := by rw [List.getD_eq_getElem?_getD, List.getElem?_append_left (by omega), ← List.getD_eq_getElem?_getD]
    rw [e1, e2]
    exact he j (by omega)
theorem crash_l (l : List S70) (c : List Int) (hl : l.length ≤ 4) (hc : c.length = l.length) (hg : ∀ j, j < l.length → GF (l.getD j z70)) : ∀ d i : Nat, i + d = l.length → ∀ (x y : List S70), x.length = l.length → y.length = i → (∀ j, j < i → x.getD j z70 = y.getD j z70) →
    ∃ (r : List S70) (o : Bool), r.length ≤ 1048576 ∧ Ev (fun k => spec_CrashDisk.l0 k c l (l.length : Int) (i : Int) x) (r, o) ∧ Ev (fun k => impl_CrashDisk.l0 k c l (l.length : Int) (i : Int) y) (r, o)
  | 0, i, hd => fun x y hx hy he => by
    have e : x = y := by
      refine List.ext_getElem (by omega) (fun j h1 h2 => ?_)
      have := he j (by omega)
      rw [List.getD_eq_getElem?_getD, List.getD_eq_getElem?_getD, List.getElem?_eq_getElem h1, List.getElem?_eq_getElem h2] at this
      exact this
    subst e
    refine ⟨x, true, by omega, Ev.step (f := fun _ => some (x, true)) (fun k => ?_) (Ev.now _), Ev.step (f := fun _ => some (x, true)) (fun k => ?_) (Ev.now _)⟩
    · rw [spec_CrashDisk.l0, if_neg (by omega)]
    · rw [impl_CrashDisk.l0, if_neg (by omega)]
  | d + 1, i, hd => fun x y hx hy he => by
    obtain ⟨g1, g2, g3⟩ := hg i (by omega)
    have w1 : wrap64 (((l.getD i z70).f0.size : Int) - (l.getD i z70).f1) = ((l.getD i z70).f0.size : Int) - (l.getD i z70).f1 := wrap_id (by omega) (by omega)
    by_cases h0 : c.getD i 0 < 0
    · refine ⟨[], false, Nat.zero_le _, Ev.step (f := fun _ => some ([], false)) (fun k => ?_) (Ev.now _), Ev.step (f := fun _ => some ([], false)) (fun k => ?_) (Ev.now _)⟩
      · rw [spec_CrashDisk.l0, if_pos (by omega), if_pos (by omega), if_pos (by omega), if_pos (by omega), rd_nat, if_pos h0]
      · rw [impl_CrashDisk.l0, if_pos (by omega), if_pos (by omega), if_pos (by omega), if_pos (by omega), rd_nat, fl_nat'', w1, iin, Option.bind_some, decide_eq_false (by omega), if_neg (by decide)]
    · by_cases h1 : c.getD i 0 > ((l.getD i z70).f0.size : Int) - (l.getD i z70).f1
      · refine ⟨[], false, Nat.zero_le _, Ev.step (f := fun _ => some ([], false)) (fun k => ?_) (Ev.now _), Ev.step (f := fun _ => some ([], false)) (fun k => ?_) (Ev.now _)⟩
        · rw [spec_CrashDisk.l0, if_pos (by omega), if_pos (by omega), if_pos (by omega), if_pos (by omega), rd_nat, fl_nat'', w1, if_neg h0, if_pos h1]
        · rw [impl_CrashDisk.l0, if_pos (by omega), if_pos (by omega), if_pos (by omega), if_pos (by omega), rd_nat, fl_nat'', w1, iin, Option.bind_some, decide_eq_false (by omega), if_neg (by decide)]
      · have w2 : wrap64 ((l.getD i z70).f1 + c.getD i 0) = (l.getD i z70).f1 + c.getD i 0 := wrap_id (by omega) (by omega)
        obtain ⟨r, o, h2, h3, h4⟩ := crash_l l c hl hc hg d (i + 1) (by omega) (x.set i (crF (l.getD i z70) (c.getD i 0))) (y ++ [crF (l.getD i z70) (c.getD i 0)]) (by rw [List.length_set]; exact hx) (by rw [List.length_append]; simp only [List.length_cons, List.length_nil]; omega) (set_app x y hx hy he (by omega) _)
        refine ⟨r, o, h2, Ev.step (fun k => ?_) h3, Ev.step (fun k => ?_) h4⟩
        · show spec_CrashDisk.l0 (k + 1) c l (l.length : Int) (i : Int) x = spec_CrashDisk.l0 k c l (l.length : Int) ((i + 1 : Nat) : Int) (x.set i (crF (l.getD i z70) (c.getD i 0)))
          rw [spec_CrashDisk.l0, if_pos (by omega), if_pos (by omega), if_pos (by omega), if_pos (by omega), rd_nat, fl_nat'', w1, w2, if_neg h0, if_neg h1, if_pos (by omega), if_pos (by omega), if_pos (by omega), succ_wrap (by omega)]
          rfl
        · show impl_CrashDisk.l0 (k + 1) c l (l.length : Int) (i : Int) y = impl_CrashDisk.l0 k c l (l.length : Int) ((i + 1 : Nat) : Int) (y ++ [crF (l.getD i z70) (c.getD i 0)])
          rw [impl_CrashDisk.l0, if_pos (by omega), if_pos (by omega), if_pos (by omega), if_pos (by omega), rd_nat, fl_nat'', w1, w2, iin, Option.bind_some, decide_eq_true (by omega), if_pos rfl, if_pos (by omega), if_pos (by omega), if_pos (by omega), succ_wrap (by omega)]
          rfl
theorem CrashDisk_ev (l : List S70) (c : List Int) (hl : l.length ≤ 1048576) : ∃ (r : List S70) (o : Bool), r.length ≤ 1048576 ∧ Ev (fun k => spec_CrashDisk.f k l c) (r, o) ∧ Ev (fun k => impl_CrashDisk.f k l c) (r, o) := by
  obtain ⟨b, hs, hi, hq⟩ := both (sGD_ev l hl) (iGD_ev l)
  unfold spec_CrashDisk.f impl_CrashDisk.f
  cases b with
  | false =>
    refine ⟨[], false, Nat.zero_le _, Ev.bind hs (Ev.ifn (by decide) ?_), Ev.bind hi (Ev.ifn (by decide) ?_)⟩
    · exact Ev.step (f := fun _ => some ([], false)) (fun k => by rw [spec_CrashDisk.j0, if_pos rfl]) (Ev.now _)
    · exact Ev.step (f := fun _ => some ([], false)) (fun k => by rw [impl_CrashDisk.j0, if_pos rfl]) (Ev.now _)
  | true =>
    obtain ⟨hg, h4⟩ := hq.1 rfl
    by_cases hc : c.length = l.length
    · have hb : ((c.length : Int) != (l.length : Int)) = false := by rw [hc]; simp
      obtain ⟨r, o, h2, h3, h5⟩ := crash_l l c (by omega) hc hg l.length 0 (by omega) l [] rfl rfl (fun j hj => by omega)
      rw [hb]
      refine ⟨r, o, h2, Ev.bind hs (Ev.ifp rfl ?_), Ev.bind hi (Ev.ifp rfl ?_)⟩
      · refine Ev.step (f := fun k => spec_CrashDisk.l0 k c l (l.length : Int) 0 l) (fun k => ?_) h3
        rw [spec_CrashDisk.j0, if_neg (by decide), sOwn l hl]
        rfl
      · exact Ev.step (f := fun k => impl_CrashDisk.l0 k c l (l.length : Int) 0 []) (fun k => by rw [impl_CrashDisk.j0, if_neg (by decide)]) h5
    · have hb : ((c.length : Int) != (l.length : Int)) = true := by
        rw [bne_iff_ne]
        omega
      rw [hb]
      refine ⟨[], false, Nat.zero_le _, Ev.bind hs (Ev.ifp rfl ?_), Ev.bind hi (Ev.ifp rfl ?_)⟩
      · exact Ev.step (f := fun _ => some ([], false)) (fun k => by rw [spec_CrashDisk.j0, if_pos rfl]) (Ev.now _)
      · exact Ev.step (f := fun _ => some ([], false)) (fun k => by rw [impl_CrashDisk.j0, if_pos rfl]) (Ev.now _)

theorem FnExactCrashDisk : laws_FnExactCrashDisk.Pure := by
  intro x0 l1 hok _
  obtain ⟨hl, hs⟩ := hok
  apply Ev.rounds
  unfold laws_FnExactCrashDisk.f
  by_cases hz : l1.length ≤ 1048576
  · refine Ev.ifn (by omega) ?_
    obtain ⟨r, h1, h2, h3, h4⟩ := szD_ev x0.f0 hl (fun x hx => (hs x hx).1)
    refine Ev.bind h1 ?_
    by_cases hr : r < 0
    · exact Ev.ifp hr (Ev.now _)
    · have hb := h4 (by omega)
      have hb' : (x0.f0.map cvF).length ≤ 1048576 := by rw [List.length_map]; exact hb
      obtain ⟨x, o, hx, hsp, him⟩ := CrashDisk_ev (x0.f0.map cvF) l1 hb'
      have hc1 := cntL_le (fun _ : S70 => 2) 2 (x0.f0.map cvF) (fun _ _ => Nat.le_refl _)
      have m1 : Ev (fun k => laws_markDisk.f k x 1) _ := markD_ev x hx 1 (by omega)
      have m2 : Ev (fun k => laws_heldDisk.f k (markL mkF (fun _ => 2) x 1) 1) _ := heldD_ev x hx 1 (by omega)
      have m3 : Ev (fun k => laws_markDisk.f k (x0.f0.map cvF) 1) _ := markD_ev (x0.f0.map cvF) hb' 1 (by omega)
      have m4 : Ev (fun k => laws_markIntS.f k l1 ((1 + cntL (fun _ => 2) (x0.f0.map cvF) : Nat) : Int)) _ := markIntS_ev l1 hz (1 + cntL (fun _ => 2) (x0.f0.map cvF)) (by omega)
      refine Ev.ifn hr ?_
      repeat first
        | with_reducible exact Ev.now _
        | (with_reducible refine Ev.bind (toD_ev _ hb) ?_; try dsimp only)
        | (with_reducible refine Ev.bind (toIntS_ev _ hz) ?_; try dsimp only)
        | (with_reducible refine Ev.bind (hsp) ?_; try dsimp only)
        | (with_reducible refine Ev.bind (him) ?_; try dsimp only)
        | (with_reducible refine Ev.bind (eqD_ev _ hb') ?_; try dsimp only)
        | (with_reducible refine Ev.bind (eqD_ev _ hx) ?_; try dsimp only)
        | (with_reducible refine Ev.bind (eqIntS_ev _ hz) ?_; try dsimp only)
        | (with_reducible refine Ev.bind (m3) ?_; try dsimp only)
        | (with_reducible refine Ev.bind (m4) ?_; try dsimp only)
        | (with_reducible refine Ev.bind (m1) ?_; try dsimp only)
        | (with_reducible refine Ev.bind (m2) ?_; try dsimp only)
        | (with_reducible refine Ev.ifp ?hc ?_; (case hc => first | rfl | omega | (simp; done)))
        | (with_reducible refine Ev.ifn ?hc ?_; (case hc => first | decide | omega | (simp; done)))
        | (with_reducible refine Ev.succ (g := fun k_ => laws_FnExactCrashDisk.j0 k_ _ _ _ _ _ _ _ _ _) ?_; simp only [laws_FnExactCrashDisk.j0])
        | (with_reducible refine Ev.succ (g := fun k_ => laws_FnExactCrashDisk.j1 k_ _ _ _ _ _ _) ?_; simp only [laws_FnExactCrashDisk.j1])
        | (with_reducible refine Ev.succ (g := fun k_ => laws_FnExactCrashDisk.j2 k_ _ _ _) ?_; simp only [laws_FnExactCrashDisk.j2])
  · exact Ev.ifp (by omega) (Ev.now _)

end Go.Proofs.Ytfflfbibblbbeaa.Pure
