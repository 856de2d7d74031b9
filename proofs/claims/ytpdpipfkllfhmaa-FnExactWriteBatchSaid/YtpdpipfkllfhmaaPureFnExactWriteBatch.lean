/- WriteBatch of the program answers as the reference's, for every disk, number and batch; its answer owns its memory. Conditions: none but the statement's own. -/
import Derived.Test.YtpdpipfkllfhmaaQFnExactWriteBatchx14
namespace Go.Proofs.Ytpdpipfkllfhmaa.Pure
open Go.RowKit Go.Proofs.Ytpdpipfkllfhmaa.QFnExactWriteBatch Go.Proofs.YtpdpipfkllfhmaaW.PrintWords Go.Proofs.YtpdpipfkllfhmaaW.PrintLast Go.Proofs.YtpdpipfkllfhmaaW.PrintMore
set_option linter.unusedVariables false
set_option linter.unusedSimpArgs false
theorem Ev.succ {α : Type} {g : Nat → Option α} {r : α} (k : Ev (fun n => g (n + 1)) r) : Ev g r := Ev.step (fun _ => rfl) k
theorem Ev.ifp {α : Type} {c : Prop} [Decidable c] {f g : Nat → Option α} {r : α} (h : c) (k : Ev f r) : Ev (fun n => if c then f n else g n) r := Ev.congr (fun n => if_pos h) k
theorem Ev.ifn {α : Type} {c : Prop} [Decidable c] {f g : Nat → Option α} {r : α} (h : ¬ c) (k : Ev g r) : Ev (fun n => if c then f n else g n) r := Ev.congr (fun n => if_neg h) k
def EvB (g : Nat → Option Bool) (Q : Prop) : Prop := ∃ b : Bool, Ev g b ∧ (b = true ↔ Q)
theorem EvB.step {g f : Nat → Option Bool} {Q : Prop} (h : ∀ k, g (k + 1) = f k) (k : EvB f Q) : EvB g Q := by
  obtain ⟨b, hb, hq⟩ := k
  exact ⟨b, Ev.step h hb, hq⟩
theorem EvB.iff {g : Nat → Option Bool} {Q R : Prop} (k : EvB g Q) (h : Q ↔ R) : EvB g R := by
  obtain ⟨b, hb, hq⟩ := k
  exact ⟨b, hb, hq.trans h⟩
theorem EvB.no {g : Nat → Option Bool} {Q : Prop} (h : ∀ k, g (k + 1) = some false) (hq : ¬ Q) : EvB g Q := ⟨false, Ev.step (f := fun _ => some false) h (Ev.now _), Iff.intro (fun h => by cases h) (fun h => absurd h hq)⟩
theorem wrap_id {x : Int} (h0 : -9223372036854775808 ≤ x) (h1 : x ≤ 9223372036854775807) : wrap64 x = x := by
  unfold wrap64
  omega
theorem succ_wrap {i : Nat} (h : i ≤ 9000000000000000000) : wrap64 ((i : Int) + 1) = ((i + 1 : Nat) : Int) := by
  rw [wrap_id (by omega) (by omega)]
  omega
theorem pred_wrap {i : Nat} (h0 : 0 < i) (h : i ≤ 9000000000000000000) : wrap64 ((i : Int) - 1) = ((i - 1 : Nat) : Int) := by
  rw [wrap_id (by omega) (by omega)]
  omega
theorem tn_nat (i : Nat) : ((i : Int)).toNat = i := rfl
theorem conv_ev {β : Type} (n : Nat) (F : List β → Nat → Nat → Option (List β)) (c : Nat → β) (h1 : ∀ x : List β, x.length = n → Ev (F x n) x)
    (h2 : ∀ (x : List β) (i : Nat), i < n → x.length = n → ∀ r, Ev (F (x.set i (c i)) (i + 1)) r → Ev (F x i) r) : ∀ x0 : List β, x0.length = n → Ev (F x0 0) ((List.range n).map c) := by
  have key : ∀ d i (x : List β), i + d = n → x.length = n → Ev (F x i) (x.take i ++ (List.range d).map fun j => c (i + j)) := by
    intro d
    induction d with
    | zero =>
      intro i x hd hx
      have hi : i = n := by omega
      subst hi
      have : x.take i ++ (List.range 0).map (fun j => c (i + j)) = x := by
        rw [List.take_of_length_le (by omega)]
        simp
      rw [this]
      exact h1 x hx
    | succ d ih =>
      intro i x hd hx
      have hi : i < n := by omega
      have := ih (i + 1) (x.set i (c i)) (by omega) (by rw [List.length_set]; exact hx)
      have e : (x.set i (c i)).take (i + 1) ++ (List.range d).map (fun j => c (i + 1 + j)) = x.take i ++ (List.range (d + 1)).map (fun j => c (i + j)) := by
        rw [List.range_succ_eq_map, List.map_cons, List.map_map]
        have ht : (x.set i (c i)).take (i + 1) = x.take i ++ [c i] := by
          rw [List.take_succ_eq_append_getElem (by rw [List.length_set]; omega)]
          rw [List.take_set_of_le (Nat.le_refl _), List.getElem_set_self]
        rw [ht, List.append_assoc]
        congr 1
        rw [List.singleton_append]
        congr 1
        apply List.map_congr_left
        intro j _
        show c (i + 1 + j) = c (i + (j + 1))
        congr 1
        omega
      rw [e] at this
      exact h2 x i hi hx _ this
  intro x0 hx0
  have := key n 0 x0 (by omega) hx0
  rw [List.take_zero, List.nil_append] at this
  have e : (fun j => c (0 + j)) = c := by
    funext j
    rw [Nat.zero_add]
  rw [e] at this
  exact this

theorem all_ev (n : Nat) (F : Nat → Nat → Option Bool) (h1 : Ev (F n) true) (h2 : ∀ i, i < n → Ev (F (i + 1)) true → Ev (F i) true) : Ev (F 0) true := by
  have key : ∀ d i, i + d = n → Ev (F i) true := by
    intro d
    induction d with
    | zero =>
      intro i hd
      have hi : i = n := by omega
      subst hi
      exact h1
    | succ d ih =>
      intro i hd
      exact h2 i (by omega) (ih (i + 1) (by omega))
  exact key n 0 (by omega)

def markL {β : Type} (mk : β → Nat → β) (cnt : β → Nat) : List β → Nat → List β
  | [], _ => []
  | b :: r, m => mk b m :: markL mk cnt r (m + cnt b)
def cntL {β : Type} (cnt : β → Nat) : List β → Nat
  | [] => 0
  | b :: r => cnt b + cntL cnt r
theorem markL_length {β : Type} (mk : β → Nat → β) (cnt : β → Nat) : ∀ (l : List β) (m : Nat), (markL mk cnt l m).length = l.length
  | [], _ => rfl
  | b :: r, m => by
    show (markL mk cnt r _).length + 1 = r.length + 1
    rw [markL_length mk cnt r]
theorem cntL_le {β : Type} (cnt : β → Nat) (c : Nat) : ∀ l : List β, (∀ b ∈ l, cnt b ≤ c) → cntL cnt l ≤ c * l.length
  | [], _ => Nat.zero_le _
  | b :: r, h => by
    have h1 := cntL_le cnt c r (fun x hx => h x (List.mem_cons_of_mem _ hx))
    have h2 := h b List.mem_cons_self
    show cnt b + cntL cnt r ≤ c * (r.length + 1)
    rw [Nat.mul_add, Nat.mul_one]
    omega
theorem mark_ev {β : Type} (z : β) (mk : β → Nat → β) (cnt : β → Nat) (B n : Nat) (F : List β → Nat → Nat → Nat → Option (Int × List β)) (h1 : ∀ (x : List β) (m : Nat), x.length = n → Ev (F x m n) ((m : Int), x))
    (h2 : ∀ (x : List β) (m i : Nat), x.length = n → i < n → m + cnt (x.getD i z) ≤ B → ∀ r, Ev (F (x.set i (mk (x.getD i z) m)) (m + cnt (x.getD i z)) (i + 1)) r → Ev (F x m i) r) :
    ∀ (x : List β) (m : Nat), x.length = n → m + cntL cnt x ≤ B → Ev (F x m 0) (((m + cntL cnt x : Nat) : Int), markL mk cnt x m) := by
  have key : ∀ (rest done : List β) (m : Nat), done.length + rest.length = n → m + cntL cnt rest ≤ B → Ev (F (done ++ rest) m done.length) (((m + cntL cnt rest : Nat) : Int), done ++ markL mk cnt rest m) := by
    intro rest
    induction rest with
    | nil =>
      intro done m hn _
      have hn' : done.length = n := hn
      have := h1 done m hn'
      rw [← hn'] at this
      rw [List.append_nil]
      show Ev _ (((m + 0 : Nat) : Int), done ++ [])
      rw [List.append_nil]
      exact this
    | cons b r ih =>
      intro done m hn hm
      have hn' : done.length + (r.length + 1) = n := hn
      have hm' : m + (cnt b + cntL cnt r) ≤ B := hm
      have hg : (done ++ b :: r).getD done.length z = b := by simp [List.getD]
      have hs : (done ++ b :: r).set done.length (mk b m) = (done ++ [mk b m]) ++ r := by simp [List.set_append]
      have := ih (done ++ [mk b m]) (m + cnt b) (by rw [List.length_append, List.length_singleton]; omega) (by omega)
      refine h2 _ m done.length (by simp; omega) (by omega) (by rw [hg]; omega) _ ?_
      rw [hg, hs]
      rw [List.length_append, List.length_singleton] at this
      have e : m + cnt b + cntL cnt r = m + (cnt b + cntL cnt r) := by omega
      have e2 : done ++ [mk b m] ++ markL mk cnt r (m + cnt b) = done ++ (mk b m :: markL mk cnt r (m + cnt b)) := by rw [List.append_assoc, List.singleton_append]
      rw [e, e2] at this
      exact this
  intro x m hn hm
  exact key x [] m (by simpa using hn) hm
theorem held_ev {β : Type} (z : β) (mk : β → Nat → β) (cnt : β → Nat) (B n : Nat) (H : List β → Nat → Nat → Nat → Option Int) (h1 : ∀ (x : List β) (m : Nat), x.length = n → Ev (H x m n) (m : Int))
    (h2 : ∀ (x : List β) (m i : Nat) (b : β), x.length = n → i < n → x.getD i z = mk b m → m + cnt b ≤ B → ∀ r, Ev (H x (m + cnt b) (i + 1)) r → Ev (H x m i) r) :
    ∀ (x : List β) (m : Nat), x.length = n → m + cntL cnt x ≤ B → Ev (H (markL mk cnt x m) m 0) ((m + cntL cnt x : Nat) : Int) := by
  have key : ∀ (rest done : List β) (m : Nat), done.length + rest.length = n → m + cntL cnt rest ≤ B → Ev (H (done ++ markL mk cnt rest m) m done.length) ((m + cntL cnt rest : Nat) : Int) := by
    intro rest
    induction rest with
    | nil =>
      intro done m hn _
      have hn' : done.length = n := hn
      have := h1 done m hn'
      rw [← hn'] at this
      show Ev (H (done ++ []) m done.length) _
      rw [List.append_nil]
      exact this
    | cons b r ih =>
      intro done m hn hm
      have hn' : done.length + (r.length + 1) = n := hn
      have hm' : m + (cnt b + cntL cnt r) ≤ B := hm
      have := ih (done ++ [mk b m]) (m + cnt b) (by rw [List.length_append, List.length_singleton]; omega) (by omega)
      show Ev (H (done ++ (mk b m :: markL mk cnt r (m + cnt b))) m done.length) _
      refine h2 _ m done.length b (by simp [markL_length]; omega) (by omega) (by simp [List.getD]) (by omega) _ ?_
      rw [List.length_append, List.length_singleton, List.append_assoc, List.singleton_append] at this
      have e : m + cnt b + cntL cnt r = m + (cnt b + cntL cnt r) := by omega
      rw [e] at this
      exact this
  intro x m hn hm
  exact key x [] m (by simpa using hn) hm

theorem map_range_getD {α β : Type} (l : List α) (z : α) (f : α → β) : (List.range l.length).map (fun i => f (l.getD i z)) = l.map f := by
  apply List.ext_getElem
  · simp
  · intro i h1 h2
    simp at h1 h2
    simp [h2]
theorem map_range_self {α : Type} (l : List α) (z : α) : (List.range l.length).map (fun i => l.getD i z) = l := by
  have := map_range_getD l z id
  simpa using this
theorem getD_mem {α : Type} {l : List α} {i : Nat} (h : i < l.length) (z : α) : l.getD i z ∈ l := by
  rw [List.getD_eq_getElem?_getD, List.getElem?_eq_getElem h, Option.getD_some]
  exact List.getElem_mem h

def cvF (x : S100) : S56 := ⟨x.f0, x.f1⟩
theorem fl_nat (l : List S56) (i : Nat) : rd_T56 l (i : Int) = l.getD i z56 := rfl
theorem szF_l (l : List S100) (hl : l.length ≤ 1048576) (hs : ∀ x ∈ l, x.f0.size ≤ maxLen) : ∀ d i : Nat, i + d = l.length → ∀ m : Int, 0 ≤ m → m ≤ 1048576 →
    ∃ r : Int, Ev (fun k => laws_szFileS.l0 k l m (i : Int)) r ∧ -1 ≤ r ∧ r ≤ m
  | 0, i, hd => fun m h0 h1 => ⟨m, Ev.step (f := fun _ => some m) (fun k => by rw [laws_szFileS.l0, if_neg (by omega)]) (Ev.now _), by omega, Int.le_refl _⟩
  | d + 1, i, hd => fun m h0 h1 => by
    have hz : (l.getD i z100).f0.size ≤ 9223372036854775807 := hs _ (getD_mem (by omega) _)
    have hw : wrap64 (m - ((l.getD i z100).f0.size : Int)) = m - ((l.getD i z100).f0.size : Int) := wrap_id (by omega) (by omega)
    have hrd : rd_T100 l (i : Int) = l.getD i z100 := rfl
    by_cases hn : m - ((l.getD i z100).f0.size : Int) < 0
    · refine ⟨-1, Ev.step (f := fun _ => some (-1)) (fun k => ?_) (Ev.now _), by omega, by omega⟩
      rw [laws_szFileS.l0, if_pos (by omega), if_pos (by omega), hrd]
      unfold laws_szFile.f
      rw [hw, if_pos hn, Option.bind_some, if_pos (by omega)]
    · obtain ⟨r, h2, h3, h4⟩ := szF_l l hl hs d (i + 1) (by omega) (m - ((l.getD i z100).f0.size : Int)) (by omega) (by omega)
      refine ⟨r, Ev.step (fun k => ?_) h2, h3, by omega⟩
      show laws_szFileS.l0 (k + 1) l m (i : Int) = laws_szFileS.l0 k l (m - ((l.getD i z100).f0.size : Int)) ((i + 1 : Nat) : Int)
      rw [laws_szFileS.l0, if_pos (by omega), if_pos (by omega), hrd]
      unfold laws_szFile.f
      rw [hw, if_neg hn, Option.bind_some, if_neg (by omega), succ_wrap (by omega)]
theorem szD_ev (l : List S100) (hl : l.length ≤ maxLen) (hs : ∀ x ∈ l, x.f0.size ≤ maxLen) :
    ∃ r : Int, Ev (fun k => laws_szDisk.f k l 1048576) r ∧ -1 ≤ r ∧ r ≤ 1048576 ∧ (0 ≤ r → l.length ≤ 1048576) := by
  have hl' : l.length ≤ 9223372036854775807 := hl
  have hw : wrap64 (1048576 - (l.length : Int)) = 1048576 - (l.length : Int) := wrap_id (by omega) (by omega)
  unfold laws_szDisk.f laws_szFileS.f
  rw [hw]
  by_cases hn : 1048576 - (l.length : Int) < 0
  · exact ⟨-1, Ev.bind (Ev.ifp hn (Ev.now _)) (Ev.ifp (by decide) (Ev.now _)), by omega, by omega, fun h => by omega⟩
  · obtain ⟨r, h2, h3, h4⟩ := szF_l l (by omega) hs l.length 0 (by omega) (1048576 - (l.length : Int)) (by omega) (by omega)
    by_cases hr : r < 0
    · exact ⟨-1, Ev.bind (Ev.ifn hn h2) (Ev.ifp hr (Ev.now _)), by omega, by omega, fun h => by omega⟩
    · exact ⟨r, Ev.bind (Ev.ifn hn h2) (Ev.ifn hr (Ev.now _)), h3, by omega, fun _ => by omega⟩
theorem toD_ev (l : List S100) (hl : l.length ≤ 1048576) : Ev (fun k => laws_toDisk.f k l) (l.map cvF) := by
  have h := conv_ev l.length (fun x i k => laws_toFileS.l0 k l x (i : Int)) (fun i => cvF (l.getD i z100))
    (fun x hx => Ev.step (f := fun _ => some x) (fun k => by
      show laws_toFileS.l0 (k + 1) l x ((l.length : Nat) : Int) = some x
      rw [laws_toFileS.l0, if_neg (by omega)]) (Ev.now _))
    (fun x i hi hx r hr => Ev.step (fun k => by
      show laws_toFileS.l0 (k + 1) l x (i : Int) = laws_toFileS.l0 k l (x.set i (cvF (l.getD i z100))) ((i + 1 : Nat) : Int)
      rw [laws_toFileS.l0, if_pos (by omega), if_pos (by omega)]
      unfold laws_toFile.f
      rw [Option.bind_some, if_pos (by omega), succ_wrap (by omega)]
      rfl) hr)
    (List.replicate l.length z56) (by simp)
  rw [map_range_getD] at h
  unfold laws_toDisk.f
  refine Ev.bind (Ev.congr (fun k => ?_) h) (Ev.now _)
  unfold laws_toFileS.f
  rw [if_pos (by omega), if_pos (by rw [tn_nat]; omega)]
  rfl

theorem eqD_ev (l : List S56) (hl : l.length ≤ 1048576) : Ev (fun k => laws_eqDisk.f k l l) true := by
  have h := all_ev l.length (fun i k => laws_eqFileS.l0 k l l (i : Int))
    (Ev.step (f := fun _ => some true) (fun k => by
      show laws_eqFileS.l0 (k + 1) l l ((l.length : Nat) : Int) = some true
      rw [laws_eqFileS.l0, if_neg (by omega)]) (Ev.now _))
    (fun i hi hr => Ev.step (fun k => by
      show laws_eqFileS.l0 (k + 1) l l (i : Int) = laws_eqFileS.l0 k l l ((i + 1 : Nat) : Int)
      rw [laws_eqFileS.l0, if_pos (by omega), if_pos (by omega), if_pos (by omega)]
      unfold laws_eqFile.f
      rw [if_pos rfl, if_pos rfl, Option.bind_some, if_pos rfl, succ_wrap (by omega)]) hr)
  unfold laws_eqDisk.f
  refine Ev.bind (Ev.congr (fun k => ?_) h) (Ev.ifp rfl (Ev.now _))
  unfold laws_eqFileS.f
  rw [if_pos rfl]
  rfl

theorem markText_l : ∀ n : Nat, ∀ x : ByteArray, x.size + n ≤ 1000000000000000 → ∃ t, Ev (fun k => laws_markText.l0 k (n : Int) x) t := by
  intro n
  induction n using Nat.strongRecOn with
  | ind n ih =>
    intro x hx
    by_cases h0 : n = 0
    · subst h0
      refine ⟨_, Ev.step (f := fun _ => some ((⟨#[109]⟩ : ByteArray) ++ x)) (fun k => ?_) (Ev.now _)⟩
      rw [laws_markText.l0, if_neg (by omega), if_pos (by omega)]
    · have hs : (strOfNums [(wrap64 (48 + (Int.tmod (n : Int) 10))) % 256] ++ x).size + n / 10 ≤ 1000000000000000 := by
        rw [ByteArray.size_append, strOfNums_size]
        simp only [List.length_cons, List.length_nil]
        omega
      obtain ⟨t, ht⟩ := ih (n / 10) (by omega) _ hs
      refine ⟨t, Ev.step (fun k => ?_) ht⟩
      show laws_markText.l0 (k + 1) (n : Int) x = _
      have e : wrap64 (Int.tdiv (n : Int) 10) = ((n / 10 : Nat) : Int) := by
        have e1 : Int.tdiv (n : Int) 10 = ((n / 10 : Nat) : Int) := rfl
        rw [e1]
        exact wrap_id (by omega) (by omega)
      rw [laws_markText.l0, if_pos (by omega), Option.bind_some, if_pos (by rw [strOfNums_size]; simp only [List.length_cons, List.length_nil]; omega), e]
theorem markText_ex (n : Nat) (h : n ≤ 100000000000000) : ∃ t, Ev (fun k => laws_markText.f k (n : Int)) t := by
  unfold laws_markText.f
  by_cases h0 : (n : Int) ≤ 0
  · exact ⟨_, Ev.ifp h0 (Ev.now _)⟩
  · obtain ⟨t, ht⟩ := markText_l n (⟨#[]⟩ : ByteArray) (by show 0 + n ≤ _; omega)
    exact ⟨t, Ev.ifn h0 ht⟩
open Classical in
noncomputable def mtx (n : Nat) : ByteArray := if h : ∃ t, Ev (fun k => laws_markText.f k (n : Int)) t then Classical.choose h else ByteArray.empty
theorem mtx_ev (n : Nat) (h : n ≤ 100000000000000) : Ev (fun k => laws_markText.f k (n : Int)) (mtx n) := by
  unfold mtx
  rw [dif_pos (markText_ex n h)]
  exact Classical.choose_spec (markText_ex n h)

noncomputable def mkF (_ : S56) (n : Nat) : S56 := ⟨mtx n, ((n + 1 : Nat) : Int)⟩
theorem markD_ev (l : List S56) (hl : l.length ≤ 1048576) (m : Nat) (hm : m ≤ 1000000000000) :
    Ev (fun k => laws_markDisk.f k l (m : Int)) (((m + cntL (fun _ => 2) l : Nat) : Int), markL mkF (fun _ => 2) l m) := by
  have hc := cntL_le (fun _ : S56 => 2) 2 l (fun _ _ => Nat.le_refl _)
  have h := mark_ev z56 mkF (fun _ => 2) 2000000000000 l.length (fun x m i k => laws_markFileS.l0 k x (m : Int) (i : Int))
    (fun x m hx => Ev.step (f := fun _ => some ((m : Int), x)) (fun k => by
      show laws_markFileS.l0 (k + 1) x (m : Int) ((l.length : Nat) : Int) = _
      rw [laws_markFileS.l0, if_neg (by omega)]) (Ev.now _))
    (fun x m i hx hi hb r hr => by
      refine Ev.step (f := fun k => (laws_markText.f k (m : Int)).bind fun t => laws_markFileS.l0 k (x.set i ⟨t, ((m + 1 : Nat) : Int)⟩) ((m + 2 : Nat) : Int) ((i + 1 : Nat) : Int)) (fun k => ?_) (Ev.bind (mtx_ev m (by omega)) hr)
      show laws_markFileS.l0 (k + 1) x (m : Int) (i : Int) = _
      rw [laws_markFileS.l0, if_pos (by omega)]
      congr 1
      funext t
      rw [if_pos (by omega), Option.bind_some, succ_wrap (i := m) (by omega), succ_wrap (i := m + 1) (by omega), succ_wrap (i := i) (by omega), tn_nat, List.set_set]
      have e : (rd_T56 (x.set i (⟨t, (rd_T56 x (i : Int)).f1⟩ : S56)) (i : Int)).f0 = t := by
        show ((x.set i (⟨t, (rd_T56 x (i : Int)).f1⟩ : S56)).getD i z56).f0 = _
        rw [List.getD_eq_getElem?_getD, List.getElem?_set_self (by omega)]
        rfl
      rw [e]) l m rfl (by omega)
  unfold laws_markDisk.f
  exact Ev.bind h (Ev.now _)

theorem heldD_ev (l : List S56) (hl : l.length ≤ 1048576) (m : Nat) (hm : m ≤ 1000000000000) :
    Ev (fun k => laws_heldDisk.f k (markL mkF (fun _ => 2) l m) (m : Int)) ((m + cntL (fun _ => 2) l : Nat) : Int) := by
  have hc := cntL_le (fun _ : S56 => 2) 2 l (fun _ _ => Nat.le_refl _)
  have h := held_ev z56 mkF (fun _ => 2) 2000000000000 l.length (fun x m i k => laws_heldFileS.l0 k x (m : Int) (i : Int))
    (fun x m hx => Ev.step (f := fun _ => some (m : Int)) (fun k => by
      show laws_heldFileS.l0 (k + 1) x (m : Int) ((l.length : Nat) : Int) = _
      rw [laws_heldFileS.l0, if_neg (by omega)]) (Ev.now _))
    (fun x m i b hx hi hg hb r hr => by
      refine Ev.step (f := fun k => (laws_markText.f k (m : Int)).bind fun t => if (mtx m).toList = t.toList then laws_heldFileS.l0 k x ((m + 2 : Nat) : Int) ((i + 1 : Nat) : Int) else some (-1)) (fun k => ?_) (Ev.bind (mtx_ev m (by omega)) (Ev.ifp rfl hr))
      show laws_heldFileS.l0 (k + 1) x (m : Int) (i : Int) = _
      have e : rd_T56 x (i : Int) = mkF b m := hg
      rw [laws_heldFileS.l0, if_pos (by omega), if_pos (by omega)]
      congr 1
      funext t
      rw [e, succ_wrap (i := m) (by omega), if_pos (show (mkF b m).f1 = ((m + 1 : Nat) : Int) from rfl), succ_wrap (i := m + 1) (by omega), succ_wrap (i := i) (by omega)]
      rfl) l m rfl (by omega)
  unfold laws_heldDisk.f
  exact Ev.bind h (Ev.ifn (by omega) (Ev.now _))

theorem st_nat (l : List ByteArray) (i : Nat) : rdOf ByteArray.empty l (i : Int) = l.getD i ByteArray.empty := rfl

theorem eqSS_ev (l : List ByteArray) (hl : l.length ≤ 1048576) : Ev (fun k => laws_eqStringS.f k l l) true := by
  have h := all_ev l.length (fun i k => laws_eqStringS.l0 k l l (i : Int))
    (Ev.step (f := fun _ => some true) (fun k => by
      show laws_eqStringS.l0 (k + 1) l l ((l.length : Nat) : Int) = some true
      rw [laws_eqStringS.l0, if_neg (by omega)]) (Ev.now _))
    (fun i hi hr => Ev.step (fun k => by
      show laws_eqStringS.l0 (k + 1) l l (i : Int) = laws_eqStringS.l0 k l l ((i + 1 : Nat) : Int)
      rw [laws_eqStringS.l0, if_pos (by omega), if_pos (by omega), if_pos (by omega), if_pos rfl, succ_wrap (by omega)]) hr)
  refine Ev.congr (fun k => ?_) h
  unfold laws_eqStringS.f
  rw [if_pos rfl]
  rfl

theorem szSS_l (l : List ByteArray) (hl : l.length ≤ 1048576) (hs : ∀ x ∈ l, x.size ≤ maxLen) : ∀ d i : Nat, i + d = l.length → ∀ m : Int, 0 ≤ m → m ≤ 1048576 →
    ∃ r : Int, Ev (fun k => laws_szStringS.l0 k l m (i : Int)) r ∧ -1 ≤ r ∧ r ≤ m ∧ (0 ≤ r → ∀ j, i ≤ j → j < l.length → ((l.getD j ByteArray.empty).size : Int) ≤ m)
  | 0, i, hd => fun m h0 h1 => ⟨m, Ev.step (f := fun _ => some m) (fun k => by rw [laws_szStringS.l0, if_neg (by omega)]) (Ev.now _), by omega, Int.le_refl _, fun _ j h2 h3 => by omega⟩
  | d + 1, i, hd => fun m h0 h1 => by
    have hz : (l.getD i ByteArray.empty).size ≤ 9223372036854775807 := hs _ (getD_mem (by omega) _)
    have hw : wrap64 (m - ((l.getD i ByteArray.empty).size : Int)) = m - ((l.getD i ByteArray.empty).size : Int) := wrap_id (by omega) (by omega)
    by_cases hn : m - ((l.getD i ByteArray.empty).size : Int) < 0
    · refine ⟨-1, Ev.step (f := fun _ => some (-1)) (fun k => ?_) (Ev.now _), by omega, by omega, fun h => by omega⟩
      rw [laws_szStringS.l0, if_pos (by omega), if_pos (by omega), st_nat, hw, if_pos hn]
    · obtain ⟨r, h2, h3, h4, h5⟩ := szSS_l l hl hs d (i + 1) (by omega) (m - ((l.getD i ByteArray.empty).size : Int)) (by omega) (by omega)
      refine ⟨r, Ev.step (fun k => ?_) h2, h3, by omega, fun h j h6 h7 => ?_⟩
      · show laws_szStringS.l0 (k + 1) l m (i : Int) = laws_szStringS.l0 k l (m - ((l.getD i ByteArray.empty).size : Int)) ((i + 1 : Nat) : Int)
        rw [laws_szStringS.l0, if_pos (by omega), if_pos (by omega), st_nat, hw, if_neg hn, succ_wrap (by omega)]
      · by_cases e : j = i
        · rw [e]
          omega
        · have := h5 h j (by omega) h7
          omega
theorem szSS_ev (l : List ByteArray) (hl : l.length ≤ maxLen) (hs : ∀ x ∈ l, x.size ≤ maxLen) (m : Int) (h0 : 0 ≤ m) (h1 : m ≤ 1048576) :
    ∃ r : Int, Ev (fun k => laws_szStringS.f k l m) r ∧ -1 ≤ r ∧ r ≤ m ∧ (0 ≤ r → l.length ≤ 1048576 ∧ ∀ j, j < l.length → (l.getD j ByteArray.empty).size ≤ 1048576) := by
  have hl' : l.length ≤ 9223372036854775807 := hl
  have hw : wrap64 (m - (l.length : Int)) = m - (l.length : Int) := wrap_id (by omega) (by omega)
  unfold laws_szStringS.f
  rw [hw]
  by_cases hn : m - (l.length : Int) < 0
  · exact ⟨-1, Ev.ifp hn (Ev.now _), by omega, by omega, fun h => by omega⟩
  · obtain ⟨r, h2, h3, h4, h5⟩ := szSS_l l (by omega) hs l.length 0 (by omega) (m - (l.length : Int)) (by omega) (by omega)
    refine ⟨r, Ev.ifn hn h2, h3, by omega, fun h => ⟨by omega, fun j hj => ?_⟩⟩
    have := h5 h j (Nat.zero_le _) hj
    omega
theorem toSS_ev (l : List ByteArray) (hl : l.length ≤ 1048576) : Ev (fun k => laws_toStringS.f k l) l := by
  have h := conv_ev l.length (fun x i k => laws_toStringS.l0 k l x (i : Int)) (fun i => l.getD i ByteArray.empty)
    (fun x hx => Ev.step (f := fun _ => some x) (fun k => by
      show laws_toStringS.l0 (k + 1) l x ((l.length : Nat) : Int) = some x
      rw [laws_toStringS.l0, if_neg (by omega)]) (Ev.now _))
    (fun x i hi hx r hr => Ev.step (fun k => by
      show laws_toStringS.l0 (k + 1) l x (i : Int) = laws_toStringS.l0 k l (x.set i (l.getD i ByteArray.empty)) ((i + 1 : Nat) : Int)
      rw [laws_toStringS.l0, if_pos (by omega), if_pos (by omega), if_pos (by omega), succ_wrap (by omega)]
      rfl) hr)
    (List.replicate l.length (⟨#[]⟩ : ByteArray)) (by simp)
  rw [map_range_self] at h
  refine Ev.congr (fun k => ?_) h
  unfold laws_toStringS.f
  rw [if_pos (by omega), if_pos (by rw [tn_nat]; omega)]
  rfl

theorem eqB_ev (o e p s : Int) (l : List ByteArray) (hl : l.length ≤ 1048576) : Ev (fun k => laws_eqBatch.f k o e p s l o e p s l) true := by
  unfold laws_eqBatch.f
  exact Ev.ifp rfl (Ev.ifp rfl (Ev.ifp rfl (Ev.ifp rfl (Ev.bind (eqSS_ev l hl) (Ev.ifp rfl (Ev.now _))))))

theorem szB_ev (o e p s : Int) (l : List ByteArray) (hl : l.length ≤ maxLen) (hs : ∀ x ∈ l, x.size ≤ maxLen) (m : Int) (h0 : 0 ≤ m) (h1 : m ≤ 1048576) :
    ∃ r : Int, Ev (fun k => laws_szBatch.f k o e p s l m) r ∧ -1 ≤ r ∧ r ≤ m ∧ (0 ≤ r → l.length ≤ 1048576 ∧ ∀ j, j < l.length → (l.getD j ByteArray.empty).size ≤ 1048576) := by
  obtain ⟨r, h2, h3, h4, h5⟩ := szSS_ev l hl hs m h0 h1
  unfold laws_szBatch.f
  by_cases hr : r < 0
  · exact ⟨-1, Ev.bind h2 (Ev.ifp hr (Ev.now _)), by omega, by omega, fun h => by omega⟩
  · exact ⟨r, Ev.bind h2 (Ev.ifn hr (Ev.now _)), h3, h4, h5⟩
theorem toB_ev (o e p s : Int) (l : List ByteArray) (hl : l.length ≤ 1048576) : Ev (fun k => laws_toBatch.f k o e p s l) (o, e, p, s, l) := by
  unfold laws_toBatch.f
  exact Ev.bind (toSS_ev l hl) (Ev.now _)

theorem markSS_ev (l : List ByteArray) (hl : l.length ≤ 1048576) (m : Nat) (hm : m ≤ 1000000000000) :
    Ev (fun k => laws_markStringS.f k l (m : Int)) (((m + cntL (fun _ => 1) l : Nat) : Int), markL (fun _ n => mtx n) (fun _ => 1) l m) := by
  have hc := cntL_le (fun _ : ByteArray => 1) 1 l (fun _ _ => Nat.le_refl _)
  exact mark_ev ByteArray.empty (fun _ n => mtx n) (fun _ => 1) 2000000000000 l.length (fun x m i k => laws_markStringS.l0 k x (m : Int) (i : Int))
    (fun x m hx => Ev.step (f := fun _ => some ((m : Int), x)) (fun k => by
      show laws_markStringS.l0 (k + 1) x (m : Int) ((l.length : Nat) : Int) = _
      rw [laws_markStringS.l0, if_neg (by omega)]) (Ev.now _))
    (fun x m i hx hi hb r hr => by
      refine Ev.step (f := fun k => (laws_markText.f k (m : Int)).bind fun t => laws_markStringS.l0 k (x.set i t) ((m + 1 : Nat) : Int) ((i + 1 : Nat) : Int)) (fun k => ?_) (Ev.bind (mtx_ev m (by omega)) hr)
      show laws_markStringS.l0 (k + 1) x (m : Int) (i : Int) = _
      rw [laws_markStringS.l0, if_pos (by omega)]
      refine congrArg _ (funext fun t => ?_)
      rw [if_pos (by omega), succ_wrap (i := m) (by omega), succ_wrap (i := i) (by omega), tn_nat]) l m rfl (by omega)
theorem markB_ev (o e p s : Int) (l : List ByteArray) (hl : l.length ≤ 1048576) (m : Nat) (hm : m ≤ 1000000000000) :
    Ev (fun k => laws_markBatch.f k o e p s l (m : Int)) (((m + cntL (fun _ => 1) l : Nat) : Int), markL (fun _ n => mtx n) (fun _ => 1) l m) := by
  unfold laws_markBatch.f
  exact Ev.bind (markSS_ev l hl m hm) (Ev.now _)
theorem iin (a b c : Int) : impl_in.f a b c = some (decide (b ≤ a ∧ a ≤ c)) := by
  unfold impl_in.f
  by_cases h : a ≥ b
  · rw [if_pos h]
    have e : (b ≤ a ∧ a ≤ c) ↔ a ≤ c := ⟨fun h => h.2, fun h' => ⟨h, h'⟩⟩
    simp only [e]
  · rw [if_neg h, decide_eq_false]
    intro h'
    exact h h'.1

theorem sin (a b c : Int) : spec_l1In.f a b c = some (decide (b ≤ a ∧ a ≤ c)) := by
  unfold spec_l1In.f
  by_cases h : a ≥ b
  · rw [if_pos h]
    have e : (b ≤ a ∧ a ≤ c) ↔ a ≤ c := ⟨fun h => h.2, fun h' => ⟨h, h'⟩⟩
    simp only [e]
  · rw [if_neg h, decide_eq_false]
    intro h'
    exact h h'.1

theorem EvB.and {P Q : Prop} [Decidable P] {g : Nat → Option Bool} (h : EvB g Q) : EvB (fun k => if decide P = true then g k else some false) (P ∧ Q) := by
  obtain ⟨b, hb, hq⟩ := h
  by_cases hp : P
  · exact ⟨b, Ev.ifp (by rw [decide_eq_true hp]) hb, ⟨fun h => ⟨hp, hq.1 h⟩, fun h => hq.2 h.2⟩⟩
  · exact ⟨false, Ev.ifn (by rw [decide_eq_false hp]; decide) (Ev.now _), Iff.intro (fun h => by cases h) (fun h => absurd h.1 hp)⟩
theorem EvB.dec {P : Prop} [Decidable P] : EvB (fun _ => some (decide P)) P := ⟨decide P, Ev.now _, decide_eq_true_iff⟩
theorem both {g f : Nat → Option Bool} {Q : Prop} (h : EvB g Q) (k : EvB f Q) : ∃ b : Bool, Ev g b ∧ Ev f b ∧ (b = true ↔ Q) := by
  obtain ⟨b, hb, hq⟩ := h
  obtain ⟨c, hc, hr⟩ := k
  obtain rfl : c = b := Bool.eq_iff_iff.2 (hr.trans hq.symm)
  exact ⟨c, hb, hc, hq⟩

theorem fl_nat'' (l : List S56) (i : Nat) : rd_T56 l (i : Int) = l.getD i z56 := rfl
theorem ixD_iff (q : Nat → Bool) : ∀ d i, (0 ≤ isDisk_ix q i d) ↔ ∃ j, i ≤ j ∧ j < i + d ∧ q j = true
  | 0, i => by
    rw [isDisk_ix]
    exact ⟨fun h => by omega, fun ⟨j, h1, h2, _⟩ => by omega⟩
  | d + 1, i => by
    rw [isDisk_ix]
    by_cases h : q i = true
    · rw [if_pos h]
      exact ⟨fun _ => ⟨i, Nat.le_refl _, by omega, h⟩, fun _ => by omega⟩
    · rw [if_neg h, ixD_iff q d (i + 1)]
      refine ⟨fun ⟨j, h1, h2, h3⟩ => ⟨j, by omega, by omega, h3⟩, fun ⟨j, h1, h2, h3⟩ => ⟨j, ?_, by omega, h3⟩⟩
      by_cases e : j = i
      · rw [e] at h3
        exact absurd h3 h
      · omega
def GF (x : S56) : Prop := (x.f0.size : Int) ≤ 400 ∧ 0 ≤ x.f1 ∧ x.f1 ≤ (x.f0.size : Int)
def GD (l : List S56) : Prop := (∀ j, j < l.length → GF (l.getD j z56)) ∧ (1 ≤ (l.length : Int) ∧ (l.length : Int) ≤ 4)
theorem sGD_l (l : List S56) (hl : l.length ≤ 1048576) : ∀ d i : Nat, i + d = l.length →
    EvB (fun k => spec_GoodDisk.l0 k l (l.length : Int) (i : Int) l) ((∀ j, i ≤ j → j < l.length → GF (l.getD j z56)) ∧ (1 ≤ (l.length : Int) ∧ (l.length : Int) ≤ 4))
  | 0, i, hd => by
    refine EvB.step (f := fun _ => some (decide (1 ≤ (l.length : Int) ∧ (l.length : Int) ≤ 4))) (fun k => ?_) ?_
    · rw [spec_GoodDisk.l0, if_neg (by omega)]
      simp only [sin, Option.bind_some]
    · exact EvB.iff EvB.dec ⟨fun h => ⟨fun j h1 h2 => by omega, h⟩, fun h => h.2⟩
  | d + 1, i, hd => by
    by_cases h1 : ((l.getD i z56).f0.size : Int) > 400
    · refine EvB.no (fun k => ?_) (fun h => ?_)
      · rw [spec_GoodDisk.l0, if_pos (by omega), if_pos (by omega), if_pos (by omega), fl_nat'', if_pos h1]
      · have := (h.1 i (Nat.le_refl _) (by omega)).1
        omega
    · by_cases h2 : (l.getD i z56).f1 < 0
      · refine EvB.no (fun k => ?_) (fun h => ?_)
        · rw [spec_GoodDisk.l0, if_pos (by omega), if_pos (by omega), if_pos (by omega), fl_nat'', if_neg h1, if_pos h2]
        · have := (h.1 i (Nat.le_refl _) (by omega)).2.1
          omega
      · by_cases h3 : (l.getD i z56).f1 > ((l.getD i z56).f0.size : Int)
        · refine EvB.no (fun k => ?_) (fun h => ?_)
          · rw [spec_GoodDisk.l0, if_pos (by omega), if_pos (by omega), if_pos (by omega), fl_nat'', if_neg h1, if_neg h2, if_pos h3]
          · have := (h.1 i (Nat.le_refl _) (by omega)).2.2
            omega
        · refine EvB.step (fun k => ?_) (EvB.iff (sGD_l l hl d (i + 1) (by omega)) ?_)
          · show spec_GoodDisk.l0 (k + 1) l (l.length : Int) (i : Int) l = spec_GoodDisk.l0 k l (l.length : Int) ((i + 1 : Nat) : Int) l
            rw [spec_GoodDisk.l0, if_pos (by omega), if_pos (by omega), if_pos (by omega), fl_nat'', if_neg h1, if_neg h2, if_neg h3, succ_wrap (by omega)]
          · refine and_congr_left fun _ => ⟨fun h j h4 h5 => ?_, fun h j h4 h5 => h j (by omega) h5⟩
            by_cases e : j = i
            · rw [e]
              exact ⟨by omega, by omega, by omega⟩
            · exact h j (by omega) h5
theorem sGD_ev (l : List S56) (hl : l.length ≤ 1048576) : EvB (fun k => spec_GoodDisk.f k l) (GD l) := by
  have h := sGD_l l hl l.length 0 (by omega)
  exact h.iff ⟨fun h => ⟨fun j hj => h.1 j (Nat.zero_le _) hj, h.2⟩, fun h => ⟨fun j _ hj => h.1 j hj, h.2⟩⟩
theorem iGD_ev (l : List S56) : EvB (fun _ => impl_isDisk.f l) (GD l) := by
  have hq : ∀ j, impl_isDisk.q l j = true ↔ ¬ GF (l.getD j z56) := fun j => by
    unfold impl_isDisk.q impl_isDisk.q1 GF
    rw [fl_nat'']
    by_cases h1 : ((l.getD j z56).f0.size : Int) > 400
    · rw [if_pos h1]
      exact ⟨fun _ h => by omega, fun _ => rfl⟩
    · rw [if_neg h1, Bool.not_eq_true', decide_eq_false_iff_not]
      exact ⟨fun h h' => h ⟨h'.2.1, h'.2.2⟩, fun h h' => h ⟨by omega, h'.1, h'.2⟩⟩
  unfold impl_isDisk.f
  simp only [iin, Option.bind_some]
  refine EvB.iff (EvB.and ⟨_, Ev.now _, Iff.rfl⟩) ?_
  rw [Bool.not_eq_true', decide_eq_false_iff_not, ixD_iff]
  unfold GD
  constructor
  · rintro ⟨h1, h3⟩
    refine ⟨fun j hj => ?_, h1⟩
    by_cases hz : GF (l.getD j z56)
    · exact hz
    · exact absurd ⟨j, Nat.zero_le _, by omega, (hq j).2 hz⟩ h3
  · rintro ⟨h3, h1⟩
    exact ⟨h1, fun ⟨j, _, h5, h6⟩ => (hq j).1 h6 (h3 j (by omega))⟩

theorem sFile_ev (l : List S56) (a : Int) (hl : l.length ≤ 1048576) : EvB (fun k => spec_l3File.f k l a) (GD l ∧ 0 ≤ a ∧ a < (l.length : Int)) := by
  obtain ⟨b, hb, hq⟩ := sGD_ev l hl
  unfold spec_l3File.f
  cases b with
  | false => exact ⟨false, Ev.bind hb (Ev.ifn (by decide) (Ev.now _)), Iff.intro (fun h => by cases h) (fun h => absurd (hq.2 h.1) (by decide))⟩
  | true =>
    by_cases h0 : a ≥ 0
    · refine ⟨decide (a < (l.length : Int)), Ev.bind hb (Ev.ifp rfl (Ev.ifp h0 (Ev.now _))), ?_⟩
      rw [decide_eq_true_iff]
      exact ⟨fun h => ⟨hq.1 rfl, h0, h⟩, fun h => h.2.2⟩
    · exact ⟨false, Ev.bind hb (Ev.ifp rfl (Ev.ifn h0 (Ev.now _))), Iff.intro (fun h => by cases h) (fun h => absurd h.2.1 h0)⟩
theorem iHas_ev (l : List S56) (a : Int) (hl : l.length ≤ 1048576) : EvB (fun _ => impl_Disk_has.f l a) (GD l ∧ 0 ≤ a ∧ a < (l.length : Int)) := by
  obtain ⟨b, hb, hq⟩ := iGD_ev l
  unfold impl_Disk_has.f
  cases b with
  | false => exact ⟨false, Ev.bind hb (Ev.ifn (by decide) (Ev.now _)), Iff.intro (fun h => by cases h) (fun h => absurd (hq.2 h.1) (by decide))⟩
  | true =>
    have hw : wrap64 ((l.length : Int) - 1) = (l.length : Int) - 1 := wrap_id (by omega) (by omega)
    refine ⟨decide (0 ≤ a ∧ a ≤ (l.length : Int) - 1), Ev.bind hb (Ev.ifp rfl ?_), ?_⟩
    · simp only [iin, Option.bind_some, hw]
      exact Ev.now _
    · rw [decide_eq_true_iff]
      exact ⟨fun h => ⟨hq.1 rfl, h.1, by omega⟩, fun h => ⟨h.2.1, by omega⟩⟩

theorem sOwn (l : List S56) (hl : l.length ≤ 1048576) : spec_l3Own.f l = some l := by
  unfold spec_l3Own.f
  rw [Option.bind_some, if_pos (by simp only [List.length_nil]; omega), List.nil_append]

theorem iWith (l : List S56) (a : Int) (s : ByteArray) (m : Int) (hl : l.length ≤ 1048576) (h0 : 0 ≤ a) (h1 : a < (l.length : Int)) : impl_Disk_with.f l a s m = some (l.set a.toNat (⟨s, m⟩ : S56)) := by
  unfold impl_Disk_with.f
  rw [Option.bind_some, if_pos (by simp only [List.length_nil]; omega), List.nil_append, Option.bind_some, if_pos h0, if_pos h1]
theorem wr64 (n : Int) (h₀ : 0 ≤ n) (h₁ : n < 2 ^ 62) : IntKind.i64.wrap n = n := by
  rw [IntKind.wrap_i64]
  omega
theorem xor_nat (a b : Nat) (ha : a < 2 ^ 62) (hb : b < 2 ^ 62) : Go.bits .xor .i64 (a : Int) (b : Int) = ((a ^^^ b : Nat) : Int) := by
  have hx : a ^^^ b < 2 ^ 62 := Nat.xor_lt_two_pow ha hb
  have h1 : (BitVec.ofInt 64 (a : Int)).toNat = a := by
    rw [BitVec.ofInt_natCast, BitVec.toNat_ofNat]
    exact Nat.mod_eq_of_lt (by omega)
  have h2 : (BitVec.ofInt 64 (b : Int)).toNat = b := by
    rw [BitVec.ofInt_natCast, BitVec.toNat_ofNat]
    exact Nat.mod_eq_of_lt (by omega)
  show IntKind.i64.wrap ((BitVec.ofInt 64 (a : Int) ^^^ BitVec.ofInt 64 (b : Int)).toNat : Int) = _
  rw [BitVec.toNat_xor, h1, h2]
  exact wr64 _ (Int.natCast_nonneg _) (by omega)
theorem and_low (m : Nat) (h : m < 2 ^ 62) : Go.bits .and .i64 (m : Int) 65535 = ((m % 65536 : Nat) : Int) := by
  show Go.bits .and .i64 (m : Int) ((65535 : Nat) : Int) = _
  rw [(bits_nat .i64 62 (by decide) wr64 m 65535 h (by decide)).1]
  exact congrArg _ (Nat.and_two_pow_sub_one_eq_mod m 16)
theorem and_top (c : Nat) (h : c < 65536) : Go.bits .and .i64 (c : Int) 32768 = 0 ↔ c < 32768 := by
  show Go.bits .and .i64 (c : Int) ((32768 : Nat) : Int) = 0 ↔ _
  rw [(bits_nat .i64 62 (by decide) wr64 c 32768 (by omega) (by decide)).1]
  constructor
  · intro e
    by_cases hc : c < 32768
    · exact hc
    · have e' : c &&& 2 ^ 15 = 0 := by
        have : (2 : Nat) ^ 15 = 32768 := by decide
        rw [this]
        omega
      have t : (c &&& 2 ^ 15).testBit 15 = true := by
        rw [Nat.testBit_and, Nat.testBit_two_pow_self, Bool.and_true, Nat.testBit_eq_decide_div_mod_eq, decide_eq_true_iff]
        omega
      rw [e', Nat.zero_testBit] at t
      cases t
  · intro hc
    have e : c &&& 2 ^ 15 = 0 := by
      refine Nat.eq_of_testBit_eq fun j => ?_
      rw [Nat.testBit_and, Nat.zero_testBit]
      by_cases hj : j = 15
      · subst hj
        rw [Nat.testBit_lt_two_pow (x := c) (i := 15) (by omega), Bool.false_and]
      · rw [Nat.testBit_two_pow_of_ne (fun e => hj e.symm), Bool.and_false]
    have : (2 : Nat) ^ 15 = 32768 := by decide
    rw [this] at e
    rw [e]
    rfl
theorem bt_bd (s : ByteArray) (i : Int) : ∃ b : Nat, bt s i = (b : Int) ∧ b ≤ 255 := by
  unfold bt
  split
  · rename_i h
    have := UInt8.toNat_lt (s[i.toNat]'h)
    exact ⟨_, rfl, by omega⟩
  · exact ⟨0, rfl, by omega⟩
def stp (c : Nat) : Nat := if c < 32768 then c * 2 else (c * 2 % 65536) ^^^ 4129
theorem stp_lt (c : Nat) : stp c < 65536 := by
  unfold stp
  split
  · omega
  · exact Nat.xor_lt_two_pow (n := 16) (by omega) (by omega)
def stps : Nat → Nat → Nat
  | 0, c => c
  | d + 1, c => stps d (stp c)
theorem stps_lt : ∀ d c, c < 65536 → stps d c < 65536
  | 0, c, h => h
  | d + 1, c, _ => stps_lt d (stp c) (stp_lt c)
theorem sSum_in (x : ByteArray) (i : Int) (r : Int) : ∀ d j : Nat, j + d = 8 → ∀ c : Nat, c < 65536 → Ev (fun k => spec_l1Sum.l0 k x ((stps d c : Nat) : Int) (wrap64 (i + 1))) r → Ev (fun k => spec_l1Sum.l1 k x (c : Int) i (j : Int)) r
  | 0, j, hd => fun c hc h => Ev.step (fun k => by rw [spec_l1Sum.l1, if_neg (by omega)]; rfl) h
  | d + 1, j, hd => fun c hc h => by
    have w : wrap64 ((c : Int) * 2) = ((c * 2 : Nat) : Int) := by
      rw [wrap_id (by omega) (by omega)]
      omega
    refine Ev.step (fun k => ?_) (sSum_in x i r d (j + 1) (by omega) (stp c) (stp_lt c) h)
    show spec_l1Sum.l1 (k + 1) x (c : Int) i (j : Int) = spec_l1Sum.l1 k x ((stp c : Nat) : Int) i ((j + 1 : Nat) : Int)
    rw [spec_l1Sum.l1, if_pos (by omega), w, succ_wrap (by omega)]
    unfold stp
    by_cases hs : c < 32768
    · rw [if_neg (by omega), if_pos hs]
    · rw [if_pos (by omega), if_neg hs, and_low _ (by omega)]
      have e : Go.bits .xor .i64 ((c * 2 % 65536 : Nat) : Int) 4129 = ((c * 2 % 65536 ^^^ 4129 : Nat) : Int) := xor_nat _ 4129 (by omega) (by omega)
      rw [e]
theorem iSum_in (x : ByteArray) (n i : Int) (r : Int) : ∀ d j : Nat, j + d = 8 → ∀ c : Nat, c < 65536 → Ev (fun k => impl_sumOf.l0 k x ((stps d c : Nat) : Int) n (wrap64 (i + 1))) r → Ev (fun k => impl_sumOf.l1 k x (c : Int) n i (j : Int)) r
  | 0, j, hd => fun c hc h => Ev.step (fun k => by rw [impl_sumOf.l1, if_neg (by omega)]; rfl) h
  | d + 1, j, hd => fun c hc h => by
    have w : wrap64 ((c : Int) * 2) = ((c * 2 : Nat) : Int) := by
      rw [wrap_id (by omega) (by omega)]
      omega
    refine Ev.step (fun k => ?_) (iSum_in x n i r d (j + 1) (by omega) (stp c) (stp_lt c) h)
    show impl_sumOf.l1 (k + 1) x (c : Int) n i (j : Int) = impl_sumOf.l1 k x ((stp c : Nat) : Int) n i ((j + 1 : Nat) : Int)
    rw [impl_sumOf.l1, if_pos (by omega), w, succ_wrap (by omega), and_low _ (by omega)]
    unfold stp
    by_cases hs : c < 32768
    · rw [if_pos ((and_top c hc).2 hs), if_pos hs]
      have e : c * 2 % 65536 = c * 2 := by omega
      rw [e]
    · rw [if_neg (fun h => hs ((and_top c hc).1 h)), if_neg hs]
      have e : Go.bits .xor .i64 ((c * 2 % 65536 : Nat) : Int) 4129 = ((c * 2 % 65536 ^^^ 4129 : Nat) : Int) := xor_nat _ 4129 (by omega) (by omega)
      rw [e]
theorem sum_l (x : ByteArray) (hx : x.size ≤ 1000000000000000) : ∀ d i : Nat, i + d = x.size → ∀ c : Nat, c < 65536 →
    ∃ r : Nat, r < 65536 ∧ Ev (fun k => spec_l1Sum.l0 k x (c : Int) (i : Int)) (r : Int) ∧ Ev (fun k => impl_sumOf.l0 k x (c : Int) (x.size : Int) (i : Int)) (r : Int)
  | 0, i, hd => fun c hc => ⟨c, hc, Ev.step (f := fun _ => some (c : Int)) (fun k => by rw [spec_l1Sum.l0, if_neg (by omega)]) (Ev.now _), Ev.step (f := fun _ => some (c : Int)) (fun k => by rw [impl_sumOf.l0, if_neg (by omega)]) (Ev.now _)⟩
  | d + 1, i, hd => fun c hc => by
    obtain ⟨b, hb, hb2⟩ := bt_bd x (i : Int)
    have w1 : wrap64 (b : Int) = (b : Int) := wrap_id (by omega) (by omega)
    have w2 : wrap64 ((b : Int) * 256) = ((b * 256 : Nat) : Int) := by
      rw [wrap_id (by omega) (by omega)]
      omega
    have hx2 : c ^^^ b * 256 < 65536 := Nat.xor_lt_two_pow (n := 16) (by omega) (by omega)
    have e := xor_nat c (b * 256) (by omega) (by omega)
    obtain ⟨r, hr, h1, h2⟩ := sum_l x hx d (i + 1) (by omega) (stps 8 (c ^^^ b * 256)) (stps_lt 8 _ hx2)
    refine ⟨r, hr, ?_, ?_⟩
    · refine Ev.step (fun k => ?_) (sSum_in x (i : Int) (r : Int) 8 0 rfl _ hx2 ?_)
      · show spec_l1Sum.l0 (k + 1) x (c : Int) (i : Int) = spec_l1Sum.l1 k x ((c ^^^ b * 256 : Nat) : Int) (i : Int) 0
        rw [spec_l1Sum.l0, if_pos (by omega), if_pos (by omega), hb, w1, w2, e]
      · rw [succ_wrap (by omega)]
        exact h1
    · refine Ev.step (fun k => ?_) (iSum_in x (x.size : Int) (i : Int) (r : Int) 8 0 rfl _ hx2 ?_)
      · show impl_sumOf.l0 (k + 1) x (c : Int) (x.size : Int) (i : Int) = impl_sumOf.l1 k x ((c ^^^ b * 256 : Nat) : Int) (x.size : Int) (i : Int) 0
        rw [impl_sumOf.l0, if_pos (by omega), if_pos (by omega), if_pos (by omega), hb, w1, w2, e]
      · rw [succ_wrap (by omega)]
        exact h2
theorem sum_ev (x : ByteArray) (hx : x.size ≤ 1000000000000000) : ∃ r : Nat, r < 65536 ∧ Ev (fun k => spec_l1Sum.f k x) (r : Int) ∧ Ev (fun k => impl_sumOf.f k x) (r : Int) :=
  sum_l x hx x.size 0 (by omega) 65535 (by omega)

theorem ixS_iff (q : Nat → Bool) : ∀ d i, (0 ≤ ixS q i d) ↔ ∃ j, i ≤ j ∧ j < i + d ∧ q j = true
  | 0, i => by
    rw [ixS]
    exact ⟨fun h => by omega, fun ⟨j, h1, h2, _⟩ => by omega⟩
  | d + 1, i => by
    rw [ixS]
    by_cases h : q i = true
    · rw [if_pos h]
      exact ⟨fun _ => ⟨i, Nat.le_refl _, by omega, h⟩, fun _ => by omega⟩
    · rw [if_neg h, ixS_iff q d (i + 1)]
      refine ⟨fun ⟨j, h1, h2, h3⟩ => ⟨j, by omega, by omega, h3⟩, fun ⟨j, h1, h2, h3⟩ => ⟨j, ?_, by omega, h3⟩⟩
      by_cases e : j = i
      · rw [e] at h3
        exact absurd h3 h
      · omega
def GB (o e p s : Int) (l : List ByteArray) : Prop :=
  (∀ j, j < l.length → (l.getD j ByteArray.empty).size ≤ 20) ∧ (0 ≤ o ∧ o ≤ 100000) ∧ (0 ≤ e ∧ e ≤ 1000) ∧ (0 ≤ p ∧ p ≤ 65535) ∧ (0 ≤ s ∧ s ≤ 65535) ∧ (1 ≤ (l.length : Int) ∧ (l.length : Int) ≤ 8)
theorem sGB_l (o e p s : Int) (l : List ByteArray) (hl : l.length ≤ 1048576) : ∀ d i : Nat, i + d = l.length →
    EvB (fun k => spec_GoodBatch.l0 k l (l.length : Int) (i : Int) o e p s l) ((∀ j, i ≤ j → j < l.length → (l.getD j ByteArray.empty).size ≤ 20) ∧ (0 ≤ o ∧ o ≤ 100000) ∧ (0 ≤ e ∧ e ≤ 1000) ∧ (0 ≤ p ∧ p ≤ 65535) ∧ (0 ≤ s ∧ s ≤ 65535) ∧ (1 ≤ (l.length : Int) ∧ (l.length : Int) ≤ 8))
  | 0, i, hd => by
    refine EvB.step (f := fun _ => if decide ((0 : Int) ≤ o ∧ o ≤ 100000) = true then (if decide ((0 : Int) ≤ e ∧ e ≤ 1000) = true then (if decide ((0 : Int) ≤ p ∧ p ≤ 65535) = true then (if decide ((0 : Int) ≤ s ∧ s ≤ 65535) = true then some (decide (1 ≤ (l.length : Int) ∧ (l.length : Int) ≤ 8)) else some false) else some false) else some false) else some false) (fun k => ?_) ?_
    · rw [spec_GoodBatch.l0, if_neg (by omega)]
      simp only [sin, Option.bind_some]
    · refine EvB.iff (EvB.and (EvB.and (EvB.and (EvB.and EvB.dec)))) ⟨fun h => ⟨fun j h1 h2 => by omega, h⟩, fun h => h.2⟩
  | d + 1, i, hd => by
    by_cases hz : ((l.getD i ByteArray.empty).size : Int) > 20
    · refine EvB.no (fun k => ?_) (fun h => ?_)
      · rw [spec_GoodBatch.l0, if_pos (by omega), if_pos (by omega), if_pos (by omega), st_nat, if_pos hz]
      · have := h.1 i (Nat.le_refl _) (by omega)
        omega
    · refine EvB.step (fun k => ?_) (EvB.iff (sGB_l o e p s l hl d (i + 1) (by omega)) ?_)
      · show spec_GoodBatch.l0 (k + 1) l (l.length : Int) (i : Int) o e p s l = spec_GoodBatch.l0 k l (l.length : Int) ((i + 1 : Nat) : Int) o e p s l
        rw [spec_GoodBatch.l0, if_pos (by omega), if_pos (by omega), if_pos (by omega), st_nat, if_neg hz, succ_wrap (by omega)]
      · refine and_congr_left fun _ => ⟨fun h j h1 h2 => ?_, fun h j h1 h2 => h j (by omega) h2⟩
        by_cases e : j = i
        · rw [e]
          omega
        · exact h j (by omega) h2
theorem sGB_ev (o e p s : Int) (l : List ByteArray) (hl : l.length ≤ 1048576) : EvB (fun k => spec_GoodBatch.f k o e p s l) (GB o e p s l) := by
  have h := sGB_l o e p s l hl l.length 0 (by omega)
  exact h.iff ⟨fun h => ⟨fun j hj => h.1 j (Nat.zero_le _) hj, h.2⟩, fun h => ⟨fun j _ hj => h.1 j hj, h.2⟩⟩
theorem iGB_ev (o e p s : Int) (l : List ByteArray) : EvB (fun _ => impl_isBatch.f o e p s l) (GB o e p s l) := by
  have hq : ∀ j, impl_areRecords.q l j = true ↔ ¬ (l.getD j ByteArray.empty).size ≤ 20 := fun j => by
    unfold impl_areRecords.q
    rw [decide_eq_true_iff, st_nat]
    omega
  have ha : EvB (fun _ : Nat => impl_areRecords.f l) ((1 ≤ (l.length : Int) ∧ (l.length : Int) ≤ 8) ∧ ∀ j, j < l.length → (l.getD j ByteArray.empty).size ≤ 20) := by
    unfold impl_areRecords.f
    simp only [iin, Option.bind_some]
    refine EvB.and ⟨_, Ev.now _, ?_⟩
    rw [Bool.not_eq_true', decide_eq_false_iff_not, ixS_iff]
    refine ⟨fun h j hj => ?_, fun h ⟨j, h1, h2, h3⟩ => (hq j).1 h3 (h j (by omega))⟩
    by_cases hz : (l.getD j ByteArray.empty).size ≤ 20
    · exact hz
    · exact absurd ⟨j, Nat.zero_le _, by omega, (hq j).2 hz⟩ h
  obtain ⟨b, hb, hbq⟩ := ha
  have hb' : impl_areRecords.f l = some b := by
    obtain ⟨K, hK⟩ := hb
    exact hK K (Nat.le_refl _)
  unfold impl_isBatch.f
  simp only [iin, Option.bind_some, hb']
  refine EvB.iff (EvB.and (EvB.and (EvB.and (EvB.and ⟨b, Ev.now _, hbq⟩)))) ?_
  unfold GB
  constructor
  · rintro ⟨h1, h2, h3, h4, h5, h6⟩
    exact ⟨h6, h1, h2, h3, h4, h5⟩
  · rintro ⟨h6, h1, h2, h3, h4, h5⟩
    exact ⟨h1, h2, h3, h4, h5, h6⟩

def bytF : Nat → Int → List Int → List Int
  | 0, _, x => x
  | d + 1, v, x => bytF d (v / 256) (x.set d (v % 256))
theorem bytF_len : ∀ (d : Nat) (v : Int) (x : List Int), (bytF d v x).length = x.length
  | 0, _, _ => rfl
  | d + 1, v, x => by rw [bytF, bytF_len d, List.length_set]
def byt (v : Int) (n : Nat) : ByteArray := strOfNums (bytF n v (List.replicate n 0))
theorem byt_size (v : Int) (n : Nat) : (byt v n).size = n := by
  unfold byt
  rw [strOfNums_size, bytF_len, List.length_replicate]
theorem sByt_l : ∀ (d : Nat) (v : Int) (x : List Int), d ≤ x.length → d ≤ 1000 → Ev (fun k => spec_l1Bytes.l0 k v x ((d : Int) - 1)) (strOfNums (bytF d v x))
  | 0, v, x, _, _ => Ev.step (f := fun _ => some (strOfNums x)) (fun k => by rw [spec_l1Bytes.l0, if_neg (by omega)]) (Ev.now _)
  | d + 1, v, x, h, h2 => by
    refine Ev.step (fun k => ?_) (sByt_l d (v / 256) (x.set d (v % 256)) (by rw [List.length_set]; omega) (by omega))
    have e : ((d + 1 : Nat) : Int) - 1 = (d : Int) := by omega
    show spec_l1Bytes.l0 (k + 1) v x (((d + 1 : Nat) : Int) - 1) = spec_l1Bytes.l0 k (v / 256) (x.set d (v % 256)) ((d : Int) - 1)
    rw [e, spec_l1Bytes.l0, if_pos (by omega), if_pos (by omega), if_pos (by omega), wrap_id (by omega) (by omega), tn_nat]
theorem iByt_l : ∀ (d : Nat) (v : Int) (x : List Int), d ≤ x.length → d ≤ 1000 → Ev (fun k => impl_put.l0 k v x ((d : Int) - 1)) (strOfNums (bytF d v x))
  | 0, v, x, _, _ => Ev.step (f := fun _ => some (strOfNums x)) (fun k => by rw [impl_put.l0, if_neg (by omega)]) (Ev.now _)
  | d + 1, v, x, h, h2 => by
    refine Ev.step (fun k => ?_) (iByt_l d (v / 256) (x.set d (v % 256)) (by rw [List.length_set]; omega) (by omega))
    have e : ((d + 1 : Nat) : Int) - 1 = (d : Int) := by omega
    show impl_put.l0 (k + 1) v x (((d + 1 : Nat) : Int) - 1) = impl_put.l0 k (v / 256) (x.set d (v % 256)) ((d : Int) - 1)
    rw [e, impl_put.l0, if_pos (by omega), if_pos (by omega), if_pos (by omega), wrap_id (by omega) (by omega), tn_nat]
theorem sByt_ev (v : Int) (n : Nat) (hn : n ≤ 1000) : Ev (fun k => spec_l1Bytes.f k v (n : Int)) (byt v n) := by
  unfold spec_l1Bytes.f
  rw [tn_nat, wrap_id (by omega) (by omega)]
  exact Ev.ifp (by omega) (Ev.ifp (by omega) (sByt_l n v _ (by rw [List.length_replicate]; omega) hn))
theorem iByt_ev (v : Int) (n : Nat) (hn : n ≤ 1000) : Ev (fun k => impl_put.f k v (n : Int)) (byt v n) := by
  unfold impl_put.f
  rw [tn_nat, wrap_id (by omega) (by omega)]
  exact Ev.ifp (by omega) (Ev.ifp (by omega) (iByt_l n v _ (by rw [List.length_replicate]; omega) hn))
open Classical in
noncomputable def sm (x : ByteArray) : Nat := if h : x.size ≤ 1000000000000000 then Classical.choose (sum_ev x h) else 0
theorem sm_ev (x : ByteArray) (h : x.size ≤ 1000000000000000) : Ev (fun k => spec_l1Sum.f k x) (sm x : Int) ∧ Ev (fun k => impl_sumOf.f k x) (sm x : Int) := by
  unfold sm
  rw [dif_pos h]
  exact (Classical.choose_spec (sum_ev x h)).2
def rcs : List ByteArray → ByteArray → ByteArray
  | [], b => b
  | x :: xs, b => rcs xs (b ++ (byt (x.size : Int) 1 ++ x))
def rcl : List ByteArray → Nat
  | [] => 0
  | x :: xs => 1 + x.size + rcl xs
theorem rcs_size : ∀ (l : List ByteArray) (b : ByteArray), (rcs l b).size = b.size + rcl l
  | [], b => rfl
  | x :: xs, b => by
    rw [rcs, rcs_size xs, rcl, ByteArray.size_append, ByteArray.size_append, byt_size]
    omega
noncomputable def fin (b : ByteArray) : ByteArray := (byt ((b.size + 2 : Nat) : Int) 2 ++ b) ++ byt (sm (byt ((b.size + 2 : Nat) : Int) 2 ++ b) : Int) 2
theorem fin_size (b : ByteArray) : (fin b).size = b.size + 4 := by
  unfold fin
  rw [ByteArray.size_append, ByteArray.size_append, byt_size, byt_size]
  omega
def hdr (o e p s : Int) (n : Nat) : ByteArray := (((byt o 3 ++ byt e 2) ++ byt p 2) ++ byt s 2) ++ byt (n : Int) 1
theorem hdr_size (o e p s : Int) (n : Nat) : (hdr o e p s n).size = 10 := by
  unfold hdr
  simp only [ByteArray.size_append, byt_size]
noncomputable def bb (o e p s : Int) (l : List ByteArray) : ByteArray := fin (rcs l (hdr o e p s l.length))
theorem bb_size (o e p s : Int) (l : List ByteArray) : (bb o e p s l).size = 14 + rcl l := by
  unfold bb
  rw [fin_size, rcs_size, hdr_size]
  omega
theorem sfin_ev (b : ByteArray) (hb : b.size ≤ 100000000) : Ev (fun k => (spec_l1Bytes.f k (wrap64 ((b.size : Int) + 2)) 2).bind fun t139 => (if t139.size + b.size ≤ 9223372036854775807 then ((spec_l1Sum.f k (t139 ++ b)).bind fun t140 => ((spec_l1Bytes.f k t140 2).bind fun t141 => (if (t139 ++ b).size + t141.size ≤ 9223372036854775807 then (some ((t139 ++ b) ++ t141)) else (none)))) else (none))) (fin b) := by
  have w : wrap64 ((b.size : Int) + 2) = ((b.size + 2 : Nat) : Int) := by
    rw [wrap_id (by omega) (by omega)]
    omega
  have hz : (byt ((b.size + 2 : Nat) : Int) 2 ++ b).size = 2 + b.size := by rw [ByteArray.size_append, byt_size]
  rw [w]
  refine Ev.bind (sByt_ev _ 2 (by omega)) (Ev.ifp (by rw [byt_size]; omega) (Ev.bind (sm_ev _ (by omega)).1 (Ev.bind (sByt_ev _ 2 (by omega)) (Ev.ifp (by rw [hz, byt_size]; omega) (Ev.now _)))))
theorem ifin_ev (b : ByteArray) (hb : b.size ≤ 100000000) : Ev (fun k => (impl_put.f k (wrap64 ((b.size : Int) + 2)) 2).bind fun t139 => (if t139.size + b.size ≤ 9223372036854775807 then ((impl_sumOf.f k (t139 ++ b)).bind fun t140 => ((impl_put.f k t140 2).bind fun t141 => (if (t139 ++ b).size + t141.size ≤ 9223372036854775807 then (some ((t139 ++ b) ++ t141)) else (none)))) else (none))) (fin b) := by
  have w : wrap64 ((b.size : Int) + 2) = ((b.size + 2 : Nat) : Int) := by
    rw [wrap_id (by omega) (by omega)]
    omega
  have hz : (byt ((b.size + 2 : Nat) : Int) 2 ++ b).size = 2 + b.size := by rw [ByteArray.size_append, byt_size]
  rw [w]
  refine Ev.bind (iByt_ev _ 2 (by omega)) (Ev.ifp (by rw [byt_size]; omega) (Ev.bind (sm_ev _ (by omega)).2 (Ev.bind (iByt_ev _ 2 (by omega)) (Ev.ifp (by rw [hz, byt_size]; omega) (Ev.now _)))))
theorem drop_getD {l : List ByteArray} {i : Nat} (h : i < l.length) : l.drop i = l.getD i ByteArray.empty :: l.drop (i + 1) := by
  rw [List.drop_eq_getElem_cons h, List.getD_eq_getElem?_getD, List.getElem?_eq_getElem h]
  rfl
theorem batch_l (l : List ByteArray) (hl : l.length ≤ 8) (hs : ∀ j, j < l.length → (l.getD j ByteArray.empty).size ≤ 20) : ∀ d i : Nat, i + d = l.length → ∀ b : ByteArray, b.size ≤ 1000 + 21 * i →
    Ev (fun k => spec_l1Batch.l0 k b l (l.length : Int) (i : Int)) (fin (rcs (l.drop i) b)) ∧ Ev (fun k => impl_batchBytes.l0 k b l (l.length : Int) (i : Int)) (fin (rcs (l.drop i) b))
  | 0, i, hd => fun b hb => by
    have e : i = l.length := by omega
    subst e
    rw [List.drop_length, rcs]
    exact ⟨Ev.step (fun k => by rw [spec_l1Batch.l0, if_neg (by omega)]) (sfin_ev b (by omega)), Ev.step (fun k => by rw [impl_batchBytes.l0, if_neg (by omega)]) (ifin_ev b (by omega))⟩
  | d + 1, i, hd => fun b hb => by
    have hz := hs i (by omega)
    have z1 : (byt ((l.getD i ByteArray.empty).size : Int) 1 ++ l.getD i ByteArray.empty).size = 1 + (l.getD i ByteArray.empty).size := by rw [ByteArray.size_append, byt_size]
    obtain ⟨h1, h2⟩ := batch_l l hl hs d (i + 1) (by omega) (b ++ (byt ((l.getD i ByteArray.empty).size : Int) 1 ++ l.getD i ByteArray.empty)) (by rw [ByteArray.size_append, z1]; omega)
    rw [drop_getD (show i < l.length by omega), rcs]
    constructor
    · refine Ev.step (f := fun k => (spec_l1Bytes.f k ((l.getD i ByteArray.empty).size : Int) 1).bind fun t => (if t.size + (l.getD i ByteArray.empty).size ≤ 9223372036854775807 then (if b.size + (t ++ l.getD i ByteArray.empty).size ≤ 9223372036854775807 then (spec_l1Batch.l0 k (b ++ (t ++ l.getD i ByteArray.empty)) l (l.length : Int) ((i + 1 : Nat) : Int)) else (none)) else (none))) (fun k => ?_) (Ev.bind (sByt_ev _ 1 (by omega)) (Ev.ifp (by rw [byt_size]; omega) (Ev.ifp (by rw [z1]; omega) h1)))
      rw [spec_l1Batch.l0, if_pos (by omega), if_pos (by omega), if_pos (by omega), succ_wrap (by omega)]
      rfl
    · refine Ev.step (f := fun k => (impl_put.f k ((l.getD i ByteArray.empty).size : Int) 1).bind fun t => (if t.size + (l.getD i ByteArray.empty).size ≤ 9223372036854775807 then (if b.size + (t ++ l.getD i ByteArray.empty).size ≤ 9223372036854775807 then (impl_batchBytes.l0 k (b ++ (t ++ l.getD i ByteArray.empty)) l (l.length : Int) ((i + 1 : Nat) : Int)) else (none)) else (none))) (fun k => ?_) (Ev.bind (iByt_ev _ 1 (by omega)) (Ev.ifp (by rw [byt_size]; omega) (Ev.ifp (by rw [z1]; omega) h2)))
      rw [impl_batchBytes.l0, if_pos (by omega), if_pos (by omega), if_pos (by omega), succ_wrap (by omega)]
      rfl
theorem rcl_le : ∀ (l : List ByteArray), (∀ j, j < l.length → (l.getD j ByteArray.empty).size ≤ 20) → rcl l ≤ 21 * l.length
  | [], _ => Nat.le_refl _
  | x :: xs, h => by
    have h0 : x.size ≤ 20 := h 0 (by simp)
    have h1 := rcl_le xs (fun j hj => h (j + 1) (by simp only [List.length_cons]; omega))
    rw [rcl, List.length_cons]
    omega
theorem batch_ev (o e p s : Int) (l : List ByteArray) (h : GB o e p s l) : Ev (fun k => spec_l1Batch.f k o e p s l) (bb o e p s l) ∧ Ev (fun k => impl_batchBytes.f k o e p s l) (bb o e p s l) := by
  obtain ⟨hs, _, _, _, _, hl⟩ := h
  obtain ⟨h1, h2⟩ := batch_l l (by omega) hs l.length 0 (by omega) (hdr o e p s l.length) (by rw [hdr_size]; omega)
  unfold spec_l1Batch.f impl_batchBytes.f
  constructor
  · refine Ev.bind (sByt_ev _ 3 (by omega)) (Ev.bind (sByt_ev _ 2 (by omega)) (Ev.ifp ?_ (Ev.bind (sByt_ev _ 2 (by omega)) (Ev.ifp ?_ (Ev.bind (sByt_ev _ 2 (by omega)) (Ev.ifp ?_ (Ev.bind (sByt_ev _ 1 (by omega)) (Ev.ifp ?_ h1))))))))
    all_goals simp only [ByteArray.size_append, byt_size]
    all_goals omega
  · refine Ev.bind (iByt_ev _ 3 (by omega)) (Ev.bind (iByt_ev _ 2 (by omega)) (Ev.ifp ?_ (Ev.bind (iByt_ev _ 2 (by omega)) (Ev.ifp ?_ (Ev.bind (iByt_ev _ 2 (by omega)) (Ev.ifp ?_ (Ev.bind (iByt_ev _ 1 (by omega)) (Ev.ifp ?_ h2))))))))
    all_goals simp only [ByteArray.size_append, byt_size]
    all_goals omega

def byN (s : ByteArray) (i : Nat) : Nat := (bt s (i : Int)).toNat
theorem bt_byN (s : ByteArray) (i : Nat) : bt s (i : Int) = (byN s i : Int) := by
  obtain ⟨b, hb, _⟩ := bt_bd s (i : Int)
  unfold byN
  rw [hb]
  rfl
theorem byN_le (s : ByteArray) (i : Nat) : byN s i ≤ 255 := by
  obtain ⟨b, hb, h⟩ := bt_bd s (i : Int)
  unfold byN
  rw [hb]
  exact h
theorem byN_get (s : ByteArray) (i : Nat) (h : i < s.size) : byN s i = (s[i]'h).toNat := by
  unfold byN bt
  rw [dif_pos (show ((i : Int)).toNat < s.size from h)]
  rfl
theorem byN_ext (s : ByteArray) (a b i : Nat) (h : a + i < b) (hb : b ≤ s.size) : byN (s.extract a b) i = byN s (a + i) := by
  have h1 : i < (s.extract a b).size := by
    rw [ByteArray.size_extract]
    omega
  rw [byN_get _ _ h1, byN_get _ _ (show a + i < s.size by omega), ByteArray.getElem_extract]
theorem byN_app (x y : ByteArray) (i : Nat) (h : i < x.size) : byN (x ++ y) i = byN x i := by
  have h1 : i < (x ++ y).size := by
    rw [ByteArray.size_append]
    omega
  rw [byN_get _ _ h1, byN_get _ _ h, ByteArray.getElem_append_left h]
def valF (s : ByteArray) : Nat → Nat → Nat → Nat
  | 0, _, v => v
  | d + 1, i, v => valF s d (i + 1) (v * 256 + byN s i)
def val (s : ByteArray) : Nat := valF s s.size 0 0
theorem or256 (s : ByteArray) (v i : Nat) (hv : v < 4294967296) : Go.bits .or .i64 (wrap64 ((v : Int) * 256)) (wrap64 (bt s (i : Int))) = ((v * 256 + byN s i : Nat) : Int) := by
  have hb := byN_le s i
  have w1 : wrap64 ((v : Int) * 256) = ((v * 256 : Nat) : Int) := by
    rw [wrap_id (by omega) (by omega)]
    omega
  have w2 : wrap64 (bt s (i : Int)) = ((byN s i : Nat) : Int) := by
    rw [bt_byN]
    exact wrap_id (by omega) (by omega)
  rw [w1, w2, (bits_nat .i64 62 (by decide) wr64 (v * 256) (byN s i) (by omega) (by omega)).2]
  have := Nat.two_pow_add_eq_or_of_lt (i := 8) (b := byN s i) (by omega) v
  have e : 2 ^ 8 * v = v * 256 := by omega
  rw [e] at this
  rw [this]
theorem step_lt (s : ByteArray) (v i : Nat) (h : v < 256 ^ i) : v * 256 + byN s i < 256 ^ (i + 1) := by
  have := byN_le s i
  rw [Nat.pow_succ]
  omega
theorem pow_le4 {i : Nat} (h : i ≤ 4) : 256 ^ i ≤ 4294967296 := Nat.le_trans (Nat.pow_le_pow_right (by decide) h) (by decide)
theorem sVal_l (s : ByteArray) (hs : s.size ≤ 4) : ∀ d i v : Nat, i + d = s.size → v < 256 ^ i → Ev (fun k => spec_l1Value.l0 k s (v : Int) (i : Int)) (valF s d i v : Int)
  | 0, i, v, hd, hv => Ev.step (f := fun _ => some (v : Int)) (fun k => by rw [spec_l1Value.l0, if_neg (by omega)]) (Ev.now _)
  | d + 1, i, v, hd, hv => by
    refine Ev.step (fun k => ?_) (sVal_l s hs d (i + 1) (v * 256 + byN s i) (by omega) (step_lt s v i hv))
    show spec_l1Value.l0 (k + 1) s (v : Int) (i : Int) = spec_l1Value.l0 k s ((v * 256 + byN s i : Nat) : Int) ((i + 1 : Nat) : Int)
    rw [spec_l1Value.l0, if_pos (by omega), if_pos (by omega), or256 s v i (Nat.lt_of_lt_of_le hv (pow_le4 (by omega))), succ_wrap (by omega)]
theorem iVal_l (s : ByteArray) (hs : s.size ≤ 4) : ∀ d i v : Nat, i + d = s.size → v < 256 ^ i → Ev (fun k => impl_get.l0 k s (v : Int) (s.size : Int) (i : Int)) (valF s d i v : Int)
  | 0, i, v, hd, hv => Ev.step (f := fun _ => some (v : Int)) (fun k => by rw [impl_get.l0, if_neg (by omega)]) (Ev.now _)
  | d + 1, i, v, hd, hv => by
    refine Ev.step (fun k => ?_) (iVal_l s hs d (i + 1) (v * 256 + byN s i) (by omega) (step_lt s v i hv))
    show impl_get.l0 (k + 1) s (v : Int) (s.size : Int) (i : Int) = impl_get.l0 k s ((v * 256 + byN s i : Nat) : Int) (s.size : Int) ((i + 1 : Nat) : Int)
    rw [impl_get.l0, if_pos (by omega), if_pos (by omega), if_pos (by omega), or256 s v i (Nat.lt_of_lt_of_le hv (pow_le4 (by omega))), succ_wrap (by omega)]
theorem sVal_ev (s : ByteArray) (hs : s.size ≤ 4) : Ev (fun k => spec_l1Value.f k s) (val s : Int) := sVal_l s hs s.size 0 0 (by omega) (by decide)
theorem iVal_ev (s : ByteArray) (hs : s.size ≤ 4) : Ev (fun k => impl_get.f k s) (val s : Int) := iVal_l s hs s.size 0 0 (by omega) (by decide)
theorem val1 (s : ByteArray) (a : Nat) (h : a + 1 ≤ s.size) : val (s.extract a (a + 1)) = byN s a := by
  unfold val
  have e : (s.extract a (a + 1)).size = 1 := by
    rw [ByteArray.size_extract]
    omega
  rw [e, valF, valF, byN_ext s a (a + 1) 0 (by omega) h, Nat.add_zero]
  omega
theorem val2 (s : ByteArray) (a : Nat) (h : a + 2 ≤ s.size) : val (s.extract a (a + 2)) = byN s a * 256 + byN s (a + 1) := by
  unfold val
  have e : (s.extract a (a + 2)).size = 2 := by
    rw [ByteArray.size_extract]
    omega
  rw [e, valF, valF, valF, byN_ext s a (a + 2) 0 (by omega) h, byN_ext s a (a + 2) (0 + 1) (by omega) h, Nat.add_zero]
  simp
theorem byt2 (v : Nat) (h : v < 65536) : byN (byt (v : Int) 2) 0 * 256 + byN (byt (v : Int) 2) 1 = v := by
  have e : byt (v : Int) 2 = strOfNums [((v / 256 % 256 : Nat) : Int), ((v % 256 : Nat) : Int)] := by
    have e1 : ((v / 256 % 256 : Nat) : Int) = (v : Int) / 256 % 256 := by omega
    have e2 : ((v % 256 : Nat) : Int) = (v : Int) % 256 := by omega
    rw [e1, e2]
    rfl
  have h0 : byN (strOfNums [((v / 256 % 256 : Nat) : Int), ((v % 256 : Nat) : Int)]) 0 = v / 256 % 256 % 256 := by
    rw [byN_get _ 0 (by rw [strOfNums_size]; simp)]
    show (UInt8.ofNat (v / 256 % 256)).toNat = _
    rw [UInt8.toNat_ofNat']
  have h1 : byN (strOfNums [((v / 256 % 256 : Nat) : Int), ((v % 256 : Nat) : Int)]) 1 = v % 256 % 256 := by
    rw [byN_get _ 1 (by rw [strOfNums_size]; simp)]
    show (UInt8.ofNat (v % 256)).toNat = _
    rw [UInt8.toNat_ofNat']
  rw [e, h0, h1]
  omega
theorem tl_inj {x y : ByteArray} : x.toList = y.toList ↔ x = y := by
  refine ⟨fun h => ?_, fun h => by rw [h]⟩
  rw [ByteArray.toList_eq, ByteArray.toList_eq] at h
  exact ByteArray.ext (Array.toList_inj.1 h)
def prs (s : ByteArray) (y : Nat) : Nat → Nat → List ByteArray → Option (List ByteArray × Nat)
  | 0, q, l => some (l, q)
  | c + 1, q, l => if q < y ∧ q + 1 + byN s q ≤ y then prs s y c (q + 1 + byN s q) (l ++ [s.extract (q + 1) (q + 1 + byN s q)]) else none
theorem rcl_app (l : List ByteArray) (x : ByteArray) : rcl (l ++ [x]) = rcl l + 1 + x.size := by
  induction l with
  | nil =>
    rw [List.nil_append, rcl, rcl, rcl]
    omega
  | cons z zs ih =>
    rw [List.cons_append, rcl, rcl, ih]
    omega
theorem prs_inv (s : ByteArray) (y : Nat) (hy : y ≤ s.size) : ∀ (c q : Nat) (l r : List ByteArray) (e : Nat), prs s y c q l = some (r, e) → q ≤ e ∧ (0 < c → e ≤ y) ∧ rcl r + q = rcl l + e ∧ r.length = l.length + c
  | 0, q, l, r, e, h => by
    rw [prs] at h
    obtain ⟨rfl, rfl⟩ := Prod.mk.inj (Option.some.inj h)
    exact ⟨Nat.le_refl _, fun h => absurd h (by omega), rfl, rfl⟩
  | c + 1, q, l, r, e, h => by
    rw [prs] at h
    by_cases hc : q < y ∧ q + 1 + byN s q ≤ y
    · rw [if_pos hc] at h
      obtain ⟨h1, h2, h3, h4⟩ := prs_inv s y hy c _ _ r e h
      have hz : (s.extract (q + 1) (q + 1 + byN s q)).size = byN s q := by
        rw [ByteArray.size_extract]
        omega
      rw [rcl_app, hz] at h3
      rw [List.length_append] at h4
      simp only [List.length_cons, List.length_nil] at h4
      refine ⟨by omega, fun _ => ?_, by omega, by omega⟩
      by_cases hc0 : 0 < c
      · exact h2 hc0
      · have : c = 0 := by omega
        subst this
        rw [prs] at h
        obtain ⟨_, rfl⟩ := Prod.mk.inj (Option.some.inj h)
        exact hc.2
    · rw [if_neg hc] at h
      cases h
theorem prs_mono (s : ByteArray) (y y' : Nat) : ∀ (c q : Nat) (l r : List ByteArray) (e : Nat), prs s y c q l = some (r, e) → e ≤ y' → y ≤ s.size → prs s y' c q l = some (r, e)
  | 0, q, l, r, e, h, _, _ => h
  | c + 1, q, l, r, e, h, he, hy => by
    rw [prs] at h
    by_cases hc : q < y ∧ q + 1 + byN s q ≤ y
    · rw [if_pos hc] at h
      have hq := (prs_inv s y hy c _ _ r e h).1
      rw [prs, if_pos ⟨by omega, by omega⟩]
      exact prs_mono s y y' c _ _ r e h he hy
    · rw [if_neg hc] at h
      cases h
abbrev TR := Int × Int × Int × Int × List ByteArray × Int
def zS : TR := (0, 0, 0, 0, [], 0)
def zI : Int × Int × Int × Int × List ByteArray × Int × Bool := (0, 0, 0, 0, [], 0, false)
theorem wr_add (a j : Nat) (h : a ≤ 100000) (hj : j ≤ 100000) : wrap64 ((a : Int) + (j : Int)) = ((a + j : Nat) : Int) := by
  rw [wrap_id (by omega) (by omega)]
  omega
theorem wr_sub1 (y q : Nat) (hy : y ≤ 100000) (hq : q ≤ 100000) : wrap64 (wrap64 ((y : Int) - (q : Int)) - 1) = (y : Int) - (q : Int) - 1 := by
  rw [wrap_id (x := (y : Int) - (q : Int)) (by omega) (by omega), wrap_id (by omega) (by omega)]
theorem wr_add1 (q b : Nat) (hq : q ≤ 100000) (hb : b ≤ 100000) : wrap64 ((q : Int) + wrap64 (1 + (b : Int))) = ((q + 1 + b : Nat) : Int) := by
  rw [wrap_id (x := 1 + (b : Int)) (by omega) (by omega), wrap_id (by omega) (by omega)]
  omega
theorem wr_add2 (a q : Nat) (ha : a ≤ 100000) (hq : q ≤ 100000) : wrap64 (wrap64 ((a : Int) + (q : Int)) + 2) = ((a + q + 2 : Nat) : Int) := by
  rw [wrap_id (x := (a : Int) + (q : Int)) (by omega) (by omega), wrap_id (by omega) (by omega)]
  omega
theorem wr_less (c : Nat) (h : c ≤ 100000) : wrap64 (((c + 1 : Nat) : Int) - 1) = (c : Int) := by
  rw [wrap_id (by omega) (by omega)]
  omega
theorem wr_bt (x : ByteArray) (q : Nat) : wrap64 (bt x (q : Int)) = ((byN x q : Nat) : Int) := by
  have hbl := byN_le x q
  rw [bt_byN]
  exact wrap_id (by omega) (by omega)
open Classical in
noncomputable def finS (x : ByteArray) (a y : Nat) (o e p s : Int) (l : List ByteArray) : TR :=
  if GB o e p s l ∧ bb o e p s l = x.extract a y then (o, e, p, s, l, (y : Int)) else zS
open Classical in
noncomputable def finI (x : ByteArray) (a : Nat) (o e p s : Int) (l : List ByteArray) (q : Nat) : Int × Int × Int × Int × List ByteArray × Int × Bool :=
  if GB o e p s l ∧ a + (bb o e p s l).size ≤ x.size ∧ x.extract a (a + (bb o e p s l).size) = bb o e p s l then (o, e, p, s, l, ((q + 2 : Nat) : Int), true) else zI
theorem finS_pos (x : ByteArray) (a y : Nat) (o e p s : Int) (l : List ByteArray) (h1 : GB o e p s l) (h2 : bb o e p s l = x.extract a y) : finS x a y o e p s l = (o, e, p, s, l, (y : Int)) := by
  unfold finS
  exact if_pos ⟨h1, h2⟩
theorem finS_neg (x : ByteArray) (a y : Nat) (o e p s : Int) (l : List ByteArray) (h : ¬ (GB o e p s l ∧ bb o e p s l = x.extract a y)) : finS x a y o e p s l = zS := by
  unfold finS
  exact if_neg h
theorem finI_pos (x : ByteArray) (a : Nat) (o e p s : Int) (l : List ByteArray) (q : Nat) (h : GB o e p s l ∧ a + (bb o e p s l).size ≤ x.size ∧ x.extract a (a + (bb o e p s l).size) = bb o e p s l) : finI x a o e p s l q = (o, e, p, s, l, ((q + 2 : Nat) : Int), true) := by
  unfold finI
  exact if_pos h
theorem finI_neg (x : ByteArray) (a : Nat) (o e p s : Int) (l : List ByteArray) (q : Nat) (h : ¬ (GB o e p s l ∧ a + (bb o e p s l).size ≤ x.size ∧ x.extract a (a + (bb o e p s l).size) = bb o e p s l)) : finI x a o e p s l q = zI := by
  unfold finI
  exact if_neg h
set_option maxHeartbeats 4000000 in
theorem sTake_l (x : ByteArray) (hx : x.size ≤ 1000) (a y : Nat) (hay : a ≤ y) (hy : y ≤ x.size) (o e p s : Int) : ∀ (c q : Nat) (l : List ByteArray), l.length + c ≤ 1000 → q ≤ 3000 →
    Ev (fun k => spec_l1Take.l0 k x (a : Int) (y : Int) (q : Int) (c : Int) o e p s l) ((prs x y c q l).elim zS fun r => finS x a y o e p s r.1)
  | 0, q, l, hl, hq => by
    rw [prs]
    show Ev _ (finS x a y o e p s l)
    obtain ⟨b, hb, hg⟩ := sGB_ev o e p s l (by omega)
    refine Ev.step (f := fun k => (spec_GoodBatch.f k o e p s l).bind fun t138 => (if t138 = true then ((spec_l1Batch.f k o e p s l).bind fun t139 => (if t139.toList = (x.extract a y).toList then (some (o, e, p, s, l, (y : Int))) else (some (0, 0, 0, 0, ([] : List ByteArray), 0)))) else (some (0, 0, 0, 0, ([] : List ByteArray), 0)))) (fun k => ?_) (Ev.bind hb ?_)
    · rw [spec_l1Take.l0, if_neg (by omega)]
      refine congrArg _ (funext fun t => ?_)
      refine ite_congr rfl (fun _ => ?_) (fun _ => rfl)
      refine congrArg _ (funext fun t => ?_)
      rw [if_pos (by omega), if_pos (by omega), if_pos (by omega), tn_nat, tn_nat]
    · cases b with
      | false =>
        rw [finS_neg x a y o e p s l (fun h => absurd (hg.2 h.1) (by decide))]
        exact Ev.ifn (by decide) (Ev.now _)
      | true =>
        refine Ev.ifp rfl (Ev.bind (batch_ev o e p s l (hg.1 rfl)).1 ?_)
        by_cases h : bb o e p s l = x.extract a y
        · rw [finS_pos x a y o e p s l (hg.1 rfl) h]
          exact Ev.ifp (by rw [h]) (Ev.now _)
        · rw [finS_neg x a y o e p s l (fun h' => h h'.2)]
          exact Ev.ifn (fun h' => h (tl_inj.1 h')) (Ev.now _)
  | c + 1, q, l, hl, hq => by
    have hbl := byN_le x q
    rw [prs]
    by_cases h1 : q < y
    · by_cases h2 : q + 1 + byN x q ≤ y
      · rw [if_pos ⟨h1, h2⟩]
        refine Ev.step (fun k => ?_) (sTake_l x hx a y hay hy o e p s c (q + 1 + byN x q) (l ++ [x.extract (q + 1) (q + 1 + byN x q)]) (by rw [List.length_append]; simp only [List.length_cons, List.length_nil]; omega) (by omega))
        rw [spec_l1Take.l0, wr_bt x q, wr_sub1 y q (by omega) (by omega), succ_wrap (show q ≤ 9000000000000000000 by omega), wr_add (q + 1) (byN x q) (by omega) (by omega), wr_add1 q (byN x q) (by omega) (by omega), wr_less c (by omega), if_pos (by omega), if_neg (by omega), if_pos (by omega), if_pos (by omega), if_neg (by omega), if_pos (by omega), if_pos (by omega), if_pos (by omega), if_pos (by omega), tn_nat, tn_nat]
      · rw [if_neg (fun h => h2 h.2)]
        refine Ev.step (f := fun _ => some zS) (fun k => ?_) (Ev.now _)
        rw [spec_l1Take.l0, wr_bt x q, wr_sub1 y q (by omega) (by omega), if_pos (by omega), if_neg (by omega), if_pos (by omega), if_pos (by omega), if_pos (by omega)]
        rfl
    · rw [if_neg (fun h => h1 h.1)]
      refine Ev.step (f := fun _ => some zS) (fun k => ?_) (Ev.now _)
      rw [spec_l1Take.l0, if_pos (by omega), if_pos (by omega)]
      rfl
theorem ext2 (x : ByteArray) (a i j : Nat) (h : a + j ≤ x.size) : (x.extract a x.size).extract i j = x.extract (a + i) (a + j) := by
  rw [ByteArray.extract_extract, Nat.min_eq_left h]
theorem HP_eq (x t : ByteArray) (hx : x.size ≤ 1000) (ht : t.size ≤ 100000) : strings_HasPrefix.f x t = some (decide (t.size ≤ x.size ∧ x.extract 0 t.size = t)) := by
  unfold strings_HasPrefix.f stringslite_HasPrefix.f
  by_cases h : t.size ≤ x.size
  · rw [if_pos (by omega), if_pos (by omega), if_pos (by omega), tn_nat, Option.bind_some]
    refine congrArg some ?_
    refine Bool.eq_iff_iff.2 ?_
    rw [beq_iff_eq, decide_eq_true_iff, tl_inj]
    exact ⟨fun h' => ⟨h, h'⟩, fun h' => h'.2⟩
  · rw [if_neg (by omega), Option.bind_some, decide_eq_false (fun h' => h h'.1)]
set_option maxHeartbeats 4000000 in
theorem iTake_l (x : ByteArray) (hx : x.size ≤ 1000) (a : Nat) (ha : a ≤ x.size) (cnt : Nat) (hcnt : cnt ≤ 255) (o e p s : Int) : ∀ (d i q : Nat) (l : List ByteArray), i + d = cnt → l.length + d ≤ 1000 → q ≤ 1000 →
    Ev (fun k => impl_takeBatch.l0 k (a : Int) (x.extract a x.size) (q : Int) (cnt : Int) (i : Int) o e p s l) ((prs x x.size d (a + q) l).elim zI fun r => finI x a o e p s r.1 r.2)
  | 0, i, q, l, hd, hl, hq => by
    rw [prs]
    show Ev _ (finI x a o e p s l (a + q))
    obtain ⟨b, hb, hg⟩ := iGB_ev o e p s l
    have hsz : (x.extract a x.size).size = x.size - a := by rw [ByteArray.size_extract, Nat.min_self]
    refine Ev.step (f := fun k => (impl_isBatch.f o e p s l).bind fun t184 => (if t184 = true then ((impl_batchBytes.f k o e p s l).bind fun t185 => ((strings_HasPrefix.f (x.extract a x.size) t185).bind fun t186 => (if t186 = true then (some (o, e, p, s, l, ((a + q + 2 : Nat) : Int), true)) else (some (0, 0, 0, 0, ([] : List ByteArray), 0, false))))) else (some (0, 0, 0, 0, ([] : List ByteArray), 0, false)))) (fun k => ?_) (Ev.bind hb ?_)
    · rw [impl_takeBatch.l0, if_neg (by omega), wr_add2 a q (by omega) (by omega)]
    · cases b with
      | false =>
        rw [finI_neg x a o e p s l (a + q) (fun h => absurd (hg.2 h.1) (by decide))]
        exact Ev.ifn (by decide) (Ev.now _)
      | true =>
        have hgb := hg.1 rfl
        have hbs : (bb o e p s l).size ≤ 1000 := by
          have := rcl_le l hgb.1
          have := hgb.2.2.2.2.2
          rw [bb_size]
          omega
        refine Ev.ifp rfl (Ev.bind (batch_ev o e p s l hgb).2 ?_)
        rw [HP_eq _ _ (by omega) (by omega)]
        by_cases h : a + (bb o e p s l).size ≤ x.size ∧ x.extract a (a + (bb o e p s l).size) = bb o e p s l
        · rw [finI_pos x a o e p s l (a + q) ⟨hgb, h⟩, decide_eq_true (by
            refine ⟨by omega, ?_⟩
            rw [ext2 x a 0 _ h.1]
            exact h.2)]
          exact Ev.bind (Ev.now _) (Ev.ifp rfl (Ev.now _))
        · rw [finI_neg x a o e p s l (a + q) (fun h' => h h'.2), decide_eq_false (fun h' => h (by
            have h1 : a + (bb o e p s l).size ≤ x.size := by omega
            refine ⟨h1, ?_⟩
            have h2 := h'.2
            rw [ext2 x a 0 _ h1] at h2
            exact h2))]
          exact Ev.bind (Ev.now _) (Ev.ifn (by decide) (Ev.now _))
  | d + 1, i, q, l, hd, hl, hq => by
    have hsz : (x.extract a x.size).size = x.size - a := by rw [ByteArray.size_extract, Nat.min_self]
    have hbl := byN_le x (a + q)
    rw [prs]
    by_cases h1 : a + q < x.size
    · have hv : val ((x.extract a x.size).extract q (q + 1)) = byN x (a + q) := by
        rw [ext2 x a q (q + 1) (by omega)]
        exact val1 x (a + q) (by omega)
      have hz1 : ((x.extract a x.size).extract q (q + 1)).size ≤ 4 := by
        rw [ByteArray.size_extract]
        omega
      have hget := iVal_ev _ hz1
      rw [hv] at hget
      by_cases h2 : a + q + 1 + byN x (a + q) ≤ x.size
      · rw [if_pos ⟨h1, h2⟩]
        have ih := iTake_l x hx a ha cnt hcnt o e p s d (i + 1) (q + 1 + byN x (a + q)) (l ++ [x.extract (a + q + 1) (a + q + 1 + byN x (a + q))]) (by omega) (by rw [List.length_append]; simp only [List.length_cons, List.length_nil]; omega) (by omega)
        have ea : a + (q + 1 + byN x (a + q)) = a + q + 1 + byN x (a + q) := by omega
        rw [ea] at ih
        refine Ev.step (f := fun k => (impl_get.f k ((x.extract a x.size).extract q (q + 1))).bind fun t179 => (if (wrap64 (((q + 1 : Nat) : Int) + t179)) > ((x.extract a x.size).size : Int) then (some (0, 0, 0, 0, ([] : List ByteArray), 0, false)) else ((impl_get.f k ((x.extract a x.size).extract q (q + 1))).bind fun t180 => (if (0 : Int) ≤ ((q + 1 : Nat) : Int) then (if ((q + 1 : Nat) : Int) ≤ (wrap64 (((q + 1 : Nat) : Int) + t180)) then (if (wrap64 (((q + 1 : Nat) : Int) + t180)) ≤ ((x.extract a x.size).size : Int) then (if l.length < 8796093022208 then (impl_takeBatch.l0 k (a : Int) (x.extract a x.size) (wrap64 (((q + 1 : Nat) : Int) + t180)) (cnt : Int) ((i + 1 : Nat) : Int) o e p s (l ++ [(x.extract a x.size).extract ((q + 1 : Nat) : Int).toNat ((wrap64 (((q + 1 : Nat) : Int) + t180)) : Int).toNat])) else (none)) else (none)) else (none)) else (none))))) (fun k => ?_) (Ev.bind hget ?_)
        · rw [impl_takeBatch.l0, succ_wrap (i := q) (by omega), if_pos (by omega), if_neg (by omega), if_pos (by omega), if_pos (by omega), if_pos (by omega), succ_wrap (i := i) (by omega)]
          rfl
        · refine Ev.ifn (by rw [wr_add (q + 1) (byN x (a + q)) (by omega) (by omega)]; omega) (Ev.bind hget (Ev.ifp (by omega) (Ev.ifp (by rw [wr_add (q + 1) (byN x (a + q)) (by omega) (by omega)]; omega) (Ev.ifp (by rw [wr_add (q + 1) (byN x (a + q)) (by omega) (by omega)]; omega) (Ev.ifp (by omega) ?_)))))
          rw [wr_add (q + 1) (byN x (a + q)) (by omega) (by omega), tn_nat, tn_nat, ext2 x a (q + 1) (q + 1 + byN x (a + q)) (by omega), ea, ← Nat.add_assoc]
          exact ih
      · rw [if_neg (fun h => h2 h.2)]
        refine Ev.step (f := fun k => (impl_get.f k ((x.extract a x.size).extract q (q + 1))).bind fun t179 => (if (wrap64 (((q + 1 : Nat) : Int) + t179)) > ((x.extract a x.size).size : Int) then (some (0, 0, 0, 0, ([] : List ByteArray), 0, false)) else ((impl_get.f k ((x.extract a x.size).extract q (q + 1))).bind fun t180 => (if (0 : Int) ≤ ((q + 1 : Nat) : Int) then (if ((q + 1 : Nat) : Int) ≤ (wrap64 (((q + 1 : Nat) : Int) + t180)) then (if (wrap64 (((q + 1 : Nat) : Int) + t180)) ≤ ((x.extract a x.size).size : Int) then (if l.length < 8796093022208 then (impl_takeBatch.l0 k (a : Int) (x.extract a x.size) (wrap64 (((q + 1 : Nat) : Int) + t180)) (cnt : Int) ((i + 1 : Nat) : Int) o e p s (l ++ [(x.extract a x.size).extract ((q + 1 : Nat) : Int).toNat ((wrap64 (((q + 1 : Nat) : Int) + t180)) : Int).toNat])) else (none)) else (none)) else (none)) else (none))))) (fun k => ?_) (Ev.bind hget ?_)
        · rw [impl_takeBatch.l0, succ_wrap (i := q) (by omega), if_pos (by omega), if_neg (by omega), if_pos (by omega), if_pos (by omega), if_pos (by omega), succ_wrap (i := i) (by omega)]
          rfl
        · exact Ev.ifp (by rw [wr_add (q + 1) (byN x (a + q)) (by omega) (by omega)]; omega) (Ev.now _)
    · rw [if_neg (fun h => h1 h.1)]
      refine Ev.step (f := fun _ => some zI) (fun k => ?_) (Ev.now _)
      rw [impl_takeBatch.l0, if_pos (by omega), if_pos (by omega)]
      rfl
theorem bb_val (o e p s : Int) (l : List ByteArray) (h : 12 + rcl l < 65536) : byN (bb o e p s l) 0 * 256 + byN (bb o e p s l) 1 = 12 + rcl l := by
  have hz : (rcs l (hdr o e p s l.length)).size = 10 + rcl l := by rw [rcs_size, hdr_size]
  have e1 : ∀ i, i < 2 → byN (bb o e p s l) i = byN (byt (((rcs l (hdr o e p s l.length)).size + 2 : Nat) : Int) 2) i := fun i hi => by
    unfold bb fin
    rw [byN_app _ _ i (by rw [ByteArray.size_append, byt_size]; omega), byN_app _ _ i (by rw [byt_size]; omega)]
  rw [e1 0 (by omega), e1 1 (by omega), byt2 _ (by omega)]
  omega
open Classical in
noncomputable def SV (x : ByteArray) (a c : Nat) (o e p s : Int) : TR :=
  if a + 2 + val (x.extract a (a + 2)) ≤ x.size then (prs x (a + 2 + val (x.extract a (a + 2))) c (a + 12) []).elim zS fun r => finS x a (a + 2 + val (x.extract a (a + 2))) o e p s r.1 else zS
noncomputable def IV (x : ByteArray) (a c : Nat) (o e p s : Int) : Int × Int × Int × Int × List ByteArray × Int × Bool := (prs x x.size c (a + 12) []).elim zI fun r => finI x a o e p s r.1 r.2
def okI (x : ByteArray) (a c : Nat) (o e p s : Int) (l : List ByteArray) (E : Nat) : Prop :=
  prs x x.size c (a + 12) [] = some (l, E) ∧ GB o e p s l ∧ a + (bb o e p s l).size ≤ x.size ∧ x.extract a (a + (bb o e p s l).size) = bb o e p s l
theorem IV_no (x : ByteArray) (a c : Nat) (o e p s : Int) (h : ∀ l E, ¬ okI x a c o e p s l E) : IV x a c o e p s = zI := by
  unfold IV
  cases hp : prs x x.size c (a + 12) [] with
  | none => rfl
  | some r =>
    exact finI_neg x a o e p s r.1 r.2 (fun h' => h r.1 r.2 ⟨hp, h'⟩)
set_option maxHeartbeats 4000000 in
theorem sTake_ev (x : ByteArray) (hx : x.size ≤ 600) (a : Nat) (ha : a + 14 ≤ x.size) :
    Ev (fun k => spec_l1Take.f k x (a : Int)) (SV x a (byN x (a + 11)) (val (x.extract (a + 2) (a + 5)) : Int) (val (x.extract (a + 5) (a + 7)) : Int) (val (x.extract (a + 7) (a + 9)) : Int) (val (x.extract (a + 9) (a + 11)) : Int)) := by
  have hsz : ∀ i j : Nat, j ≤ i + 4 → (x.extract i j).size ≤ 4 := fun i j h => by
    rw [ByteArray.size_extract]
    omega
  have a9 : a ≤ 1000 := by omega
  have hv : val (x.extract a (a + 2)) ≤ 65535 := by
    have h1 := byN_le x a
    have h2 := byN_le x (a + 1)
    rw [val2 x a (by omega)]
    omega
  have wn : wrap64 ((x.size : Int) - (a : Int)) = (x.size : Int) - (a : Int) := wrap_id (by omega) (by omega)
  have w : ∀ j : Nat, j ≤ 12 → wrap64 ((a : Int) + (j : Int)) = ((a + j : Nat) : Int) := fun j hj => wr_add a j (by omega) (by omega)
  have w2 : wrap64 ((a : Int) + 2) = ((a + 2 : Nat) : Int) := w 2 (by decide)
  have w5 : wrap64 ((a : Int) + 5) = ((a + 5 : Nat) : Int) := w 5 (by decide)
  have w7 : wrap64 ((a : Int) + 7) = ((a + 7 : Nat) : Int) := w 7 (by decide)
  have w9 : wrap64 ((a : Int) + 9) = ((a + 9 : Nat) : Int) := w 9 (by decide)
  have w11 : wrap64 ((a : Int) + 11) = ((a + 11 : Nat) : Int) := w 11 (by decide)
  have w12 : wrap64 ((a : Int) + 12) = ((a + 12 : Nat) : Int) := w 12 (by decide)
  have hbt : wrap64 (bt x ((a + 11 : Nat) : Int)) = ((byN x (a + 11) : Nat) : Int) := wr_bt x (a + 11)
  unfold spec_l1Take.f
  simp only [w2, w5, w7, w9, w11, w12, wn, hbt, tn_nat]
  clear w w2 w5 w7 w9 w11 w12 wn hbt
  refine Ev.ifn (by omega) (Ev.ifp (by omega) (Ev.ifp (by omega) (Ev.ifp (by omega) (Ev.bind (sVal_ev _ (hsz _ _ (by omega))) ?_))))
  rw [wr_add (a + 2) (val (x.extract a (a + 2))) (by omega) (by omega)]
  unfold SV
  by_cases hy : a + 2 + val (x.extract a (a + 2)) ≤ x.size
  · rw [if_pos hy]
    refine Ev.ifn (by omega) (Ev.ifp (by omega) (Ev.ifp (by omega) (Ev.ifp (by omega) (Ev.bind (sVal_ev _ (hsz _ _ (by omega))) (Ev.ifp (by omega) (Ev.ifp (by omega) (Ev.ifp (by omega) (Ev.bind (sVal_ev _ (hsz _ _ (by omega))) (Ev.ifp (by omega) (Ev.ifp (by omega) (Ev.ifp (by omega) (Ev.bind (sVal_ev _ (hsz _ _ (by omega))) (Ev.ifp (by omega) (Ev.ifp (by omega) (Ev.ifp (by omega) (Ev.bind (sVal_ev _ (hsz _ _ (by omega))) (Ev.ifp (by omega) (Ev.ifp (by omega) ?_))))))))))))))))))
    have := byN_le x (a + 11)
    exact sTake_l x (by omega) a _ (by omega) hy _ _ _ _ (byN x (a + 11)) (a + 12) [] (by simp only [List.length_nil]; omega) (by omega)
  · rw [if_neg hy]
    exact Ev.ifp (by omega) (Ev.now _)
set_option maxHeartbeats 4000000 in
theorem iTake_ev (x : ByteArray) (hx : x.size ≤ 600) (a : Nat) (ha : a + 12 ≤ x.size) :
    Ev (fun k => impl_takeBatch.f k x (a : Int)) (IV x a (byN x (a + 11)) (val (x.extract (a + 2) (a + 5)) : Int) (val (x.extract (a + 5) (a + 7)) : Int) (val (x.extract (a + 7) (a + 9)) : Int) (val (x.extract (a + 9) (a + 11)) : Int)) := by
  have hs : (x.extract a x.size).size = x.size - a := by rw [ByteArray.size_extract, Nat.min_self]
  have hsz : ∀ i j : Nat, j ≤ i + 4 → (x.extract i j).size ≤ 4 := fun i j h => by
    rw [ByteArray.size_extract]
    omega
  have hcv : val (x.extract (a + 11) (a + 12)) = byN x (a + 11) := val1 x (a + 11) (by omega)
  unfold impl_takeBatch.f
  simp only [tn_nat, ext2 x a 2 5 (by omega), ext2 x a 5 7 (by omega), ext2 x a 7 9 (by omega), ext2 x a 9 11 (by omega), ext2 x a 11 12 (by omega), hs]
  refine Ev.ifp (by omega) (Ev.ifp (by omega) (Ev.ifn (by omega) ?_))
  refine Ev.ifp (by omega) (Ev.ifp (by omega) (Ev.bind (iVal_ev _ (hsz _ _ (by omega))) ?_))
  refine Ev.ifp (by omega) (Ev.ifp (by omega) (Ev.bind (iVal_ev _ (hsz _ _ (by omega))) ?_))
  refine Ev.ifp (by omega) (Ev.ifp (by omega) (Ev.bind (iVal_ev _ (hsz _ _ (by omega))) ?_))
  refine Ev.ifp (by omega) (Ev.ifp (by omega) (Ev.bind (iVal_ev _ (hsz _ _ (by omega))) ?_))
  refine Ev.ifp (by omega) (Ev.ifp (by omega) (Ev.bind (iVal_ev _ (hsz _ _ (by omega))) ?_))
  rw [hcv]
  have := byN_le x (a + 11)
  exact iTake_l x (by omega) a (by omega) (byN x (a + 11)) this _ _ _ _ (byN x (a + 11)) 0 12 [] (by omega) (by simp only [List.length_nil]; omega) (by omega)

theorem ba_nat (l : List S44) (i : Nat) : rd_T44 l (i : Int) = l.getD i z44 := rfl

def GBx (x : S44) : Prop := GB x.f0 x.f1 x.f2 x.f3 x.f4
def NX (a b : S44) : Prop := b.f0 = wrap64 (a.f0 + (a.f4.length : Int)) ∧ b.f1 ≥ a.f1
theorem sNX_ev (a b : S44) : EvB (fun _ => spec_l1Next.f a.f0 a.f1 a.f2 a.f3 a.f4 b.f0 b.f1 b.f2 b.f3 b.f4) (NX a b) := by
  unfold spec_l1Next.f NX
  by_cases h : b.f0 = wrap64 (a.f0 + (a.f4.length : Int))
  · exact ⟨decide (b.f1 ≥ a.f1), Ev.ifp h (Ev.now _), by rw [decide_eq_true_iff]; exact ⟨fun h' => ⟨h, h'⟩, fun h' => h'.2⟩⟩
  · exact ⟨false, Ev.ifn h (Ev.now _), Iff.intro (fun h => by cases h) (fun h' => absurd h'.1 h)⟩

noncomputable def bbx (x : S44) : ByteArray := bb x.f0 x.f1 x.f2 x.f3 x.f4
theorem bbx_size (x : S44) (h : GBx x) : 14 ≤ (bbx x).size ∧ (bbx x).size ≤ 182 := by
  obtain ⟨hs, _, _, _, _, hl⟩ := h
  have := rcl_le x.f4 hs
  unfold bbx
  rw [bb_size]
  omega

theorem cmp_take2 (x : ByteArray) (hx : x.size ≤ 600) (a c : Nat) (ha : a + 12 ≤ x.size) (hc : c ≤ 255) (o e p s : Int) :
    (∃ l E, okI x a c o e p s l E ∧ SV x a c o e p s = (o, e, p, s, l, ((a + (bb o e p s l).size : Nat) : Int)) ∧ IV x a c o e p s = (o, e, p, s, l, ((a + (bb o e p s l).size : Nat) : Int), true)) ∨
    ((∀ l E, ¬ okI x a c o e p s l E) ∧ SV x a c o e p s = zS ∧ IV x a c o e p s = zI) := by
  by_cases hI : ∃ l E, okI x a c o e p s l E
  · obtain ⟨l, E, hp, hg, hb1, hb2⟩ := hI
    obtain ⟨i1, _, i3, i4⟩ := prs_inv x x.size (Nat.le_refl _) c (a + 12) [] l E hp
    have hz := bb_size o e p s l
    have r0 : rcl [] = 0 := rfl
    have hv : val (x.extract a (a + 2)) = 12 + rcl l := by
      have e0 := byN_ext x a (a + (bb o e p s l).size) 0 (by omega) hb1
      have e1 := byN_ext x a (a + (bb o e p s l).size) 1 (by omega) hb1
      rw [hb2, Nat.add_zero] at e0
      rw [hb2] at e1
      rw [val2 x a (by omega), ← e0, ← e1]
      exact bb_val o e p s l (by omega)
    have hy : a + 2 + val (x.extract a (a + 2)) = E + 2 := by omega
    have hE : E + 2 = a + (bb o e p s l).size := by omega
    refine .inl ⟨l, E, ⟨hp, hg, hb1, hb2⟩, ?_, ?_⟩
    · rw [← hE]
      unfold SV
      rw [hy, if_pos (by omega), prs_mono x x.size (E + 2) c (a + 12) [] l E hp (by omega) (Nat.le_refl _)]
      exact finS_pos x a (E + 2) o e p s l hg (by rw [hE]; exact hb2.symm)
    · rw [← hE]
      unfold IV
      rw [hp]
      exact finI_pos x a o e p s l E ⟨hg, hb1, hb2⟩
  · refine .inr ⟨fun l E h => hI ⟨l, E, h⟩, ?_, IV_no x a c o e p s (fun l E h => hI ⟨l, E, h⟩)⟩
    unfold SV
    by_cases hy : a + 2 + val (x.extract a (a + 2)) ≤ x.size
    · rw [if_pos hy]
      cases hp : prs x (a + 2 + val (x.extract a (a + 2))) c (a + 12) [] with
      | none => rfl
      | some r =>
        show finS x a (a + 2 + val (x.extract a (a + 2))) o e p s r.1 = zS
        by_cases h : GB o e p s r.1 ∧ bb o e p s r.1 = x.extract a (a + 2 + val (x.extract a (a + 2)))
        · exfalso
          obtain ⟨i1, i2, i3, i4⟩ := prs_inv x _ hy c (a + 12) [] r.1 r.2 hp
          have r0 : rcl [] = 0 := rfl
          have hz := bb_size o e p s r.1
          have hz2 : (bb o e p s r.1).size = 2 + val (x.extract a (a + 2)) := by
            rw [h.2, ByteArray.size_extract]
            omega
          have hc0 : 0 < c := by
            have := h.1.2.2.2.2.2
            have l0 : ([] : List ByteArray).length = 0 := rfl
            omega
          have hE := i2 hc0
          have hs : a + (bb o e p s r.1).size = a + 2 + val (x.extract a (a + 2)) := by omega
          exact hI ⟨r.1, r.2, prs_mono x _ x.size c (a + 12) [] r.1 r.2 hp (by omega) hy, h.1, by omega, by rw [hs]; exact h.2.symm⟩
        · exact finS_neg x a _ o e p s r.1 h
    · rw [if_neg hy]
def vO (x : ByteArray) (a : Nat) : Int := (val (x.extract (a + 2) (a + 5)) : Int)
def vE (x : ByteArray) (a : Nat) : Int := (val (x.extract (a + 5) (a + 7)) : Int)
def vP (x : ByteArray) (a : Nat) : Int := (val (x.extract (a + 7) (a + 9)) : Int)
def vQ (x : ByteArray) (a : Nat) : Int := (val (x.extract (a + 9) (a + 11)) : Int)
def AT (x : ByteArray) (a : Nat) (b : S44) : Prop := ∃ E, okI x a (byN x (a + 11)) (vO x a) (vE x a) (vP x a) (vQ x a) b.f4 E ∧ a + 12 ≤ x.size ∧ b = ⟨vO x a, vE x a, vP x a, vQ x a, b.f4⟩
theorem AT_uniq {x : ByteArray} {a : Nat} {b c : S44} (h : AT x a b) (k : AT x a c) : b = c := by
  obtain ⟨E, h1, _, h2⟩ := h
  obtain ⟨F, k1, _, k2⟩ := k
  have e := (Prod.mk.inj (Option.some.inj (h1.1.symm.trans k1.1))).1
  rw [h2, k2, e]
theorem AT_good {x : ByteArray} {a : Nat} {b : S44} (h : AT x a b) : GBx b ∧ a + (bbx b).size ≤ x.size ∧ x.extract a (a + (bbx b).size) = bbx b := by
  obtain ⟨E, h1, _, h2⟩ := h
  have := h1.2
  unfold GBx bbx
  rw [h2]
  exact this
open Classical in
noncomputable def TK (x : ByteArray) (a : Nat) : Option S44 := if h : ∃ b, AT x a b then some (Classical.choose h) else none
theorem TK_some {x : ByteArray} {a : Nat} {b : S44} : TK x a = some b ↔ AT x a b := by
  unfold TK
  by_cases h : ∃ b, AT x a b
  · rw [dif_pos h]
    refine ⟨fun e => ?_, fun e => by rw [AT_uniq (Classical.choose_spec h) e]⟩
    rw [← Option.some.inj e]
    exact Classical.choose_spec h
  · rw [dif_neg h]
    exact ⟨(fun e => by cases e), fun e => absurd ⟨b, e⟩ h⟩
theorem TK_none {x : ByteArray} {a : Nat} : TK x a = none ↔ ∀ b, ¬ AT x a b := by
  rw [Option.eq_none_iff_forall_ne_some]
  exact ⟨fun h b hb => h b (TK_some.2 hb), fun h b hb => h b (TK_some.1 hb)⟩
noncomputable def tS (x : ByteArray) (a : Nat) : TR := (TK x a).elim zS fun b => (b.f0, b.f1, b.f2, b.f3, b.f4, ((a + (bbx b).size : Nat) : Int))
noncomputable def tI (x : ByteArray) (a : Nat) : Int × Int × Int × Int × List ByteArray × Int × Bool := (TK x a).elim zI fun b => (b.f0, b.f1, b.f2, b.f3, b.f4, ((a + (bbx b).size : Nat) : Int), true)
theorem take_both (x : ByteArray) (hx : x.size ≤ 600) (a : Nat) (ha : a ≤ x.size) : (a < x.size → Ev (fun k => spec_l1Take.f k x (a : Int)) (tS x a)) ∧ Ev (fun k => impl_takeBatch.f k x (a : Int)) (tI x a) := by
  by_cases h12 : a + 12 ≤ x.size
  · have hi := iTake_ev x hx a h12
    rcases cmp_take2 x hx a (byN x (a + 11)) h12 (byN_le _ _) (vO x a) (vE x a) (vP x a) (vQ x a) with ⟨l, E, hok, e1, e2⟩ | ⟨hno, e1, e2⟩
    · have hz := bb_size (vO x a) (vE x a) (vP x a) (vQ x a) l
      have h14 : a + 14 ≤ x.size := by have := hok.2.2.1; omega
      have hT : TK x a = some ⟨vO x a, vE x a, vP x a, vQ x a, l⟩ := TK_some.2 ⟨E, hok, h12, rfl⟩
      unfold tS tI
      rw [hT]
      refine ⟨fun _ => ?_, ?_⟩
      · have hs := sTake_ev x hx a h14
        have h2 : Ev _ (SV x a (byN x (a + 11)) (vO x a) (vE x a) (vP x a) (vQ x a)) := hs
        rw [e1] at h2; exact h2
      · have h2 : Ev _ (IV x a (byN x (a + 11)) (vO x a) (vE x a) (vP x a) (vQ x a)) := hi
        rw [e2] at h2; exact h2
    · have hT : TK x a = none := TK_none.2 fun b ⟨E, h, _, _⟩ => hno _ _ h
      unfold tS tI
      rw [hT]
      refine ⟨fun _ => ?_, ?_⟩
      · by_cases h14 : a + 14 ≤ x.size
        · have hs := sTake_ev x hx a h14
          have h2 : Ev _ (SV x a (byN x (a + 11)) (vO x a) (vE x a) (vP x a) (vQ x a)) := hs
          rw [e1] at h2; exact h2
        · show Ev _ zS
          unfold spec_l1Take.f
          exact Ev.ifp (by rw [wrap_id (by omega) (by omega)]; omega) (Ev.now _)
      · have h2 : Ev _ (IV x a (byN x (a + 11)) (vO x a) (vE x a) (vP x a) (vQ x a)) := hi
        rw [e2] at h2; exact h2
  · have hT : TK x a = none := TK_none.2 fun b ⟨E, _, h, _⟩ => h12 h
    unfold tS tI
    rw [hT]
    refine ⟨fun h1 => ?_, ?_⟩
    · show Ev _ zS
      unfold spec_l1Take.f
      exact Ev.ifp (by rw [wrap_id (by omega) (by omega)]; omega) (Ev.now _)
    · show Ev _ zI
      unfold impl_takeBatch.f
      exact Ev.ifp (by omega) (Ev.ifp (by omega) (Ev.ifp (by rw [tn_nat, ByteArray.size_extract]; omega) (Ev.now _)))

open Classical in
noncomputable def RD (x : ByteArray) : Nat → List S44 → Nat → List S44 × Nat
  | 0, l, a => (l, a)
  | d + 1, l, a => (TK x a).elim (l, a) fun b => if l.length = 0 ∨ NX (l.getD (l.length - 1) z44) b then RD x d (l ++ [b]) (a + (bbx b).size) else (l, a)
theorem RD_at (x : ByteArray) : ∀ (d : Nat) (l : List S44) (a : Nat), a ≤ x.size → (RD x d l a).2 ≤ x.size ∧ l.length ≤ (RD x d l a).1.length ∧ a + 14 * ((RD x d l a).1.length - l.length) ≤ (RD x d l a).2 ∧
    ((∀ b ∈ l, GBx b) → ∀ b ∈ (RD x d l a).1, GBx b)
  | 0, l, a, ha => ⟨ha, Nat.le_refl _, by show a + 14 * (l.length - l.length) ≤ a; omega, fun h => h⟩
  | d + 1, l, a, ha => by
    rw [RD]
    cases hT : TK x a with
    | none => exact ⟨ha, Nat.le_refl _, by show a + 14 * (l.length - l.length) ≤ a; omega, fun h => h⟩
    | some b =>
      show _
      simp only [Option.elim_some]
      by_cases hn : l.length = 0 ∨ NX (l.getD (l.length - 1) z44) b
      · rw [if_pos hn]
        have hg := AT_good (TK_some.1 hT)
        have hz := bbx_size b hg.1
        obtain ⟨h1, h2, h3, h4⟩ := RD_at x d (l ++ [b]) (a + (bbx b).size) hg.2.1
        rw [List.length_append, List.length_singleton] at h2 h3
        refine ⟨h1, by omega, by omega, fun h => h4 fun y hy => ?_⟩
        rcases List.mem_append.1 hy with hy | hy
        · exact h y hy
        · rw [List.mem_singleton.1 hy]
          exact hg.1
      · rw [if_neg hn]
        exact ⟨ha, Nat.le_refl _, by show a + 14 * (l.length - l.length) ≤ a; omega, fun h => h⟩
theorem iFW2 (l : List S44) (hl : l.length ≤ 1048576) (b : S44) : EvB (fun _ => impl_follows.f l b.f0 b.f1 b.f2 b.f3 b.f4) (l.length = 0 ∨ NX (l.getD (l.length - 1) z44) b) := by
  unfold impl_follows.f impl_Batch_end.f
  by_cases h0 : l.length = 0
  · exact ⟨true, Ev.ifp (by omega) (Ev.now _), ⟨fun _ => .inl h0, fun _ => rfl⟩⟩
  · rw [pred_wrap (by omega) (by omega), ba_nat]
    unfold NX
    by_cases h : b.f0 = wrap64 ((l.getD (l.length - 1) z44).f0 + ((l.getD (l.length - 1) z44).f4.length : Int))
    · exact ⟨decide (b.f1 ≥ (l.getD (l.length - 1) z44).f1), Ev.ifn (by omega) (Ev.ifp (by omega) (Ev.ifp (by omega) (Ev.bind (Ev.now _) (Ev.ifp h (Ev.now _))))), by rw [decide_eq_true_iff]; exact ⟨fun h' => .inr ⟨h, h'⟩, fun h' => (h'.resolve_left h0).2⟩⟩
    · exact ⟨false, Ev.ifn (by omega) (Ev.ifp (by omega) (Ev.ifp (by omega) (Ev.bind (Ev.now _) (Ev.ifn h (Ev.now _))))), Iff.intro (fun h => by cases h) (fun h' => absurd (h'.resolve_left h0).1 h)⟩
theorem read_both (x : ByteArray) (hx : x.size ≤ 600) : ∀ (d : Nat) (l : List S44) (a : Nat), a ≤ x.size → x.size - a ≤ d → l.length + d ≤ 1000 →
    Ev (fun k => spec_l1Read.l0 k x l (a : Int)) ((RD x d l a).1, ((RD x d l a).2 : Int)) ∧ Ev (fun k => impl_readLog.l0 k x l (a : Int)) ((RD x d l a).1, ((RD x d l a).2 : Int))
  | 0, l, a, ha, hd, hl => by
    have e : a = x.size := by omega
    have hT : TK x a = none := TK_none.2 fun b ⟨E, _, h, _⟩ => by omega
    have hi := (take_both x hx a ha).2
    unfold tI at hi
    rw [hT] at hi
    refine ⟨Ev.step (f := fun _ => some (l, (a : Int))) (fun k => by rw [spec_l1Read.l0, if_neg (by omega)]) (Ev.now _), ?_⟩
    refine Ev.step (f := fun k => (impl_takeBatch.f k x (a : Int)).bind fun t => if t.2.2.2.2.2.2 = true then ((impl_follows.f l t.1 t.2.1 t.2.2.1 t.2.2.2.1 t.2.2.2.2.1).bind fun u => (if u = true then (if l.length < 2513169434916 then (impl_readLog.l0 k x (l ++ [(⟨t.1, t.2.1, t.2.2.1, t.2.2.2.1, t.2.2.2.2.1⟩ : S44)]) t.2.2.2.2.2.1) else none) else some (l, (a : Int)))) else some (l, (a : Int))) (fun k => by rw [impl_readLog.l0]) (Ev.bind hi ?_)
    exact Ev.ifn (show ¬ (false = true) by decide) (Ev.now _)
  | d + 1, l, a, ha, hd, hl => by
    obtain ⟨hs, hi⟩ := take_both x hx a ha
    have iSt : ∀ k, impl_readLog.l0 (k + 1) x l (a : Int) = (impl_takeBatch.f k x (a : Int)).bind fun t => if t.2.2.2.2.2.2 = true then ((impl_follows.f l t.1 t.2.1 t.2.2.1 t.2.2.2.1 t.2.2.2.2.1).bind fun u => (if u = true then (if l.length < 2513169434916 then (impl_readLog.l0 k x (l ++ [(⟨t.1, t.2.1, t.2.2.1, t.2.2.2.1, t.2.2.2.2.1⟩ : S44)]) t.2.2.2.2.2.1) else none) else some (l, (a : Int)))) else some (l, (a : Int)) := fun k => by rw [impl_readLog.l0]
    have sSt : a < x.size → ∀ k, spec_l1Read.l0 (k + 1) x l (a : Int) = (spec_l1Take.f k x (a : Int)).bind fun t => if t.2.2.2.2.2 = 0 then some (l, (a : Int)) else if (l.length : Int) > 0 then (if 0 ≤ (wrap64 ((l.length : Int) - 1)) then (if (wrap64 ((l.length : Int) - 1)) < (l.length : Int) then ((spec_l1Next.f (rd_T44 l (wrap64 ((l.length : Int) - 1))).f0 (rd_T44 l (wrap64 ((l.length : Int) - 1))).f1 (rd_T44 l (wrap64 ((l.length : Int) - 1))).f2 (rd_T44 l (wrap64 ((l.length : Int) - 1))).f3 (rd_T44 l (wrap64 ((l.length : Int) - 1))).f4 t.1 t.2.1 t.2.2.1 t.2.2.2.1 t.2.2.2.2.1).bind fun u => (if u = true then (if l.length < 2513169434916 then (spec_l1Read.l0 k x (l ++ [(⟨t.1, t.2.1, t.2.2.1, t.2.2.2.1, t.2.2.2.2.1⟩ : S44)]) t.2.2.2.2.2) else none) else some (l, (a : Int)))) else none) else none) else (if l.length < 2513169434916 then (spec_l1Read.l0 k x (l ++ [(⟨t.1, t.2.1, t.2.2.1, t.2.2.2.1, t.2.2.2.2.1⟩ : S44)]) t.2.2.2.2.2) else none) := fun h1 k => by
      rw [spec_l1Read.l0, if_pos (by omega)]
    rw [RD]
    unfold tS at hs
    unfold tI at hi
    cases hT : TK x a with
    | none =>
      rw [hT] at hs hi
      refine ⟨?_, Ev.step iSt (Ev.bind hi (Ev.ifn (show ¬ (false = true) by decide) (Ev.now _)))⟩
      by_cases h1 : a < x.size
      · exact Ev.step (sSt h1) (Ev.bind (hs h1) (Ev.ifp rfl (Ev.now _)))
      · exact Ev.step (f := fun _ => some (l, (a : Int))) (fun k => by rw [spec_l1Read.l0, if_neg (by omega)]) (Ev.now _)
    | some b =>
      rw [hT] at hs hi
      have hg := AT_good (TK_some.1 hT)
      have hz := bbx_size b hg.1
      have h1 : a < x.size := by omega
      have hne : ¬ (((a + (bbx b).size : Nat) : Int) = 0) := by omega
      have ih := read_both x hx d (l ++ [b]) (a + (bbx b).size) hg.2.1 (by omega)
      obtain ⟨c, hc, hq⟩ := iFW2 l (by omega) b
      simp only [Option.elim_some]
      by_cases h0 : l.length = 0
      · have hcond : l.length = 0 ∨ NX (l.getD (l.length - 1) z44) b := .inl h0
        rw [if_pos hcond]
        obtain ⟨ih1, ih2⟩ := ih (by rw [List.length_append, List.length_singleton]; omega)
        have hct : c = true := hq.2 hcond
        rw [hct] at hc
        exact ⟨Ev.step (sSt h1) (Ev.bind (hs h1) (Ev.ifn hne (Ev.ifn (by omega) (Ev.ifp (by omega) ih1)))), Ev.step iSt (Ev.bind hi (Ev.ifp rfl (Ev.bind hc (Ev.ifp rfl (Ev.ifp (by omega) ih2)))))⟩
      · have sSt2 := sSt h1
        rw [pred_wrap (show 0 < l.length by omega) (by omega), ba_nat] at sSt2
        obtain ⟨c', hc', hq'⟩ := sNX_ev (l.getD (l.length - 1) z44) b
        by_cases hn : NX (l.getD (l.length - 1) z44) b
        · have hcond : l.length = 0 ∨ NX (l.getD (l.length - 1) z44) b := .inr hn
          rw [if_pos hcond]
          obtain ⟨ih1, ih2⟩ := ih (by rw [List.length_append, List.length_singleton]; omega)
          rw [show c = true from hq.2 hcond] at hc
          rw [show c' = true from hq'.2 hn] at hc'
          exact ⟨Ev.step sSt2 (Ev.bind (hs h1) (Ev.ifn hne (Ev.ifp (by omega) (Ev.ifp (by omega) (Ev.ifp (by omega) (Ev.bind hc' (Ev.ifp rfl (Ev.ifp (by omega) ih1)))))))), Ev.step iSt (Ev.bind hi (Ev.ifp rfl (Ev.bind hc (Ev.ifp rfl (Ev.ifp (by omega) ih2)))))⟩
        · have hcond : ¬ (l.length = 0 ∨ NX (l.getD (l.length - 1) z44) b) := fun h => h.elim h0 hn
          rw [if_neg hcond]
          have e1 : c = false := Bool.eq_false_iff.2 fun h => hcond (hq.1 h)
          have e2 : c' = false := Bool.eq_false_iff.2 fun h => hn (hq'.1 h)
          rw [e1] at hc
          rw [e2] at hc'
          exact ⟨Ev.step sSt2 (Ev.bind (hs h1) (Ev.ifn hne (Ev.ifp (by omega) (Ev.ifp (by omega) (Ev.ifp (by omega) (Ev.bind hc' (Ev.ifn (by decide) (Ev.now _)))))))), Ev.step iSt (Ev.bind hi (Ev.ifp rfl (Ev.bind hc (Ev.ifn (by decide) (Ev.now _)))))⟩
noncomputable def RDx (x : ByteArray) : List S44 × Nat := RD x x.size [] 0
theorem sRead_ev (x : ByteArray) (hx : x.size ≤ 600) : Ev (fun k => spec_l1Read.f k x) ((RDx x).1, ((RDx x).2 : Int)) := (read_both x hx x.size [] 0 (Nat.zero_le _) (by omega) (by simp only [List.length_nil]; omega)).1
theorem iRead_ev (x : ByteArray) (hx : x.size ≤ 600) : Ev (fun k => impl_readLog.f k x) ((RDx x).1, ((RDx x).2 : Int)) := (read_both x hx x.size [] 0 (Nat.zero_le _) (by omega) (by simp only [List.length_nil]; omega)).2
theorem RDx_at (x : ByteArray) : (RDx x).2 ≤ x.size ∧ 14 * (RDx x).1.length ≤ (RDx x).2 ∧ (∀ b ∈ (RDx x).1, GBx b) := by
  obtain ⟨h1, _, h3, h4⟩ := RD_at x x.size [] 0 (Nat.zero_le _)
  refine ⟨h1, ?_, h4 (fun b hb => by cases hb)⟩
  have : ([] : List S44).length = 0 := rfl
  unfold RDx
  omega

theorem Write_ev (l : List S56) (a : Int) (b : S44) (hl : l.length ≤ 1048576) (hb : b.f4.length ≤ 1048576) :
    ∃ (y : List S56) (o : Bool), y.length ≤ 1048576 ∧ Ev (fun k => spec_WriteBatch.f k l a b.f0 b.f1 b.f2 b.f3 b.f4) (y, o) ∧ Ev (fun k => impl_WriteBatch.f k l a b.f0 b.f1 b.f2 b.f3 b.f4) (y, o) := by
  obtain ⟨x, hs, hi, hq⟩ := both (sFile_ev l a hl) (iHas_ev l a hl)
  have sno : Ev (fun k => spec_WriteBatch.j0 k a true l b.f0 b.f1 b.f2 b.f3 b.f4) ([], false) := Ev.step (f := fun _ => some ([], false)) (fun k => by rw [spec_WriteBatch.j0, if_pos rfl]) (Ev.now _)
  have ino : Ev (fun k => impl_WriteBatch.j0 k a true l b.f0 b.f1 b.f2 b.f3 b.f4) ([], false) := Ev.step (f := fun _ => some ([], false)) (fun k => by rw [impl_WriteBatch.j0, if_pos rfl]) (Ev.now _)
  have sno1 : Ev (fun k => spec_WriteBatch.j1 k a true l b.f0 b.f1 b.f2 b.f3 b.f4) ([], false) := Ev.step (f := fun _ => some ([], false)) (fun k => by rw [spec_WriteBatch.j1, if_pos rfl]) (Ev.now _)
  unfold spec_WriteBatch.f impl_WriteBatch.f
  cases x with
  | false => exact ⟨[], false, Nat.zero_le _, Ev.bind hs (Ev.ifn (by decide) sno), Ev.bind hi (Ev.ifn (by decide) ino)⟩
  | true =>
    obtain ⟨g, gs, gi, hgq⟩ := both (sGB_ev b.f0 b.f1 b.f2 b.f3 b.f4 hb) (iGB_ev b.f0 b.f1 b.f2 b.f3 b.f4)
    cases g with
    | false => exact ⟨[], false, Nat.zero_le _, Ev.bind hs (Ev.ifp rfl (Ev.bind gs sno)), Ev.bind hi (Ev.ifp rfl (Ev.bind gi ino))⟩
    | true =>
      have hG : GBx b := hgq.1 rfl
      obtain ⟨hg, h0, h1⟩ := hq.1 rfl
      obtain ⟨i, rfl⟩ := Int.eq_ofNat_of_zero_le h0
      obtain ⟨g1, g2, g3⟩ := hg.1 i (by omega)
      have hr := RDx_at (l.getD i z56).f0
      have sr := sRead_ev (l.getD i z56).f0 (by omega)
      have ir := iRead_ev (l.getD i z56).f0 (by omega)
      generalize (RDx (l.getD i z56).f0).1 = x at sr ir hr
      generalize (RDx (l.getD i z56).f0).2 = n at sr ir hr
      obtain ⟨bs, bi⟩ := batch_ev b.f0 b.f1 b.f2 b.f3 b.f4 hG
      have hz := bbx_size b hG
      have ez : bb b.f0 b.f1 b.f2 b.f3 b.f4 = bbx b := rfl
      rw [ez] at bs bi
      obtain ⟨fw, hfw, hfq⟩ := iFW2 x (by omega) b
      have hfw' := hfw
      have skip : ∀ (y : List S56) (o : Bool), y.length ≤ 1048576 → Ev (fun k => spec_WriteBatch.j0 k (i : Int) false l b.f0 b.f1 b.f2 b.f3 b.f4) (y, o) → Ev (fun k => impl_WriteBatch.j0 k (i : Int) false l b.f0 b.f1 b.f2 b.f3 b.f4) (y, o) →
          ∃ (y : List S56) (o : Bool), y.length ≤ 1048576 ∧ Ev (fun k => (spec_l3File.f k l (i : Int)).bind fun t227 => (if t227 = true then ((spec_GoodBatch.f k b.f0 b.f1 b.f2 b.f3 b.f4).bind fun t228 => (spec_WriteBatch.j0 k (i : Int) (!t228) l b.f0 b.f1 b.f2 b.f3 b.f4)) else (spec_WriteBatch.j0 k (i : Int) true l b.f0 b.f1 b.f2 b.f3 b.f4))) (y, o) ∧
            Ev (fun k => (impl_Disk_has.f l (i : Int)).bind fun t329 => (if t329 = true then ((impl_isBatch.f b.f0 b.f1 b.f2 b.f3 b.f4).bind fun t330 => (impl_WriteBatch.j0 k (i : Int) (!t330) l b.f0 b.f1 b.f2 b.f3 b.f4)) else (impl_WriteBatch.j0 k (i : Int) true l b.f0 b.f1 b.f2 b.f3 b.f4))) (y, o) :=
        fun y o hy e1 e2 => ⟨y, o, hy, Ev.bind hs (Ev.ifp rfl (Ev.bind gs e1)), Ev.bind hi (Ev.ifp rfl (Ev.bind gi e2))⟩
      have sgo : ∀ (y : List S56) (o : Bool) (c : Bool), Ev (fun k => spec_WriteBatch.j1 k (i : Int) c l b.f0 b.f1 b.f2 b.f3 b.f4) (y, o) → ((n : Int) = ((l.getD i z56).f0.size : Int) → c = !fw) → (¬ (n : Int) = ((l.getD i z56).f0.size : Int) → c = true) → Ev (fun k => spec_WriteBatch.j0 k (i : Int) false l b.f0 b.f1 b.f2 b.f3 b.f4) (y, o) := fun y o c e hc1 hc2 => by
        refine Ev.succ ?_
        simp only [spec_WriteBatch.j0, fl_nat]
        refine Ev.ifn (by decide) (Ev.ifp h0 (Ev.ifp h1 (Ev.bind sr ?_)))
        dsimp only
        by_cases hn : (n : Int) = ((l.getD i z56).f0.size : Int)
        · have hc := hc1 hn
          refine Ev.ifp hn ?_
          by_cases hx : (x.length : Int) > 0
          · have hw : wrap64 ((x.length : Int) - 1) = ((x.length - 1 : Nat) : Int) := pred_wrap (by omega) (by omega)
            refine Ev.ifp hx (Ev.ifp (by omega) (Ev.ifp (by omega) ?_))
            rw [hw, ba_nat]
            obtain ⟨nb, hnb, hnq⟩ := sNX_ev (x.getD (x.length - 1) z44) b
            have e2 : nb = fw := Bool.eq_iff_iff.2 (hnq.trans ⟨fun h => hfq.2 (.inr h), fun h => (hfq.1 h).resolve_left (by omega)⟩)
            subst e2
            refine Ev.bind hnb ?_
            rw [← hc]
            exact e
          · have e2 : fw = true := hfq.2 (.inl (by omega))
            subst e2
            refine Ev.ifn hx ?_
            rw [hc] at e
            exact e
        · rw [hc2 hn] at e
          exact Ev.ifn hn e
      by_cases hn : (n : Int) = ((l.getD i z56).f0.size : Int)
      · cases fw with
        | false =>
          refine skip [] false (Nat.zero_le _) (sgo [] false true sno1 (fun _ => rfl) (fun _ => rfl)) (Ev.succ ?_)
          simp only [impl_WriteBatch.j0, fl_nat]
          exact Ev.ifn (by decide) (Ev.ifp h0 (Ev.ifp h1 (Ev.bind ir (Ev.bind bi (Ev.ifp hn (Ev.bind hfw (Ev.ifn (by decide) (Ev.now _))))))))
        | true =>
          have hw1 : wrap64 (400 - ((l.getD i z56).f0.size : Int)) = 400 - ((l.getD i z56).f0.size : Int) := wrap_id (by omega) (by omega)
          have hw2 : wrap64 ((n : Int) + ((bbx b).size : Int)) = (n : Int) + ((bbx b).size : Int) := wrap_id (by omega) (by omega)
          by_cases hf : ((bbx b).size : Int) > 400 - ((l.getD i z56).f0.size : Int)
          · refine skip [] false (Nat.zero_le _) (sgo [] false false (Ev.succ ?_) (fun _ => rfl) (fun h => absurd hn h)) (Ev.succ ?_)
            · simp only [spec_WriteBatch.j1]
              refine Ev.ifn (by decide) (Ev.bind bs (Ev.bind (a := (([] : List S56), false)) ?_ (Ev.now _)))
              unfold spec_AppendTo.f
              simp only [fl_nat, hw1]
              exact Ev.bind hs (Ev.ifp rfl (Ev.ifp h0 (Ev.ifp h1 (Ev.ifp hf (Ev.now _)))))
            · simp only [impl_WriteBatch.j0, fl_nat]
              refine Ev.ifn (by decide) (Ev.ifp h0 (Ev.ifp h1 (Ev.bind ir (Ev.bind bi (Ev.ifp hn (Ev.bind hfw (Ev.ifp rfl ?_)))))))
              rw [hw2]
              exact Ev.ifp (by omega) (Ev.now _)
          · refine skip (l.set i ⟨(l.getD i z56).f0 ++ bbx b, (l.getD i z56).f1⟩) true (by rw [List.length_set]; exact hl) (sgo _ true false (Ev.succ ?_) (fun _ => rfl) (fun h => absurd hn h)) (Ev.succ ?_)
            · simp only [spec_WriteBatch.j1]
              refine Ev.ifn (by decide) (Ev.bind bs (Ev.bind (a := (l.set i ⟨(l.getD i z56).f0 ++ bbx b, (l.getD i z56).f1⟩, true)) ?_ (Ev.now _)))
              unfold spec_AppendTo.f
              simp only [fl_nat, hw1, sOwn l hl]
              exact Ev.bind hs (Ev.ifp rfl (Ev.ifp h0 (Ev.ifp h1 (Ev.ifn hf (Ev.bind (Ev.now _) (Ev.ifp h1 (Ev.ifp (by omega) (Ev.now _))))))))
            · simp only [impl_WriteBatch.j0, fl_nat]
              refine Ev.ifn (by decide) (Ev.ifp h0 (Ev.ifp h1 (Ev.bind ir (Ev.bind bi (Ev.ifp hn (Ev.bind hfw (Ev.ifp rfl ?_)))))))
              rw [hw2, iWith l (i : Int) _ _ hl h0 h1]
              exact Ev.ifn (by omega) (Ev.ifp (by omega) (Ev.bind (Ev.now _) (Ev.now _)))
      · refine skip [] false (Nat.zero_le _) (sgo [] false true sno1 (fun h => absurd h hn) (fun _ => rfl)) (Ev.succ ?_)
        simp only [impl_WriteBatch.j0, fl_nat]
        exact Ev.ifn (by decide) (Ev.ifp h0 (Ev.ifp h1 (Ev.bind ir (Ev.bind bi (Ev.ifn hn (Ev.now _))))))
theorem FnExactWriteBatch : laws_FnExactWriteBatch.Pure := by
  intro x0 a1 x2 hok _ hok2
  obtain ⟨hl, hs⟩ := hok
  obtain ⟨_, _, _, _, hl2, hs2⟩ := hok2
  apply Ev.rounds
  unfold laws_FnExactWriteBatch.f
  obtain ⟨r, h1, h2, h3, h4⟩ := szD_ev x0.f0 hl (fun x hx => (hs x hx).1)
  refine Ev.bind h1 ?_
  by_cases hr : r < 0
  · exact Ev.ifp hr (Ev.now _)
  · refine Ev.ifn hr ?_
    have hb := h4 (by omega)
    obtain ⟨r2, g1, g2, g3, g4⟩ := szB_ev x2.f0 x2.f1 x2.f2 x2.f3 x2.f4 hl2 hs2 r (by omega) (by omega)
    refine Ev.bind g1 ?_
    by_cases hr2 : r2 < 0
    · exact Ev.ifp hr2 (Ev.now _)
    · have hc := (g4 (by omega)).1
      have hb' : (x0.f0.map cvF).length ≤ 1048576 := by rw [List.length_map]; exact hb
      obtain ⟨y, o, hy, hsp, him⟩ := Write_ev (x0.f0.map cvF) a1 ⟨x2.f0, x2.f1, x2.f2, x2.f3, x2.f4⟩ hb' hc
      have m1 : Ev (fun k => laws_markDisk.f k y 1) _ := markD_ev y hy 1 (by omega)
      have m2 : Ev (fun k => laws_heldDisk.f k (markL mkF (fun _ => 2) y 1) 1) _ := heldD_ev y hy 1 (by omega)
      have m3 : Ev (fun k => laws_markDisk.f k (x0.f0.map cvF) 1) _ := markD_ev (x0.f0.map cvF) hb' 1 (by omega)
      have hcn : cntL (fun _ => 2) (x0.f0.map cvF) ≤ 2 * (x0.f0.map cvF).length := cntL_le _ 2 _ (fun _ _ => Nat.le_refl _)
      have m4 := markB_ev x2.f0 x2.f1 x2.f2 x2.f3 x2.f4 hc (1 + cntL (fun _ => 2) (x0.f0.map cvF)) (by omega)
      refine Ev.ifn hr2 ?_
      repeat first
        | with_reducible exact Ev.now _
        | (with_reducible refine Ev.bind (toD_ev _ hb) ?_; try dsimp only)
        | (with_reducible refine Ev.bind (toB_ev _ _ _ _ _ hc) ?_; try dsimp only)
        | (with_reducible refine Ev.bind (hsp) ?_; try dsimp only)
        | (with_reducible refine Ev.bind (him) ?_; try dsimp only)
        | (with_reducible refine Ev.bind (eqD_ev _ hb') ?_; try dsimp only)
        | (with_reducible refine Ev.bind (eqD_ev _ hy) ?_; try dsimp only)
        | (with_reducible refine Ev.bind (eqB_ev _ _ _ _ _ hc) ?_; try dsimp only)
        | (with_reducible refine Ev.bind (m3) ?_; try dsimp only)
        | (with_reducible refine Ev.bind (m4) ?_; try dsimp only)
        | (with_reducible refine Ev.bind (m1) ?_; try dsimp only)
        | (with_reducible refine Ev.bind (m2) ?_; try dsimp only)
        | (with_reducible refine Ev.ifp ?hc ?_; (case hc => first | rfl | omega | (simp; done)))
        | (with_reducible refine Ev.ifn ?hc ?_; (case hc => first | decide | omega | (simp; done)))
        | (with_reducible refine Ev.succ (g := fun k_ => laws_FnExactWriteBatch.j0 k_ _ _ _ _ _ _ _ _ _ _ _ _ _ _ _ _ _ _) ?_; simp only [laws_FnExactWriteBatch.j0])
        | (with_reducible refine Ev.succ (g := fun k_ => laws_FnExactWriteBatch.j1 k_ _ _ _ _ _ _ _ _ _ _ _) ?_; simp only [laws_FnExactWriteBatch.j1])
        | (with_reducible refine Ev.succ (g := fun k_ => laws_FnExactWriteBatch.j2 k_ _ _ _) ?_; simp only [laws_FnExactWriteBatch.j2])


end Go.Proofs.Ytpdpipfkllfhmaa.Pure
