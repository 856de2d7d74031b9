/- AskPart of the program answers as the reference's, for every part and every ask; its answer owns its memory. Conditions: none but the statement's own. -/
import Derived.Test.YtojdaolclcmalaaQFnExactAskPartx20
namespace Go.Proofs.Ytojdaolclcmalaa.Pure
open Go.RowKit Go.Proofs.Ytojdaolclcmalaa.QFnExactAskPart Go.Proofs.YtojdaolclcmalaaW.PrintWords Go.Proofs.YtojdaolclcmalaaW.PrintLast Go.Proofs.YtojdaolclcmalaaW.PrintMore
set_option linter.unusedVariables false
set_option linter.unusedSimpArgs false
theorem Ev.succ {α : Type} {g : Nat → Option α} {r : α} (k : Ev (fun n => g (n + 1)) r) : Ev g r := Ev.step (fun _ => rfl) k
theorem Ev.ifp {α : Type} {c : Prop} [Decidable c] {f g : Nat → Option α} {r : α} (h : c) (k : Ev f r) : Ev (fun n => if c then f n else g n) r := Ev.congr (fun n => if_pos h) k
theorem Ev.ifn {α : Type} {c : Prop} [Decidable c] {f g : Nat → Option α} {r : α} (h : ¬ c) (k : Ev g r) : Ev (fun n => if c then f n else g n) r := Ev.congr (fun n => if_neg h) k
def EvB (g : Nat → Option Bool) (Q : Prop) : Prop := ∃ b : Bool, Ev g b ∧ (b = true ↔ Q)
theorem EvB.step {g f : Nat → Option Bool} {Q : Prop} (h : ∀ k, g (k + 1) = f k) (k : EvB f Q) : EvB g Q := by
  obtain ⟨b, hb, hq⟩ := k
  exact ⟨b, Ev.step h hb, hq⟩
theorem EvB.iff {g : Nat → Option Bool} {Q R : Prop} (k : EvB g Q) (h : Q ↔ R) : EvB g R := by
  obtain ⟨b, hb, hq⟩ := k
  exact ⟨b, hb, hq.trans h⟩
theorem EvB.no {g : Nat → Option Bool} {Q : Prop} (h : ∀ k, g (k + 1) = some false) (hq : ¬ Q) : EvB g Q := ⟨false, Ev.step (f := fun _ => some false) h (Ev.now _), Iff.intro (fun h => by cases h) (fun h => absurd h hq)⟩
theorem EvB.yes {g : Nat → Option Bool} {Q : Prop} (h : ∀ k, g (k + 1) = some true) (hq : Q) : EvB g Q := ⟨true, Ev.step (f := fun _ => some true) h (Ev.now _), ⟨fun _ => hq, fun _ => rfl⟩⟩
theorem wrap_id {x : Int} (h0 : -9223372036854775808 ≤ x) (h1 : x ≤ 9223372036854775807) : wrap64 x = x := by
  unfold wrap64
  omega
theorem succ_wrap {i : Nat} (h : i ≤ 9000000000000000000) : wrap64 ((i : Int) + 1) = ((i + 1 : Nat) : Int) := by
  rw [wrap_id (by omega) (by omega)]
  omega
theorem tn_nat (i : Nat) : ((i : Int)).toNat = i := rfl
theorem conv_ev {β : Type} (n : Nat) (F : List β → Nat → Nat → Option (List β)) (c : Nat → β) (h1 : ∀ x : List β, x.length = n → Ev (F x n) x)
    (h2 : ∀ (x : List β) (i : Nat), i < n → x.length = n → ∀ r, Ev (F (x.set i (c i)) (i + 1)) r → Ev (F x i) r) : ∀ x0 : List β, x0.length = n → Ev (F x0 0) ((List.range n).map c) := by
  have key : ∀ d i (x : List β), i + d = n → x.length = n → Ev (F x i) (x.take i ++ (List.range d).map fun j => c (i + j)) := by
    intro d
    induction d with
    | zero =>
      intro i x hd hx
      have hi : i = n := by omega
      subst hi
      have : x.take i ++ (List.range 0).map (fun j => c (i + j)) = x := by
        rw [List.take_of_length_le (by omega)]
        simp
      rw [this]
      exact h1 x hx
    | succ d ih =>
      intro i x hd hx
      have hi : i < n := by omega
      have := ih (i + 1) (x.set i (c i)) (by omega) (by rw [List.length_set]; exact hx)
      have e : (x.set i (c i)).take (i + 1) ++ (List.range d).map (fun j => c (i + 1 + j)) = x.take i ++ (List.range (d + 1)).map (fun j => c (i + j)) := by
        rw [List.range_succ_eq_map, List.map_cons, List.map_map]
        have ht : (x.set i (c i)).take (i + 1) = x.take i ++ [c i] := by
          rw [List.take_succ_eq_append_getElem (by rw [List.length_set]; omega)]
          rw [List.take_set_of_le (Nat.le_refl _), List.getElem_set_self]
        rw [ht, List.append_assoc]
        congr 1
        rw [List.singleton_append]
        congr 1
        apply List.map_congr_left
        intro j _
        show c (i + 1 + j) = c (i + (j + 1))
        congr 1
        omega
      rw [e] at this
      exact h2 x i hi hx _ this
  intro x0 hx0
  have := key n 0 x0 (by omega) hx0
  rw [List.take_zero, List.nil_append] at this
  have e : (fun j => c (0 + j)) = c := by
    funext j
    rw [Nat.zero_add]
  rw [e] at this
  exact this

theorem all_ev (n : Nat) (F : Nat → Nat → Option Bool) (h1 : Ev (F n) true) (h2 : ∀ i, i < n → Ev (F (i + 1)) true → Ev (F i) true) : Ev (F 0) true := by
  have key : ∀ d i, i + d = n → Ev (F i) true := by
    intro d
    induction d with
    | zero =>
      intro i hd
      have hi : i = n := by omega
      subst hi
      exact h1
    | succ d ih =>
      intro i hd
      exact h2 i (by omega) (ih (i + 1) (by omega))
  exact key n 0 (by omega)

def markL {β : Type} (mk : β → Nat → β) (cnt : β → Nat) : List β → Nat → List β
  | [], _ => []
  | b :: r, m => mk b m :: markL mk cnt r (m + cnt b)
def cntL {β : Type} (cnt : β → Nat) : List β → Nat
  | [] => 0
  | b :: r => cnt b + cntL cnt r
theorem markL_length {β : Type} (mk : β → Nat → β) (cnt : β → Nat) : ∀ (l : List β) (m : Nat), (markL mk cnt l m).length = l.length
  | [], _ => rfl
  | b :: r, m => by
    show (markL mk cnt r _).length + 1 = r.length + 1
    rw [markL_length mk cnt r]
theorem cntL_le {β : Type} (cnt : β → Nat) (c : Nat) : ∀ l : List β, (∀ b ∈ l, cnt b ≤ c) → cntL cnt l ≤ c * l.length
  | [], _ => Nat.zero_le _
  | b :: r, h => by
    have h1 := cntL_le cnt c r (fun x hx => h x (List.mem_cons_of_mem _ hx))
    have h2 := h b List.mem_cons_self
    show cnt b + cntL cnt r ≤ c * (r.length + 1)
    rw [Nat.mul_add, Nat.mul_one]
    omega
theorem mark_ev {β : Type} (z : β) (mk : β → Nat → β) (cnt : β → Nat) (B n : Nat) (F : List β → Nat → Nat → Nat → Option (Int × List β)) (h1 : ∀ (x : List β) (m : Nat), x.length = n → Ev (F x m n) ((m : Int), x))
    (h2 : ∀ (x : List β) (m i : Nat), x.length = n → i < n → m + cnt (x.getD i z) ≤ B → ∀ r, Ev (F (x.set i (mk (x.getD i z) m)) (m + cnt (x.getD i z)) (i + 1)) r → Ev (F x m i) r) :
    ∀ (x : List β) (m : Nat), x.length = n → m + cntL cnt x ≤ B → Ev (F x m 0) (((m + cntL cnt x : Nat) : Int), markL mk cnt x m) := by
  have key : ∀ (rest done : List β) (m : Nat), done.length + rest.length = n → m + cntL cnt rest ≤ B → Ev (F (done ++ rest) m done.length) (((m + cntL cnt rest : Nat) : Int), done ++ markL mk cnt rest m) := by
    intro rest
    induction rest with
    | nil =>
      intro done m hn _
      have hn' : done.length = n := hn
      have := h1 done m hn'
      rw [← hn'] at this
      rw [List.append_nil]
      show Ev _ (((m + 0 : Nat) : Int), done ++ [])
      rw [List.append_nil]
      exact this
    | cons b r ih =>
      intro done m hn hm
      have hn' : done.length + (r.length + 1) = n := hn
      have hm' : m + (cnt b + cntL cnt r) ≤ B := hm
      have hg : (done ++ b :: r).getD done.length z = b := by simp [List.getD]
      have hs : (done ++ b :: r).set done.length (mk b m) = (done ++ [mk b m]) ++ r := by simp [List.set_append]
      have := ih (done ++ [mk b m]) (m + cnt b) (by rw [List.length_append, List.length_singleton]; omega) (by omega)
      refine h2 _ m done.length (by simp; omega) (by omega) (by rw [hg]; omega) _ ?_
      rw [hg, hs]
      rw [List.length_append, List.length_singleton] at this
      have e : m + cnt b + cntL cnt r = m + (cnt b + cntL cnt r) := by omega
      have e2 : done ++ [mk b m] ++ markL mk cnt r (m + cnt b) = done ++ (mk b m :: markL mk cnt r (m + cnt b)) := by rw [List.append_assoc, List.singleton_append]
      rw [e, e2] at this
      exact this
  intro x m hn hm
  exact key x [] m (by simpa using hn) hm
theorem held_ev {β : Type} (z : β) (mk : β → Nat → β) (cnt : β → Nat) (B n : Nat) (H : List β → Nat → Nat → Nat → Option Int) (h1 : ∀ (x : List β) (m : Nat), x.length = n → Ev (H x m n) (m : Int))
    (h2 : ∀ (x : List β) (m i : Nat) (b : β), x.length = n → i < n → x.getD i z = mk b m → m + cnt b ≤ B → ∀ r, Ev (H x (m + cnt b) (i + 1)) r → Ev (H x m i) r) :
    ∀ (x : List β) (m : Nat), x.length = n → m + cntL cnt x ≤ B → Ev (H (markL mk cnt x m) m 0) ((m + cntL cnt x : Nat) : Int) := by
  have key : ∀ (rest done : List β) (m : Nat), done.length + rest.length = n → m + cntL cnt rest ≤ B → Ev (H (done ++ markL mk cnt rest m) m done.length) ((m + cntL cnt rest : Nat) : Int) := by
    intro rest
    induction rest with
    | nil =>
      intro done m hn _
      have hn' : done.length = n := hn
      have := h1 done m hn'
      rw [← hn'] at this
      show Ev (H (done ++ []) m done.length) _
      rw [List.append_nil]
      exact this
    | cons b r ih =>
      intro done m hn hm
      have hn' : done.length + (r.length + 1) = n := hn
      have hm' : m + (cnt b + cntL cnt r) ≤ B := hm
      have := ih (done ++ [mk b m]) (m + cnt b) (by rw [List.length_append, List.length_singleton]; omega) (by omega)
      show Ev (H (done ++ (mk b m :: markL mk cnt r (m + cnt b))) m done.length) _
      refine h2 _ m done.length b (by simp [markL_length]; omega) (by omega) (by simp [List.getD]) (by omega) _ ?_
      rw [List.length_append, List.length_singleton, List.append_assoc, List.singleton_append] at this
      have e : m + cnt b + cntL cnt r = m + (cnt b + cntL cnt r) := by omega
      rw [e] at this
      exact this
  intro x m hn hm
  exact key x [] m (by simpa using hn) hm

theorem map_range_getD {α β : Type} (l : List α) (z : α) (f : α → β) : (List.range l.length).map (fun i => f (l.getD i z)) = l.map f := by
  apply List.ext_getElem
  · simp
  · intro i h1 h2
    simp at h1 h2
    simp [h2]
theorem map_range_self {α : Type} (l : List α) (z : α) : (List.range l.length).map (fun i => l.getD i z) = l := by
  have := map_range_getD l z id
  simpa using this
theorem getD_mem {α : Type} {l : List α} {i : Nat} (h : i < l.length) (z : α) : l.getD i z ∈ l := by
  rw [List.getD_eq_getElem?_getD, List.getElem?_eq_getElem h, Option.getD_some]
  exact List.getElem_mem h

theorem st_nat (l : List ByteArray) (i : Nat) : rdOf ByteArray.empty l (i : Int) = l.getD i ByteArray.empty := rfl

theorem eqSS_ev (l : List ByteArray) (hl : l.length ≤ 1048576) : Ev (fun k => laws_eqStringS.f k l l) true := by
  have h := all_ev l.length (fun i k => laws_eqStringS.l0 k l l (i : Int))
    (Ev.step (f := fun _ => some true) (fun k => by
      show laws_eqStringS.l0 (k + 1) l l ((l.length : Nat) : Int) = some true
      rw [laws_eqStringS.l0, if_neg (by omega)]) (Ev.now _))
    (fun i hi hr => Ev.step (fun k => by
      show laws_eqStringS.l0 (k + 1) l l (i : Int) = laws_eqStringS.l0 k l l ((i + 1 : Nat) : Int)
      rw [laws_eqStringS.l0, if_pos (by omega), if_pos (by omega), if_pos (by omega), if_pos rfl, succ_wrap (by omega)]) hr)
  refine Ev.congr (fun k => ?_) h
  unfold laws_eqStringS.f
  rw [if_pos rfl]
  rfl

theorem szSS_l (l : List ByteArray) (hl : l.length ≤ 1048576) (hs : ∀ x ∈ l, x.size ≤ maxLen) : ∀ d i : Nat, i + d = l.length → ∀ m : Int, 0 ≤ m → m ≤ 1048576 →
    ∃ r : Int, Ev (fun k => laws_szStringS.l0 k l m (i : Int)) r ∧ -1 ≤ r ∧ r ≤ m ∧ (0 ≤ r → ∀ j, i ≤ j → j < l.length → ((l.getD j ByteArray.empty).size : Int) ≤ m)
  | 0, i, hd => fun m h0 h1 => ⟨m, Ev.step (f := fun _ => some m) (fun k => by rw [laws_szStringS.l0, if_neg (by omega)]) (Ev.now _), by omega, Int.le_refl _, fun _ j h2 h3 => by omega⟩
  | d + 1, i, hd => fun m h0 h1 => by
    have hz : (l.getD i ByteArray.empty).size ≤ 9223372036854775807 := hs _ (getD_mem (by omega) _)
    have hw : wrap64 (m - ((l.getD i ByteArray.empty).size : Int)) = m - ((l.getD i ByteArray.empty).size : Int) := wrap_id (by omega) (by omega)
    by_cases hn : m - ((l.getD i ByteArray.empty).size : Int) < 0
    · refine ⟨-1, Ev.step (f := fun _ => some (-1)) (fun k => ?_) (Ev.now _), by omega, by omega, fun h => by omega⟩
      rw [laws_szStringS.l0, if_pos (by omega), if_pos (by omega), st_nat, hw, if_pos hn]
    · obtain ⟨r, h2, h3, h4, h5⟩ := szSS_l l hl hs d (i + 1) (by omega) (m - ((l.getD i ByteArray.empty).size : Int)) (by omega) (by omega)
      refine ⟨r, Ev.step (fun k => ?_) h2, h3, by omega, fun h j h6 h7 => ?_⟩
      · show laws_szStringS.l0 (k + 1) l m (i : Int) = laws_szStringS.l0 k l (m - ((l.getD i ByteArray.empty).size : Int)) ((i + 1 : Nat) : Int)
        rw [laws_szStringS.l0, if_pos (by omega), if_pos (by omega), st_nat, hw, if_neg hn, succ_wrap (by omega)]
      · by_cases e : j = i
        · rw [e]
          omega
        · have := h5 h j (by omega) h7
          omega
theorem szSS_ev (l : List ByteArray) (hl : l.length ≤ maxLen) (hs : ∀ x ∈ l, x.size ≤ maxLen) (m : Int) (h0 : 0 ≤ m) (h1 : m ≤ 1048576) :
    ∃ r : Int, Ev (fun k => laws_szStringS.f k l m) r ∧ -1 ≤ r ∧ r ≤ m ∧ (0 ≤ r → l.length ≤ 1048576 ∧ ∀ j, j < l.length → (l.getD j ByteArray.empty).size ≤ 1048576) := by
  have hl' : l.length ≤ 9223372036854775807 := hl
  have hw : wrap64 (m - (l.length : Int)) = m - (l.length : Int) := wrap_id (by omega) (by omega)
  unfold laws_szStringS.f
  rw [hw]
  by_cases hn : m - (l.length : Int) < 0
  · exact ⟨-1, Ev.ifp hn (Ev.now _), by omega, by omega, fun h => by omega⟩
  · obtain ⟨r, h2, h3, h4, h5⟩ := szSS_l l (by omega) hs l.length 0 (by omega) (m - (l.length : Int)) (by omega) (by omega)
    refine ⟨r, Ev.ifn hn h2, h3, by omega, fun h => ⟨by omega, fun j hj => ?_⟩⟩
    have := h5 h j (Nat.zero_le _) hj
    omega
theorem toSS_ev (l : List ByteArray) (hl : l.length ≤ 1048576) : Ev (fun k => laws_toStringS.f k l) l := by
  have h := conv_ev l.length (fun x i k => laws_toStringS.l0 k l x (i : Int)) (fun i => l.getD i ByteArray.empty)
    (fun x hx => Ev.step (f := fun _ => some x) (fun k => by
      show laws_toStringS.l0 (k + 1) l x ((l.length : Nat) : Int) = some x
      rw [laws_toStringS.l0, if_neg (by omega)]) (Ev.now _))
    (fun x i hi hx r hr => Ev.step (fun k => by
      show laws_toStringS.l0 (k + 1) l x (i : Int) = laws_toStringS.l0 k l (x.set i (l.getD i ByteArray.empty)) ((i + 1 : Nat) : Int)
      rw [laws_toStringS.l0, if_pos (by omega), if_pos (by omega), if_pos (by omega), succ_wrap (by omega)]
      rfl) hr)
    (List.replicate l.length (⟨#[]⟩ : ByteArray)) (by simp)
  rw [map_range_self] at h
  refine Ev.congr (fun k => ?_) h
  unfold laws_toStringS.f
  rw [if_pos (by omega), if_pos (by rw [tn_nat]; omega)]
  rfl

theorem eqB_ev (o e p s : Int) (l : List ByteArray) (hl : l.length ≤ 1048576) : Ev (fun k => laws_eqBatch.f k o e p s l o e p s l) true := by
  unfold laws_eqBatch.f
  exact Ev.ifp rfl (Ev.ifp rfl (Ev.ifp rfl (Ev.ifp rfl (Ev.bind (eqSS_ev l hl) (Ev.ifp rfl (Ev.now _))))))

theorem szB_ev (o e p s : Int) (l : List ByteArray) (hl : l.length ≤ maxLen) (hs : ∀ x ∈ l, x.size ≤ maxLen) (m : Int) (h0 : 0 ≤ m) (h1 : m ≤ 1048576) :
    ∃ r : Int, Ev (fun k => laws_szBatch.f k o e p s l m) r ∧ -1 ≤ r ∧ r ≤ m ∧ (0 ≤ r → l.length ≤ 1048576 ∧ ∀ j, j < l.length → (l.getD j ByteArray.empty).size ≤ 1048576) := by
  obtain ⟨r, h2, h3, h4, h5⟩ := szSS_ev l hl hs m h0 h1
  unfold laws_szBatch.f
  by_cases hr : r < 0
  · exact ⟨-1, Ev.bind h2 (Ev.ifp hr (Ev.now _)), by omega, by omega, fun h => by omega⟩
  · exact ⟨r, Ev.bind h2 (Ev.ifn hr (Ev.now _)), h3, h4, h5⟩
theorem toB_ev (o e p s : Int) (l : List ByteArray) (hl : l.length ≤ 1048576) : Ev (fun k => laws_toBatch.f k o e p s l) (o, e, p, s, l) := by
  unfold laws_toBatch.f
  exact Ev.bind (toSS_ev l hl) (Ev.now _)

theorem EvB.and {P Q : Prop} [Decidable P] {g : Nat → Option Bool} (h : EvB g Q) : EvB (fun k => if decide P = true then g k else some false) (P ∧ Q) := by
  obtain ⟨b, hb, hq⟩ := h
  by_cases hp : P
  · exact ⟨b, Ev.ifp (by rw [decide_eq_true hp]) hb, ⟨fun h => ⟨hp, hq.1 h⟩, fun h => hq.2 h.2⟩⟩
  · exact ⟨false, Ev.ifn (by rw [decide_eq_false hp]; decide) (Ev.now _), Iff.intro (fun h => by cases h) (fun h => absurd h.1 hp)⟩
theorem EvB.dec {P : Prop} [Decidable P] : EvB (fun _ => some (decide P)) P := ⟨decide P, Ev.now _, decide_eq_true_iff⟩
theorem EvB.andThen {g f : Nat → Option Bool} {P Q : Prop} (h : EvB g P) (k : P → EvB f Q) : EvB (fun n => (g n).bind fun t => if t = true then f n else some false) (P ∧ Q) := by
  obtain ⟨b, hb, hp⟩ := h
  cases b with
  | true =>
    obtain ⟨c, hc, hq⟩ := k (hp.1 rfl)
    exact ⟨c, Ev.bind hb (Ev.ifp rfl hc), ⟨fun h => ⟨hp.1 rfl, hq.1 h⟩, fun h => hq.2 h.2⟩⟩
  | false => exact ⟨false, Ev.bind hb (Ev.ifn (by decide) (Ev.now _)), Iff.intro (fun h => by cases h) (fun h => absurd (hp.2 h.1) (by decide))⟩

theorem ba_nat (l : List S78) (i : Nat) : rd_T78 l (i : Int) = l.getD i z78 := rfl

theorem eqBS_ev (l : List S78) (hl : l.length ≤ 1048576) (hs : ∀ j, j < l.length → (l.getD j z78).f4.length ≤ 1048576) : Ev (fun k => laws_eqBatchS.f k l l) true := by
  have h := all_ev l.length (fun i k => laws_eqBatchS.l0 k l l (i : Int))
    (Ev.step (f := fun _ => some true) (fun k => by
      show laws_eqBatchS.l0 (k + 1) l l ((l.length : Nat) : Int) = some true
      rw [laws_eqBatchS.l0, if_neg (by omega)]) (Ev.now _))
    (fun i hi hr => by
      refine Ev.step (f := fun k => (laws_eqBatch.f k (l.getD i z78).f0 (l.getD i z78).f1 (l.getD i z78).f2 (l.getD i z78).f3 (l.getD i z78).f4 (l.getD i z78).f0 (l.getD i z78).f1 (l.getD i z78).f2 (l.getD i z78).f3 (l.getD i z78).f4).bind fun t => if t = true then laws_eqBatchS.l0 k l l ((i + 1 : Nat) : Int) else some false) (fun k => ?_) (Ev.bind (eqB_ev _ _ _ _ _ (hs i hi)) (Ev.ifp rfl hr))
      show laws_eqBatchS.l0 (k + 1) l l (i : Int) = _
      rw [laws_eqBatchS.l0, if_pos (by omega), if_pos (by omega), if_pos (by omega), succ_wrap (by omega)]
      rfl)
  refine Ev.congr (fun k => ?_) h
  unfold laws_eqBatchS.f
  rw [if_pos rfl]
  rfl

def cvB (x : S99) : S78 := ⟨x.f0, x.f1, x.f2, x.f3, x.f4⟩
theorem szBS_l (l : List S99) (hl : l.length ≤ 1048576) (hs : ∀ x ∈ l, x.f4.length ≤ maxLen ∧ ∀ y ∈ x.f4, y.size ≤ maxLen) : ∀ d i : Nat, i + d = l.length → ∀ m : Int, 0 ≤ m → m ≤ 1048576 →
    ∃ r : Int, Ev (fun k => laws_szBatchS.l0 k l m (i : Int)) r ∧ -1 ≤ r ∧ r ≤ m ∧ (0 ≤ r → ∀ j, i ≤ j → j < l.length → (l.getD j z99).f4.length ≤ 1048576)
  | 0, i, hd => fun m h0 h1 => ⟨m, Ev.step (f := fun _ => some m) (fun k => by rw [laws_szBatchS.l0, if_neg (by omega)]) (Ev.now _), by omega, Int.le_refl _, fun _ j h2 h3 => by omega⟩
  | d + 1, i, hd => fun m h0 h1 => by
    obtain ⟨hz1, hz2⟩ := hs _ (getD_mem (l := l) (i := i) (by omega) z99)
    obtain ⟨r, h2, h3, h4, h5⟩ := szB_ev (l.getD i z99).f0 (l.getD i z99).f1 (l.getD i z99).f2 (l.getD i z99).f3 (l.getD i z99).f4 hz1 hz2 m h0 h1
    have hst : ∀ k, laws_szBatchS.l0 (k + 1) l m (i : Int) = (laws_szBatch.f k (l.getD i z99).f0 (l.getD i z99).f1 (l.getD i z99).f2 (l.getD i z99).f3 (l.getD i z99).f4 m).bind fun t => if t < 0 then some (-1) else laws_szBatchS.l0 k l t ((i + 1 : Nat) : Int) := fun k => by
      rw [laws_szBatchS.l0, if_pos (by omega), if_pos (by omega), succ_wrap (by omega)]
      rfl
    by_cases hn : r < 0
    · exact ⟨-1, Ev.step hst (Ev.bind h2 (Ev.ifp hn (Ev.now _))), by omega, by omega, fun h => by omega⟩
    · obtain ⟨q, h6, h7, h8, h9⟩ := szBS_l l hl hs d (i + 1) (by omega) r (by omega) (by omega)
      refine ⟨q, Ev.step hst (Ev.bind h2 (Ev.ifn hn h6)), h7, by omega, fun h j h10 h11 => ?_⟩
      by_cases e : j = i
      · rw [e]
        exact (h5 (by omega)).1
      · exact h9 h j (by omega) h11
theorem toBS_ev (l : List S99) (hl : l.length ≤ 1048576) (hs : ∀ j, j < l.length → (l.getD j z99).f4.length ≤ 1048576) : Ev (fun k => laws_toBatchS.f k l) (l.map cvB) := by
  have h := conv_ev l.length (fun x i k => laws_toBatchS.l0 k l x (i : Int)) (fun i => cvB (l.getD i z99))
    (fun x hx => Ev.step (f := fun _ => some x) (fun k => by
      show laws_toBatchS.l0 (k + 1) l x ((l.length : Nat) : Int) = some x
      rw [laws_toBatchS.l0, if_neg (by omega)]) (Ev.now _))
    (fun x i hi hx r hr => by
      refine Ev.step (f := fun k => (laws_toBatch.f k (l.getD i z99).f0 (l.getD i z99).f1 (l.getD i z99).f2 (l.getD i z99).f3 (l.getD i z99).f4).bind fun t => laws_toBatchS.l0 k l (x.set i ⟨t.1, t.2.1, t.2.2.1, t.2.2.2.1, t.2.2.2.2⟩) ((i + 1 : Nat) : Int)) (fun k => ?_) (Ev.bind (toB_ev _ _ _ _ _ (hs i hi)) hr)
      show laws_toBatchS.l0 (k + 1) l x (i : Int) = _
      rw [laws_toBatchS.l0, if_pos (by omega), if_pos (by omega)]
      refine congrArg _ (funext fun t => ?_)
      rw [if_pos (by omega), succ_wrap (by omega)]
      rfl)
    (List.replicate l.length z78) (by simp)
  rw [map_range_getD] at h
  refine Ev.congr (fun k => ?_) h
  unfold laws_toBatchS.f
  rw [if_pos (by omega), if_pos (by rw [tn_nat]; omega)]
  rfl
theorem cvB_len (l : List S99) (hs : ∀ j, j < l.length → (l.getD j z99).f4.length ≤ 1048576) : ∀ j, j < (l.map cvB).length → ((l.map cvB).getD j z78).f4.length ≤ 1048576 := fun j hj => by
  rw [List.length_map] at hj
  have := hs j hj
  rw [List.getD_eq_getElem?_getD, List.getElem?_map, List.getElem?_eq_getElem hj]
  rw [List.getD_eq_getElem?_getD, List.getElem?_eq_getElem hj] at this
  exact this

theorem do_z (l : List S112) (i : Nat) : rd_T112 l (i : Int) = l.getD i z112 := rfl
theorem pr_z (l : List S81) (i : Nat) : rd_T81 l (i : Int) = l.getD i z81 := rfl
theorem bb_z (l : List S78) (i : Nat) : rd_T78 l (i : Int) = l.getD i z78 := rfl

def cvD (x : S128) : S112 := ⟨x.f0, x.f1, x.f2⟩
def cvP (x : S105) : S81 := ⟨x.f0, x.f1, x.f2, x.f3.map cvD⟩
theorem szP_ev (a b c : Int) (l : List S128) (hl : l.length ≤ maxLen) (m : Int) (h0 : 0 ≤ m) (h1 : m ≤ 1048576) :
    ∃ r : Int, laws_szProducer.f a b c l m = some r ∧ -1 ≤ r ∧ r ≤ m ∧ (0 ≤ r → l.length ≤ 1048576) := by
  have hl' : l.length ≤ 9223372036854775807 := hl
  unfold laws_szProducer.f laws_szDoneS.f
  rw [wrap_id (x := m - (l.length : Int)) (by omega) (by omega)]
  by_cases c2 : m - (l.length : Int) < 0
  · rw [if_pos c2, Option.bind_some, if_pos (by decide)]
    exact ⟨-1, rfl, by omega, by omega, fun h => by omega⟩
  · rw [if_neg c2, Option.bind_some, if_neg c2]
    exact ⟨_, rfl, by omega, by omega, fun _ => by omega⟩
theorem szPS_l (l : List S105) (hl : l.length ≤ 1048576) (hs : ∀ x ∈ l, x.f3.length ≤ maxLen) : ∀ d i : Nat, i + d = l.length → ∀ m : Int, 0 ≤ m → m ≤ 1048576 →
    ∃ r : Int, Ev (fun k => laws_szProducerS.l0 k l m (i : Int)) r ∧ -1 ≤ r ∧ r ≤ m ∧ (0 ≤ r → ∀ j, i ≤ j → j < l.length → (l.getD j z105).f3.length ≤ 1048576)
  | 0, i, hd => fun m h0 h1 => ⟨m, Ev.step (f := fun _ => some m) (fun k => by rw [laws_szProducerS.l0, if_neg (by omega)]) (Ev.now _), by omega, Int.le_refl _, fun _ j h2 h3 => by omega⟩
  | d + 1, i, hd => fun m h0 h1 => by
    have hz1 := hs _ (getD_mem (l := l) (i := i) (by omega) z105)
    obtain ⟨r, h2, h3, h4, h5⟩ := szP_ev (l.getD i z105).f0 (l.getD i z105).f1 (l.getD i z105).f2 (l.getD i z105).f3 hz1 m h0 h1
    have hst : ∀ k, laws_szProducerS.l0 (k + 1) l m (i : Int) = if r < 0 then some (-1) else laws_szProducerS.l0 k l r ((i + 1 : Nat) : Int) := fun k => by
      rw [laws_szProducerS.l0, if_pos (by omega), if_pos (by omega), succ_wrap (by omega)]
      show (laws_szProducer.f (l.getD i z105).f0 (l.getD i z105).f1 (l.getD i z105).f2 (l.getD i z105).f3 m).bind _ = _
      rw [h2]
      rfl
    by_cases hn : r < 0
    · exact ⟨-1, Ev.step hst (Ev.ifp hn (Ev.now _)), by omega, by omega, fun h => by omega⟩
    · obtain ⟨q, h6, h7, h8, h9⟩ := szPS_l l hl hs d (i + 1) (by omega) r (by omega) (by omega)
      refine ⟨q, Ev.step hst (Ev.ifn hn h6), h7, by omega, fun h j h10 h11 => ?_⟩
      by_cases e : j = i
      · rw [e]
        exact h5 (by omega)
      · exact h9 h j (by omega) h11
theorem szBSm_ev (l : List S99) (hl : l.length ≤ maxLen) (hs : ∀ x ∈ l, x.f4.length ≤ maxLen ∧ ∀ y ∈ x.f4, y.size ≤ maxLen) (m : Int) (h0 : 0 ≤ m) (h1 : m ≤ 1048576) :
    ∃ r : Int, Ev (fun k => laws_szBatchS.f k l m) r ∧ -1 ≤ r ∧ r ≤ m ∧ (0 ≤ r → l.length ≤ 1048576 ∧ ∀ j, j < l.length → (l.getD j z99).f4.length ≤ 1048576) := by
  have hl' : l.length ≤ 9223372036854775807 := hl
  have hw : wrap64 (m - (l.length : Int)) = m - (l.length : Int) := wrap_id (by omega) (by omega)
  unfold laws_szBatchS.f
  rw [hw]
  by_cases hn : m - (l.length : Int) < 0
  · exact ⟨-1, Ev.ifp hn (Ev.now _), by omega, by omega, fun h => by omega⟩
  · obtain ⟨r, h2, h3, h4, h5⟩ := szBS_l l (by omega) hs l.length 0 (by omega) (m - (l.length : Int)) (by omega) (by omega)
    exact ⟨r, Ev.ifn hn h2, h3, by omega, fun h => ⟨by omega, fun j hj => h5 h j (Nat.zero_le _) hj⟩⟩
theorem szPT_ev (ps : List S105) (log : List S99) (e : Int) (hl : ps.length ≤ maxLen) (hs : ∀ x ∈ ps, x.f3.length ≤ maxLen) (hlb : log.length ≤ maxLen) (hsb : ∀ x ∈ log, x.f4.length ≤ maxLen ∧ ∀ y ∈ x.f4, y.size ≤ maxLen) (m : Int) (h0 : 0 ≤ m) (h1 : m ≤ 1048576) :
    ∃ r : Int, Ev (fun k => laws_szPart.f k ps log e m) r ∧ -1 ≤ r ∧ r ≤ m ∧ (0 ≤ r → (ps.length ≤ 1048576 ∧ ∀ j, j < ps.length → (ps.getD j z105).f3.length ≤ 1048576) ∧ log.length ≤ 1048576 ∧ ∀ j, j < log.length → (log.getD j z99).f4.length ≤ 1048576) := by
  have hl' : ps.length ≤ 9223372036854775807 := hl
  have hw : wrap64 (m - (ps.length : Int)) = m - (ps.length : Int) := wrap_id (by omega) (by omega)
  have main : ∃ r : Int, Ev (fun k => laws_szProducerS.f k ps m) r ∧ -1 ≤ r ∧ r ≤ m ∧ (0 ≤ r → ps.length ≤ 1048576 ∧ ∀ j, j < ps.length → (ps.getD j z105).f3.length ≤ 1048576) := by
    unfold laws_szProducerS.f
    rw [hw]
    by_cases hn : m - (ps.length : Int) < 0
    · exact ⟨-1, Ev.ifp hn (Ev.now _), by omega, by omega, fun h => by omega⟩
    · obtain ⟨r, h2, h3, h4, h5⟩ := szPS_l ps (by omega) hs ps.length 0 (by omega) (m - (ps.length : Int)) (by omega) (by omega)
      exact ⟨r, Ev.ifn hn h2, h3, by omega, fun h => ⟨by omega, fun j hj => h5 h j (Nat.zero_le _) hj⟩⟩
  obtain ⟨r, h2, h3, h4, h5⟩ := main
  unfold laws_szPart.f
  by_cases hn : r < 0
  · exact ⟨-1, Ev.bind h2 (Ev.ifp hn (Ev.now _)), by omega, by omega, fun h => by omega⟩
  · obtain ⟨q, h6, h7, h8, h9⟩ := szBSm_ev log hlb hsb r (by omega) (by omega)
    by_cases hm : q < 0
    · exact ⟨-1, Ev.bind h2 (Ev.ifn hn (Ev.bind h6 (Ev.ifp hm (Ev.now _)))), by omega, by omega, fun h => by omega⟩
    · exact ⟨q, Ev.bind h2 (Ev.ifn hn (Ev.bind h6 (Ev.ifn hm (Ev.now _)))), h7, by omega, fun h => ⟨h5 (by omega), h9 h⟩⟩
theorem toD_ev (l : List S128) (hl : l.length ≤ 1048576) : Ev (fun k => laws_toDoneS.f k l) (l.map cvD) := by
  have h := conv_ev l.length (fun x i k => laws_toDoneS.l0 k l x (i : Int)) (fun i => cvD (l.getD i z128))
    (fun x hx => Ev.step (f := fun _ => some x) (fun k => by
      show laws_toDoneS.l0 (k + 1) l x ((l.length : Nat) : Int) = some x
      rw [laws_toDoneS.l0, if_neg (by omega)]) (Ev.now _))
    (fun x i hi hx r hr => by
      refine Ev.step (fun k => ?_) hr
      show laws_toDoneS.l0 (k + 1) l x (i : Int) = laws_toDoneS.l0 k l (x.set i (cvD (l.getD i z128))) ((i + 1 : Nat) : Int)
      rw [laws_toDoneS.l0, if_pos (by omega), if_pos (by omega)]
      unfold laws_toDone.f
      rw [Option.bind_some, if_pos (by omega), succ_wrap (by omega)]
      rfl)
    (List.replicate l.length z112) (by simp)
  rw [map_range_getD] at h
  refine Ev.congr (fun k => ?_) h
  unfold laws_toDoneS.f
  rw [if_pos (by omega), if_pos (by rw [tn_nat]; omega)]
  rfl
theorem toP_ev (l : List S105) (hl : l.length ≤ 1048576) (hs : ∀ j, j < l.length → (l.getD j z105).f3.length ≤ 1048576) : Ev (fun k => laws_toProducerS.f k l) (l.map cvP) := by
  have h := conv_ev l.length (fun x i k => laws_toProducerS.l0 k l x (i : Int)) (fun i => cvP (l.getD i z105))
    (fun x hx => Ev.step (f := fun _ => some x) (fun k => by
      show laws_toProducerS.l0 (k + 1) l x ((l.length : Nat) : Int) = some x
      rw [laws_toProducerS.l0, if_neg (by omega)]) (Ev.now _))
    (fun x i hi hx r hr => by
      refine Ev.step (f := fun k => (laws_toProducer.f k (l.getD i z105).f0 (l.getD i z105).f1 (l.getD i z105).f2 (l.getD i z105).f3).bind fun t => laws_toProducerS.l0 k l (x.set i ⟨t.1, t.2.1, t.2.2.1, t.2.2.2⟩) ((i + 1 : Nat) : Int)) (fun k => ?_) (Ev.bind (Ev.bind (toD_ev _ (hs i hi)) (Ev.now _)) hr)
      show laws_toProducerS.l0 (k + 1) l x (i : Int) = _
      rw [laws_toProducerS.l0, if_pos (by omega), if_pos (by omega)]
      refine congrArg _ (funext fun t => ?_)
      rw [if_pos (by omega), succ_wrap (by omega)]
      rfl)
    (List.replicate l.length z81) (by simp)
  rw [map_range_getD] at h
  refine Ev.congr (fun k => ?_) h
  unfold laws_toProducerS.f
  rw [if_pos (by omega), if_pos (by rw [tn_nat]; omega)]
  rfl
theorem toPT_ev (ps : List S105) (log : List S99) (e : Int) (hp : ps.length ≤ 1048576) (hs : ∀ j, j < ps.length → (ps.getD j z105).f3.length ≤ 1048576) (hl : log.length ≤ 1048576) (hr : ∀ j, j < log.length → (log.getD j z99).f4.length ≤ 1048576) : Ev (fun k => laws_toPart.f k ps log e) (ps.map cvP, log.map cvB, e) := by
  unfold laws_toPart.f
  exact Ev.bind (toP_ev ps hp hs) (Ev.bind (toBS_ev log hl hr) (Ev.now _))
theorem cvP_len (l : List S105) (hs : ∀ j, j < l.length → (l.getD j z105).f3.length ≤ 1048576) : ∀ j, j < (l.map cvP).length → ((l.map cvP).getD j z81).f3.length ≤ 1048576 := fun j hj => by
  rw [List.length_map] at hj
  have := hs j hj
  rw [List.getD_eq_getElem?_getD, List.getElem?_map, List.getElem?_eq_getElem hj]
  rw [List.getD_eq_getElem?_getD, List.getElem?_eq_getElem hj] at this
  show (List.map cvD _).length ≤ _
  rw [List.length_map]
  exact this
theorem mem_of_getD {α : Type} (z : α) {P : α → Prop} {l : List α} (h : ∀ j, j < l.length → P (l.getD j z)) : ∀ x ∈ l, P x := fun x hx => by
  obtain ⟨j, hj, e⟩ := List.mem_iff_getElem.1 hx
  have h2 := h j hj
  rwa [List.getD_eq_getElem?_getD, List.getElem?_eq_getElem hj, Option.getD_some, e] at h2

theorem markText_l : ∀ n : Nat, ∀ x : ByteArray, x.size + n ≤ 1000000000000000 → ∃ t, Ev (fun k => laws_markText.l0 k (n : Int) x) t := by
  intro n
  induction n using Nat.strongRecOn with
  | ind n ih =>
    intro x hx
    by_cases h0 : n = 0
    · subst h0
      refine ⟨_, Ev.step (f := fun _ => some ((⟨#[109]⟩ : ByteArray) ++ x)) (fun k => ?_) (Ev.now _)⟩
      rw [laws_markText.l0, if_neg (by omega), if_pos (by omega)]
    · have hs : (strOfNums [(wrap64 (48 + (Int.tmod (n : Int) 10))) % 256] ++ x).size + n / 10 ≤ 1000000000000000 := by
        rw [ByteArray.size_append, strOfNums_size]
        simp only [List.length_cons, List.length_nil]
        omega
      obtain ⟨t, ht⟩ := ih (n / 10) (by omega) _ hs
      refine ⟨t, Ev.step (fun k => ?_) ht⟩
      show laws_markText.l0 (k + 1) (n : Int) x = _
      have e : wrap64 (Int.tdiv (n : Int) 10) = ((n / 10 : Nat) : Int) := by
        have e1 : Int.tdiv (n : Int) 10 = ((n / 10 : Nat) : Int) := rfl
        rw [e1]
        exact wrap_id (by omega) (by omega)
      rw [laws_markText.l0, if_pos (by omega), Option.bind_some, if_pos (by rw [strOfNums_size]; simp only [List.length_cons, List.length_nil]; omega), e]
theorem markText_ex (n : Nat) (h : n ≤ 100000000000000) : ∃ t, Ev (fun k => laws_markText.f k (n : Int)) t := by
  unfold laws_markText.f
  by_cases h0 : (n : Int) ≤ 0
  · exact ⟨_, Ev.ifp h0 (Ev.now _)⟩
  · obtain ⟨t, ht⟩ := markText_l n (⟨#[]⟩ : ByteArray) (by show 0 + n ≤ _; omega)
    exact ⟨t, Ev.ifn h0 ht⟩
open Classical in
noncomputable def mtx (n : Nat) : ByteArray := if h : ∃ t, Ev (fun k => laws_markText.f k (n : Int)) t then Classical.choose h else ByteArray.empty
theorem mtx_ev (n : Nat) (h : n ≤ 100000000000000) : Ev (fun k => laws_markText.f k (n : Int)) (mtx n) := by
  unfold mtx
  rw [dif_pos (markText_ex n h)]
  exact Classical.choose_spec (markText_ex n h)

theorem markSS_ev (l : List ByteArray) (hl : l.length ≤ 1048576) (m : Nat) (hm : m ≤ 20000000000000) :
    Ev (fun k => laws_markStringS.f k l (m : Int)) (((m + cntL (fun _ => 1) l : Nat) : Int), markL (fun _ n => mtx n) (fun _ => 1) l m) := by
  have hc := cntL_le (fun _ : ByteArray => 1) 1 l (fun _ _ => Nat.le_refl _)
  exact mark_ev ByteArray.empty (fun _ n => mtx n) (fun _ => 1) 30000000000000 l.length (fun x m i k => laws_markStringS.l0 k x (m : Int) (i : Int))
    (fun x m hx => Ev.step (f := fun _ => some ((m : Int), x)) (fun k => by
      show laws_markStringS.l0 (k + 1) x (m : Int) ((l.length : Nat) : Int) = _
      rw [laws_markStringS.l0, if_neg (by omega)]) (Ev.now _))
    (fun x m i hx hi hb r hr => by
      refine Ev.step (f := fun k => (laws_markText.f k (m : Int)).bind fun t => laws_markStringS.l0 k (x.set i t) ((m + 1 : Nat) : Int) ((i + 1 : Nat) : Int)) (fun k => ?_) (Ev.bind (mtx_ev m (by omega)) hr)
      show laws_markStringS.l0 (k + 1) x (m : Int) (i : Int) = _
      rw [laws_markStringS.l0, if_pos (by omega)]
      refine congrArg _ (funext fun t => ?_)
      rw [if_pos (by omega), succ_wrap (i := m) (by omega), succ_wrap (i := i) (by omega), tn_nat]) l m rfl (by omega)
theorem heldSS_ev (l : List ByteArray) (hl : l.length ≤ 1048576) (m : Nat) (hm : m ≤ 20000000000000) :
    Ev (fun k => laws_heldStringS.f k (markL (fun _ n => mtx n) (fun _ => 1) l m) (m : Int)) ((m + cntL (fun _ => 1) l : Nat) : Int) := by
  have hc := cntL_le (fun _ : ByteArray => 1) 1 l (fun _ _ => Nat.le_refl _)
  exact held_ev ByteArray.empty (fun _ n => mtx n) (fun _ => 1) 30000000000000 l.length (fun x m i k => laws_heldStringS.l0 k x (m : Int) (i : Int))
    (fun x m hx => Ev.step (f := fun _ => some (m : Int)) (fun k => by
      show laws_heldStringS.l0 (k + 1) x (m : Int) ((l.length : Nat) : Int) = _
      rw [laws_heldStringS.l0, if_neg (by omega)]) (Ev.now _))
    (fun x m i b hx hi hg hb r hr => by
      refine Ev.step (f := fun k => (laws_markText.f k (m : Int)).bind fun t => if (mtx m).toList = t.toList then laws_heldStringS.l0 k x ((m + 1 : Nat) : Int) ((i + 1 : Nat) : Int) else some (-1)) (fun k => ?_) (Ev.bind (mtx_ev m (by omega)) (Ev.ifp rfl hr))
      show laws_heldStringS.l0 (k + 1) x (m : Int) (i : Int) = _
      have e : rdOf ByteArray.empty x (i : Int) = mtx m := hg
      rw [laws_heldStringS.l0, if_pos (by omega), if_pos (by omega), e, succ_wrap (i := m) (by omega), succ_wrap (i := i) (by omega)]) l m rfl (by omega)

theorem wr5 (m : Nat) (h : m ≤ 90000000000000) : wrap64 ((m : Int) + 1) = ((m + 1 : Nat) : Int) := succ_wrap (by omega)
noncomputable def mkB (b : S78) (m : Nat) : S78 := ⟨(m : Int), ((m + 1 : Nat) : Int), ((m + 2 : Nat) : Int), ((m + 3 : Nat) : Int), markL (fun _ n => mtx n) (fun _ => 1) b.f4 (m + 4)⟩
def cnB (b : S78) : Nat := 4 + cntL (fun _ => 1) b.f4
def LBx (l : List S78) : Prop := l.length ≤ 1048576 ∧ ∀ j, j < l.length → (l.getD j z78).f4.length ≤ 1048576
theorem cnBx_le (l : List S78) (h : LBx l) : cntL cnB l ≤ 1048580 * l.length :=
  cntL_le cnB 1048580 l fun b hb => by
    obtain ⟨j, hj, e⟩ := List.mem_iff_getElem.1 hb
    have h2 := h.2 j hj
    rw [List.getD_eq_getElem?_getD, List.getElem?_eq_getElem hj, Option.getD_some, e] at h2
    have h1 := cntL_le (fun _ : ByteArray => 1) 1 b.f4 (fun _ _ => Nat.le_refl _)
    unfold cnB
    omega
theorem markBSx_ev (l : List S78) (h : LBx l) (m0 : Nat) (hm0 : m0 ≤ 10000000000000) : Ev (fun k => laws_markBatchS.f k l (m0 : Int)) (((m0 + cntL cnB l : Nat) : Int), markL mkB cnB l m0) := by
  have h0 := cnBx_le l h
  have h1 := h.1
  have key : ∀ (rest done : List S78) (m : Nat), (∀ b ∈ rest, b.f4.length ≤ 1048576) → m + cntL cnB rest ≤ 15000000000000 →
      Ev (fun k => laws_markBatchS.l0 k (done ++ rest) (m : Int) done.length) (((m + cntL cnB rest : Nat) : Int), done ++ markL mkB cnB rest m) := by
    intro rest
    induction rest with
    | nil =>
      intro done m _ _
      rw [List.append_nil]
      show Ev _ (((m + 0 : Nat) : Int), done ++ [])
      rw [List.append_nil]
      exact Ev.step (f := fun _ => some ((m : Int), done)) (fun k => by rw [laws_markBatchS.l0, if_neg (by omega)]) (Ev.now _)
    | cons b r ih =>
      intro done m hs hm
      have hm' : m + (cnB b + cntL cnB r) ≤ 15000000000000 := hm
      have hb := hs b List.mem_cons_self
      have hg : (done ++ b :: r).getD done.length z78 = b := by simp [List.getD]
      have hq : (done ++ b :: r).set done.length (mkB b m) = (done ++ [mkB b m]) ++ r := by simp [List.set_append]
      have hc : cnB b = 4 + cntL (fun _ => 1) b.f4 := rfl
      have ih' := ih (done ++ [mkB b m]) (m + cnB b) (fun y hy => hs y (List.mem_cons_of_mem _ hy)) (by omega)
      rw [List.length_append, List.length_singleton] at ih'
      have e1 : m + cnB b + cntL cnB r = m + (cnB b + cntL cnB r) := by omega
      have e2 : done ++ [mkB b m] ++ markL mkB cnB r (m + cnB b) = done ++ (mkB b m :: markL mkB cnB r (m + cnB b)) := by rw [List.append_assoc, List.singleton_append]
      rw [e1, e2] at ih'
      refine Ev.step (f := fun k => (laws_markStringS.f k b.f4 ((m + 4 : Nat) : Int)).bind fun t => laws_markBatchS.l0 k ((done ++ b :: r).set done.length ⟨(m : Int), ((m + 1 : Nat) : Int), ((m + 2 : Nat) : Int), ((m + 3 : Nat) : Int), t.2⟩) t.1 (done.length + 1)) (fun k => ?_) (Ev.bind (markSS_ev b.f4 hb (m + 4) (by omega)) ?_)
      · rw [laws_markBatchS.l0, if_pos (by simp), hg, wr5 m (by omega), wr5 (m + 1) (by omega), wr5 (m + 1 + 1) (by omega), wr5 (m + 1 + 1 + 1) (by omega)]
      · show Ev (fun k => laws_markBatchS.l0 k ((done ++ b :: r).set done.length (mkB b m)) ((m + 4 + cntL (fun _ => 1) b.f4 : Nat) : Int) (done.length + 1)) _
        rw [hq, show m + 4 + cntL (fun _ => 1) b.f4 = m + cnB b by omega]
        exact ih'
  exact key l [] m0 (fun b hb => by
    obtain ⟨j, hj, e⟩ := List.mem_iff_getElem.1 hb
    have h2 := h.2 j hj
    rw [List.getD_eq_getElem?_getD, List.getElem?_eq_getElem hj, Option.getD_some, e] at h2
    exact h2) (by omega)
theorem heldBSx_ev (l : List S78) (h : LBx l) (m0 : Nat) (hm0 : m0 ≤ 10000000000000) : Ev (fun k => laws_heldBatchS.f k (markL mkB cnB l m0) (m0 : Int)) ((m0 + cntL cnB l : Nat) : Int) := by
  have h0 := cnBx_le l h
  have h1 := h.1
  have key : ∀ (rest done : List S78) (m : Nat), (∀ b ∈ rest, b.f4.length ≤ 1048576) → m + cntL cnB rest ≤ 15000000000000 → done.length + rest.length ≤ 1048576 →
      Ev (fun k => laws_heldBatchS.l0 k (done ++ markL mkB cnB rest m) (m : Int) (done.length : Int)) ((m + cntL cnB rest : Nat) : Int) := by
    intro rest
    induction rest with
    | nil =>
      intro done m _ _ _
      show Ev (fun k => laws_heldBatchS.l0 k (done ++ []) (m : Int) (done.length : Int)) ((m + 0 : Nat) : Int)
      rw [List.append_nil]
      exact Ev.step (f := fun _ => some (m : Int)) (fun k => by rw [laws_heldBatchS.l0, if_neg (by omega)]) (Ev.now _)
    | cons b r ih =>
      intro done m hs hm hl
      have hm' : m + (cnB b + cntL cnB r) ≤ 15000000000000 := hm
      have hl' : done.length + (r.length + 1) ≤ 1048576 := hl
      have hb := hs b List.mem_cons_self
      have hc : cnB b = 4 + cntL (fun _ => 1) b.f4 := rfl
      have ih' := ih (done ++ [mkB b m]) (m + cnB b) (fun y hy => hs y (List.mem_cons_of_mem _ hy)) (by omega) (by rw [List.length_append, List.length_singleton]; omega)
      rw [List.length_append, List.length_singleton, List.append_assoc, List.singleton_append] at ih'
      have e1 : m + cnB b + cntL cnB r = m + (cnB b + cntL cnB r) := by omega
      rw [e1] at ih'
      show Ev (fun k => laws_heldBatchS.l0 k (done ++ (mkB b m :: markL mkB cnB r (m + cnB b))) (m : Int) (done.length : Int)) _
      have hg : rd_T78 (done ++ (mkB b m :: markL mkB cnB r (m + cnB b))) (done.length : Int) = mkB b m := by rw [ba_nat]; simp [List.getD]
      refine Ev.step (f := fun k => (laws_heldStringS.f k (markL (fun _ n => mtx n) (fun _ => 1) b.f4 (m + 4)) ((m + 4 : Nat) : Int)).bind fun t => if t < 0 then some (-1) else laws_heldBatchS.l0 k (done ++ (mkB b m :: markL mkB cnB r (m + cnB b))) t ((done.length + 1 : Nat) : Int)) (fun k => ?_) (Ev.bind (heldSS_ev b.f4 hb (m + 4) (by omega)) (Ev.ifn (by omega) ?_))
      · rw [laws_heldBatchS.l0, if_pos (by rw [List.length_append, List.length_cons]; omega), if_pos (by omega), hg, wr5 m (by omega), wr5 (m + 1) (by omega), wr5 (m + 1 + 1) (by omega), wr5 (m + 1 + 1 + 1) (by omega), if_pos (show (mkB b m).f0 = (m : Int) from rfl), if_pos (show (mkB b m).f1 = ((m + 1 : Nat) : Int) from rfl), if_pos (show (mkB b m).f2 = ((m + 1 + 1 : Nat) : Int) from rfl), if_pos (show (mkB b m).f3 = ((m + 1 + 1 + 1 : Nat) : Int) from rfl), succ_wrap (i := done.length) (by omega)]
        rfl
      · rw [show m + 4 + cntL (fun _ => 1) b.f4 = m + cnB b by omega]
        exact ih'
  exact key l [] m0 (fun b hb => by
    obtain ⟨j, hj, e⟩ := List.mem_iff_getElem.1 hb
    have h2 := h.2 j hj
    rw [List.getD_eq_getElem?_getD, List.getElem?_eq_getElem hj, Option.getD_some, e] at h2
    exact h2) (by omega) (by simpa using h1)

def mkD (_ : S112) (n : Nat) : S112 := ⟨(n : Int), ((n + 1 : Nat) : Int), ((n + 2 : Nat) : Int)⟩
theorem markDS_ev (l : List S112) (hl : l.length ≤ 1048576) (m : Nat) (hm : m ≤ 10000000000000) :
    Ev (fun k => laws_markDoneS.f k l (m : Int)) (((m + cntL (fun _ => 3) l : Nat) : Int), markL mkD (fun _ => 3) l m) := by
  have hc := cntL_le (fun _ : S112 => 3) 3 l (fun _ _ => Nat.le_refl _)
  exact mark_ev z112 mkD (fun _ => 3) 20000000000000 l.length (fun x m i k => laws_markDoneS.l0 k x (m : Int) (i : Int))
    (fun x m hx => Ev.step (f := fun _ => some ((m : Int), x)) (fun k => by
      show laws_markDoneS.l0 (k + 1) x (m : Int) ((l.length : Nat) : Int) = _
      rw [laws_markDoneS.l0, if_neg (by omega)]) (Ev.now _))
    (fun x m i hx hi hb r hr => Ev.step (fun k => by
      show laws_markDoneS.l0 (k + 1) x (m : Int) (i : Int) = laws_markDoneS.l0 k (x.set i (mkD (x.getD i z112) m)) ((m + 3 : Nat) : Int) ((i + 1 : Nat) : Int)
      rw [laws_markDoneS.l0, if_pos (by omega), if_pos (by omega), Option.bind_some, Option.bind_some, succ_wrap (i := m) (by omega), succ_wrap (i := m + 1) (by omega), succ_wrap (i := m + 1 + 1) (by omega), succ_wrap (i := i) (by omega), tn_nat]
      have e : ∀ (y : List S112) (d : S112), i < y.length → rd_T112 (y.set i d) (i : Int) = d := fun y d hy => by
        show (y.set i d).getD i z112 = d
        rw [List.getD_eq_getElem?_getD, List.getElem?_set_self hy]
        rfl
      rw [e _ _ (by omega), e _ _ (by rw [List.length_set]; omega), List.set_set, List.set_set]
      rfl) hr) l m rfl (by omega)
theorem heldDS_ev (l : List S112) (hl : l.length ≤ 1048576) (m : Nat) (hm : m ≤ 10000000000000) :
    Ev (fun k => laws_heldDoneS.f k (markL mkD (fun _ => 3) l m) (m : Int)) ((m + cntL (fun _ => 3) l : Nat) : Int) := by
  have hc := cntL_le (fun _ : S112 => 3) 3 l (fun _ _ => Nat.le_refl _)
  exact held_ev z112 mkD (fun _ => 3) 20000000000000 l.length (fun x m i k => laws_heldDoneS.l0 k x (m : Int) (i : Int))
    (fun x m hx => Ev.step (f := fun _ => some (m : Int)) (fun k => by
      show laws_heldDoneS.l0 (k + 1) x (m : Int) ((l.length : Nat) : Int) = _
      rw [laws_heldDoneS.l0, if_neg (by omega)]) (Ev.now _))
    (fun x m i b hx hi hg hb r hr => Ev.step (fun k => by
      show laws_heldDoneS.l0 (k + 1) x (m : Int) (i : Int) = laws_heldDoneS.l0 k x ((m + 3 : Nat) : Int) ((i + 1 : Nat) : Int)
      have e : rd_T112 x (i : Int) = mkD b m := hg
      rw [laws_heldDoneS.l0, if_pos (by omega), if_pos (by omega), e, succ_wrap (i := m) (by omega), if_pos (show (mkD b m).f0 = (m : Int) from rfl), if_pos (show (mkD b m).f1 = ((m + 1 : Nat) : Int) from rfl), succ_wrap (i := m + 1) (by omega), if_pos (show (mkD b m).f2 = ((m + 1 + 1 : Nat) : Int) from rfl), succ_wrap (i := m + 1 + 1) (by omega), succ_wrap (i := i) (by omega)]) hr) l m rfl (by omega)
def mkP (g : S81) (m : Nat) : S81 := ⟨(m : Int), ((m + 1 : Nat) : Int), ((m + 2 : Nat) : Int), markL mkD (fun _ => 3) g.f3 (m + 3)⟩
def cnP (g : S81) : Nat := 3 + cntL (fun _ : S112 => 3) g.f3
def LP (l : List S81) : Prop := l.length ≤ 1048576 ∧ ∀ j, j < l.length → (l.getD j z81).f3.length ≤ 1048576
theorem LP_mem {l : List S81} (h : LP l) : ∀ b ∈ l, b.f3.length ≤ 1048576 := fun b hb => by
  obtain ⟨j, hj, e⟩ := List.mem_iff_getElem.1 hb
  have h2 := h.2 j hj
  rw [List.getD_eq_getElem?_getD, List.getElem?_eq_getElem hj, Option.getD_some, e] at h2
  exact h2
theorem cnP_le (l : List S81) (h : LP l) : cntL cnP l ≤ 3145731 * l.length :=
  cntL_le cnP 3145731 l fun b hb => by
    have h2 := LP_mem h b hb
    have h1 := cntL_le (fun _ : S112 => 3) 3 b.f3 (fun _ _ => Nat.le_refl _)
    unfold cnP
    omega
theorem markPS_ev (l : List S81) (h : LP l) (m0 : Nat) (hm0 : m0 ≤ 100000000000) : Ev (fun k => laws_markProducerS.f k l (m0 : Int)) (((m0 + cntL cnP l : Nat) : Int), markL mkP cnP l m0) := by
  have h0 := cnP_le l h
  have h1 := h.1
  have key : ∀ (rest done : List S81) (m : Nat), (∀ b ∈ rest, b.f3.length ≤ 1048576) → m + cntL cnP rest ≤ 5000000000000 →
      Ev (fun k => laws_markProducerS.l0 k (done ++ rest) (m : Int) done.length) (((m + cntL cnP rest : Nat) : Int), done ++ markL mkP cnP rest m) := by
    intro rest
    induction rest with
    | nil =>
      intro done m _ _
      rw [List.append_nil]
      show Ev _ (((m + 0 : Nat) : Int), done ++ [])
      rw [List.append_nil]
      exact Ev.step (f := fun _ => some ((m : Int), done)) (fun k => by rw [laws_markProducerS.l0, if_neg (by omega)]) (Ev.now _)
    | cons b r ih =>
      intro done m hs hm
      have hm' : m + (cnP b + cntL cnP r) ≤ 5000000000000 := hm
      have hb := hs b List.mem_cons_self
      have hg : (done ++ b :: r).getD done.length z81 = b := by simp [List.getD]
      have hq : (done ++ b :: r).set done.length (mkP b m) = (done ++ [mkP b m]) ++ r := by simp [List.set_append]
      have hc : cnP b = 3 + cntL (fun _ : S112 => 3) b.f3 := rfl
      have ih' := ih (done ++ [mkP b m]) (m + cnP b) (fun y hy => hs y (List.mem_cons_of_mem _ hy)) (by omega)
      rw [List.length_append, List.length_singleton] at ih'
      have e1 : m + cnP b + cntL cnP r = m + (cnP b + cntL cnP r) := by omega
      have e2 : done ++ [mkP b m] ++ markL mkP cnP r (m + cnP b) = done ++ (mkP b m :: markL mkP cnP r (m + cnP b)) := by rw [List.append_assoc, List.singleton_append]
      rw [e1, e2] at ih'
      refine Ev.step (f := fun k => (laws_markDoneS.f k b.f3 ((m + 3 : Nat) : Int)).bind fun t => laws_markProducerS.l0 k ((done ++ b :: r).set done.length ⟨(m : Int), ((m + 1 : Nat) : Int), ((m + 2 : Nat) : Int), t.2⟩) t.1 (done.length + 1)) (fun k => ?_) (Ev.bind (markDS_ev b.f3 hb (m + 3) (by omega)) ?_)
      · rw [laws_markProducerS.l0, if_pos (by simp), hg, succ_wrap (i := m) (by omega), succ_wrap (i := m + 1) (by omega), succ_wrap (i := m + 1 + 1) (by omega)]
      · show Ev (fun k => laws_markProducerS.l0 k ((done ++ b :: r).set done.length (mkP b m)) ((m + 3 + cntL (fun _ => 3) b.f3 : Nat) : Int) (done.length + 1)) _
        rw [hq, show m + 3 + cntL (fun _ => 3) b.f3 = m + cnP b by omega]
        exact ih'
  exact key l [] m0 (LP_mem h) (by omega)
theorem heldPS_ev (l : List S81) (h : LP l) (m0 : Nat) (hm0 : m0 ≤ 100000000000) : Ev (fun k => laws_heldProducerS.f k (markL mkP cnP l m0) (m0 : Int)) ((m0 + cntL cnP l : Nat) : Int) := by
  have h0 := cnP_le l h
  have h1 := h.1
  have key : ∀ (rest done : List S81) (m : Nat), (∀ b ∈ rest, b.f3.length ≤ 1048576) → m + cntL cnP rest ≤ 5000000000000 → done.length + rest.length ≤ 1048576 →
      Ev (fun k => laws_heldProducerS.l0 k (done ++ markL mkP cnP rest m) (m : Int) (done.length : Int)) ((m + cntL cnP rest : Nat) : Int) := by
    intro rest
    induction rest with
    | nil =>
      intro done m _ _ _
      show Ev (fun k => laws_heldProducerS.l0 k (done ++ []) (m : Int) (done.length : Int)) ((m + 0 : Nat) : Int)
      rw [List.append_nil]
      exact Ev.step (f := fun _ => some (m : Int)) (fun k => by rw [laws_heldProducerS.l0, if_neg (by omega)]) (Ev.now _)
    | cons b r ih =>
      intro done m hs hm hl
      have hm' : m + (cnP b + cntL cnP r) ≤ 5000000000000 := hm
      have hl' : done.length + (r.length + 1) ≤ 1048576 := hl
      have hb := hs b List.mem_cons_self
      have hc : cnP b = 3 + cntL (fun _ : S112 => 3) b.f3 := rfl
      have ih' := ih (done ++ [mkP b m]) (m + cnP b) (fun y hy => hs y (List.mem_cons_of_mem _ hy)) (by omega) (by rw [List.length_append, List.length_singleton]; omega)
      rw [List.length_append, List.length_singleton, List.append_assoc, List.singleton_append] at ih'
      have e1 : m + cnP b + cntL cnP r = m + (cnP b + cntL cnP r) := by omega
      rw [e1] at ih'
      show Ev (fun k => laws_heldProducerS.l0 k (done ++ (mkP b m :: markL mkP cnP r (m + cnP b))) (m : Int) (done.length : Int)) _
      have hg : (done ++ (mkP b m :: markL mkP cnP r (m + cnP b))).getD done.length z81 = mkP b m := by simp [List.getD]
      refine Ev.step (f := fun k => (laws_heldDoneS.f k (markL mkD (fun _ => 3) b.f3 (m + 3)) ((m + 3 : Nat) : Int)).bind fun t => if t < 0 then some (-1) else laws_heldProducerS.l0 k (done ++ (mkP b m :: markL mkP cnP r (m + cnP b))) t ((done.length + 1 : Nat) : Int)) (fun k => ?_) (Ev.bind (heldDS_ev b.f3 hb (m + 3) (by omega)) (Ev.ifn (by omega) ?_))
      · rw [laws_heldProducerS.l0, if_pos (by rw [List.length_append, List.length_cons]; omega), if_pos (by omega), pr_z, hg, succ_wrap (i := m) (by omega), succ_wrap (i := m + 1) (by omega), succ_wrap (i := m + 1 + 1) (by omega), if_pos (show (mkP b m).f0 = (m : Int) from rfl), if_pos (show (mkP b m).f1 = ((m + 1 : Nat) : Int) from rfl), if_pos (show (mkP b m).f2 = ((m + 1 + 1 : Nat) : Int) from rfl), succ_wrap (i := done.length) (by omega)]
        rfl
      · rw [show m + 3 + cntL (fun _ => 3) b.f3 = m + cnP b by omega]
        exact ih'
  exact key l [] m0 (LP_mem h) (by omega) (by simpa using h1)
theorem markPT_ev (ps : List S81) (l : List S78) (e : Int) (hp : LP ps) (hb : LBx l) (m0 : Nat) (hm0 : m0 ≤ 100000000000) : Ev (fun k => laws_markPart.f k ps l e (m0 : Int)) (((m0 + cntL cnP ps + cntL cnB l : Nat) : Int), markL mkP cnP ps m0, markL mkB cnB l (m0 + cntL cnP ps)) := by
  have h0 := cnP_le ps hp
  have h1 := hp.1
  unfold laws_markPart.f
  exact Ev.bind (markPS_ev ps hp m0 hm0) (Ev.bind (markBSx_ev l hb (m0 + cntL cnP ps) (by omega)) (Ev.now _))
theorem heldPT_ev (ps : List S81) (l : List S78) (e : Int) (hp : LP ps) (hb : LBx l) (m0 : Nat) (hm0 : m0 ≤ 100000000000) : Ev (fun k => laws_heldPart.f k (markL mkP cnP ps m0) (markL mkB cnB l (m0 + cntL cnP ps)) e (m0 : Int)) ((m0 + cntL cnP ps + cntL cnB l : Nat) : Int) := by
  have h0 := cnP_le ps hp
  have h1 := hp.1
  unfold laws_heldPart.f
  exact Ev.bind (heldPS_ev ps hp m0 hm0) (Ev.ifn (by omega) (Ev.bind (heldBSx_ev l hb (m0 + cntL cnP ps) (by omega)) (Ev.ifn (by omega) (Ev.now _))))

theorem all_evB (n : Nat) (F : Nat → Nat → Option Bool) (Q : Nat → Prop) (E : Prop) (h1 : EvB (F n) E) (h2 : ∀ i, i < n → ∀ R, EvB (F (i + 1)) R → EvB (F i) (Q i ∧ R)) : EvB (F 0) ((∀ i, i < n → Q i) ∧ E) := by
  have key : ∀ d i, i + d = n → EvB (F i) ((∀ j, i ≤ j → j < n → Q j) ∧ E) := by
    intro d
    induction d with
    | zero =>
      intro i hd
      have hi : i = n := by omega
      subst hi
      exact h1.iff ⟨fun h => ⟨fun j h1 h2 => by omega, h⟩, fun h => h.2⟩
    | succ d ih =>
      intro i hd
      refine (h2 i (by omega) _ (ih (i + 1) (by omega))).iff ⟨fun h => ⟨fun j h3 h4 => ?_, h.2.2⟩, fun h => ⟨h.1 i (Nat.le_refl _) (by omega), fun j h3 h4 => h.1 j (by omega) h4, h.2⟩⟩
      by_cases e : j = i
      · rw [e]
        exact h.1
      · exact h.2.1 j (by omega) h4
  exact (key n 0 (by omega)).iff ⟨fun h => ⟨fun i hi => h.1 i (Nat.zero_le _) hi, h.2⟩, fun h => ⟨fun j _ hj => h.1 j hj, h.2⟩⟩
theorem EvB.bd {α : Type} {g : Nat → Option α} {r : α} {f : Nat → α → Option Bool} {Q : Prop} (h : Ev g r) (k : EvB (fun n => f n r) Q) : EvB (fun n => (g n).bind (f n)) Q := by
  obtain ⟨b, hb, hq⟩ := k
  exact ⟨b, Ev.bind h hb, hq⟩
theorem EvB.ifp {c : Prop} [Decidable c] {f g : Nat → Option Bool} {Q : Prop} (h : c) (k : EvB f Q) : EvB (fun n => if c then f n else g n) Q := by
  obtain ⟨b, hb, hq⟩ := k
  exact ⟨b, Ev.ifp h hb, hq⟩
theorem EvB.ifn {c : Prop} [Decidable c] {f g : Nat → Option Bool} {Q : Prop} (h : ¬ c) (k : EvB g Q) : EvB (fun n => if c then f n else g n) Q := by
  obtain ⟨b, hb, hq⟩ := k
  exact ⟨b, Ev.ifn h hb, hq⟩
theorem EvB.fls {Q : Prop} (h : ¬ Q) : EvB (fun _ => some false) Q := ⟨false, Ev.now _, Iff.intro (fun h => by cases h) (fun h' => absurd h' h)⟩
theorem EvB.cg {g f : Nat → Option Bool} {Q : Prop} (h : ∀ k, g k = f k) (k : EvB f Q) : EvB g Q := by
  obtain ⟨b, hb, hq⟩ := k
  exact ⟨b, Ev.congr h hb, hq⟩
theorem EvB.same {g : Nat → Option Bool} {Q : Prop} (k : EvB g Q) : EvB (fun n => (g n).bind fun t => some t) Q := by
  obtain ⟨b, hb, hq⟩ := k
  exact ⟨b, Ev.bind hb (Ev.now _), hq⟩
theorem ext_getD {α : Type} (z : α) {a b : List α} (hl : a.length = b.length) (h : ∀ i, i < a.length → a.getD i z = b.getD i z) : a = b := List.ext_getElem hl (fun i h1 h2 => by
  have := h i h1
  rw [List.getD_eq_getElem?_getD, List.getD_eq_getElem?_getD, List.getElem?_eq_getElem h1, List.getElem?_eq_getElem h2] at this
  exact this)

theorem iin (a b c : Int) : impl_in.f a b c = some (decide (b ≤ a ∧ a ≤ c)) := by
  unfold impl_in.f
  by_cases h : a ≥ b
  · rw [if_pos h]
    have e : (b ≤ a ∧ a ≤ c) ↔ a ≤ c := ⟨fun h => h.2, fun h' => ⟨h, h'⟩⟩
    simp only [e]
  · rw [if_neg h, decide_eq_false]
    intro h'
    exact h h'.1

theorem sin (a b c : Int) : spec_l1In.f a b c = some (decide (b ≤ a ∧ a ≤ c)) := by
  unfold spec_l1In.f
  by_cases h : a ≥ b
  · rw [if_pos h]
    have e : (b ≤ a ∧ a ≤ c) ↔ a ≤ c := ⟨fun h => h.2, fun h' => ⟨h, h'⟩⟩
    simp only [e]
  · rw [if_neg h, decide_eq_false]
    intro h'
    exact h h'.1

theorem ixS_iff (q : Nat → Bool) : ∀ d i, (0 ≤ ixS q i d) ↔ ∃ j, i ≤ j ∧ j < i + d ∧ q j = true
  | 0, i => by
    rw [ixS]
    exact ⟨fun h => by omega, fun ⟨j, h1, h2, _⟩ => by omega⟩
  | d + 1, i => by
    rw [ixS]
    by_cases h : q i = true
    · rw [if_pos h]
      exact ⟨fun _ => ⟨i, Nat.le_refl _, by omega, h⟩, fun _ => by omega⟩
    · rw [if_neg h, ixS_iff q d (i + 1)]
      refine ⟨fun ⟨j, h1, h2, h3⟩ => ⟨j, by omega, by omega, h3⟩, fun ⟨j, h1, h2, h3⟩ => ⟨j, ?_, by omega, h3⟩⟩
      by_cases e : j = i
      · rw [e] at h3
        exact absurd h3 h
      · omega
def GB (o e p s : Int) (l : List ByteArray) : Prop :=
  (∀ j, j < l.length → (l.getD j ByteArray.empty).size ≤ 20) ∧ (0 ≤ o ∧ o ≤ 100000) ∧ (0 ≤ e ∧ e ≤ 1000) ∧ (0 ≤ p ∧ p ≤ 65535) ∧ (0 ≤ s ∧ s ≤ 65535) ∧ (1 ≤ (l.length : Int) ∧ (l.length : Int) ≤ 8)
theorem sGB_l (o e p s : Int) (l : List ByteArray) (hl : l.length ≤ 1048576) : ∀ d i : Nat, i + d = l.length →
    EvB (fun k => spec_GoodBatch.l0 k l (l.length : Int) (i : Int) o e p s l) ((∀ j, i ≤ j → j < l.length → (l.getD j ByteArray.empty).size ≤ 20) ∧ (0 ≤ o ∧ o ≤ 100000) ∧ (0 ≤ e ∧ e ≤ 1000) ∧ (0 ≤ p ∧ p ≤ 65535) ∧ (0 ≤ s ∧ s ≤ 65535) ∧ (1 ≤ (l.length : Int) ∧ (l.length : Int) ≤ 8))
  | 0, i, hd => by
    refine EvB.step (f := fun _ => if decide ((0 : Int) ≤ o ∧ o ≤ 100000) = true then (if decide ((0 : Int) ≤ e ∧ e ≤ 1000) = true then (if decide ((0 : Int) ≤ p ∧ p ≤ 65535) = true then (if decide ((0 : Int) ≤ s ∧ s ≤ 65535) = true then some (decide (1 ≤ (l.length : Int) ∧ (l.length : Int) ≤ 8)) else some false) else some false) else some false) else some false) (fun k => ?_) ?_
    · rw [spec_GoodBatch.l0, if_neg (by omega)]
      simp only [sin, Option.bind_some]
    · refine EvB.iff (EvB.and (EvB.and (EvB.and (EvB.and EvB.dec)))) ⟨fun h => ⟨fun j h1 h2 => by omega, h⟩, fun h => h.2⟩
  | d + 1, i, hd => by
    by_cases hz : ((l.getD i ByteArray.empty).size : Int) > 20
    · refine EvB.no (fun k => ?_) (fun h => ?_)
      · rw [spec_GoodBatch.l0, if_pos (by omega), if_pos (by omega), if_pos (by omega), st_nat, if_pos hz]
      · have := h.1 i (Nat.le_refl _) (by omega)
        omega
    · refine EvB.step (fun k => ?_) (EvB.iff (sGB_l o e p s l hl d (i + 1) (by omega)) ?_)
      · show spec_GoodBatch.l0 (k + 1) l (l.length : Int) (i : Int) o e p s l = spec_GoodBatch.l0 k l (l.length : Int) ((i + 1 : Nat) : Int) o e p s l
        rw [spec_GoodBatch.l0, if_pos (by omega), if_pos (by omega), if_pos (by omega), st_nat, if_neg hz, succ_wrap (by omega)]
      · refine and_congr_left fun _ => ⟨fun h j h1 h2 => ?_, fun h j h1 h2 => h j (by omega) h2⟩
        by_cases e : j = i
        · rw [e]
          omega
        · exact h j (by omega) h2
theorem sGB_ev (o e p s : Int) (l : List ByteArray) (hl : l.length ≤ 1048576) : EvB (fun k => spec_GoodBatch.f k o e p s l) (GB o e p s l) := by
  have h := sGB_l o e p s l hl l.length 0 (by omega)
  exact h.iff ⟨fun h => ⟨fun j hj => h.1 j (Nat.zero_le _) hj, h.2⟩, fun h => ⟨fun j _ hj => h.1 j hj, h.2⟩⟩
theorem iGB_ev (o e p s : Int) (l : List ByteArray) : EvB (fun _ => impl_isBatch.f o e p s l) (GB o e p s l) := by
  have hq : ∀ j, impl_areRecords.q l j = true ↔ ¬ (l.getD j ByteArray.empty).size ≤ 20 := fun j => by
    unfold impl_areRecords.q
    rw [decide_eq_true_iff, st_nat]
    omega
  have ha : EvB (fun _ : Nat => impl_areRecords.f l) ((1 ≤ (l.length : Int) ∧ (l.length : Int) ≤ 8) ∧ ∀ j, j < l.length → (l.getD j ByteArray.empty).size ≤ 20) := by
    unfold impl_areRecords.f
    simp only [iin, Option.bind_some]
    refine EvB.and ⟨_, Ev.now _, ?_⟩
    rw [Bool.not_eq_true', decide_eq_false_iff_not, ixS_iff]
    refine ⟨fun h j hj => ?_, fun h ⟨j, h1, h2, h3⟩ => (hq j).1 h3 (h j (by omega))⟩
    by_cases hz : (l.getD j ByteArray.empty).size ≤ 20
    · exact hz
    · exact absurd ⟨j, Nat.zero_le _, by omega, (hq j).2 hz⟩ h
  obtain ⟨b, hb, hbq⟩ := ha
  have hb' : impl_areRecords.f l = some b := by
    obtain ⟨K, hK⟩ := hb
    exact hK K (Nat.le_refl _)
  unfold impl_isBatch.f
  simp only [iin, Option.bind_some, hb']
  refine EvB.iff (EvB.and (EvB.and (EvB.and (EvB.and ⟨b, Ev.now _, hbq⟩)))) ?_
  unfold GB
  constructor
  · rintro ⟨h1, h2, h3, h4, h5, h6⟩
    exact ⟨h6, h1, h2, h3, h4, h5⟩
  · rintro ⟨h6, h1, h2, h3, h4, h5⟩
    exact ⟨h1, h2, h3, h4, h5, h6⟩

theorem sOwn1_l (ps : List S81) (log : List S78) (e : Int) (hb : log.length ≤ 1048576) (hr : ∀ b ∈ log, b.f4.length ≤ 1048576) : ∀ d i : Nat, i + d = log.length → Ev (fun k => spec_l5Own.l1 k log (log.length : Int) (i : Int) ps (log.take i) e) (ps, log, e)
  | 0, i, hd => by
    rw [List.take_of_length_le (by omega)]
    exact Ev.step (f := fun _ => some (ps, log, e)) (fun k => by rw [spec_l5Own.l1, if_neg (by omega)]) (Ev.now _)
  | d + 1, i, hd => by
    have hi : i < log.length := by omega
    have e1 : log.getD i z78 = log[i] := by rw [List.getD_eq_getElem?_getD, List.getElem?_eq_getElem hi]; rfl
    have h4 := hr log[i] (List.getElem_mem hi)
    refine Ev.step (fun k => ?_) (sOwn1_l ps log e hb hr d (i + 1) (by omega))
    rw [spec_l5Own.l1, if_pos (by omega), if_pos (by omega), if_pos (by omega), bb_z, e1, Option.bind_some, if_pos (by simp only [List.length_nil]; omega), if_pos (by rw [List.length_take]; omega), succ_wrap (by omega), List.take_succ_eq_append_getElem hi, List.nil_append]
theorem sOwn0_l (ps : List S81) (log : List S78) (e : Int) (hp : ps.length ≤ 1048576) (hw : ∀ x ∈ ps, x.f3.length ≤ 1048576) (hb : log.length ≤ 1048576) (hr : ∀ b ∈ log, b.f4.length ≤ 1048576) : ∀ d i : Nat, i + d = ps.length → Ev (fun k => spec_l5Own.l0 k ps (ps.length : Int) (i : Int) ps log e (ps.take i) e) (ps, log, e)
  | 0, i, hd => by
    rw [List.take_of_length_le (by omega)]
    exact Ev.step (f := fun k => spec_l5Own.l1 k log (log.length : Int) ((0 : Nat) : Int) ps (log.take 0) e) (fun k => by rw [spec_l5Own.l0, if_neg (by omega)]; rfl) (sOwn1_l ps log e hb hr log.length 0 (by omega))
  | d + 1, i, hd => by
    have hi : i < ps.length := by omega
    have e1 : ps.getD i z81 = ps[i] := by rw [List.getD_eq_getElem?_getD, List.getElem?_eq_getElem hi]; rfl
    have h4 := hw ps[i] (List.getElem_mem hi)
    refine Ev.step (fun k => ?_) (sOwn0_l ps log e hp hw hb hr d (i + 1) (by omega))
    rw [spec_l5Own.l0, if_pos (by omega), if_pos (by omega), if_pos (by omega), pr_z, e1, Option.bind_some, if_pos (by simp only [List.length_nil]; omega), if_pos (by rw [List.length_take]; omega), succ_wrap (by omega), List.take_succ_eq_append_getElem hi, List.nil_append]
theorem sOwnP_ev (ps : List S81) (log : List S78) (e : Int) (hp : ps.length ≤ 1048576) (hw : ∀ x ∈ ps, x.f3.length ≤ 1048576) (hb : log.length ≤ 1048576) (hr : ∀ b ∈ log, b.f4.length ≤ 1048576) : Ev (fun k => spec_l5Own.f k ps log e) (ps, log, e) := sOwn0_l ps log e hp hw hb hr ps.length 0 (by omega)

theorem eqDS_ev (l : List S112) (hl : l.length ≤ 1048576) : Ev (fun k => laws_eqDoneS.f k l l) true := by
  have h := all_ev l.length (fun i k => laws_eqDoneS.l0 k l l (i : Int))
    (Ev.step (f := fun _ => some true) (fun k => by
      show laws_eqDoneS.l0 (k + 1) l l ((l.length : Nat) : Int) = some true
      rw [laws_eqDoneS.l0, if_neg (by omega)]) (Ev.now _))
    (fun i hi hr => Ev.step (fun k => by
      show laws_eqDoneS.l0 (k + 1) l l (i : Int) = laws_eqDoneS.l0 k l l ((i + 1 : Nat) : Int)
      rw [laws_eqDoneS.l0, if_pos (by omega), if_pos (by omega), if_pos (by omega)]
      unfold laws_eqDone.f
      rw [if_pos rfl, if_pos rfl, if_pos rfl, Option.bind_some, if_pos rfl, succ_wrap (by omega)]) hr)
  refine Ev.congr (fun k => ?_) h
  unfold laws_eqDoneS.f
  rw [if_pos rfl]
  rfl
theorem eqPT_ev (ps : List S81) (log : List S78) (e : Int) (hp : ps.length ≤ 1048576) (hw : ∀ j, j < ps.length → (ps.getD j z81).f3.length ≤ 1048576) (hb : log.length ≤ 1048576) (hr : ∀ j, j < log.length → (log.getD j z78).f4.length ≤ 1048576) :
    Ev (fun k => laws_eqPart.f k ps log e ps log e) true := by
  have h := all_ev ps.length (fun i k => laws_eqProducerS.l0 k ps ps (i : Int))
    (Ev.step (f := fun _ => some true) (fun k => by
      show laws_eqProducerS.l0 (k + 1) ps ps ((ps.length : Nat) : Int) = some true
      rw [laws_eqProducerS.l0, if_neg (by omega)]) (Ev.now _))
    (fun i hi hr => by
      have e : Ev (fun k => laws_eqProducer.f k (ps.getD i z81).f0 (ps.getD i z81).f1 (ps.getD i z81).f2 (ps.getD i z81).f3 (ps.getD i z81).f0 (ps.getD i z81).f1 (ps.getD i z81).f2 (ps.getD i z81).f3) true := by
        unfold laws_eqProducer.f
        exact Ev.ifp rfl (Ev.ifp rfl (Ev.ifp rfl (Ev.bind (eqDS_ev _ (hw i hi)) (Ev.ifp rfl (Ev.now _)))))
      refine Ev.step (f := fun k => (laws_eqProducer.f k (ps.getD i z81).f0 (ps.getD i z81).f1 (ps.getD i z81).f2 (ps.getD i z81).f3 (ps.getD i z81).f0 (ps.getD i z81).f1 (ps.getD i z81).f2 (ps.getD i z81).f3).bind fun t => if t = true then laws_eqProducerS.l0 k ps ps ((i + 1 : Nat) : Int) else some false) (fun k => ?_) (Ev.bind e (Ev.ifp rfl hr))
      show laws_eqProducerS.l0 (k + 1) ps ps (i : Int) = _
      rw [laws_eqProducerS.l0, if_pos (by omega), if_pos (by omega), if_pos (by omega), pr_z, succ_wrap (by omega)])
  unfold laws_eqPart.f
  refine Ev.bind (Ev.congr (fun k => ?_) h) (Ev.ifp rfl (Ev.bind (eqBS_ev log hb hr) (Ev.ifp rfl (Ev.ifp rfl (Ev.now _)))))
  unfold laws_eqProducerS.f
  rw [if_pos rfl]
  rfl

theorem pa_ix_spec {α : Type} (p : α → Bool) (z : α) : ∀ (l : List α) (i : Nat), (pa_ix p i l = -1 ∧ ∀ x ∈ l, p x = false) ∨ ∃ j, j < l.length ∧ pa_ix p i l = ((i + j : Nat) : Int) ∧ p (l.getD j z) = true
  | [], i => .inl ⟨rfl, fun x hx => absurd hx (by simp)⟩
  | x :: r, i => by
    rw [pa_ix]
    cases h : p x with
    | true =>
      rw [if_pos rfl]
      exact .inr ⟨0, by simp, by simp, by simpa using h⟩
    | false =>
      rw [if_neg (by decide)]
      rcases pa_ix_spec p z r (i + 1) with ⟨h1, h2⟩ | ⟨j, h1, h2, h3⟩
      · refine .inl ⟨h1, fun y hy => ?_⟩
        rcases List.mem_cons.1 hy with rfl | hy
        · exact h
        · exact h2 y hy
      · exact .inr ⟨j + 1, by simpa using h1, by rw [h2]; congr 1; omega, by simpa using h3⟩
def q_ix (ps : List S81) (id : Int) : Int := pa_ix (fun x => decide (x.f0 = id)) 0 ps
theorem q_ix_lt (ps : List S81) (id : Int) : q_ix ps id < (ps.length : Int) := by
  rcases pa_ix_spec (fun x : S81 => decide (x.f0 = id)) z81 ps 0 with ⟨h, _⟩ | ⟨j, h1, h2, _⟩
  · show pa_ix _ 0 ps < _
    rw [h]
    omega
  · show pa_ix _ 0 ps < _
    rw [h2]
    omega
theorem sAt_l (l : List S81) (id : Int) (hl : l.length ≤ 1048576) : ∀ d i : Nat, i + d = l.length → Ev (fun k => spec_l5At.l0 k id l (l.length : Int) (i : Int)) (pa_ix (fun x => decide (x.f0 = id)) i (l.drop i))
  | 0, i, hd => by
    rw [List.drop_eq_nil_of_le (by omega), pa_ix]
    exact Ev.step (f := fun _ => some (-1)) (fun k => by rw [spec_l5At.l0, if_neg (by omega)]) (Ev.now _)
  | d + 1, i, hd => by
    have hi : i < l.length := by omega
    rw [List.drop_eq_getElem_cons hi, pa_ix]
    have e : l.getD i z81 = l[i] := by rw [List.getD_eq_getElem?_getD, List.getElem?_eq_getElem hi]; rfl
    have hst : ∀ k, spec_l5At.l0 (k + 1) id l (l.length : Int) (i : Int) = if l[i].f0 = id then some (i : Int) else spec_l5At.l0 k id l (l.length : Int) ((i + 1 : Nat) : Int) := fun k => by
      rw [spec_l5At.l0, if_pos (by omega), if_pos (by omega), if_pos (by omega), pr_z, e, succ_wrap (by omega)]
    by_cases h : l[i].f0 = id
    · rw [if_pos (decide_eq_true h)]
      exact Ev.step hst (Ev.ifp h (Ev.now _))
    · rw [if_neg (by rw [decide_eq_false h]; decide)]
      exact Ev.step hst (Ev.ifn h (sAt_l l id hl d (i + 1) (by omega)))
theorem sAt_ev (l : List S81) (id : Int) (hl : l.length ≤ 1048576) : Ev (fun k => spec_l5At.f k l id) (q_ix l id) := sAt_l l id hl l.length 0 (by omega)
def q_full (n : Nat) (e seq : Int) (m : Nat) : Int × Int := if n = 60 then (5, 0) else if 65535 < wrap64 (wrap64 (seq + (m : Int)) - 1) then (5, 0) else (0, e)
def q_scan (seq : Int) (m : Nat) : List S112 → Option Int
  | [] => none
  | d :: r => if d.f0 = seq ∧ d.f1 = (m : Int) then some d.f2 else q_scan seq m r
def q_again (x : S81) (seq : Int) (m : Nat) : Int × Int := match q_scan seq m x.f3 with
  | some o => (1, o)
  | none => if seq < x.f2 then (2, 0) else (3, 0)
def q_code (ps : List S81) (n : Nat) (e id ep seq : Int) (m : Nat) : Int × Int :=
  if 0 ≤ q_ix ps id then
    (if ep < (ps.getD (q_ix ps id).toNat z81).f1 then (4, 0)
     else if (ps.getD (q_ix ps id).toNat z81).f1 < ep then (if seq = 0 then q_full n e seq m else (3, 0))
     else if seq = (ps.getD (q_ix ps id).toNat z81).f2 then q_full n e seq m
     else q_again (ps.getD (q_ix ps id).toNat z81) seq m)
  else if seq = 0 then (if ps.length = 4 then (5, 0) else q_full n e seq m) else (3, 0)
theorem q_full_ev (n : Nat) (e seq : Int) (m : Nat) : (if (n : Int) = 60 then some ((5 : Int), (0 : Int)) else if wrap64 (wrap64 (seq + (m : Int)) - 1) > 65535 then some (5, 0) else some (0, e)) = some (q_full n e seq m) := by
  unfold q_full
  by_cases h : n = 60
  · rw [if_pos (by omega), if_pos h]
  · rw [if_neg (by omega), if_neg h]
    by_cases h2 : 65535 < wrap64 (wrap64 (seq + (m : Int)) - 1)
    · rw [if_pos h2, if_pos h2]
    · rw [if_neg h2, if_neg h2]
theorem sScan_l (ps : List S81) (log : List S78) (e id ep seq : Int) (recs : List ByteArray) (t : Int) (x : S81) (ht : 0 ≤ t) (hw : x.f3.length ≤ 1048576) : ∀ d i : Nat, i + d = x.f3.length →
    Ev (fun k => spec_l5Code.l0 k t x.f3 (x.f3.length : Int) (i : Int) ps log e id ep seq recs x.f0 x.f1 x.f2 x.f3) (if seq = x.f2 then q_full log.length e seq recs.length else match q_scan seq recs.length (x.f3.drop i) with
      | some o => (1, o)
      | none => if seq < x.f2 then (2, 0) else (3, 0))
  | 0, i, hd => by
    rw [List.drop_eq_nil_of_le (by omega)]
    by_cases hs : seq = x.f2
    · rw [if_pos hs]
      refine Ev.step (f := fun _ => some (q_full log.length e seq recs.length)) (fun k => ?_) (Ev.now _)
      rw [spec_l5Code.l0, if_neg (by omega), if_neg (by omega), if_neg (by omega), if_neg (by omega)]
      exact q_full_ev _ _ _ _
    · rw [if_neg hs]
      show Ev _ (if seq < x.f2 then ((2 : Int), (0 : Int)) else (3, 0))
      by_cases h2 : seq < x.f2
      · rw [if_pos h2]
        exact Ev.step (f := fun _ => some (2, 0)) (fun k => by rw [spec_l5Code.l0, if_neg (by omega), if_pos h2]) (Ev.now _)
      · rw [if_neg h2]
        exact Ev.step (f := fun _ => some (3, 0)) (fun k => by rw [spec_l5Code.l0, if_neg (by omega), if_neg h2, if_pos (by omega)]) (Ev.now _)
  | d + 1, i, hd => by
    have hi : i < x.f3.length := by omega
    have e1 : x.f3.getD i z112 = x.f3[i] := by rw [List.getD_eq_getElem?_getD, List.getElem?_eq_getElem hi]; rfl
    have ih := sScan_l ps log e id ep seq recs t x ht hw d (i + 1) (by omega)
    by_cases hs : seq = x.f2
    · rw [if_pos hs] at ih ⊢
      refine Ev.step (fun k => ?_) ih
      rw [spec_l5Code.l0, if_pos (by omega), if_pos (by omega), if_pos (by omega), if_pos hs, succ_wrap (by omega)]
    · rw [if_neg hs] at ih ⊢
      rw [List.drop_eq_getElem_cons hi, q_scan]
      have hst : ∀ k, spec_l5Code.l0 (k + 1) t x.f3 (x.f3.length : Int) (i : Int) ps log e id ep seq recs x.f0 x.f1 x.f2 x.f3 = if x.f3[i].f0 = seq then (if x.f3[i].f1 = (recs.length : Int) then some (1, x.f3[i].f2) else spec_l5Code.l0 k t x.f3 (x.f3.length : Int) ((i + 1 : Nat) : Int) ps log e id ep seq recs x.f0 x.f1 x.f2 x.f3) else spec_l5Code.l0 k t x.f3 (x.f3.length : Int) ((i + 1 : Nat) : Int) ps log e id ep seq recs x.f0 x.f1 x.f2 x.f3 := fun k => by
        rw [spec_l5Code.l0, if_pos (by omega), if_pos (by omega), if_pos (by omega), if_neg hs, do_z, e1, succ_wrap (by omega)]
      by_cases h1 : x.f3[i].f0 = seq
      · by_cases h2 : x.f3[i].f1 = (recs.length : Int)
        · rw [if_pos ⟨h1, h2⟩]
          exact Ev.step hst (Ev.ifp h1 (Ev.ifp h2 (Ev.now _)))
        · rw [if_neg (fun h => h2 h.2)]
          exact Ev.step hst (Ev.ifp h1 (Ev.ifn h2 ih))
      · rw [if_neg (fun h => h1 h.1)]
        exact Ev.step hst (Ev.ifn h1 ih)
theorem sCode_ev (ps : List S81) (log : List S78) (e id ep seq : Int) (recs : List ByteArray) (hl : ps.length ≤ 1048576) (hw : ∀ x ∈ ps, x.f3.length ≤ 1048576) :
    Ev (fun k => spec_l5Code.f k ps log e id ep seq recs) (q_code ps log.length e id ep seq recs.length) := by
  unfold spec_l5Code.f
  refine Ev.bind (sAt_ev ps id hl) ?_
  have hlt := q_ix_lt ps id
  unfold q_code
  generalize ht : q_ix ps id = t at hlt ⊢
  by_cases h0 : 0 ≤ t
  · have hm := getD_mem (l := ps) (i := t.toNat) (by omega) z81
    have ex : rd_T81 ps t = ps.getD t.toNat z81 := rfl
    rw [if_pos h0]
    refine Ev.ifp (show t ≥ 0 from h0) (Ev.ifp h0 (Ev.ifp hlt ?_))
    rw [ex]
    have hwx := hw _ hm
    generalize ps.getD t.toNat z81 = x at hwx ex ⊢
    by_cases h1 : ep < x.f1
    · rw [if_pos h1]
      refine Ev.step (f := fun _ => some (4, 0)) (fun k => ?_) (Ev.now _)
      rw [spec_l5Code.j0, if_pos (decide_eq_true h1)]
    · rw [if_neg h1]
      refine Ev.step (f := fun k => spec_l5Code.j1 k t (decide (x.f1 < ep)) ps log e id ep seq recs) (fun k => ?_) ?_
      · rw [spec_l5Code.j0, if_neg (by rw [decide_eq_false h1]; decide), if_neg (by omega), if_pos h0, if_pos hlt, ex]
      · by_cases h2 : x.f1 < ep
        · rw [if_pos h2]
          by_cases h3 : seq = 0
          · rw [if_pos h3]
            refine Ev.step (f := fun _ => some (q_full log.length e seq recs.length)) (fun k => ?_) (Ev.now _)
            rw [spec_l5Code.j1, if_pos (decide_eq_true h2), if_pos h3, if_neg (by omega)]
            exact q_full_ev _ _ _ _
          · rw [if_neg h3]
            refine Ev.step (f := fun _ => some (3, 0)) (fun k => ?_) (Ev.now _)
            rw [spec_l5Code.j1, if_pos (decide_eq_true h2), if_neg h3]
        · rw [if_neg h2]
          refine Ev.step (f := fun k => spec_l5Code.l0 k t x.f3 (x.f3.length : Int) ((0 : Nat) : Int) ps log e id ep seq recs x.f0 x.f1 x.f2 x.f3) (fun k => ?_) (sScan_l ps log e id ep seq recs t x h0 hwx x.f3.length 0 (by omega))
          rw [spec_l5Code.j1, if_neg (by rw [decide_eq_false h2]; decide), if_pos h0, if_pos hlt, ex]
          rfl
  · rw [if_neg h0]
    refine Ev.ifn (show ¬ t ≥ 0 from h0) (Ev.step (f := fun k => spec_l5Code.j1 k t true ps log e id ep seq recs) (fun k => ?_) ?_)
    · rw [spec_l5Code.j0, if_neg (by decide), if_pos (by omega)]
    · by_cases h3 : seq = 0
      · rw [if_pos h3]
        by_cases h4 : ps.length = 4
        · rw [if_pos h4]
          refine Ev.step (f := fun _ => some (5, 0)) (fun k => ?_) (Ev.now _)
          rw [spec_l5Code.j1, if_pos rfl, if_pos h3, if_pos (by omega), if_pos (by omega)]
        · rw [if_neg h4]
          refine Ev.step (f := fun _ => some (q_full log.length e seq recs.length)) (fun k => ?_) (Ev.now _)
          rw [spec_l5Code.j1, if_pos rfl, if_pos h3, if_pos (by omega), if_neg (by omega)]
          exact q_full_ev _ _ _ _
      · rw [if_neg h3]
        refine Ev.step (f := fun _ => some (3, 0)) (fun k => ?_) (Ev.now _)
        rw [spec_l5Code.j1, if_pos rfl, if_neg h3]
def q_add (ps : List S81) (off ep id seq : Int) (m : Nat) : List S81 :=
  (spec_l5Add.ins ps (q_ix ps id) ep id).set (spec_l5Add.ix ps (q_ix ps id) id) (spec_l5Add.put (spec_l5Add.new ((spec_l5Add.ins ps (q_ix ps id) ep id).getD (spec_l5Add.ix ps (q_ix ps id) id) z81) ep id) seq (m : Int) off)
theorem ins_mem {ps : List S81} {t ep id : Int} {c : Nat} (h : ∀ x ∈ ps, x.f3.length ≤ c) : ∀ x ∈ spec_l5Add.ins ps t ep id, x.f3.length ≤ c := fun x hx => by
  unfold spec_l5Add.ins at hx
  split at hx
  · rcases List.mem_append.1 hx with hx | hx
    · exact h x (List.mem_of_mem_take hx)
    · rcases List.mem_cons.1 hx with rfl | hx
      · exact Nat.zero_le _
      · exact h x (List.mem_of_mem_drop hx)
  · exact h x hx
theorem new_len {x : S81} {ep id : Int} {c : Nat} (h : x.f3.length ≤ c) : (spec_l5Add.new x ep id).f3.length ≤ c := by
  unfold spec_l5Add.new
  split
  · exact h
  · exact Nat.zero_le _
theorem win_len {l : List S112} (h : l.length ≤ 6) : (spec_l5Add.win l).length ≤ 5 := by
  unfold spec_l5Add.win
  split
  · rw [List.length_drop]; omega
  · omega
theorem q_add_mem {ps : List S81} {off ep id seq : Int} {m : Nat} (h : ∀ x ∈ ps, x.f3.length ≤ 5) : ∀ x ∈ q_add ps off ep id seq m, x.f3.length ≤ 5 := fun x hx => by
  rcases List.mem_or_eq_of_mem_set hx with hx | rfl
  · exact ins_mem h x hx
  · refine win_len ?_
    rw [List.length_append, List.length_singleton]
    have := new_len (ep := ep) (id := id) (ins_mem (t := q_ix ps id) (ep := ep) (id := id) h _ (getD_mem (spec_l5Add.ix_lt ps (q_ix ps id) ep id (q_ix_lt ps id)) z81))
    omega
theorem q_add_le (ps : List S81) (off ep id seq : Int) (m : Nat) : (q_add ps off ep id seq m).length = if q_ix ps id < 0 then ps.length + 1 else ps.length := by
  unfold q_add
  rw [List.length_set]
  unfold spec_l5Add.ins
  split
  · have := spec_l5Add.at_le id ps
    simp only [List.length_append, List.length_take, List.length_cons, List.length_drop]
    omega
  · rfl
theorem sAdd_ev (ps : List S81) (off ep id seq : Int) (recs : List ByteArray) (hl : ps.length < 1000000) (hw : ∀ x ∈ ps, x.f3.length ≤ 999999) : Ev (fun k => spec_l5Add.f k ps off ep id seq recs) (q_add ps off ep id seq recs.length) := by
  have hm := new_len (ep := ep) (id := id) (ins_mem (t := q_ix ps id) (ep := ep) (id := id) hw _ (getD_mem (spec_l5Add.ix_lt ps (q_ix ps id) ep id (q_ix_lt ps id)) z81))
  unfold spec_l5Add.f
  refine Ev.ifp hl (Ev.bind (sAt_ev ps id (by omega)) (Ev.ifp (q_ix_lt ps id) (Ev.ifp (by omega) (Ev.now _))))
def q_ask (ps : List S81) (log : List S78) (e id ep seq : Int) (recs : List ByteArray) : List S81 × List S78 × Int × Int × Int :=
  if (q_code ps log.length e id ep seq recs.length).1 = 0 then (q_add ps e ep id seq recs.length, log ++ [⟨e, ep, id, seq, recs⟩], wrap64 (e + (recs.length : Int)), (q_code ps log.length e id ep seq recs.length).1, (q_code ps log.length e id ep seq recs.length).2)
  else (ps, log, e, (q_code ps log.length e id ep seq recs.length).1, (q_code ps log.length e id ep seq recs.length).2)
theorem sAsk_ev (ps : List S81) (log : List S78) (e id ep seq : Int) (recs : List ByteArray) (hl : ps.length < 1000000) (hw : ∀ x ∈ ps, x.f3.length ≤ 999999) (hg : log.length < 1000000) (hr : recs.length ≤ 1048576) :
    Ev (fun k => spec_l5Ask.f k ps log e id ep seq recs) (q_ask ps log e id ep seq recs) := by
  unfold spec_l5Ask.f q_ask
  refine Ev.bind (sCode_ev ps log e id ep seq recs (by omega) (fun x hx => Nat.le_trans (hw x hx) (by decide))) ?_
  generalize q_code ps log.length e id ep seq recs.length = c
  by_cases h : c.1 = 0
  · rw [if_pos h]
    have hb : Ev (fun _ => spec_l5Batch.f e 0 0 0 [] id ep seq recs) (e, ep, id, seq, recs) := by
      unfold spec_l5Batch.f
      rw [Option.bind_some, if_pos (by simp only [List.length_nil]; omega), List.nil_append]
      exact Ev.now _
    exact Ev.ifp h (Ev.bind hb (Ev.ifp hg (Ev.ifp hl (Ev.bind (sAdd_ev ps e ep id seq recs hl hw) (Ev.now _)))))
  · rw [if_neg h]
    exact Ev.ifn h (Ev.now _)
theorem q_full_ok {n : Nat} {e seq : Int} {m : Nat} (h : (q_full n e seq m).1 = 0) : n ≠ 60 ∧ ¬ 65535 < wrap64 (wrap64 (seq + (m : Int)) - 1) ∧ (q_full n e seq m).2 = e := by
  unfold q_full at h ⊢
  by_cases h1 : n = 60
  · rw [if_pos h1] at h
    exact absurd h (by decide)
  · rw [if_neg h1] at h ⊢
    by_cases h2 : 65535 < wrap64 (wrap64 (seq + (m : Int)) - 1)
    · rw [if_pos h2] at h
      exact absurd h (by decide)
    · rw [if_neg h2]
      exact ⟨h1, h2, rfl⟩
theorem q_again_no (x : S81) (seq : Int) (m : Nat) : (q_again x seq m).1 ≠ 0 := by
  unfold q_again
  split
  · exact show (1 : Int) ≠ 0 by decide
  · split <;> decide
theorem q_code_ok {ps : List S81} {n : Nat} {e id ep seq : Int} {m : Nat} (h : (q_code ps n e id ep seq m).1 = 0) : n ≠ 60 ∧ ¬ 65535 < wrap64 (wrap64 (seq + (m : Int)) - 1) ∧ (q_code ps n e id ep seq m).2 = e ∧ (q_ix ps id < 0 → seq = 0 ∧ ps.length ≠ 4) ∧
    (0 ≤ q_ix ps id → ¬ ep < (ps.getD (q_ix ps id).toNat z81).f1 ∧ ((ps.getD (q_ix ps id).toNat z81).f1 < ep ∧ seq = 0 ∨ (ps.getD (q_ix ps id).toNat z81).f1 = ep ∧ seq = (ps.getD (q_ix ps id).toNat z81).f2)) := by
  unfold q_code at h ⊢
  by_cases h0 : 0 ≤ q_ix ps id
  · rw [if_pos h0] at h ⊢
    generalize ps.getD (q_ix ps id).toNat z81 = x at h ⊢
    by_cases h1 : ep < x.f1
    · rw [if_pos h1] at h
      exact absurd h (by decide)
    · rw [if_neg h1] at h ⊢
      by_cases h2 : x.f1 < ep
      · rw [if_pos h2] at h ⊢
        by_cases h3 : seq = 0
        · rw [if_pos h3] at h ⊢
          obtain ⟨a, b, c⟩ := q_full_ok h
          exact ⟨a, b, c, fun h => by omega, fun _ => ⟨h1, .inl ⟨h2, h3⟩⟩⟩
        · rw [if_neg h3] at h
          exact absurd h (by decide)
      · rw [if_neg h2] at h ⊢
        by_cases h3 : seq = x.f2
        · rw [if_pos h3] at h ⊢
          obtain ⟨a, b, c⟩ := q_full_ok h
          exact ⟨a, b, c, fun h => by omega, fun _ => ⟨h1, .inr ⟨by omega, h3⟩⟩⟩
        · rw [if_neg h3] at h
          exact absurd h (q_again_no _ _ _)
  · rw [if_neg h0] at h ⊢
    by_cases h3 : seq = 0
    · rw [if_pos h3] at h ⊢
      by_cases h4 : ps.length = 4
      · rw [if_pos h4] at h
        exact absurd h (by decide)
      · rw [if_neg h4] at h ⊢
        obtain ⟨a, b, c⟩ := q_full_ok h
        exact ⟨a, b, c, fun _ => ⟨h3, h4⟩, fun h => absurd h h0⟩
    · rw [if_neg h3] at h
      exact absurd h (by decide)
noncomputable def q_gb (b : S78) : Bool := @decide (GB b.f0 b.f1 b.f2 b.f3 b.f4) (Classical.propDecidable _)
theorem q_gb_iff (b : S78) : q_gb b = true ↔ GB b.f0 b.f1 b.f2 b.f3 b.f4 := by
  unfold q_gb
  exact @decide_eq_true_iff _ (Classical.propDecidable _)
theorem sGBb_ev (b : S78) (h : b.f4.length ≤ 1048576) : Ev (fun k => spec_GoodBatch.f k b.f0 b.f1 b.f2 b.f3 b.f4) (q_gb b) := by
  obtain ⟨c, hc, hq⟩ := sGB_ev b.f0 b.f1 b.f2 b.f3 b.f4 h
  rw [show q_gb b = c from Bool.eq_iff_iff.2 ((q_gb_iff b).trans hq.symm)]
  exact hc
theorem iGBb (b : S78) : impl_isBatch.f b.f0 b.f1 b.f2 b.f3 b.f4 = some (q_gb b) := by
  obtain ⟨c, hc, hq⟩ := iGB_ev b.f0 b.f1 b.f2 b.f3 b.f4
  rw [show q_gb b = c from Bool.eq_iff_iff.2 ((q_gb_iff b).trans hq.symm)]
  obtain ⟨n, hn⟩ := hc
  exact hn n (Nat.le_refl _)
noncomputable def q_go : List S78 → List S81 → List S78 → Int → List S81 × List S78 × Int × Bool
  | [], ps, log, e => (ps, log, e, true)
  | b :: r, ps, log, e => if q_gb b = true ∧ (q_code ps log.length e b.f2 b.f1 b.f3 b.f4.length).1 = 0 ∧ b.f0 = e then q_go r (q_add ps e b.f1 b.f2 b.f3 b.f4.length) (log ++ [b]) (wrap64 (e + (b.f4.length : Int))) else ([], [], 0, false)
structure q_inv (ps : List S81) (log : List S78) (e : Int) : Prop where
  ps4 : ps.length ≤ 4
  win : ∀ x ∈ ps, x.f3.length ≤ 5
  len : log.length ≤ 60
  e0 : 0 ≤ e
  e8 : e ≤ 8 * (log.length : Int)
  recs : ∀ b ∈ log, b.f4.length ≤ 8
theorem q_inv.nil : q_inv [] [] 0 := ⟨by decide, fun x hx => absurd hx (by simp), by decide, by decide, by decide, fun x hx => absurd hx (by simp)⟩
theorem q_inv.step {ps : List S81} {log : List S78} {e id ep seq : Int} {recs : List ByteArray} (h : q_inv ps log e) (hc : (q_code ps log.length e id ep seq recs.length).1 = 0) (hr : recs.length ≤ 8) : q_inv (q_add ps e ep id seq recs.length) (log ++ [⟨e, ep, id, seq, recs⟩]) (wrap64 (e + (recs.length : Int))) ∧ wrap64 (e + (recs.length : Int)) = e + (recs.length : Int) := by
  obtain ⟨h1, _, _, h2, _⟩ := q_code_ok hc
  have h3 := h.len
  have h4 := h.e0
  have h5 := h.e8
  have h6 := h.ps4
  have hw : wrap64 (e + (recs.length : Int)) = e + (recs.length : Int) := wrap_id (by omega) (by omega)
  rw [hw]
  refine ⟨⟨?_, q_add_mem h.win, by rw [List.length_append, List.length_singleton]; omega, by omega, by rw [List.length_append, List.length_singleton]; omega, fun b hb => ?_⟩, rfl⟩
  · rw [q_add_le]
    split
    · rename_i hn
      have := (h2 hn).2
      omega
    · exact h6
  · rcases List.mem_append.1 hb with hb | hb
    · exact h.recs b hb
    · rw [List.mem_singleton.1 hb]
      exact hr
theorem q_go_inv : ∀ (l : List S78) (ps : List S81) (log : List S78) (e : Int), q_inv ps log e → ((q_go l ps log e).2.2.2 = false ∧ q_go l ps log e = ([], [], 0, false)) ∨ ((q_go l ps log e).2.2.2 = true ∧ (q_go l ps log e).2.1 = log ++ l ∧ q_inv (q_go l ps log e).1 (q_go l ps log e).2.1 (q_go l ps log e).2.2.1)
  | [], ps, log, e, h => .inr ⟨rfl, by rw [List.append_nil]; rfl, h⟩
  | b :: r, ps, log, e, h => by
    rw [q_go]
    by_cases hc : q_gb b = true ∧ (q_code ps log.length e b.f2 b.f1 b.f3 b.f4.length).1 = 0 ∧ b.f0 = e
    · rw [if_pos hc]
      obtain ⟨h1, h2, h3⟩ := hc
      have hg := (q_gb_iff b).1 h1
      have hs := (h.step (recs := b.f4) h2 (by have := hg.2.2.2.2.2.2; omega)).1
      have eb : (⟨e, b.f1, b.f2, b.f3, b.f4⟩ : S78) = b := by rw [← h3]
      rw [eb] at hs
      have := q_go_inv r _ _ _ hs
      rwa [List.append_assoc, List.singleton_append] at this
    · rw [if_neg hc]
      exact .inl ⟨rfl, rfl⟩
theorem q_long : ∀ (l : List S78) (ps : List S81) (log : List S78) (e : Int), log.length ≤ 60 → 60 < log.length + l.length → q_go l ps log e = ([], [], 0, false)
  | [], ps, log, e, h1, h2 => absurd h2 (by simp only [List.length_nil]; omega)
  | b :: r, ps, log, e, h1, h2 => by
    rw [q_go]
    by_cases hc : q_gb b = true ∧ (q_code ps log.length e b.f2 b.f1 b.f3 b.f4.length).1 = 0 ∧ b.f0 = e
    · rw [if_pos hc]
      have := (q_code_ok hc.2.1).1
      rw [List.length_cons] at h2
      exact q_long r _ _ _ (by rw [List.length_append, List.length_singleton]; omega) (by rw [List.length_append, List.length_singleton]; omega)
    · rw [if_neg hc]
theorem q_snoc : ∀ (l : List S78) (b : S78) (ps : List S81) (log : List S78) (e : Int), q_go (l ++ [b]) ps log e = if (q_go l ps log e).2.2.2 = true then q_go [b] (q_go l ps log e).1 (q_go l ps log e).2.1 (q_go l ps log e).2.2.1 else ([], [], 0, false)
  | [], b, ps, log, e => by rw [List.nil_append, show q_go [] ps log e = (ps, log, e, true) from rfl, if_pos rfl]
  | c :: r, b, ps, log, e => by
    rw [List.cons_append, q_go, q_go]
    by_cases hc : q_gb c = true ∧ (q_code ps log.length e c.f2 c.f1 c.f3 c.f4.length).1 = 0 ∧ c.f0 = e
    · rw [if_pos hc, if_pos hc]
      exact q_snoc r b _ _ _
    · rw [if_neg hc, if_neg hc, if_neg (by decide)]
theorem sGo_l (l : List S78) (hl : l.length ≤ 1048576) (hr : ∀ b ∈ l, b.f4.length ≤ 1048576) : ∀ d i : Nat, i + d = l.length → ∀ (ps : List S81) (log : List S78) (e : Int), q_inv ps log e →
    Ev (fun k => spec_l5Rebuild.l0 k l (l.length : Int) (i : Int) ps log e) (q_go (l.drop i) ps log e)
  | 0, i, hd => fun ps log e h => by
    rw [List.drop_eq_nil_of_le (by omega)]
    exact Ev.step (f := fun _ => some (ps, log, e, true)) (fun k => by rw [spec_l5Rebuild.l0, if_neg (by omega)]) (Ev.now _)
  | d + 1, i, hd => fun ps log e h => by
    have hi : i < l.length := by omega
    have e1 : l.getD i z78 = l[i] := by rw [List.getD_eq_getElem?_getD, List.getElem?_eq_getElem hi]; rfl
    have hb := hr l[i] (List.getElem_mem hi)
    rw [List.drop_eq_getElem_cons hi, q_go]
    have h6 := h.ps4
    have h7 := h.len
    have ha := sAsk_ev ps log e l[i].f2 l[i].f1 l[i].f3 l[i].f4 (by omega) (fun x hx => Nat.le_trans (h.win x hx) (by decide)) (by omega) hb
    have hg := sGBb_ev l[i] hb
    generalize hbb : l[i] = b at hb ha hg e1 ⊢
    refine Ev.step (f := fun k => (spec_l5Ask.f k ps log e b.f2 b.f1 b.f3 b.f4).bind fun t => (spec_GoodBatch.f k b.f0 b.f1 b.f2 b.f3 b.f4).bind fun u => if u = true then (if t.2.2.2.1 = 0 then (if b.f0 = e then spec_l5Rebuild.l0 k l (l.length : Int) ((i + 1 : Nat) : Int) t.1 t.2.1 t.2.2.1 else some ([], [], 0, false)) else some ([], [], 0, false)) else some ([], [], 0, false)) (fun k => ?_) (Ev.bind ha (Ev.bind hg ?_))
    · rw [spec_l5Rebuild.l0, if_pos (by omega), if_pos (by omega), if_pos (by omega), bb_z, e1, succ_wrap (by omega)]
    · by_cases hc : q_gb b = true ∧ (q_code ps log.length e b.f2 b.f1 b.f3 b.f4.length).1 = 0 ∧ b.f0 = e
      · rw [if_pos hc]
        obtain ⟨h1, h2, h3⟩ := hc
        have hG := (q_gb_iff b).1 h1
        have hs := (h.step (recs := b.f4) h2 (by have := hG.2.2.2.2.2.2; omega)).1
        have eb : (⟨e, b.f1, b.f2, b.f3, b.f4⟩ : S78) = b := by rw [← h3]
        unfold q_ask
        rw [if_pos h2, eb]
        rw [eb] at hs
        exact Ev.ifp h1 (Ev.ifp h2 (Ev.ifp h3 (sGo_l l hl hr d (i + 1) (by omega) _ _ _ hs)))
      · rw [if_neg hc]
        by_cases h1 : q_gb b = true
        · refine Ev.ifp h1 ?_
          unfold q_ask
          by_cases h2 : (q_code ps log.length e b.f2 b.f1 b.f3 b.f4.length).1 = 0
          · rw [if_pos h2]
            exact Ev.ifp h2 (Ev.ifn (fun h3 => hc ⟨h1, h2, h3⟩) (Ev.now _))
          · rw [if_neg h2]
            exact Ev.ifn h2 (Ev.now _)
        · exact Ev.ifn h1 (Ev.now _)
theorem sGo_ev (l : List S78) (hl : l.length ≤ 1048576) (hr : ∀ b ∈ l, b.f4.length ≤ 1048576) : Ev (fun k => spec_l5Rebuild.f k l) (q_go l [] [] 0) := sGo_l l hl hr l.length 0 (by omega) [] [] 0 q_inv.nil
theorem at_same (id : Int) : ∀ ps, impl_rebuild.at id ps = spec_l5Add.at id ps
  | [] => rfl
  | x :: r => by rw [impl_rebuild.at, spec_l5Add.at, at_same id r]
theorem ix_same (ps : List S81) (b : S78) : impl_rebuild.ix ps b = spec_l5Add.ix ps (q_ix ps b.f2) b.f2 := by
  unfold impl_rebuild.ix spec_l5Add.ix q_ix
  rw [at_same]
theorem ins_same (ps : List S81) (b : S78) : impl_rebuild.ins ps b = spec_l5Add.ins ps (q_ix ps b.f2) b.f1 b.f2 := by
  unfold impl_rebuild.ins spec_l5Add.ins q_ix
  rw [at_same]
theorem copy_ev (b : S78) (h : b.f4.length ≤ 1048576) : impl_copyBatch.f b.f0 b.f1 b.f2 b.f3 b.f4 = some (b.f0, b.f1, b.f2, b.f3, b.f4) := by
  unfold impl_copyBatch.f
  rw [Option.bind_some, if_pos (by simp only [List.length_nil]; omega), List.nil_append]
theorem iGo_big : ∀ (l : List S78), (∀ b ∈ l, b.f4.length ≤ 1048576) → ∀ (ps : List S81) (log : List S78) (e : Int), 4 < ps.length → impl_rebuild.go l ps log e = some impl_rebuild.no
  | [], _, ps, log, e, h => by rw [impl_rebuild.go, if_pos h]
  | b :: r, hr, ps, log, e, h => by
    have hb := hr b List.mem_cons_self
    have hle : ps.length ≤ (impl_rebuild.ins ps b).length := by
      unfold impl_rebuild.ins
      split
      · have := impl_rebuild.at_le b.f2 ps
        simp only [List.length_append, List.length_take, List.length_cons, List.length_drop]
        omega
      · exact Nat.le_refl _
    rw [impl_rebuild.go, iGBb, Option.bind_some]
    split
    · split
      · split
        · rfl
        · split
          · rfl
          · split
            · rw [copy_ev b hb, Option.bind_some]
              unfold impl_Batch_end.f
              rw [Option.bind_some]
              exact iGo_big r (fun x hx => hr x (List.mem_cons_of_mem _ hx)) _ _ _ (by rw [List.length_set]; omega)
            · rfl
      · rfl
    · rfl
theorem getD_at {ps : List S81} {t ep id : Int} (h : t < 0) : (spec_l5Add.ins ps t ep id).getD (spec_l5Add.ix ps t id) z81 = ⟨id, ep, 0, []⟩ := by
  unfold spec_l5Add.ins spec_l5Add.ix
  rw [if_pos h, if_pos h, List.getD_eq_getElem?_getD]
  have hl : (ps.take (spec_l5Add.at id ps)).length = spec_l5Add.at id ps := by rw [List.length_take]; have := spec_l5Add.at_le id ps; omega
  rw [List.getElem?_append_right (by omega), hl, Nat.sub_self]
  rfl
theorem cut_win {l : List S112} (h : l.length ≤ 6) : impl_rebuild.cut l = spec_l5Add.win l := by
  unfold impl_rebuild.cut spec_l5Add.win
  split
  · rw [show l.length - 5 = 1 by omega]
  · rw [show l.length - 5 = 0 by omega, List.drop_zero]
theorem iGo_l : ∀ (l : List S78), (∀ b ∈ l, b.f4.length ≤ 1048576) → ∀ (ps : List S81) (log : List S78) (e : Int), q_inv ps log e → log.length + l.length ≤ 60 → impl_rebuild.go l ps log e = some (q_go l ps log e)
  | [], _, ps, log, e, h, _ => by
    have := h.ps4
    rw [impl_rebuild.go, if_neg (by omega)]
    rfl
  | b :: r, hr, ps, log, e, h, hn => by
    have hb := hr b List.mem_cons_self
    rw [List.length_cons] at hn
    have hno : some impl_rebuild.no = some (([] : List S81), ([] : List S78), (0 : Int), false) := rfl
    rw [impl_rebuild.go, iGBb, Option.bind_some, q_go, ins_same, ix_same]
    by_cases h1 : q_gb b = true
    · rw [if_pos h1]
      have hG := (q_gb_iff b).1 h1
      have h8 : b.f4.length ≤ 8 := by have := hG.2.2.2.2.2.2; omega
      by_cases h3 : b.f0 = e
      · rw [if_pos h3]
        by_cases hbig : 65535 < wrap64 (wrap64 (b.f3 + (b.f4.length : Int)) - 1)
        · rw [if_pos hbig, if_neg (fun hc => (q_code_ok hc.2.1).2.1 hbig)]
          rfl
        · rw [if_neg hbig]
          have hx5 : ∀ x, x = (spec_l5Add.ins ps (q_ix ps b.f2) b.f1 b.f2).getD (spec_l5Add.ix ps (q_ix ps b.f2) b.f2) z81 → x.f3.length ≤ 5 := fun x hx => by
            rw [hx]
            exact ins_mem h.win _ (getD_mem (spec_l5Add.ix_lt ps (q_ix ps b.f2) b.f1 b.f2 (q_ix_lt ps b.f2)) z81)
          by_cases ht : q_ix ps b.f2 < 0
          · -- a new one
            have hcode : q_code ps log.length e b.f2 b.f1 b.f3 b.f4.length = if b.f3 = 0 then (if ps.length = 4 then (5, 0) else q_full log.length e b.f3 b.f4.length) else (3, 0) := by
              unfold q_code
              rw [if_neg (by omega)]
            have hgx := getD_at (ps := ps) (ep := b.f1) (id := b.f2) ht
            have hnew : impl_rebuild.new (⟨b.f2, b.f1, 0, []⟩ : S81) b = ⟨b.f2, b.f1, 0, []⟩ := if_neg (Int.lt_irrefl _)
            rw [hgx, hnew, if_neg (Int.lt_irrefl _)]
            by_cases h0 : b.f3 = 0
            · rw [if_pos h0, copy_ev b hb, Option.bind_some]
              unfold impl_Batch_end.f
              rw [Option.bind_some]
              by_cases h4 : ps.length = 4
              · rw [if_neg (fun hc => (q_code_ok hc.2.1).2.2.2.1 ht |>.2 h4)]
                refine iGo_big r (fun x hx => hr x (List.mem_cons_of_mem _ hx)) _ _ _ ?_
                have := spec_l5Add.at_le b.f2 ps
                rw [List.length_set]
                unfold spec_l5Add.ins
                rw [if_pos ht]
                simp only [List.length_append, List.length_take, List.length_cons, List.length_drop]
                omega
              · have hc : (q_code ps log.length e b.f2 b.f1 b.f3 b.f4.length).1 = 0 := by
                  rw [hcode, if_pos h0, if_neg h4]
                  unfold q_full
                  rw [if_neg (by omega), if_neg hbig]
                rw [if_pos ⟨h1, hc, h3⟩]
                have hs := (h.step (recs := b.f4) hc h8).1
                have eb : (⟨e, b.f1, b.f2, b.f3, b.f4⟩ : S78) = b := by rw [← h3]
                rw [eb] at hs
                have hq : q_add ps e b.f1 b.f2 b.f3 b.f4.length = (spec_l5Add.ins ps (q_ix ps b.f2) b.f1 b.f2).set (spec_l5Add.ix ps (q_ix ps b.f2) b.f2) (impl_rebuild.put ⟨b.f2, b.f1, 0, []⟩ b) := by
                  unfold q_add
                  rw [hgx]
                  have hn2 : spec_l5Add.new (⟨b.f2, b.f1, 0, []⟩ : S81) b.f1 b.f2 = ⟨b.f2, b.f1, 0, []⟩ := if_pos rfl
                  rw [hn2]
                  unfold spec_l5Add.put impl_rebuild.put
                  rw [cut_win (by simp), h0, h3]
                have he : wrap64 (b.f0 + (b.f4.length : Int)) = wrap64 (e + (b.f4.length : Int)) := by rw [h3]
                rw [he, ← hq]
                exact iGo_l r (fun x hx => hr x (List.mem_cons_of_mem _ hx)) _ _ _ hs (by rw [List.length_append, List.length_singleton]; omega)
            · rw [if_neg h0, if_neg (fun hc => h0 ((q_code_ok hc.2.1).2.2.2.1 ht).1)]
              rfl
          · -- one that is known
            have ht0 : 0 ≤ q_ix ps b.f2 := by omega
            have hins : spec_l5Add.ins ps (q_ix ps b.f2) b.f1 b.f2 = ps := if_neg ht
            have hix : spec_l5Add.ix ps (q_ix ps b.f2) b.f2 = (q_ix ps b.f2).toNat := if_neg ht
            rw [hins, hix] at hx5 ⊢
            obtain ⟨x, hx⟩ : ∃ x, x = ps.getD (q_ix ps b.f2).toNat z81 := ⟨_, rfl⟩
            have hxw := hx5 x hx
            have hcode : q_code ps log.length e b.f2 b.f1 b.f3 b.f4.length = if b.f1 < x.f1 then (4, 0) else if x.f1 < b.f1 then (if b.f3 = 0 then q_full log.length e b.f3 b.f4.length else (3, 0)) else if b.f3 = x.f2 then q_full log.length e b.f3 b.f4.length else q_again x b.f3 b.f4.length := by
              unfold q_code
              rw [if_pos ht0, ← hx]
            have hqa : ∀ y, spec_l5Add.new x b.f1 b.f2 = y → b.f3 = y.f2 → y.f3.length ≤ 5 → q_add ps e b.f1 b.f2 b.f3 b.f4.length = ps.set (q_ix ps b.f2).toNat (impl_rebuild.put y b) := fun y hy h2 h5 => by
              unfold q_add
              rw [hins, hix, ← hx, hy]
              unfold spec_l5Add.put impl_rebuild.put
              rw [cut_win (by rw [List.length_append, List.length_singleton]; omega), h2, h3]
            rw [← hx]
            have go : ∀ y, impl_rebuild.new x b = y → spec_l5Add.new x b.f1 b.f2 = y → b.f3 = y.f2 → y.f3.length ≤ 5 → (q_code ps log.length e b.f2 b.f1 b.f3 b.f4.length).1 = 0 →
                ((impl_copyBatch.f b.f0 b.f1 b.f2 b.f3 b.f4).bind fun c => (impl_Batch_end.f b.f0 b.f1 b.f2 b.f3 b.f4).bind fun e' => impl_rebuild.go r (ps.set (q_ix ps b.f2).toNat (impl_rebuild.put y b)) (log ++ [⟨c.1, c.2.1, c.2.2.1, c.2.2.2.1, c.2.2.2.2⟩]) e') = some (if q_gb b = true ∧ (q_code ps log.length e b.f2 b.f1 b.f3 b.f4.length).1 = 0 ∧ b.f0 = e then q_go r (q_add ps e b.f1 b.f2 b.f3 b.f4.length) (log ++ [b]) (wrap64 (e + (b.f4.length : Int))) else ([], [], 0, false)) := fun y hy1 hy2 h2 h5 hc => by
              rw [if_pos ⟨h1, hc, h3⟩, copy_ev b hb, Option.bind_some]
              unfold impl_Batch_end.f
              rw [Option.bind_some]
              have hs := (h.step (recs := b.f4) hc h8).1
              have eb : (⟨e, b.f1, b.f2, b.f3, b.f4⟩ : S78) = b := by rw [← h3]
              rw [eb] at hs
              have he : wrap64 (b.f0 + (b.f4.length : Int)) = wrap64 (e + (b.f4.length : Int)) := by rw [h3]
              rw [he, ← hqa y hy2 h2 h5]
              exact iGo_l r (fun x hx => hr x (List.mem_cons_of_mem _ hx)) _ _ _ hs (by rw [List.length_append, List.length_singleton]; omega)
            by_cases ha : x.f1 < b.f1
            · have hy1 : impl_rebuild.new x b = ⟨b.f2, b.f1, 0, []⟩ := if_pos ha
              have hy2 : spec_l5Add.new x b.f1 b.f2 = ⟨b.f2, b.f1, 0, []⟩ := if_neg (by omega)
              rw [hy1, if_neg (Int.lt_irrefl _)]
              by_cases h0 : b.f3 = 0
              · rw [if_pos h0]
                refine go _ hy1 hy2 h0 (Nat.zero_le _) ?_
                rw [hcode, if_neg (by omega), if_pos ha, if_pos h0]
                unfold q_full
                rw [if_neg (by omega), if_neg hbig]
              · rw [if_neg h0, if_neg (fun hc => by
                  have := hc.2.1
                  rw [hcode, if_neg (by omega), if_pos ha, if_neg h0] at this
                  exact absurd this (by decide))]
                rfl
            · have hy1 : impl_rebuild.new x b = x := if_neg ha
              rw [hy1]
              by_cases hlt : b.f1 < x.f1
              · rw [if_pos hlt, if_neg (fun hc => by
                  have := hc.2.1
                  rw [hcode, if_pos hlt] at this
                  exact absurd this (by decide))]
                rfl
              · rw [if_neg hlt]
                have hy2 : spec_l5Add.new x b.f1 b.f2 = x := if_pos (by omega)
                by_cases h0 : b.f3 = x.f2
                · rw [if_pos h0]
                  refine go _ hy1 hy2 h0 hxw ?_
                  rw [hcode, if_neg hlt, if_neg ha, if_pos h0]
                  unfold q_full
                  rw [if_neg (by omega), if_neg hbig]
                · rw [if_neg h0, if_neg (fun hc => by
                    have := hc.2.1
                    rw [hcode, if_neg hlt, if_neg ha, if_neg h0] at this
                    exact absurd this (q_again_no _ _ _))]
                  rfl
      · rw [if_neg h3, if_neg (fun hc => h3 hc.2.2)]
        rfl
    · rw [if_neg h1, if_neg (fun hc => h1 hc.1)]
      rfl
theorem iGo_ev (l : List S78) (hr : ∀ b ∈ l, b.f4.length ≤ 1048576) : impl_rebuild.f l = some (q_go l [] [] 0) := by
  unfold impl_rebuild.f
  by_cases h : 60 < l.length
  · rw [if_pos h, q_long l [] [] 0 (by decide) (by simpa using h)]
    rfl
  · rw [if_neg h]
    exact iGo_l l hr [] [] 0 q_inv.nil (by simp only [List.length_nil]; omega)

theorem do_ne (a b : S112) : ((!(a.f0 == b.f0) || (!(a.f1 == b.f1) || (!(a.f2 == b.f2)))) = true) ↔ ¬ a = b := by
  obtain ⟨a0, a1, a2⟩ := a
  obtain ⟨b0, b1, b2⟩ := b
  by_cases h0 : a0 = b0 <;> by_cases h1 : a1 = b1 <;> by_cases h2 : a2 = b2 <;> simp [h0, h1, h2]
theorem sameD_ev (F : Nat → Nat → Option Bool) (a b : List S112) (hl : a.length = b.length) (h0 : ∀ k, F a.length (k + 1) = some true)
    (h1 : ∀ i k, i < a.length → F i (k + 1) = if (!((a.getD i z112).f0 == (b.getD i z112).f0) || (!((a.getD i z112).f1 == (b.getD i z112).f1) || (!((a.getD i z112).f2 == (b.getD i z112).f2)))) = true then some false else F (i + 1) k) : EvB (F 0) (a = b) := by
  refine (all_evB a.length F (fun i => a.getD i z112 = b.getD i z112) True (EvB.yes h0 trivial) (fun i hi R hR => ?_)).iff ⟨fun h => ext_getD _ hl h.1, fun h => ⟨fun i _ => by rw [h], trivial⟩⟩
  by_cases e : a.getD i z112 = b.getD i z112
  · refine (EvB.step (fun k => ?_) hR).iff ⟨fun h => ⟨e, h⟩, fun h => h.2⟩
    rw [h1 i k hi, if_neg (fun h => (do_ne _ _).1 h e)]
  · exact EvB.no (fun k => by rw [h1 i k hi, if_pos ((do_ne _ _).2 e)]) (fun h => e h.1)
theorem iED_ev (a b : List S112) (ha : a.length ≤ 1048576) : EvB (fun k => slices_Equal_Done.f k a b) (a = b) := by
  unfold slices_Equal_Done.f
  by_cases hl : a.length = b.length
  · obtain ⟨c, hc, hq⟩ := sameD_ev (fun i k => slices_Equal_Done.l0 k a b (a.length : Int) (i : Int)) a b hl
      (fun k => by
        show slices_Equal_Done.l0 (k + 1) a b (a.length : Int) ((a.length : Nat) : Int) = _
        rw [slices_Equal_Done.l0, if_neg (by omega)])
      (fun i k hi => by
        show slices_Equal_Done.l0 (k + 1) a b (a.length : Int) (i : Int) = _
        rw [slices_Equal_Done.l0, if_pos (by omega), if_pos (by omega), if_pos (by omega), if_pos (by omega), do_z, do_z, succ_wrap (by omega)])
    exact ⟨c, Ev.ifp (by omega) hc, hq⟩
  · exact ⟨false, Ev.ifn (by omega) (Ev.now _), Iff.intro (fun h => by cases h) (fun h => absurd (congrArg List.length h) hl)⟩
theorem pr_ext {a b : S81} (h0 : a.f0 = b.f0) (h1 : a.f1 = b.f1) (h2 : a.f2 = b.f2) (h3 : a.f3 = b.f3) : a = b := by
  obtain ⟨a0, a1, a2, a3⟩ := a
  obtain ⟨b0, b1, b2, b3⟩ := b
  have h0' : a0 = b0 := h0
  have h1' : a1 = b1 := h1
  have h2' : a2 = b2 := h2
  have h3' : a3 = b3 := h3
  rw [h0', h1', h2', h3']
theorem iP1_ev (a b : S81) (ha : a.f3.length ≤ 1048576) : EvB (fun k => impl_isPart_1.f k a.f0 a.f1 a.f2 a.f3 b.f0 b.f1 b.f2 b.f3) (a = b) := by
  unfold impl_isPart_1.f
  by_cases h0 : a.f0 = b.f0
  · by_cases h1 : a.f1 = b.f1
    · by_cases h2 : a.f2 = b.f2
      · exact EvB.ifp h0 (EvB.ifp h1 (EvB.ifp h2 ((EvB.same (iED_ev a.f3 b.f3 ha)).iff ⟨fun h3 => pr_ext h0 h1 h2 h3, fun h => by rw [h]⟩)))
      · exact EvB.ifp h0 (EvB.ifp h1 (EvB.ifn h2 (EvB.fls fun h => h2 (by rw [h]))))
    · exact EvB.ifp h0 (EvB.ifn h1 (EvB.fls fun h => h1 (by rw [h])))
  · exact EvB.ifn h0 (EvB.fls fun h => h0 (by rw [h]))
theorem iEP_ev (x y : List S81) (hx : ∀ i, i < x.length → (x.getD i z81).f3.length ≤ 1048576) : EvB (fun k => slices_EqualFunc_Producer.f k x y) (x = y) := by
  unfold slices_EqualFunc_Producer.f
  by_cases hl : x.length = y.length
  · refine EvB.ifp hl ((all_evB x.length (fun i k => slices_EqualFunc_Producer.l0 k x y i) (fun i => x.getD i z81 = y.getD i z81) True (EvB.yes (fun k => ?_) trivial) (fun i hi R hR => ?_)).iff ⟨fun h => ext_getD _ hl h.1, fun h => ⟨fun i _ => by rw [h], trivial⟩⟩)
    · show slices_EqualFunc_Producer.l0 (k + 1) x y x.length = _
      rw [slices_EqualFunc_Producer.l0, if_neg (by omega)]
    · refine EvB.step (fun k => ?_) (EvB.andThen (iP1_ev (x.getD i z81) (y.getD i z81) (hx i hi)) (fun _ => hR))
      show slices_EqualFunc_Producer.l0 (k + 1) x y i = _
      rw [slices_EqualFunc_Producer.l0, if_pos hi]
  · exact EvB.ifn hl (EvB.fls fun h => hl (congrArg List.length h))
theorem sSP_ev (a b : S81) (ha : a.f3.length ≤ 1048576) : EvB (fun k => spec_l5Same.f k a.f0 a.f1 a.f2 a.f3 b.f0 b.f1 b.f2 b.f3) (a = b) := by
  unfold spec_l5Same.f
  have no : ∀ (h : ¬ a = b), EvB (fun k => spec_l5Same.j0 k true a.f0 a.f1 a.f2 a.f3 b.f0 b.f1 b.f2 b.f3) (a = b) := fun h => EvB.no (fun k => by rw [spec_l5Same.j0, if_pos rfl]) h
  by_cases h0 : a.f0 = b.f0
  · by_cases h1 : a.f1 = b.f1
    · by_cases h2 : a.f2 = b.f2
      · refine EvB.ifp h0 (EvB.ifp h1 (EvB.ifp h2 ?_))
        by_cases hl : a.f3.length = b.f3.length
        · have hb : ((a.f3.length : Int) != (b.f3.length : Int)) = false := bne_eq_false_iff_eq.mpr (by omega)
          refine EvB.step (f := fun k => spec_l5Same.l0 k (a.f3.length : Int) 0 a.f0 a.f1 a.f2 a.f3 b.f0 b.f1 b.f2 b.f3) (fun k => by rw [hb, spec_l5Same.j0, if_neg (by decide)]) ?_
          exact (sameD_ev (fun i k => spec_l5Same.l0 k (a.f3.length : Int) (i : Int) a.f0 a.f1 a.f2 a.f3 b.f0 b.f1 b.f2 b.f3) a.f3 b.f3 hl
            (fun k => by
              show spec_l5Same.l0 (k + 1) (a.f3.length : Int) ((a.f3.length : Nat) : Int) _ _ _ _ _ _ _ _ = _
              rw [spec_l5Same.l0, if_neg (by omega)])
            (fun i k hi => by
              show spec_l5Same.l0 (k + 1) (a.f3.length : Int) (i : Int) _ _ _ _ _ _ _ _ = _
              rw [spec_l5Same.l0, if_pos (by omega), if_pos (by omega), if_pos (by omega), if_pos (by omega), do_z, do_z, succ_wrap (by omega)])).iff ⟨fun h3 => pr_ext h0 h1 h2 h3, fun h => by rw [h]⟩
        · have hb : ((a.f3.length : Int) != (b.f3.length : Int)) = true := bne_iff_ne.mpr (by omega)
          rw [hb]
          exact no (fun h => hl (by rw [h]))
      · exact EvB.ifp h0 (EvB.ifp h1 (EvB.ifn h2 (no fun h => h2 (by rw [h]))))
    · exact EvB.ifp h0 (EvB.ifn h1 (no fun h => h1 (by rw [h])))
  · exact EvB.ifn h0 (no fun h => h0 (by rw [h]))
def GP (ps : List S81) (log : List S78) (e : Int) : Prop := (q_go log [] [] 0).2.2.2 = true ∧ (q_go log [] [] 0).2.2.1 = e ∧ (q_go log [] [] 0).1 = ps
theorem q_win (log : List S78) : ∀ i, i < (q_go log [] [] 0).1.length → ((q_go log [] [] 0).1.getD i z81).f3.length ≤ 1048576 := fun i hi => by
  rcases q_go_inv log [] [] 0 q_inv.nil with ⟨_, h2⟩ | ⟨_, _, h3⟩
  · rw [h2] at hi
    exact absurd hi (Nat.not_lt_zero _)
  · exact Nat.le_trans (h3.win _ (getD_mem hi _)) (by decide)
theorem q_len (log : List S78) : (q_go log [] [] 0).1.length ≤ 4 := by
  rcases q_go_inv log [] [] 0 q_inv.nil with ⟨_, h2⟩ | ⟨_, _, h3⟩
  · rw [h2]
    exact Nat.zero_le _
  · exact h3.ps4
theorem GP.inv {ps : List S81} {log : List S78} {e : Int} (h : GP ps log e) : q_inv ps log e := by
  obtain ⟨h1, h2, h3⟩ := h
  rcases q_go_inv log [] [] 0 q_inv.nil with ⟨h4, _⟩ | ⟨_, h5, h6⟩
  · rw [h4] at h1
    cases h1
  · rw [h5, h2, h3] at h6
    exact h6
theorem GP.go {ps : List S81} {log : List S78} {e : Int} (h : GP ps log e) : q_go log [] [] 0 = (ps, log, e, true) := by
  obtain ⟨h1, h2, h3⟩ := h
  rcases q_go_inv log [] [] 0 q_inv.nil with ⟨h4, _⟩ | ⟨_, h5, h6⟩
  · rw [h4] at h1
    cases h1
  · generalize q_go log [] [] 0 = R at h1 h2 h3 h5
    obtain ⟨a, b, c, d⟩ := R
    have e1 : a = ps := h3
    have e2 : b = [] ++ log := h5
    have e3 : c = e := h2
    have e4 : d = true := h1
    rw [e1, e2, e3, e4, List.nil_append]
theorem iGP_ev (ps : List S81) (log : List S78) (e : Int) (hr : ∀ b ∈ log, b.f4.length ≤ 1048576) : EvB (fun k => impl_isPart.f k ps log e) (GP ps log e) := by
  unfold impl_isPart.f
  rw [iGo_ev log hr]
  refine EvB.cg (f := fun k => if (q_go log [] [] 0).2.2.2 = true then (if (q_go log [] [] 0).2.2.1 = e then ((slices_EqualFunc_Producer.f k (q_go log [] [] 0).1 ps).bind fun t => some t) else some false) else some false) (fun k => rfl) ?_
  by_cases h1 : (q_go log [] [] 0).2.2.2 = true
  · by_cases h2 : (q_go log [] [] 0).2.2.1 = e
    · exact EvB.ifp h1 (EvB.ifp h2 ((EvB.same (iEP_ev _ ps (q_win log))).iff ⟨fun h3 => ⟨h1, h2, h3⟩, fun h => h.2.2⟩))
    · exact EvB.ifp h1 (EvB.ifn h2 (EvB.fls fun h => h2 h.2.1))
  · exact EvB.ifn h1 (EvB.fls fun h => h1 h.1)
theorem sGP_ev (ps : List S81) (log : List S78) (e : Int) (hl : log.length ≤ 1048576) (hr : ∀ b ∈ log, b.f4.length ≤ 1048576) : EvB (fun k => spec_GoodPart.f k ps log e) (GP ps log e) := by
  unfold spec_GoodPart.f
  refine EvB.bd (f := fun k r => if r.2.2.2 = true then (if r.2.2.1 = e then spec_GoodPart.j0 k ((r.1.length : Int) != (ps.length : Int)) ps log e r.1 r.2.1 r.2.2.1 else spec_GoodPart.j0 k true ps log e r.1 r.2.1 r.2.2.1) else spec_GoodPart.j0 k true ps log e r.1 r.2.1 r.2.2.1) (sGo_ev log hl hr) ?_
  have no : ∀ (A : List S81) (B : List S78) (E : Int) (h : ¬ GP ps log e), EvB (fun k => spec_GoodPart.j0 k true ps log e A B E) (GP ps log e) := fun A B E h => EvB.no (fun k => by rw [spec_GoodPart.j0, if_pos rfl]) h
  have hw := q_win log
  have hq4 := q_len log
  by_cases h1 : (q_go log [] [] 0).2.2.2 = true
  · by_cases h2 : (q_go log [] [] 0).2.2.1 = e
    · refine EvB.ifp h1 (EvB.ifp h2 ?_)
      have hG : GP ps log e ↔ (q_go log [] [] 0).1 = ps := ⟨fun h => h.2.2, fun h => ⟨h1, h2, h⟩⟩
      generalize (q_go log [] [] 0).2.1 = B
      generalize (q_go log [] [] 0).2.2.1 = E
      generalize (q_go log [] [] 0).1 = A at hw hq4 hG ⊢
      by_cases hl : A.length = ps.length
      · have hb : ((A.length : Int) != (ps.length : Int)) = false := bne_eq_false_iff_eq.mpr (by omega)
        refine EvB.step (f := fun k => spec_GoodPart.l0 k (A.length : Int) 0 ps log e A B E) (fun k => by rw [hb, spec_GoodPart.j0, if_neg (by decide)]) ?_
        refine ((all_evB A.length (fun i k => spec_GoodPart.l0 k (A.length : Int) (i : Int) ps log e A B E) (fun i => A.getD i z81 = ps.getD i z81) True (EvB.yes (fun k => ?_) trivial) (fun i hi R hR => ?_)).iff ⟨fun h => ext_getD _ hl h.1, fun h => ⟨fun i _ => by rw [h], trivial⟩⟩).iff hG.symm
        · show spec_GoodPart.l0 (k + 1) (A.length : Int) ((A.length : Nat) : Int) ps log e A B E = _
          rw [spec_GoodPart.l0, if_neg (by omega)]
        · refine EvB.step (fun k => ?_) (EvB.andThen (sSP_ev (A.getD i z81) (ps.getD i z81) (hw i hi)) (fun _ => hR))
          show spec_GoodPart.l0 (k + 1) (A.length : Int) (i : Int) ps log e A B E = _
          rw [spec_GoodPart.l0, if_pos (by omega), if_pos (by omega), if_pos (by omega), if_pos (by omega), pr_z, pr_z, succ_wrap (by omega)]
      · have hb : ((A.length : Int) != (ps.length : Int)) = true := bne_iff_ne.mpr (by omega)
        rw [hb]
        exact no _ _ _ (fun h => hl (by rw [hG.1 h]))
    · exact EvB.ifp h1 (EvB.ifn h2 (no _ _ _ fun h => h2 h.2.1))
  · exact EvB.ifn h1 (no _ _ _ fun h => h1 h.1)

theorem iJ2f_ev (t : Int) (ht : 0 ≤ t) (ps : List S81) (log : List S78) (e id ep seq : Int) (recs : List ByteArray) :
    Ev (fun k => impl_Part_codeOf.j2 k t false ps log e id ep seq recs) (q_full log.length e seq recs.length) :=
  Ev.step (f := fun _ => some (q_full log.length e seq recs.length)) (fun k => by
    rw [impl_Part_codeOf.j2, if_neg (by decide), if_neg (by omega)]
    exact q_full_ev _ _ _ _) (Ev.now _)
theorem iScan_l (x : S81) (id ep seq : Int) (recs : List ByteArray) (hw : x.f3.length ≤ 1048576) : ∀ d i : Nat, i + d = x.f3.length →
    Ev (fun k => impl_Part_codeOf.l0 k x.f3 (x.f3.length : Int) (i : Int) id ep seq recs x.f0 x.f1 x.f2 x.f3) (match q_scan seq recs.length (x.f3.drop i) with
      | some o => (1, o)
      | none => if seq < x.f2 then (2, 0) else (3, 0))
  | 0, i, hd => by
    rw [List.drop_eq_nil_of_le (by omega)]
    show Ev _ (if seq < x.f2 then ((2 : Int), (0 : Int)) else (3, 0))
    by_cases h2 : seq < x.f2
    · rw [if_pos h2]
      exact Ev.step (f := fun _ => some (2, 0)) (fun k => by rw [impl_Part_codeOf.l0, if_neg (by omega), if_pos h2]) (Ev.now _)
    · rw [if_neg h2]
      exact Ev.step (f := fun _ => some (3, 0)) (fun k => by rw [impl_Part_codeOf.l0, if_neg (by omega), if_neg h2]) (Ev.now _)
  | d + 1, i, hd => by
    have hi : i < x.f3.length := by omega
    have e1 : x.f3.getD i z112 = x.f3[i] := by rw [List.getD_eq_getElem?_getD, List.getElem?_eq_getElem hi]; rfl
    have ih := iScan_l x id ep seq recs hw d (i + 1) (by omega)
    rw [List.drop_eq_getElem_cons hi, q_scan]
    have hst : ∀ k, impl_Part_codeOf.l0 (k + 1) x.f3 (x.f3.length : Int) (i : Int) id ep seq recs x.f0 x.f1 x.f2 x.f3 = if x.f3[i].f0 = seq then (if x.f3[i].f1 = (recs.length : Int) then some (1, x.f3[i].f2) else impl_Part_codeOf.l0 k x.f3 (x.f3.length : Int) ((i + 1 : Nat) : Int) id ep seq recs x.f0 x.f1 x.f2 x.f3) else impl_Part_codeOf.l0 k x.f3 (x.f3.length : Int) ((i + 1 : Nat) : Int) id ep seq recs x.f0 x.f1 x.f2 x.f3 := fun k => by
      rw [impl_Part_codeOf.l0, if_pos (by omega), if_pos (by omega), if_pos (by omega), do_z, e1, succ_wrap (by omega)]
    by_cases h1 : x.f3[i].f0 = seq
    · by_cases h2 : x.f3[i].f1 = (recs.length : Int)
      · rw [if_pos ⟨h1, h2⟩]
        exact Ev.step hst (Ev.ifp h1 (Ev.ifp h2 (Ev.now _)))
      · rw [if_neg (fun h => h2 h.2)]
        exact Ev.step hst (Ev.ifp h1 (Ev.ifn h2 ih))
    · rw [if_neg (fun h => h1 h.1)]
      exact Ev.step hst (Ev.ifn h1 ih)
theorem iCode_ev (ps : List S81) (log : List S78) (e id ep seq : Int) (recs : List ByteArray) (hw : ∀ x ∈ ps, x.f3.length ≤ 1048576) :
    Ev (fun k => impl_Part_codeOf.f k ps log e id ep seq recs) (q_code ps log.length e id ep seq recs.length) := by
  have hp : impl_Part_producerAt.f ps log e id = some (q_ix ps id) := rfl
  unfold impl_Part_codeOf.f
  rw [hp]
  refine Ev.bind (Ev.now (q_ix ps id)) ?_
  have hlt := q_ix_lt ps id
  unfold q_code
  generalize ht : q_ix ps id = t at hlt ⊢
  by_cases h0 : 0 ≤ t
  · have hm := getD_mem (l := ps) (i := t.toNat) (by omega) z81
    have ex : rd_T81 ps t = ps.getD t.toNat z81 := rfl
    rw [if_pos h0]
    refine Ev.ifp (show t ≥ 0 from h0) (Ev.ifp h0 (Ev.ifp hlt ?_))
    rw [ex]
    have hwx := hw _ hm
    generalize ps.getD t.toNat z81 = x at hwx ex ⊢
    by_cases h1 : ep < x.f1
    · rw [if_pos h1]
      exact Ev.ifp (show x.f1 > ep from h1) (Ev.now _)
    · rw [if_neg h1]
      refine Ev.ifn (show ¬ x.f1 > ep from h1) ?_
      by_cases h2 : x.f1 < ep
      · rw [if_pos h2]
        refine Ev.ifn (by omega) (Ev.step (f := fun k => impl_Part_codeOf.j2 k t (seq != 0) ps log e id ep seq recs) (fun k => ?_) ?_)
        · rw [impl_Part_codeOf.j1, show (x.f1 == ep) = false from beq_eq_false_iff_ne.mpr (by omega), if_neg (by decide)]
        · by_cases h3 : seq = 0
          · rw [if_pos h3, show (seq != 0) = false by rw [h3]; rfl]
            exact iJ2f_ev t h0 ps log e id ep seq recs
          · rw [if_neg h3, show (seq != 0) = true from bne_iff_ne.mpr h3]
            exact Ev.step (f := fun _ => some (3, 0)) (fun k => by rw [impl_Part_codeOf.j2, if_pos rfl]) (Ev.now _)
      · rw [if_neg h2]
        have h3 : x.f1 = ep := by omega
        refine Ev.ifp h3 ?_
        by_cases h4 : seq = x.f2
        · rw [if_pos h4]
          refine Ev.ifp h4 (Ev.step (f := fun k => impl_Part_codeOf.j2 k t false ps log e id ep seq recs) (fun k => ?_) (iJ2f_ev t h0 ps log e id ep seq recs))
          rw [impl_Part_codeOf.j1, show (x.f1 == ep) = true from beq_iff_eq.mpr h3, if_pos rfl]
        · rw [if_neg h4]
          exact Ev.ifn h4 (iScan_l x id ep seq recs hwx x.f3.length 0 (by omega))
  · rw [if_neg h0]
    refine Ev.ifn (show ¬ t ≥ 0 from h0) (Ev.step (f := fun k => impl_Part_codeOf.j2 k t (seq != 0) ps log e id ep seq recs) (fun k => ?_) ?_)
    · rw [impl_Part_codeOf.j1, if_neg (by decide)]
    · by_cases h3 : seq = 0
      · rw [if_pos h3, show (seq != 0) = false by rw [h3]; rfl]
        by_cases h4 : ps.length = 4
        · rw [if_pos h4]
          refine Ev.step (f := fun _ => some (5, 0)) (fun k => ?_) (Ev.now _)
          rw [impl_Part_codeOf.j2, if_neg (by decide), if_pos (by omega), if_pos (by omega)]
        · rw [if_neg h4]
          refine Ev.step (f := fun _ => some (q_full log.length e seq recs.length)) (fun k => ?_) (Ev.now _)
          rw [impl_Part_codeOf.j2, if_neg (by decide), if_pos (by omega), if_neg (by omega)]
          exact q_full_ev _ _ _ _
      · rw [if_neg h3, show (seq != 0) = true from bne_iff_ne.mpr h3]
        exact Ev.step (f := fun _ => some (3, 0)) (fun k => by rw [impl_Part_codeOf.j2, if_pos rfl]) (Ev.now _)
theorem iAR (l : List ByteArray) : ∃ b, impl_areRecords.f l = some b ∧ (b = true ↔ ((1 ≤ (l.length : Int) ∧ (l.length : Int) ≤ 8) ∧ ∀ j, j < l.length → (l.getD j ByteArray.empty).size ≤ 20)) := by
  have hq : ∀ j, impl_areRecords.q l j = true ↔ ¬ (l.getD j ByteArray.empty).size ≤ 20 := fun j => by
    unfold impl_areRecords.q
    rw [decide_eq_true_iff, st_nat]
    omega
  have ha : EvB (fun _ : Nat => impl_areRecords.f l) ((1 ≤ (l.length : Int) ∧ (l.length : Int) ≤ 8) ∧ ∀ j, j < l.length → (l.getD j ByteArray.empty).size ≤ 20) := by
    unfold impl_areRecords.f
    simp only [iin, Option.bind_some]
    refine EvB.and ⟨_, Ev.now _, ?_⟩
    rw [Bool.not_eq_true', decide_eq_false_iff_not, ixS_iff]
    refine ⟨fun h j hj => ?_, fun h ⟨j, h1, h2, h3⟩ => (hq j).1 h3 (h j (by omega))⟩
    by_cases hz : (l.getD j ByteArray.empty).size ≤ 20
    · exact hz
    · exact absurd ⟨j, Nat.zero_le _, by omega, (hq j).2 hz⟩ h
  obtain ⟨b, ⟨K, hK⟩, hbq⟩ := ha
  exact ⟨b, hK K (Nat.le_refl _), hbq⟩
theorem q_ask_inv {ps : List S81} {log : List S78} {e id ep seq : Int} {recs : List ByteArray} (h : q_inv ps log e) (hr : recs.length ≤ 8) : q_inv (q_ask ps log e id ep seq recs).1 (q_ask ps log e id ep seq recs).2.1 (q_ask ps log e id ep seq recs).2.2.1 := by
  unfold q_ask
  by_cases hc : (q_code ps log.length e id ep seq recs.length).1 = 0
  · rw [if_pos hc]
    exact (h.step hc hr).1
  · rw [if_neg hc]
    exact h
noncomputable def q_askp (ps : List S81) (log : List S78) (e id ep seq : Int) (recs : List ByteArray) : List S81 × List S78 × Int × Int × Int × Bool :=
  @ite _ (GP ps log e ∧ GB 0 ep id seq recs) (Classical.propDecidable _) ((q_ask ps log e id ep seq recs).1, (q_ask ps log e id ep seq recs).2.1, (q_ask ps log e id ep seq recs).2.2.1, (q_ask ps log e id ep seq recs).2.2.2.1, (q_ask ps log e id ep seq recs).2.2.2.2, true) ([], [], 0, 0, 0, false)
theorem q_askp_inv (ps : List S81) (log : List S78) (e id ep seq : Int) (recs : List ByteArray) : q_inv (q_askp ps log e id ep seq recs).1 (q_askp ps log e id ep seq recs).2.1 (q_askp ps log e id ep seq recs).2.2.1 := by
  by_cases h : GP ps log e ∧ GB 0 ep id seq recs
  · rw [q_askp, if_pos h]
    have h8 := h.2.2.2.2.2.2.2
    exact q_ask_inv h.1.inv (by omega)
  · rw [q_askp, if_neg h]
    exact q_inv.nil
theorem sAskP_ev (ps : List S81) (log : List S78) (e id ep seq : Int) (recs : List ByteArray) (hl : log.length ≤ 1048576) (hr : ∀ b ∈ log, b.f4.length ≤ 1048576) (hn : recs.length ≤ 1048576) :
    Ev (fun k => spec_AskPart.f k ps log e id ep seq recs) (q_askp ps log e id ep seq recs) := by
  have no : (h : ¬ (GP ps log e ∧ GB 0 ep id seq recs)) → Ev (fun k => spec_AskPart.j0 k true ps log e id ep seq recs) (q_askp ps log e id ep seq recs) := fun h => by
    rw [q_askp, if_neg h]
    exact Ev.step (f := fun _ => some ([], [], 0, 0, 0, false)) (fun k => by rw [spec_AskPart.j0, if_pos rfl]) (Ev.now _)
  unfold spec_AskPart.f
  obtain ⟨b, hb, hq⟩ := sGP_ev ps log e hl hr
  refine Ev.bind hb ?_
  cases b with
  | false => exact Ev.ifn (by decide) (no fun h => by have := hq.2 h.1; cases this)
  | true =>
    refine Ev.ifp rfl ?_
    have hG := hq.1 rfl
    have hB : Ev (fun _ => spec_l5Batch.f 0 0 0 0 [] id ep seq recs) (0, ep, id, seq, recs) := by
      unfold spec_l5Batch.f
      rw [Option.bind_some, if_pos (by simp only [List.length_nil]; omega), List.nil_append]
      exact Ev.now _
    refine Ev.bind hB ?_
    obtain ⟨c, hc, hqc⟩ := sGB_ev 0 ep id seq recs hn
    refine Ev.bind hc ?_
    cases c with
    | false => exact no fun h => by have := hqc.2 h.2; cases this
    | true =>
      have hG2 := hqc.1 rfl
      have hi := hG.inv
      have h8 := hG2.2.2.2.2.2
      have hi2 := q_ask_inv (id := id) (ep := ep) (seq := seq) (recs := recs) hi (by omega)
      have h4 := hi.ps4
      have h6 := hi.len
      rw [q_askp, if_pos ⟨hG, hG2⟩]
      have ha := sAsk_ev ps log e id ep seq recs (by omega) (fun x hx => Nat.le_trans (hi.win x hx) (by decide)) (by omega) hn
      generalize q_ask ps log e id ep seq recs = R at hi2 ha ⊢
      have r4 := hi2.ps4
      have r6 := hi2.len
      have ho := sOwnP_ev R.1 R.2.1 R.2.2.1 (by omega) (fun x hx => Nat.le_trans (hi2.win x hx) (by decide)) (by omega) (fun x hx => Nat.le_trans (hi2.recs x hx) (by decide))
      exact Ev.step (f := fun k => (spec_l5Ask.f k ps log e id ep seq recs).bind fun t => (spec_l5Own.f k t.1 t.2.1 t.2.2.1).bind fun u => some (u.1, u.2.1, u.2.2, t.2.2.2.1, t.2.2.2.2, true)) (fun k => by rw [spec_AskPart.j0, if_neg (by decide)]) (Ev.bind ha (Ev.bind ho (Ev.now _)))
theorem iAskP_ev (ps : List S81) (log : List S78) (e id ep seq : Int) (recs : List ByteArray) (hr : ∀ b ∈ log, b.f4.length ≤ 1048576) :
    Ev (fun k => impl_AskPart.f k ps log e id ep seq recs) (q_askp ps log e id ep seq recs) := by
  have no : (h : ¬ (GP ps log e ∧ GB 0 ep id seq recs)) → Ev (fun k => impl_AskPart.g k true ps log e id ep seq recs) (q_askp ps log e id ep seq recs) := fun h => by
    rw [q_askp, if_neg h]
    unfold impl_AskPart.g
    exact Ev.ifp rfl (Ev.now _)
  unfold impl_AskPart.f
  obtain ⟨b, hb, hq⟩ := iGP_ev ps log e hr
  refine Ev.bind hb ?_
  cases b with
  | false => exact Ev.ifn (by decide) (no fun h => by have := hq.2 h.1; cases this)
  | true =>
    refine Ev.ifp rfl ?_
    have hG := hq.1 rfl
    obtain ⟨c, hc, hqc⟩ := iAR recs
    simp only [iin, Option.bind_some, hc]
    by_cases h1 : 0 ≤ id ∧ id ≤ 65535
    · refine Ev.ifp (decide_eq_true h1) ?_
      by_cases h2 : 0 ≤ ep ∧ ep ≤ 1000
      · refine Ev.ifp (decide_eq_true h2) ?_
        by_cases h3 : 0 ≤ seq ∧ seq ≤ 65535
        · refine Ev.ifp (decide_eq_true h3) ?_
          cases c with
          | false => exact no fun h => by have := hqc.2 ⟨h.2.2.2.2.2.2, h.2.1⟩; cases this
          | true =>
            have h5 := hqc.1 rfl
            have hG2 : GB 0 ep id seq recs := ⟨h5.2, ⟨by decide, by decide⟩, h2, h1, h3, h5.1⟩
            have hi := hG.inv
            have h6 := hi.len
            rw [q_askp, if_pos ⟨hG, hG2⟩]
            unfold impl_AskPart.g
            refine Ev.ifn (by decide) (Ev.bind (iCode_ev ps log e id ep seq recs (fun x hx => Nat.le_trans (hi.win x hx) (by decide))) ?_)
            have hgo := hG.go
            by_cases hc0 : (q_code ps log.length e id ep seq recs.length).1 = 0
            · rw [show q_ask ps log e id ep seq recs = _ from if_pos hc0]
              refine Ev.ifp hc0 (Ev.ifp (by omega) ?_)
              have h0 := hi.e0
              have h8 := hi.e8
              have h9 : e ≤ 100000 := by omega
              have hgb : q_gb ⟨e, ep, id, seq, recs⟩ = true := (q_gb_iff _).2 ⟨h5.2, ⟨h0, h9⟩, h2, h1, h3, h5.1⟩
              have hw := h5.1.2
              have hm : ∀ b ∈ log ++ [(⟨e, ep, id, seq, recs⟩ : S78)], b.f4.length ≤ 1048576 := fun b hb => by
                rcases List.mem_append.1 hb with hb | hb
                · exact hr b hb
                · rw [List.mem_singleton.1 hb]
                  exact show recs.length ≤ 1048576 by omega
              have hgo2 : q_go (log ++ [(⟨e, ep, id, seq, recs⟩ : S78)]) [] [] 0 = (q_add ps e ep id seq recs.length, log ++ [⟨e, ep, id, seq, recs⟩], wrap64 (e + (recs.length : Int)), true) := by
                rw [q_snoc, hgo, if_pos rfl]
                show q_go [⟨e, ep, id, seq, recs⟩] ps log e = _
                rw [q_go, if_pos ⟨hgb, hc0, rfl⟩]
                rfl
              rw [iGo_ev _ hm, hgo2]
              exact Ev.bind (Ev.now _) (Ev.now _)
            · rw [show q_ask ps log e id ep seq recs = _ from if_neg hc0]
              refine Ev.ifn hc0 ?_
              rw [iGo_ev _ hr, hgo]
              exact Ev.bind (Ev.now _) (Ev.now _)
        · exact Ev.ifn (by rw [decide_eq_false h3]; decide) (no fun h => h3 h.2.2.2.2.2.1)
      · exact Ev.ifn (by rw [decide_eq_false h2]; decide) (no fun h => h2 h.2.2.2.1)
    · exact Ev.ifn (by rw [decide_eq_false h1]; decide) (no fun h => h1 h.2.2.2.2.1)

theorem FnExactAskPart : laws_FnExactAskPart.Pure := by
  intro x0 x1 hok0 hok1
  obtain ⟨⟨hp, hps⟩, ⟨hb, hbs⟩, _⟩ := hok0
  obtain ⟨_, _, _, ha, has⟩ := hok1
  apply Ev.rounds
  unfold laws_FnExactAskPart.f
  obtain ⟨r, h1, hr1, hr2, h4⟩ := szPT_ev x0.f0 x0.f1 x0.f2 hp (fun x hx => (hps x hx).2.2.2.1) hb (fun x hx => (hbs x hx).2.2.2.2) 1048576 (by decide) (by decide)
  refine Ev.bind h1 ?_
  by_cases hr : r < 0
  · exact Ev.ifp hr (Ev.now _)
  refine Ev.ifn hr ?_
  obtain ⟨⟨hp1, hp2⟩, hb1, hb2⟩ := h4 (by omega)
  obtain ⟨s, h5, _, _, h6⟩ := szSS_ev x1.f3 ha has r (by omega) hr2
  have hz : Ev (fun k => laws_szAsk.f k x1.f0 x1.f1 x1.f2 x1.f3 r) s := by
    unfold laws_szAsk.f
    refine Ev.bind h5 ?_
    by_cases hs : s < 0
    · rw [show s = -1 by omega]
      exact Ev.ifp (by decide) (Ev.now _)
    · exact Ev.ifn hs (Ev.now _)
  refine Ev.bind hz ?_
  by_cases hs : s < 0
  · exact Ev.ifp hs (Ev.now _)
  refine Ev.ifn hs ?_
  have hn := (h6 (by omega)).1
  have ht := toPT_ev x0.f0 x0.f1 x0.f2 hp1 hp2 hb1 hb2
  have hP : (x0.f0.map cvP).length ≤ 1048576 := by rw [List.length_map]; exact hp1
  have hP2 := cvP_len x0.f0 hp2
  have hB : (x0.f1.map cvB).length ≤ 1048576 := by rw [List.length_map]; exact hb1
  have hB2 := cvB_len x0.f1 hb2
  generalize x0.f0.map cvP = ps at ht hP hP2
  generalize x0.f1.map cvB = log at ht hB hB2
  have hrm := mem_of_getD z78 (P := fun b => b.f4.length ≤ 1048576) hB2
  have ht2 : Ev (fun k => laws_toAsk.f k x1.f0 x1.f1 x1.f2 x1.f3) (x1.f0, x1.f1, x1.f2, x1.f3) := by
    unfold laws_toAsk.f
    exact Ev.bind (toSS_ev x1.f3 hn) (Ev.now _)
  refine Ev.bind ht (Ev.bind ht2 ?_)
  have hsp := sAskP_ev ps log x0.f2 x1.f0 x1.f1 x1.f2 x1.f3 hB hrm hn
  have him := iAskP_ev ps log x0.f2 x1.f0 x1.f1 x1.f2 x1.f3 hrm
  have hiv := q_askp_inv ps log x0.f2 x1.f0 x1.f1 x1.f2 x1.f3
  generalize q_askp ps log x0.f2 x1.f0 x1.f1 x1.f2 x1.f3 = R at hsp him hiv
  obtain ⟨rp, rl, re, c, o, b⟩ := R
  have p4 : rp.length ≤ 4 := hiv.ps4
  have p5 : ∀ x ∈ rp, x.f3.length ≤ 5 := hiv.win
  have p6 : rl.length ≤ 60 := hiv.len
  have p8 : ∀ x ∈ rl, x.f4.length ≤ 8 := hiv.recs
  have hRP : LP rp := ⟨by omega, fun j hj => Nat.le_trans (p5 _ (getD_mem hj _)) (by decide)⟩
  have hRB : LBx rl := ⟨by omega, fun j hj => Nat.le_trans (p8 _ (getD_mem hj _)) (by decide)⟩
  have hP3 : LP ps := ⟨hP, hP2⟩
  have hB3 : LBx log := ⟨hB, hB2⟩
  have c1 := cnP_le ps hP3
  have c2 := cnBx_le log hB3
  have hm := markSS_ev x1.f3 hn (1 + cntL cnP ps + cntL cnB log) (by omega)
  refine Ev.bind hsp (Ev.bind him (Ev.bind (eqPT_ev rp rl re hRP.1 hRP.2 hRB.1 hRB.2) (Ev.ifp ⟨rfl, rfl, rfl, rfl⟩ ?_)))
  have he : Ev (fun k => laws_eqAsk.f k x1.f0 x1.f1 x1.f2 x1.f3 x1.f0 x1.f1 x1.f2 x1.f3) true := by
    unfold laws_eqAsk.f
    exact Ev.ifp rfl (Ev.ifp rfl (Ev.ifp rfl (Ev.bind (eqSS_ev x1.f3 hn) (Ev.ifp rfl (Ev.now _)))))
  have hma : Ev (fun k => laws_markAsk.f k x1.f0 x1.f1 x1.f2 x1.f3 ((1 + cntL cnP ps + cntL cnB log : Nat) : Int)) (((1 + cntL cnP ps + cntL cnB log + cntL (fun _ => 1) x1.f3 : Nat) : Int), markL (fun _ n => mtx n) (fun _ => 1) x1.f3 (1 + cntL cnP ps + cntL cnB log)) := by
    unfold laws_markAsk.f
    exact Ev.bind hm (Ev.now _)
  exact Ev.bind (eqPT_ev ps log x0.f2 hP hP2 hB hB2) (Ev.bind he (Ev.bind (markPT_ev ps log x0.f2 hP3 hB3 1 (by decide)) (Ev.bind hma (Ev.ifp ⟨rfl, rfl, by omega⟩ (Ev.bind (markPT_ev rp rl re hRP hRB 1 (by decide)) (Ev.bind (heldPT_ev rp rl re hRP hRB 1 (by decide)) (Ev.ifp ⟨by omega, rfl⟩ (Ev.now _))))))))


end Go.Proofs.Ytojdaolclcmalaa.Pure
