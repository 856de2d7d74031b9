/- NewStore of the program answers as the reference's, for every number; its answer owns its memory. Conditions: none but the statement's own. -/
import Derived.Test.YtffpeklekkpbjaaQFnExactNewStorex4
namespace Go.Proofs.Ytffpeklekkpbjaa.Pure
open Go.RowKit Go.Proofs.Ytffpeklekkpbjaa.QFnExactNewStore Go.Proofs.YtffpeklekkpbjaaW.PrintWords Go.Proofs.YtffpeklekkpbjaaW.PrintLast Go.Proofs.YtffpeklekkpbjaaW.PrintMore
set_option linter.unusedVariables false
set_option linter.unusedSimpArgs false
theorem Ev.succ {α : Type} {g : Nat → Option α} {r : α} (k : Ev (fun n => g (n + 1)) r) : Ev g r := Ev.step (fun _ => rfl) k
theorem Ev.ifp {α : Type} {c : Prop} [Decidable c] {f g : Nat → Option α} {r : α} (h : c) (k : Ev f r) : Ev (fun n => if c then f n else g n) r := Ev.congr (fun n => if_pos h) k
theorem Ev.ifn {α : Type} {c : Prop} [Decidable c] {f g : Nat → Option α} {r : α} (h : ¬ c) (k : Ev g r) : Ev (fun n => if c then f n else g n) r := Ev.congr (fun n => if_neg h) k
def EvB (g : Nat → Option Bool) (Q : Prop) : Prop := ∃ b : Bool, Ev g b ∧ (b = true ↔ Q)
theorem EvB.step {g f : Nat → Option Bool} {Q : Prop} (h : ∀ k, g (k + 1) = f k) (k : EvB f Q) : EvB g Q := by
  obtain ⟨b, hb, hq⟩ := k
  exact ⟨b, Ev.step h hb, hq⟩
theorem wrap_id {x : Int} (h0 : -9223372036854775808 ≤ x) (h1 : x ≤ 9223372036854775807) : wrap64 x = x := by
  unfold wrap64
  omega
theorem succ_wrap {i : Nat} (h : i ≤ 9000000000000000000) : wrap64 ((i : Int) + 1) = ((i + 1 : Nat) : Int) := by
  rw [wrap_id (by omega) (by omega)]
  omega
theorem tn_nat (i : Nat) : ((i : Int)).toNat = i := rfl
theorem all_ev (n : Nat) (F : Nat → Nat → Option Bool) (h1 : Ev (F n) true) (h2 : ∀ i, i < n → Ev (F (i + 1)) true → Ev (F i) true) : Ev (F 0) true := by
  have key : ∀ d i, i + d = n → Ev (F i) true := by
    intro d
    induction d with
    | zero =>
      intro i hd
      have hi : i = n := by omega
      subst hi
      exact h1
    | succ d ih =>
      intro i hd
      exact h2 i (by omega) (ih (i + 1) (by omega))
  exact key n 0 (by omega)

def markL {β : Type} (mk : β → Nat → β) (cnt : β → Nat) : List β → Nat → List β
  | [], _ => []
  | b :: r, m => mk b m :: markL mk cnt r (m + cnt b)
def cntL {β : Type} (cnt : β → Nat) : List β → Nat
  | [] => 0
  | b :: r => cnt b + cntL cnt r
theorem markL_length {β : Type} (mk : β → Nat → β) (cnt : β → Nat) : ∀ (l : List β) (m : Nat), (markL mk cnt l m).length = l.length
  | [], _ => rfl
  | b :: r, m => by
    show (markL mk cnt r _).length + 1 = r.length + 1
    rw [markL_length mk cnt r]
theorem cntL_le {β : Type} (cnt : β → Nat) (c : Nat) : ∀ l : List β, (∀ b ∈ l, cnt b ≤ c) → cntL cnt l ≤ c * l.length
  | [], _ => Nat.zero_le _
  | b :: r, h => by
    have h1 := cntL_le cnt c r (fun x hx => h x (List.mem_cons_of_mem _ hx))
    have h2 := h b List.mem_cons_self
    show cnt b + cntL cnt r ≤ c * (r.length + 1)
    rw [Nat.mul_add, Nat.mul_one]
    omega
theorem mark_ev {β : Type} (z : β) (mk : β → Nat → β) (cnt : β → Nat) (B n : Nat) (F : List β → Nat → Nat → Nat → Option (Int × List β)) (h1 : ∀ (x : List β) (m : Nat), x.length = n → Ev (F x m n) ((m : Int), x))
    (h2 : ∀ (x : List β) (m i : Nat), x.length = n → i < n → m + cnt (x.getD i z) ≤ B → ∀ r, Ev (F (x.set i (mk (x.getD i z) m)) (m + cnt (x.getD i z)) (i + 1)) r → Ev (F x m i) r) :
    ∀ (x : List β) (m : Nat), x.length = n → m + cntL cnt x ≤ B → Ev (F x m 0) (((m + cntL cnt x : Nat) : Int), markL mk cnt x m) := by
  have key : ∀ (rest done : List β) (m : Nat), done.length + rest.length = n → m + cntL cnt rest ≤ B → Ev (F (done ++ rest) m done.length) (((m + cntL cnt rest : Nat) : Int), done ++ markL mk cnt rest m) := by
    intro rest
    induction rest with
    | nil =>
      intro done m hn _
      have hn' : done.length = n := hn
      have := h1 done m hn'
      rw [← hn'] at this
      rw [List.append_nil]
      show Ev _ (((m + 0 : Nat) : Int), done ++ [])
      rw [List.append_nil]
      exact this
    | cons b r ih =>
      intro done m hn hm
      have hn' : done.length + (r.length + 1) = n := hn
      have hm' : m + (cnt b + cntL cnt r) ≤ B := hm
      have hg : (done ++ b :: r).getD done.length z = b := by simp [List.getD]
      have hs : (done ++ b :: r).set done.length (mk b m) = (done ++ [mk b m]) ++ r := by simp [List.set_append]
      have := ih (done ++ [mk b m]) (m + cnt b) (by rw [List.length_append, List.length_singleton]; omega) (by omega)
      refine h2 _ m done.length (by simp; omega) (by omega) (by rw [hg]; omega) _ ?_
      rw [hg, hs]
      rw [List.length_append, List.length_singleton] at this
      have e : m + cnt b + cntL cnt r = m + (cnt b + cntL cnt r) := by omega
      have e2 : done ++ [mk b m] ++ markL mk cnt r (m + cnt b) = done ++ (mk b m :: markL mk cnt r (m + cnt b)) := by rw [List.append_assoc, List.singleton_append]
      rw [e, e2] at this
      exact this
  intro x m hn hm
  exact key x [] m (by simpa using hn) hm
theorem held_ev {β : Type} (z : β) (mk : β → Nat → β) (cnt : β → Nat) (B n : Nat) (H : List β → Nat → Nat → Nat → Option Int) (h1 : ∀ (x : List β) (m : Nat), x.length = n → Ev (H x m n) (m : Int))
    (h2 : ∀ (x : List β) (m i : Nat) (b : β), x.length = n → i < n → x.getD i z = mk b m → m + cnt b ≤ B → ∀ r, Ev (H x (m + cnt b) (i + 1)) r → Ev (H x m i) r) :
    ∀ (x : List β) (m : Nat), x.length = n → m + cntL cnt x ≤ B → Ev (H (markL mk cnt x m) m 0) ((m + cntL cnt x : Nat) : Int) := by
  have key : ∀ (rest done : List β) (m : Nat), done.length + rest.length = n → m + cntL cnt rest ≤ B → Ev (H (done ++ markL mk cnt rest m) m done.length) ((m + cntL cnt rest : Nat) : Int) := by
    intro rest
    induction rest with
    | nil =>
      intro done m hn _
      have hn' : done.length = n := hn
      have := h1 done m hn'
      rw [← hn'] at this
      show Ev (H (done ++ []) m done.length) _
      rw [List.append_nil]
      exact this
    | cons b r ih =>
      intro done m hn hm
      have hn' : done.length + (r.length + 1) = n := hn
      have hm' : m + (cnt b + cntL cnt r) ≤ B := hm
      have := ih (done ++ [mk b m]) (m + cnt b) (by rw [List.length_append, List.length_singleton]; omega) (by omega)
      show Ev (H (done ++ (mk b m :: markL mk cnt r (m + cnt b))) m done.length) _
      refine h2 _ m done.length b (by simp [markL_length]; omega) (by omega) (by simp [List.getD]) (by omega) _ ?_
      rw [List.length_append, List.length_singleton, List.append_assoc, List.singleton_append] at this
      have e : m + cnt b + cntL cnt r = m + (cnt b + cntL cnt r) := by omega
      rw [e] at this
      exact this
  intro x m hn hm
  exact key x [] m (by simpa using hn) hm

theorem iin (a b c : Int) : impl_in.f a b c = some (decide (b ≤ a ∧ a ≤ c)) := by
  unfold impl_in.f
  by_cases h : a ≥ b
  · rw [if_pos h]
    have e : (b ≤ a ∧ a ≤ c) ↔ a ≤ c := ⟨fun h => h.2, fun h' => ⟨h, h'⟩⟩
    simp only [e]
  · rw [if_neg h, decide_eq_false]
    intro h'
    exact h h'.1

theorem sin (a b c : Int) : spec_l1In.f a b c = some (decide (b ≤ a ∧ a ≤ c)) := by
  unfold spec_l1In.f
  by_cases h : a ≥ b
  · rw [if_pos h]
    have e : (b ≤ a ∧ a ≤ c) ↔ a ≤ c := ⟨fun h => h.2, fun h' => ⟨h, h'⟩⟩
    simp only [e]
  · rw [if_neg h, decide_eq_false]
    intro h'
    exact h h'.1

theorem EvB.ifp {c : Prop} [Decidable c] {f g : Nat → Option Bool} {Q : Prop} (h : c) (k : EvB f Q) : EvB (fun n => if c then f n else g n) Q := by
  obtain ⟨b, hb, hq⟩ := k
  exact ⟨b, Ev.ifp h hb, hq⟩
theorem EvB.ifn {c : Prop} [Decidable c] {f g : Nat → Option Bool} {Q : Prop} (h : ¬ c) (k : EvB g Q) : EvB (fun n => if c then f n else g n) Q := by
  obtain ⟨b, hb, hq⟩ := k
  exact ⟨b, Ev.ifn h hb, hq⟩
theorem sg_z (l : List S65) (i : Nat) : rd_T65 l (i : Int) = l.getD i z65 := rfl
theorem eqM_ev (l : List S89) (hl : l.length ≤ 1048576) : Ev (fun k => laws_eqMarkS.f k l l) true := by
  have h := all_ev l.length (fun i k => laws_eqMarkS.l0 k l l (i : Int))
    (Ev.step (f := fun _ => some true) (fun k => by
      show laws_eqMarkS.l0 (k + 1) l l ((l.length : Nat) : Int) = some true
      rw [laws_eqMarkS.l0, if_neg (by omega)]) (Ev.now _))
    (fun i hi hr => Ev.step (fun k => by
      show laws_eqMarkS.l0 (k + 1) l l (i : Int) = laws_eqMarkS.l0 k l l ((i + 1 : Nat) : Int)
      rw [laws_eqMarkS.l0, if_pos (by omega), if_pos (by omega), if_pos (by omega)]
      unfold laws_eqMark.f
      rw [if_pos rfl, if_pos rfl, Option.bind_some, if_pos rfl, succ_wrap (by omega)]) hr)
  refine Ev.congr (fun k => ?_) h
  unfold laws_eqMarkS.f
  rw [if_pos rfl]
  rfl
theorem eqST_ev (l : List S65) (n : Int) (hl : l.length ≤ 1048576) (hs : ∀ j, j < l.length → (l.getD j z65).f2.length ≤ 1048576) : Ev (fun k => laws_eqStore.f k l n l n) true := by
  have h := all_ev l.length (fun i k => laws_eqSegmentS.l0 k l l (i : Int))
    (Ev.step (f := fun _ => some true) (fun k => by
      show laws_eqSegmentS.l0 (k + 1) l l ((l.length : Nat) : Int) = some true
      rw [laws_eqSegmentS.l0, if_neg (by omega)]) (Ev.now _))
    (fun i hi hr => by
      have e : Ev (fun k => laws_eqSegment.f k (l.getD i z65).f0 (l.getD i z65).f1 (l.getD i z65).f2 (l.getD i z65).f0 (l.getD i z65).f1 (l.getD i z65).f2) true := by
        unfold laws_eqSegment.f
        exact Ev.ifp rfl (Ev.ifp rfl (Ev.bind (eqM_ev _ (hs i hi)) (Ev.ifp rfl (Ev.now _))))
      refine Ev.step (f := fun k => (laws_eqSegment.f k (l.getD i z65).f0 (l.getD i z65).f1 (l.getD i z65).f2 (l.getD i z65).f0 (l.getD i z65).f1 (l.getD i z65).f2).bind fun t => if t = true then laws_eqSegmentS.l0 k l l ((i + 1 : Nat) : Int) else some false) (fun k => ?_) (Ev.bind e (Ev.ifp rfl hr))
      show laws_eqSegmentS.l0 (k + 1) l l (i : Int) = _
      rw [laws_eqSegmentS.l0, if_pos (by omega), if_pos (by omega), if_pos (by omega), sg_z, succ_wrap (by omega)])
  unfold laws_eqStore.f
  refine Ev.bind (Ev.congr (fun k => ?_) h) (Ev.ifp rfl (Ev.ifp rfl (Ev.now _)))
  unfold laws_eqSegmentS.f
  rw [if_pos rfl]
  rfl

theorem markText_l : ∀ n : Nat, ∀ x : ByteArray, x.size + n ≤ 1000000000000000 → ∃ t, Ev (fun k => laws_markText.l0 k (n : Int) x) t := by
  intro n
  induction n using Nat.strongRecOn with
  | ind n ih =>
    intro x hx
    by_cases h0 : n = 0
    · subst h0
      refine ⟨_, Ev.step (f := fun _ => some ((⟨#[109]⟩ : ByteArray) ++ x)) (fun k => ?_) (Ev.now _)⟩
      rw [laws_markText.l0, if_neg (by omega), if_pos (by omega)]
    · have hs : (strOfNums [(wrap64 (48 + (Int.tmod (n : Int) 10))) % 256] ++ x).size + n / 10 ≤ 1000000000000000 := by
        rw [ByteArray.size_append, strOfNums_size]
        simp only [List.length_cons, List.length_nil]
        omega
      obtain ⟨t, ht⟩ := ih (n / 10) (by omega) _ hs
      refine ⟨t, Ev.step (fun k => ?_) ht⟩
      show laws_markText.l0 (k + 1) (n : Int) x = _
      have e : wrap64 (Int.tdiv (n : Int) 10) = ((n / 10 : Nat) : Int) := by
        have e1 : Int.tdiv (n : Int) 10 = ((n / 10 : Nat) : Int) := rfl
        rw [e1]
        exact wrap_id (by omega) (by omega)
      rw [laws_markText.l0, if_pos (by omega), Option.bind_some, if_pos (by rw [strOfNums_size]; simp only [List.length_cons, List.length_nil]; omega), e]
theorem markText_ex (n : Nat) (h : n ≤ 100000000000000) : ∃ t, Ev (fun k => laws_markText.f k (n : Int)) t := by
  unfold laws_markText.f
  by_cases h0 : (n : Int) ≤ 0
  · exact ⟨_, Ev.ifp h0 (Ev.now _)⟩
  · obtain ⟨t, ht⟩ := markText_l n (⟨#[]⟩ : ByteArray) (by show 0 + n ≤ _; omega)
    exact ⟨t, Ev.ifn h0 ht⟩
open Classical in
noncomputable def mtx (n : Nat) : ByteArray := if h : ∃ t, Ev (fun k => laws_markText.f k (n : Int)) t then Classical.choose h else ByteArray.empty
theorem mtx_ev (n : Nat) (h : n ≤ 100000000000000) : Ev (fun k => laws_markText.f k (n : Int)) (mtx n) := by
  unfold mtx
  rw [dif_pos (markText_ex n h)]
  exact Classical.choose_spec (markText_ex n h)

def mkM (_ : S89) (n : Nat) : S89 := ⟨(n : Int), ((n + 1 : Nat) : Int)⟩
theorem markMS_ev (l : List S89) (hl : l.length ≤ 1048576) (m : Nat) (hm : m ≤ 10000000000000) :
    Ev (fun k => laws_markMarkS.f k l (m : Int)) (((m + cntL (fun _ => 2) l : Nat) : Int), markL mkM (fun _ => 2) l m) := by
  have hc := cntL_le (fun _ : S89 => 2) 2 l (fun _ _ => Nat.le_refl _)
  exact mark_ev z89 mkM (fun _ => 2) 20000000000000 l.length (fun x m i k => laws_markMarkS.l0 k x (m : Int) (i : Int))
    (fun x m hx => Ev.step (f := fun _ => some ((m : Int), x)) (fun k => by
      show laws_markMarkS.l0 (k + 1) x (m : Int) ((l.length : Nat) : Int) = _
      rw [laws_markMarkS.l0, if_neg (by omega)]) (Ev.now _))
    (fun x m i hx hi hb r hr => Ev.step (fun k => by
      show laws_markMarkS.l0 (k + 1) x (m : Int) (i : Int) = laws_markMarkS.l0 k (x.set i (mkM (x.getD i z89) m)) ((m + 2 : Nat) : Int) ((i + 1 : Nat) : Int)
      rw [laws_markMarkS.l0, if_pos (by omega), if_pos (by omega), Option.bind_some, succ_wrap (i := m) (by omega), succ_wrap (i := m + 1) (by omega), succ_wrap (i := i) (by omega), tn_nat, List.set_set]
      have e : (rd_T89 (x.set i (⟨(m : Int), (rd_T89 x (i : Int)).f1⟩ : S89)) (i : Int)).f0 = (m : Int) := by
        show ((x.set i (⟨(m : Int), (rd_T89 x (i : Int)).f1⟩ : S89)).getD i z89).f0 = _
        rw [List.getD_eq_getElem?_getD, List.getElem?_set_self (by omega)]
        rfl
      rw [e]
      rfl) hr) l m rfl (by omega)
theorem heldMS_ev (l : List S89) (hl : l.length ≤ 1048576) (m : Nat) (hm : m ≤ 10000000000000) :
    Ev (fun k => laws_heldMarkS.f k (markL mkM (fun _ => 2) l m) (m : Int)) ((m + cntL (fun _ => 2) l : Nat) : Int) := by
  have hc := cntL_le (fun _ : S89 => 2) 2 l (fun _ _ => Nat.le_refl _)
  exact held_ev z89 mkM (fun _ => 2) 20000000000000 l.length (fun x m i k => laws_heldMarkS.l0 k x (m : Int) (i : Int))
    (fun x m hx => Ev.step (f := fun _ => some (m : Int)) (fun k => by
      show laws_heldMarkS.l0 (k + 1) x (m : Int) ((l.length : Nat) : Int) = _
      rw [laws_heldMarkS.l0, if_neg (by omega)]) (Ev.now _))
    (fun x m i b hx hi hg hb r hr => Ev.step (fun k => by
      show laws_heldMarkS.l0 (k + 1) x (m : Int) (i : Int) = laws_heldMarkS.l0 k x ((m + 2 : Nat) : Int) ((i + 1 : Nat) : Int)
      have e : rd_T89 x (i : Int) = mkM b m := hg
      rw [laws_heldMarkS.l0, if_pos (by omega), if_pos (by omega), e, succ_wrap (i := m) (by omega), if_pos (show (mkM b m).f0 = (m : Int) from rfl), if_pos (show (mkM b m).f1 = ((m + 1 : Nat) : Int) from rfl), succ_wrap (i := m + 1) (by omega), succ_wrap (i := i) (by omega)]) hr) l m rfl (by omega)

noncomputable def mkG (g : S65) (m : Nat) : S65 := ⟨(m : Int), mtx (m + 1), markL mkM (fun _ => 2) g.f2 (m + 2)⟩
def cnG (g : S65) : Nat := 2 + cntL (fun _ : S89 => 2) g.f2
def LG (l : List S65) : Prop := l.length ≤ 1048576 ∧ ∀ j, j < l.length → (l.getD j z65).f2.length ≤ 1048576
theorem LG_mem {l : List S65} (h : LG l) : ∀ b ∈ l, b.f2.length ≤ 1048576 := fun b hb => by
  obtain ⟨j, hj, e⟩ := List.mem_iff_getElem.1 hb
  have h2 := h.2 j hj
  rw [List.getD_eq_getElem?_getD, List.getElem?_eq_getElem hj, Option.getD_some, e] at h2
  exact h2
theorem cnG_le (l : List S65) (h : LG l) : cntL cnG l ≤ 2097154 * l.length :=
  cntL_le cnG 2097154 l fun b hb => by
    have h2 := LG_mem h b hb
    have h1 := cntL_le (fun _ : S89 => 2) 2 b.f2 (fun _ _ => Nat.le_refl _)
    unfold cnG
    omega
theorem wr1 (m : Nat) (h : m ≤ 90000000000000) : wrap64 ((m : Int) + 1) = ((m + 1 : Nat) : Int) := succ_wrap (by omega)
theorem markST_ev (l : List S65) (n : Int) (h : LG l) (m0 : Nat) (hm0 : m0 ≤ 100000000000) : Ev (fun k => laws_markStore.f k l n (m0 : Int)) (((m0 + cntL cnG l : Nat) : Int), markL mkG cnG l m0) := by
  have h0 := cnG_le l h
  have h1 := h.1
  have key : ∀ (rest done : List S65) (m : Nat), (∀ b ∈ rest, b.f2.length ≤ 1048576) → m + cntL cnG rest ≤ 5000000000000 →
      Ev (fun k => laws_markSegmentS.l0 k (done ++ rest) (m : Int) done.length) (((m + cntL cnG rest : Nat) : Int), done ++ markL mkG cnG rest m) := by
    intro rest
    induction rest with
    | nil =>
      intro done m _ _
      rw [List.append_nil]
      show Ev _ (((m + 0 : Nat) : Int), done ++ [])
      rw [List.append_nil]
      exact Ev.step (f := fun _ => some ((m : Int), done)) (fun k => by rw [laws_markSegmentS.l0, if_neg (by omega)]) (Ev.now _)
    | cons b r ih =>
      intro done m hs hm
      have hm' : m + (cnG b + cntL cnG r) ≤ 5000000000000 := hm
      have hb := hs b List.mem_cons_self
      have hg : (done ++ b :: r).getD done.length z65 = b := by simp [List.getD]
      have hq : (done ++ b :: r).set done.length (mkG b m) = (done ++ [mkG b m]) ++ r := by simp [List.set_append]
      have hc : cnG b = 2 + cntL (fun _ : S89 => 2) b.f2 := rfl
      have ih' := ih (done ++ [mkG b m]) (m + cnG b) (fun y hy => hs y (List.mem_cons_of_mem _ hy)) (by omega)
      rw [List.length_append, List.length_singleton] at ih'
      have e1 : m + cnG b + cntL cnG r = m + (cnG b + cntL cnG r) := by omega
      have e2 : done ++ [mkG b m] ++ markL mkG cnG r (m + cnG b) = done ++ (mkG b m :: markL mkG cnG r (m + cnG b)) := by rw [List.append_assoc, List.singleton_append]
      rw [e1, e2] at ih'
      refine Ev.step (f := fun k => (laws_markText.f k ((m + 1 : Nat) : Int)).bind fun s => (laws_markMarkS.f k b.f2 ((m + 2 : Nat) : Int)).bind fun t => laws_markSegmentS.l0 k ((done ++ b :: r).set done.length ⟨(m : Int), s, t.2⟩) t.1 (done.length + 1)) (fun k => ?_) (Ev.bind (mtx_ev (m + 1) (by omega)) (Ev.bind (markMS_ev b.f2 hb (m + 2) (by omega)) ?_))
      · rw [laws_markSegmentS.l0, if_pos (by simp), hg, wr1 m (by omega), wr1 (m + 1) (by omega)]
      · show Ev (fun k => laws_markSegmentS.l0 k ((done ++ b :: r).set done.length (mkG b m)) ((m + 2 + cntL (fun _ => 2) b.f2 : Nat) : Int) (done.length + 1)) _
        rw [hq, show m + 2 + cntL (fun _ => 2) b.f2 = m + cnG b by omega]
        exact ih'
  exact key l [] m0 (LG_mem h) (by omega)
theorem heldST_ev (l : List S65) (n : Int) (h : LG l) (m0 : Nat) (hm0 : m0 ≤ 100000000000) : Ev (fun k => laws_heldStore.f k (markL mkG cnG l m0) n (m0 : Int)) ((m0 + cntL cnG l : Nat) : Int) := by
  have h0 := cnG_le l h
  have h1 := h.1
  have key : ∀ (rest done : List S65) (m : Nat), (∀ b ∈ rest, b.f2.length ≤ 1048576) → m + cntL cnG rest ≤ 5000000000000 → done.length + rest.length ≤ 1048576 →
      Ev (fun k => laws_heldSegmentS.l0 k (done ++ markL mkG cnG rest m) (m : Int) (done.length : Int)) ((m + cntL cnG rest : Nat) : Int) := by
    intro rest
    induction rest with
    | nil =>
      intro done m _ _ _
      show Ev (fun k => laws_heldSegmentS.l0 k (done ++ []) (m : Int) (done.length : Int)) ((m + 0 : Nat) : Int)
      rw [List.append_nil]
      exact Ev.step (f := fun _ => some (m : Int)) (fun k => by rw [laws_heldSegmentS.l0, if_neg (by omega)]) (Ev.now _)
    | cons b r ih =>
      intro done m hs hm hl
      have hm' : m + (cnG b + cntL cnG r) ≤ 5000000000000 := hm
      have hl' : done.length + (r.length + 1) ≤ 1048576 := hl
      have hb := hs b List.mem_cons_self
      have hc : cnG b = 2 + cntL (fun _ : S89 => 2) b.f2 := rfl
      have ih' := ih (done ++ [mkG b m]) (m + cnG b) (fun y hy => hs y (List.mem_cons_of_mem _ hy)) (by omega) (by rw [List.length_append, List.length_singleton]; omega)
      rw [List.length_append, List.length_singleton, List.append_assoc, List.singleton_append] at ih'
      have e1 : m + cnG b + cntL cnG r = m + (cnG b + cntL cnG r) := by omega
      rw [e1] at ih'
      show Ev (fun k => laws_heldSegmentS.l0 k (done ++ (mkG b m :: markL mkG cnG r (m + cnG b))) (m : Int) (done.length : Int)) _
      have hg : (done ++ (mkG b m :: markL mkG cnG r (m + cnG b))).getD done.length z65 = mkG b m := by simp [List.getD]
      refine Ev.step (f := fun k => (laws_markText.f k ((m + 1 : Nat) : Int)).bind fun t => if (mtx (m + 1)).toList = t.toList then ((laws_heldMarkS.f k (markL mkM (fun _ => 2) b.f2 (m + 2)) ((m + 2 : Nat) : Int)).bind fun t => if t < 0 then some (-1) else laws_heldSegmentS.l0 k (done ++ (mkG b m :: markL mkG cnG r (m + cnG b))) t ((done.length + 1 : Nat) : Int)) else some (-1)) (fun k => ?_) (Ev.bind (mtx_ev (m + 1) (by omega)) (Ev.ifp rfl (Ev.bind (heldMS_ev b.f2 hb (m + 2) (by omega)) (Ev.ifn (by omega) ?_))))
      · rw [laws_heldSegmentS.l0, if_pos (by rw [List.length_append, List.length_cons]; omega), if_pos (by omega), sg_z, hg, wr1 m (by omega), wr1 (m + 1) (by omega), if_pos (show (mkG b m).f0 = (m : Int) from rfl), succ_wrap (i := done.length) (by omega)]
        rfl
      · rw [show m + 2 + cntL (fun _ => 2) b.f2 = m + cnG b by omega]
        exact ih'
  unfold laws_heldStore.f
  have hk : Ev (fun k => laws_heldSegmentS.f k (markL mkG cnG l m0) (m0 : Int)) ((m0 + cntL cnG l : Nat) : Int) := key l [] m0 (LG_mem h) (by omega) (by simpa using h1)
  exact Ev.bind hk (Ev.ifn (by omega) (Ev.now _))

theorem FnExactNewStore : laws_FnExactNewStore.Pure := by
  intro a0 _
  apply Ev.rounds
  unfold laws_FnExactNewStore.f
  have key : ∃ (l : List S65) (n : Int) (b : Bool), LG l ∧ Ev (fun _ : Nat => spec_NewStore.f a0) (l, n, b) ∧ Ev (fun _ : Nat => impl_NewStore.f a0) (l, n, b) := by
    unfold spec_NewStore.f impl_NewStore.f
    simp only [sin, iin, Option.bind_some]
    by_cases h : decide ((0 : Int) ≤ a0 ∧ a0 ≤ 100000) = true
    · refine ⟨[⟨a0, ⟨#[]⟩, []⟩], a0, true, ⟨by show 1 ≤ 1048576; decide, fun j hj => ?_⟩, Ev.ifp h (Ev.now _), Ev.ifp h (Ev.now _)⟩
      have : j = 0 := by simpa using hj
      rw [this]
      exact Nat.zero_le _
    · exact ⟨[], 0, false, ⟨Nat.zero_le _, fun j hj => absurd hj (Nat.not_lt_zero _)⟩, Ev.ifn h (Ev.now _), Ev.ifn h (Ev.now _)⟩
  obtain ⟨l, n, b, hl, hs, hi⟩ := key
  exact Ev.bind hs (Ev.bind hi (Ev.bind (eqST_ev l n hl.1 hl.2) (Ev.ifp ⟨rfl, rfl⟩ (Ev.bind (markST_ev l n hl 1 (by decide)) (Ev.bind (heldST_ev l n hl 1 (by decide)) (Ev.ifp ⟨by omega, rfl⟩ (Ev.now _)))))))


end Go.Proofs.Ytffpeklekkpbjaa.Pure
