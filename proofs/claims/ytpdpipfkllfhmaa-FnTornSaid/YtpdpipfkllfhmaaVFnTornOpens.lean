/- What reads as data of a Go type is a value of the print's kind for it: for whole numbers, bools, strings, slices and structs. No condition. -/
import Derived.Test.YtpdpipfkllfhmaaVFnTorna
import Derived.Deep.Slices
import Derived.ChangeArms
import Derived.ChangeSame
namespace Go.Proofs.Ytpdpipfkllfhmaa.Opens
open Go.ChangeShapes Go.WideShapes Go.Deep Go.Proofs.YtpdpipfkllfhmaaW.PrintWords

/-- Cells that read as data of the type T are those of a value of the kind d that is ok. -/
def Opens (P : Program) (T : TypeId) {α : Type} (d : Kd α) (ok : α → Prop) : Prop :=
  ∀ (H : Type) (enc : TypeId × Value → H) (w : World) (spare : Nat → Bool) (held : Bool) (fuel : Nat) (cs : List Value) (x : DataW H × List MemPlace),
    DataW.trod enc P w 0 spare held fuel T cs = some x → ∃ a : α, d.K w a cs ∧ ok a

theorem opens_int {P : Program} {T : TypeId} {k : IntKind} (hT : P.underlying T = some (.int k)) : Opens P T (Kd.int k) (fun x => (Lit.int k x).wf = true) := by
  intro H enc w spare held fuel cs x h
  obtain ⟨n, h1, _, h3⟩ := DataW.trod_int hT h
  exact ⟨n, h1, h3⟩

theorem opens_bool {P : Program} {T : TypeId} (hT : P.underlying T = some .bool) : Opens P T Kd.bool (fun _ => True) := by
  intro H enc w spare held fuel cs x h
  obtain ⟨b, h1, _⟩ := DataW.trod_bool hT h
  exact ⟨b, h1, trivial⟩

theorem opens_string {P : Program} {T : TypeId} (hT : P.underlying T = some .string) : Opens P T Kd.string (fun s => s.size ≤ maxLen) := by
  intro H enc w spare held fuel cs x h
  obtain ⟨s, h1, _, h3⟩ := DataW.trod_string hT h
  exact ⟨s, h1, h3⟩

theorem list_of {β : Type} {p : Nat → β → Prop} : ∀ n : Nat, (∀ i, i < n → ∃ y, p i y) → ∃ ys : List β, ys.length = n ∧ ∀ i y, ys[i]? = some y → p i y
  | 0, _ => ⟨[], rfl, fun i y h => by simp at h⟩
  | n + 1, h => by
    obtain ⟨ys, hl, hy⟩ := list_of n (fun i hi => h i (by omega))
    obtain ⟨y, hp⟩ := h n (by omega)
    refine ⟨ys ++ [y], by simp [hl], fun i z hz => ?_⟩
    by_cases hi : i < ys.length
    · rw [List.getElem?_append_left hi] at hz
      exact hy i z hz
    · rw [List.getElem?_append_right (by omega)] at hz
      have hi0 : i - ys.length = 0 := by
        by_cases h0 : i - ys.length = 0
        · exact h0
        · rw [List.getElem?_eq_none (by simp; omega)] at hz
          cases hz
      rw [hi0] at hz
      have hin : i = n := by omega
      subst hin
      have hzy : y = z := by simpa using hz
      subst hzy
      exact hp

theorem opens_slice {P : Program} {T e : TypeId} {α : Type} {d : Kd α} {ok : α → Prop} (hT : P.underlying T = some (.slice e)) (hd : P.cellsOf e = d.sz) (h : Opens P e d ok) :
    Opens P T (Kd.slice e d) (fun xs => xs.length ≤ maxLen ∧ ∀ x ∈ xs, ok x) := by
  intro H enc w spare held fuel cs x hx
  rcases open_slice hT hx with ⟨rfl, _⟩ | ⟨a, len, cap, m, n, D, Pl, rfl, _, hl, hm, hmm, _, hel⟩
  · refine ⟨[], ⟨none, 0, rfl, Nat.le_refl _, rfl, Nat.zero_le _, fun h0 => absurd h0 (Nat.lt_irrefl _)⟩, Nat.zero_le _, fun x hx => by cases hx⟩
  · have hlm : len ≤ m := by
      rw [hmm]
      split <;> omega
    obtain ⟨ys, hys, hp⟩ := list_of (p := fun i (y : α × List Value) => w.cells? 0 (a.add (i * P.cellsOf e)) (P.cellsOf e) = some y.2 ∧ d.K w y.1 y.2 ∧ ok y.1) len (fun i hi => by
      obtain ⟨cs', h1, h2⟩ := hel i (by omega)
      obtain ⟨y, h3, h4⟩ := h H enc w spare held n cs' _ h2
      exact ⟨(y, cs'), h1, h3, h4⟩)
    have hcm : cap ≤ 9223372036854775807 := hm
    refine ⟨ys.map (·.1), ⟨some a, cap, by rw [List.length_map, hys], by rw [List.length_map, hys]; exact hl, rfl, by rw [List.length_map, hys]; omega, fun _ => ⟨a, rfl, fun j p hj => ?_⟩⟩, by rw [List.length_map, hys]; show len ≤ 9223372036854775807; omega, fun x hx => ?_⟩
    · rw [List.getElem?_map] at hj
      obtain ⟨y, hy, rfl⟩ := Option.map_eq_some_iff.1 hj
      obtain ⟨h1, h2, _⟩ := hp j y hy
      obtain ⟨_, hlen, hcell⟩ := World.cells?_some h1
      rw [hd] at hlen hcell
      refine ⟨y.2, hlen, h2, fun i u hu => ?_⟩
      have hi : i < d.sz := by
        rw [← hlen]
        exact (List.getElem?_eq_some_iff.1 hu).1
      have hc := hcell i hi
      rw [Go.Deep.add_add] at hc
      rw [hc, hu]
    · obtain ⟨y, hy, rfl⟩ := List.mem_map.1 hx
      obtain ⟨i, hi⟩ := List.getElem?_of_mem hy
      exact (hp i y hi).2.2

/-- The fields fs, from the cell off on, are those of a value of the kind d that is ok. -/
def OpensF (P : Program) (fs : List Field) (off : Nat) {α : Type} (d : Kd α) (ok : α → Prop) : Prop :=
  ∀ (H : Type) (enc : TypeId × Value → H) (w : World) (spare : Nat → Bool) (held : Bool) (n : Nat) (cs : List Value),
    (∀ f ∈ fs, ∃ y, DataW.trod enc P w 0 spare held n f.type ((cs.drop f.offset).take (P.cellsOf f.type)) = some y) → ∃ a : α, d.K w a ((cs.drop off).take d.sz) ∧ ok a

theorem opensF_one {P : Program} {f : Field} {off : Nat} {α : Type} {d : Kd α} {ok : α → Prop} (ho : f.offset = off) (hc : P.cellsOf f.type = d.sz) (h : Opens P f.type d ok) : OpensF P [f] off d ok := by
  intro H enc w spare held n cs hf
  obtain ⟨y, hy⟩ := hf f List.mem_cons_self
  rw [ho, hc] at hy
  exact h _ _ _ _ _ _ _ _ hy

theorem opensF_cons {P : Program} {f : Field} {fs : List Field} {off : Nat} {α β : Type} {d : Kd α} {ok : α → Prop} {d2 : Kd β} {ok2 : β → Prop} (ho : f.offset = off) (hc : P.cellsOf f.type = d.sz) (h : Opens P f.type d ok)
    (hs : OpensF P fs (off + d.sz) d2 ok2) : OpensF P (f :: fs) off (Kd.pair d d2) (fun x => ok x.1 ∧ ok2 x.2) := by
  intro H enc w spare held n cs hf
  obtain ⟨y, hy⟩ := hf f List.mem_cons_self
  rw [ho, hc] at hy
  obtain ⟨a, ha, oa⟩ := h _ _ _ _ _ _ _ _ hy
  obtain ⟨b, hb, ob⟩ := hs H enc w spare held n cs (fun g hg => hf g (List.mem_cons_of_mem _ hg))
  refine ⟨(a, b), ⟨_, _, ?_, ha, hb⟩, oa, ob⟩
  show List.take (d.sz + d2.sz) _ = _
  rw [List.take_add, List.drop_drop]

theorem opens_struct {P : Program} {T : TypeId} {fs : Array Field} {α β : Type} {d : Kd α} {ok : α → Prop} (hT : P.underlying T = some (.struct fs)) (hc : P.cellsOf T = d.sz) (f : β → α) (mk : α → β) (hmk : ∀ a, f (mk a) = a)
    (h : OpensF P fs.toList 0 d ok) : Opens P T (Kd.iso d f) (fun b => ok (f b)) := by
  intro H enc w spare held fuel cs x hx
  obtain ⟨xs, n, _, _, hl, hxl, hf⟩ := DataW.trod_struct hT hx
  obtain ⟨a, ha, oa⟩ := h H enc w spare held n cs (fun g hg => by
    obtain ⟨i, hi⟩ := List.getElem?_of_mem hg
    have hi' : fs[i]? = some g := by simpa using hi
    have hlt : i < xs.length := by
      rw [hxl]
      exact (Array.getElem?_eq_some_iff.1 hi').1
    exact ⟨xs[i], by rw [hf i g hi', List.getElem?_eq_getElem hlt]⟩)
  refine ⟨mk a, ?_, ?_⟩
  · show d.K w (f (mk a)) cs
    rw [hmk]
    rw [List.drop_zero, ← hc, ← hl, List.take_length] at ha
    exact ha
  · show ok (f (mk a))
    rw [hmk]
    exact oa

theorem array_of {cs : Array Value} {l : List Value} (h : cs.toList = l) : cs = l.toArray := by rw [← h]

end Go.Proofs.Ytpdpipfkllfhmaa.Opens
