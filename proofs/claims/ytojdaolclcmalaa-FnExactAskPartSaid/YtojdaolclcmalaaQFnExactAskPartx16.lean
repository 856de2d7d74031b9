/- Functions that one statement reaches: of each a plain function, and the proof that calls come to it. Conditions: those that each contract names. Written by a program of this repository. -/
import Derived.Test.YtojdaolclcmalaaVAskParta
import Derived.Test.YtojdaolclcmalaaQFnExactAskPartx1
import Derived.Test.YtojdaolclcmalaaQFnExactAskPartx14
import Derived.Test.YtojdaolclcmalaaQFnExactAskPartx15
namespace Go.Proofs.Ytojdaolclcmalaa.QFnExactAskPart
open Go.RowKit Go.Proofs.YtojdaolclcmalaaW.PrintWords Go.Proofs.YtojdaolclcmalaaW.PrintLast Go.Proofs.YtojdaolclcmalaaW.PrintMore
attribute [local go_sem] max2_int min2_int max_two min_two max_three min_three max_four min_four Go.Proofs.YtojdaolclcmalaaW.PrintMore2.isSome_setCell   -- for this text's walks alone
set_option linter.unusedVariables false
set_option linter.unusedSimpArgs false

/-! ### impl_rebuild: function 66 -/
/-! #### windows: rows of one's own that may begin inside their block -/
def rb_enc (x : S112) (cs : List Value) : Prop := cs = [.int .i64 x.f0, .int .i64 x.f1, .int .i64 x.f2]
def rb_win (w : World) (base : Nat) (ok : Nat → Prop) (v : Value) (l : List S112) : Prop :=
 (v = .slice none 0 0 ∧ l = []) ∨ ∃ g o cap cur inner, v = .slice (some ⟨g, o, none⟩) l.length cap ∧ base ≤ g ∧ ok g ∧ w.heap[g]? = some (.cells cur 112 (0, 0)) ∧ l.length ≤ cap ∧ cap ≤ maxLen ∧ cur.size = o + cap * 3 ∧ (cur.toList.drop o).take (l.length * 3) = inner ∧ Reps rb_enc 3 l inner
theorem rb_win_lt {w : World} {base : Nat} {ok : Nat → Prop} {v : Value} {l : List S112} (h : rb_win w base ok v l) : ∀ k, v.ownBlock = some k → ok k ∧ base ≤ k ∧ k < w.heap.size ∧ ∃ cells, w.heap[k]? = some (.cells cells 112 (0, 0)) := fun k hk => by
 rcases h with ⟨rfl, _⟩ | ⟨g, o, cap, cur, inner, rfl, h1, h2, h3, _⟩
 ·cases hk
 ·obtain rfl : g = k := by simpa [Value.ownBlock] using hk
  exact ⟨h2, h1, (Array.getElem?_eq_some_iff.1 h3).1, _, h3⟩
theorem rb_win_mono {w : World} {base : Nat} {ok ok' : Nat → Prop} {v : Value} {l : List S112} (h : rb_win w base ok v l) (hok : ∀ k, v.ownBlock = some k → ok k → ok' k) : rb_win w base ok' v l := by
 rcases h with h | ⟨g, o, cap, cur, inner, rfl, h1, h2, h3⟩
 ·exact .inl h
 ·exact .inr ⟨g, o, cap, cur, inner, rfl, h1, hok g rfl h2, h3⟩
theorem rb_win_move {w w1 : World} {base : Nat} {ok : Nat → Prop} {v : Value} {l : List S112} (h : rb_win w base ok v l) (hm : ∀ k, v.ownBlock = some k → w1.heap[k]? = w.heap[k]?) : rb_win w1 base ok v l := by
 rcases h with h | ⟨g, o, cap, cur, inner, rfl, h1, h2, h3, h4⟩
 ·exact .inl h
 ·exact .inr ⟨g, o, cap, cur, inner, rfl, h1, h2, (hm g rfl).trans h3, h4⟩
theorem rb_win_lower {w : World} {base base' : Nat} {ok : Nat → Prop} {v : Value} {l : List S112} (h : rb_win w base ok v l) (hb : base' ≤ base) : rb_win w base' ok v l := by
 rcases h with h | ⟨g, o, cap, cur, inner, rfl, h1, h3⟩
 ·exact .inl h
 ·exact .inr ⟨g, o, cap, cur, inner, rfl, Nat.le_trans hb h1, h3⟩
theorem rb_win_cell {w : World} {g o m : Nat} {cur : Array Value} {inner : List Value} (h3 : w.heap[g]? = some (.cells cur 112 (0, 0))) (ht : (cur.toList.drop o).take m = inner) : ∀ j u, inner[j]? = some u → w.cell? ((⟨g, o, none⟩ : Addr).add j) = some u := fun j u hu => by
 rw [← ht, List.getElem?_take] at hu
 split at hu
 ·rw [List.getElem?_drop] at hu
  have h4 := World.news_of_block h3 (o + j) u hu
  rw [Addr.add_lit, Nat.zero_add] at h4
  rwa [Addr.add_lit]
 ·cases hu
theorem rb_win_C {w : World} {base : Nat} {ok : Nat → Prop} {v : Value} {l : List S112} (h : rb_win w base ok v l) : ∃ A c, v = .slice A l.length c ∧ l.length ≤ c ∧ Kd.C k112 w A l.length l := by
 rcases h with ⟨rfl, rfl⟩ | ⟨g, o, cap, cur, inner, rfl, h1, h2, h3, h4, h5, h6, h7, h8⟩
 ·exact ⟨none, 0, rfl, Nat.le_refl _, rfl, by simp, fun h => absurd h (Nat.lt_irrefl _)⟩
 ·refine ⟨_, cap, rfl, h4, rfl, by unfold maxLen at h5; omega, fun _ => ⟨_, rfl, fun j p hj => ?_⟩⟩
  have h9 := h8.2 j p hj
  have hl : j < l.length := (List.getElem?_eq_some_iff.1 hj).1
  refine ⟨(inner.drop (j * 3)).take 3, ?_, ?_, fun i u hu => ?_⟩
  ·rw [h9]
   rfl
  ·rw [h9]
   exact k112_mk w p
  ·rw [List.getElem?_take] at hu
   split at hu
   ·rw [List.getElem?_drop] at hu
    exact rb_win_cell h3 h7 _ u hu
   ·cases hu
theorem rb_win_R {w : World} {base : Nat} {ok : Nat → Prop} {v : Value} {l : List S112} (h : Kd.R k112 112 w base ok v l) : rb_win w base ok v l := by
 obtain ⟨h0, inner, hown, hr⟩ := h
 rcases hown.2 with ⟨rfl, hn⟩ | ⟨g, cap, cur, rfl, hb, hh, hn, hm, hs, ht⟩
 ·exact .inl ⟨rfl, List.eq_nil_of_length_eq_zero hn⟩
 ·exact .inr ⟨g, 0, cap, cur, inner, rfl, hb, h0 g rfl, hh, hn, hm, by rw [Nat.zero_add]; exact hs, by rw [List.drop_zero]; exact ht, hr.1, fun j p hj => k112_openM (hr.2 j p hj)⟩
theorem rb_reps_snoc {l : List S112} {inner : List Value} (h : Reps rb_enc 3 l inner) (d : S112) : Reps rb_enc 3 (l ++ [d]) (inner ++ [.int .i64 d.f0, .int .i64 d.f1, .int .i64 d.f2]) := h.snoc (show rb_enc d _ from rfl) rfl
theorem rb_room {P : Program} (w : World) (t ty e : TypeId) (i : TypeInfo) (ht : P.underlying t = some (.slice e)) (hi : P.info? e = some i)
  (g off sLen sCap : Nat) (a : Addr) (m c : Nat) (news : List Value) (hl : news.length = m * i.size) (hnews : ∀ j u, news[j]? = some u → w.cell? (a.add j) = some u) (h1 : ∀ u ∈ news, u.oneCell' = true) (cur : Array Value) (te : TypeId) (hg : w.heap[g]? = some (.cells cur te (0, 0))) (hfit : off + sLen * i.size + news.length ≤ cur.size)
  (hroom : sLen + m ≤ sCap) :
  (Builtin.append_ #[t, t] ty #[.slice (some ⟨g, off, none⟩) sLen sCap, .slice (some a) m c]).run P w = .ok (.slice (some ⟨g, off, none⟩) (sLen + m) sCap) (w.setRow g (cur.toList.take (off + sLen * i.size) ++ news ++ cur.toList.drop (off + sLen * i.size + news.length)).toArray) := by
 have hfc := run_firstCells_some (P := P) w i.size m a m c news hl hnews
 have hst := run_storeCells_at P g (off + sLen * i.size) te news 0 cur w hg (by simpa using hfit) h1
 simp only [Nat.add_zero] at hst
 simp [Builtin.append_, run_underlying ht, sizeOf, typeInfo, hi, Builtin.lenOf, hroom, hfc, Addr.add_lit, hst]
/-- One more in a window: where there is room, in its block; else in a new one. -/
theorem rb_append {w : World} {base : Nat} {ok : Nat → Prop} {v : Value} {l : List S112} (ty : TypeId) (d : S112) (b : Nat) (h : rb_win w base ok v l) (hb : w.heap[b]? = some (.cells #[.int .i64 d.f0, .int .i64 d.f1, .int .i64 d.f2] 112 (0, 0))) (hbase : base ≤ w.heap.size) (hl : (l.length + 1) * 24 ≤ 140737488355328) :
  ∃ v1 w1, (Builtin.append_ #[79, 79] ty #[v, .slice (some ⟨b, 0, none⟩) 1 1]).run Try.prog w = .ok v1 w1 ∧ rb_win w1 base (fun k => ok k ∨ w.heap.size ≤ k) v1 (l ++ [d]) ∧ w.grownBy w1 v.ownBlock ∧ (v1.ownBlock = v.ownBlock ∨ ∃ b, v1.ownBlock = some b ∧ w.heap.size ≤ b) := by
 obtain ⟨i0, aA, hzz⟩ := Option.map_eq_some_iff.1 info112
 simp only [Prod.mk.injEq] at hzz
 obtain ⟨hz0, hz1, hz2⟩ := hzz
 have hu := Try.underlying79
 have hnews : ∀ j u, ([.int .i64 d.f0, .int .i64 d.f1, .int .i64 d.f2] : List Value)[j]? = some u → w.cell? ((⟨b, 0, none⟩ : Addr).add j) = some u := fun j u hj => World.news_of_block hb j u hj
 have h1 : ∀ u ∈ ([.int .i64 d.f0, .int .i64 d.f1, .int .i64 d.f2] : List Value), u.oneCell' = true := fun u hu => by
  simp only [List.mem_cons, List.not_mem_nil, or_false] at hu
  rcases hu with rfl | rfl | rfl <;> rfl
 have own : ∀ v1 (n : Nat) inner (w1 : World), w1.ownsRow w.heap.size 112 3 v1 (n + 1) inner → ∀ l1 : List S112, l1.length = n + 1 → Reps rb_enc 3 l1 inner → rb_win w1 base (fun k => ok k ∨ w.heap.size ≤ k) v1 l1 := fun v1 n inner w1 ho l1 hn hr => by
  rcases ho.2 with ⟨_, h0⟩ | ⟨g, cap, cur, rfl, hg, hh, hnc, hm, hs, ht⟩
  ·omega
  ·exact .inr ⟨g, 0, cap, cur, inner, by rw [hn], Nat.le_trans hbase hg, .inr hg, hh, by omega, hm, by rw [Nat.zero_add]; exact hs, by rw [List.drop_zero, hn]; exact ht, hr⟩
 rcases h with ⟨rfl, rfl⟩ | ⟨g, o, cap, cur, inner, rfl, h2, h3, h4, h5, h6, h7, h8, h9⟩
 ·obtain ⟨v1, w1, hrun, ho, hg, hn, hat⟩ := run_append_own_at (P := Try.prog) w w.heap.size 79 ty 112 i0 _ 3 24 hu aA hz0 hz1 hz2 rfl (by omega) (.slice none 0 0) 0 [] (World.ownsRow_nil _ _ _ _) ⟨b, 0, none⟩ 1 1 _ rfl hnews h1 (by unfold maxLen; omega) (by omega) (Nat.le_refl _)
  exact ⟨v1, w1, hrun, own v1 0 _ w1 ho [d] rfl (rb_reps_snoc (Reps.none _ _) d), hg, hat.imp id (fun h => ⟨_, h, Nat.le_refl _⟩)⟩
 ·have hil : inner.length = l.length * 3 := h9.1
  by_cases hr : l.length + 1 ≤ cap
  ·have hcl : cur.toList.length = o + cap * 3 := by rw [Array.length_toList]; exact h7
   have hsp : cur.toList.take (o + l.length * 3) = cur.toList.take o ++ inner := by rw [List.take_add, h8]
   have hrun := rb_room (P := Try.prog) w 79 ty 112 i0 hu aA g o l.length cap ⟨b, 0, none⟩ 1 1 _ (by rw [hz1]; rfl) hnews h1 cur 112 h4 (by rw [hz1, h7]; show o + l.length * 3 + 3 ≤ _; omega) hr
   rw [hz1] at hrun
   refine ⟨_, _, hrun, .inr ⟨g, o, cap, _, inner ++ [.int .i64 d.f0, .int .i64 d.f1, .int .i64 d.f2], by rw [List.length_append]; rfl, h2, .inl h3, setRow_heap w g cur _ _ _ h4, by rw [List.length_append]; exact hr, h6, ?_, ?_, rb_reps_snoc h9 d⟩, ⟨rfl, rfl, rfl, by simp [World.setRow], fun k _ hk => setRow_other w g k _ (fun e => hk (by simp [Value.ownBlock, e]))⟩, .inl rfl⟩
   ·simp only [List.size_toArray, List.length_append, List.length_take, List.length_drop, hcl]
    show min (o + l.length * 3) (o + cap * 3) + 3 + (o + cap * 3 - (o + l.length * 3 + 3)) = _
    omega
   ·show List.take _ (List.drop o (cur.toList.take (o + l.length * 3) ++ _ ++ _)) = _
    have ho : (cur.toList.take o).length = o := by rw [List.length_take]; omega
    rw [hsp, List.append_assoc, List.append_assoc, List.drop_left' ho, ← List.append_assoc]
    exact List.take_left' (by rw [List.length_append, hil, List.length_append]; show l.length * 3 + 3 = (l.length + 1) * 3; omega)
  ·obtain ⟨v1, w1, hrun, ho, hg⟩ := run_append_arg_grows (P := Try.prog) w 79 ty 112 i0 _ 3 24 hu aA hz0 hz1 hz2 rfl (by omega) ⟨g, o, none⟩ l.length cap inner (by rw [hil]) (rb_win_cell h4 h8) ⟨b, 0, none⟩ 1 1 _ rfl hnews (by omega) (by unfold maxLen; omega) (by omega)
   refine ⟨v1, w1, hrun, own v1 l.length _ w1 ho _ (by rw [List.length_append]; rfl) (rb_reps_snoc h9 d), ⟨hg.os, hg.tape, hg.output, hg.size, fun k hk _ => hg.block k hk (by simp)⟩, ?_⟩
   rcases ho.2 with ⟨_, h0⟩ | ⟨g1, cap1, cur1, rfl, hg1, hh1, _⟩
   ·omega
   ·exact .inr ⟨g1, rfl, hg1⟩
/-- What is left of a window behind a cut. -/
theorem rb_drop {w : World} {base : Nat} {ok : Nat → Prop} {g o cap : Nat} {l : List S112} (h : rb_win w base ok (.slice (some ⟨g, o, none⟩) l.length cap) l) (m : Nat) (hm : m ≤ l.length) : rb_win w base ok (.slice (some ⟨g, o + m * 3, none⟩) (l.length - m) (cap - m)) (l.drop m) := by
 rcases h with ⟨h, _⟩ | ⟨g', o', cap', cur, inner, hv, h2, h3, h4, h5, h6, h7, h8, h9⟩
 ·cases h
 ·injection hv with ha _ hc
  injection ha with ha
  injection ha with ha hb
  subst ha hb hc
  have hil : inner.length = l.length * 3 := h9.1
  refine .inr ⟨g, o + m * 3, cap - m, cur, inner.drop (m * 3), by rw [List.length_drop], h2, h3, h4, by rw [List.length_drop]; omega, by omega, by omega, ?_, ?_, fun j p hj => ?_⟩
  ·rw [← h8, List.drop_take, List.drop_drop, List.length_drop]
   congr 1
   omega
  ·rw [List.length_drop, List.length_drop, hil]
   omega
  ·rw [List.getElem?_drop] at hj
   have h10 := h9.2 (m + j) p hj
   rw [List.drop_drop, show m * 3 + j * 3 = (m + j) * 3 by omega]
   exact h10
/-! #### producers with windows; those told 'true' have a row of their own -/
def rb_q : Kd (S81 × Bool) where
 sz := 4
 E := 112 :: (k112).E
 K := fun w x cs => (k81).K w x.1 cs
 M := fun w base ok x cs => ∃ v, cs = [.int .i64 x.1.f0, .int .i64 x.1.f1, .int .i64 x.1.f2, v] ∧ rb_win w base ok v x.1.f3 ∧ (x.2 = true → (k112).R 112 w base ok v x.1.f3)
 K_len := fun h => (k81).K_len h
 K_one := fun h => (k81).K_one h
 K_below := fun hb h => (k81).K_below hb h
 K_of_M := by
  rintro w base ok x cs ⟨v, rfl, h, _⟩
  obtain ⟨A, c, rfl, hl, hc⟩ := rb_win_C h
  exact k81_mk w x.1 hl hc
 M_mono := by
  rintro w base ok ok' x cs hok ⟨v, rfl, h, h2⟩
  exact ⟨v, rfl, rb_win_mono h (fun k _ hk => hok k hk), fun e => Kd.R_mono (h2 e) hok⟩
 M_bound := by
  rintro w base ok x cs ⟨v, rfl, h, h2⟩
  refine ⟨v, rfl, rb_win_mono h (fun k hk ho => ?_), fun e => Kd.R_bound (h2 e)⟩
  obtain ⟨_, h3, h4, h5⟩ := rb_win_lt h k hk
  exact ⟨ho, h3, h4, _, List.mem_cons_self, h5⟩
 M_move := by
  rintro w w1 base ok x cs hm ⟨v, rfl, h, h2⟩
  exact ⟨v, rfl, rb_win_move h (fun k hk => hm k (rb_win_lt h k hk).1), fun e => Kd.R_move (h2 e) hm⟩
 M_lower := by
  rintro w base base' ok x cs hb ⟨v, rfl, h, h2⟩
  exact ⟨v, rfl, rb_win_lower h hb, fun e => Kd.R_lower (h2 e) hb⟩
theorem rb_done {e base : Nat} {w : World} {ok : Nat → Prop} {v : Value} {ps : List S81} (h : Kd.S rb_q e w base ok v (ps.map fun x => (x, true))) : Kd.S k81 e w base ok v ps := by
 obtain ⟨f, h0, inner, ho, hr⟩ := h
 rw [List.length_zipIdx, List.length_map] at ho
 refine ⟨f, h0, inner, by rw [List.length_zipIdx]; exact ho, by have := hr.1; rw [List.length_zipIdx, List.length_map] at this; rw [List.length_zipIdx]; exact this, fun j p hj => ?_⟩
 rw [List.getElem?_zipIdx, Nat.zero_add] at hj
 obtain ⟨x, hx, rfl⟩ := Option.map_eq_some_iff.1 hj
 obtain ⟨u, hu, _, h3⟩ := hr.2 j ((x, true), j) (Kd.zip_at (by rw [List.getElem?_map, hx]; rfl))
 show (k81).M _ _ _ x ((inner.drop (j * 4)).take 4)
 rw [show (inner.drop (j * 4)).take 4 = _ from hu]
 exact k81_mkM _ _ _ x (h3 rfl)
theorem rb_C {e base n c : Nat} {w : World} {ok : Nat → Prop} {A : Option Addr} {ps : List S81} {q : S81 → Bool} (h : Kd.S rb_q e w base ok (.slice A n c) (ps.map fun x => (x, q x))) : n = ps.length ∧ ps.length ≤ c ∧ Kd.C k81 w A ps.length ps := by
 obtain ⟨h1, h2, h3⟩ := Kd.S_reads' h
 rw [List.length_map] at h1 h3
 refine ⟨h1, by omega, rfl, h3.2.1, fun hn => ?_⟩
 obtain ⟨ad, e1, h4⟩ := h3.2.2 hn
 refine ⟨ad, e1, fun j p hj => ?_⟩
 exact h4 j (p, q p) (by rw [List.getElem?_map, hj]; rfl)
theorem rb_insert {α : Type} {d : Kd α} {e base i : Nat} {w w1 : World} {v v1 : Value} {xs : List α} {p : α} {cs inner : List Value} {f : Nat → Nat} (hi : i ≤ xs.length) (hr : Reps ((Kd.tag f d).M w base (fun k => True ∧ some k ≠ v.ownBlock)) d.sz xs.zipIdx inner) (hp : d.M w1 base (fun _ => False) p cs)
  (hown : w1.ownsRow base e d.sz v1 (xs.length + 1) (inner.take (i * d.sz) ++ cs ++ inner.drop (i * d.sz))) (hg : w.grownBy w1 v.ownBlock) (hat : v1.ownBlock = v.ownBlock ∨ v1.ownBlock = some w.heap.size) : Kd.S d e w1 base (fun _ => True) v1 (xs.take i ++ p :: xs.drop i) := by
 have hil : inner.length = xs.length * d.sz := by have := hr.1; rwa [List.length_zipIdx] at this
 have hcl : cs.length = d.sz := d.K_len (d.K_of_M hp)
 have hlen : (xs.take i ++ p :: xs.drop i).length = xs.length + 1 := by simp only [List.length_append, List.length_take, List.length_cons, List.length_drop]; omega
 have hne : ∀ k, some k ≠ v.ownBlock → k < w.heap.size → some k ≠ v1.ownBlock := fun k hk hlt he => by
  rcases hat with hat | hat
  ·exact hk (he.trans hat)
  ·rw [hat] at he
   injection he with he
   omega
 have hti : (inner.take (i * d.sz)).length = i * d.sz := by rw [List.length_take, hil]; exact Nat.min_eq_left (Nat.mul_le_mul_right _ hi)
 have step : ∀ j x, xs[j]? = some x → ∀ m, (m = if j < i then j else j + 1) → d.M w1 base (fun k => (True ∧ some k ≠ v1.ownBlock) ∧ (if f k < i then f k else f k + 1) = m) x ((inner.drop (j * d.sz)).take d.sz) := fun j x hx m hm => by
  have h1 := hr.2 j (x, j) (Kd.zip_at hx)
  have h2 := d.M_move (w1 := w1) (fun k hk => hg.block k hk.2.2.1 hk.1.1.2) (d.M_bound h1)
  exact d.M_mono (fun k hk => ⟨⟨trivial, hne k hk.1.1.2 hk.2.2.1⟩, by rw [hm, show f k = j from hk.1.2]⟩) h2
 refine ⟨fun k => if f k < i then f k else f k + 1, fun _ _ => trivial, inner.take (i * d.sz) ++ cs ++ inner.drop (i * d.sz), by rw [List.length_zipIdx, hlen]; exact hown, ?_, fun j q hj => ?_⟩
 ·rw [List.length_zipIdx, hlen]
  show (inner.take (i * d.sz) ++ cs ++ inner.drop (i * d.sz)).length = (xs.length + 1) * d.sz
  simp only [List.length_append, List.length_drop, hti, hcl, hil]
  rw [Nat.add_mul, Nat.one_mul]
  have := Nat.mul_le_mul_right d.sz hi
  omega
 ·rw [List.getElem?_zipIdx, Nat.zero_add] at hj
  obtain ⟨x, hx, rfl⟩ := Option.map_eq_some_iff.1 hj
  show d.M w1 base (fun k => (True ∧ some k ≠ v1.ownBlock) ∧ (if f k < i then f k else f k + 1) = j) x (((inner.take (i * d.sz) ++ cs ++ inner.drop (i * d.sz)).drop (j * d.sz)).take d.sz)
  have hxl : (xs.take i).length = i := by rw [List.length_take]; exact Nat.min_eq_left hi
  rcases Nat.lt_trichotomy j i with hlt | heq | hgt
  ·rw [List.getElem?_append_left (by rw [hxl]; exact hlt), List.getElem?_take, if_pos hlt] at hx
   have h3 := step j x hx j (by rw [if_pos hlt])
   have h5 : j * d.sz + d.sz ≤ i * d.sz := by rw [← Nat.succ_mul]; exact Nat.mul_le_mul_right _ hlt
   rw [show ((inner.take (i * d.sz) ++ cs ++ inner.drop (i * d.sz)).drop (j * d.sz)).take d.sz = (inner.drop (j * d.sz)).take d.sz by
    rw [List.append_assoc, List.drop_append_of_le_length (by rw [hti]; omega), List.take_append_of_le_length (by rw [List.length_drop, hti]; omega), List.drop_take, List.take_take, Nat.min_eq_left (by omega)]]
   exact h3
  ·subst heq
   rw [List.getElem?_append_right (by rw [hxl]; exact Nat.le_refl _), hxl, Nat.sub_self] at hx
   obtain rfl : p = x := by simpa using hx
   rw [show ((inner.take (j * d.sz) ++ cs ++ inner.drop (j * d.sz)).drop (j * d.sz)).take d.sz = cs by
    rw [List.append_assoc, List.drop_left' hti, List.take_left' hcl]]
   exact d.M_mono (fun _ h => h.elim) hp
  ·obtain ⟨m, rfl⟩ : ∃ m, j = m + 1 := ⟨j - 1, by omega⟩
   rw [List.getElem?_append_right (by rw [hxl]; omega), hxl, show m + 1 - i = (m - i) + 1 by omega, List.getElem?_cons_succ, List.getElem?_drop, show i + (m - i) = m by omega] at hx
   have h3 := step m x hx (m + 1) (by rw [if_neg (by omega)])
   rw [show ((inner.take (i * d.sz) ++ cs ++ inner.drop (i * d.sz)).drop ((m + 1) * d.sz)).take d.sz = (inner.drop (m * d.sz)).take d.sz by
    have h5 : i * d.sz ≤ m * d.sz := Nat.mul_le_mul_right _ (by omega)
    have h6 : (m + 1) * d.sz = (inner.take (i * d.sz) ++ cs).length + (m * d.sz - i * d.sz) := by rw [List.length_append, hti, hcl, Nat.add_mul, Nat.one_mul]; omega
    rw [h6, ← List.drop_drop, List.drop_left, List.drop_drop, show i * d.sz + (m * d.sz - i * d.sz) = m * d.sz by omega]]
   exact h3
/-! #### what is told between two statements of a round -/
structure rb_F (w0 w : World) (g2 g4 : Nat) (okL : Nat → Prop) (AP : Option Addr) (cP : Nat) (ps : List S81) (AL : Option Addr) (cL : Nat) (log : List S78) (e : Int) : Prop where
 b2 : w.heap[g2]? = some (.cells #[.slice none 0 0, .slice none 0 0, .int .i64 0] 33 (0, 0))
 b4 : w.heap[g4]? = some (.cells #[.slice AP ps.length cP, .slice AL log.length cL, .int .i64 e] 33 (0, 0))
 ne : g2 ≠ g4
 ge : w0.heap.size ≤ g4
 hp : Kd.S rb_q 81 w w0.heap.size (fun _ => True) (.slice AP ps.length cP) (ps.map fun x => (x, false))
 hl : Kd.S k78 78 w w0.heap.size okL (.slice AL log.length cL) log
 hb : Below w0.heap.size w0 w
section
variable {w0 w w1 : World} {g2 g4 : Nat} {okL : Nat → Prop} {AP : Option Addr} {cP : Nat} {ps : List S81} {AL : Option Addr} {cL : Nat} {log : List S78} {e : Int}
theorem rb_F.below (h : rb_F w0 w g2 g4 okL AP cP ps AL cL log e) (hb : Below w.heap.size w w1) : rb_F w0 w1 g2 g4 okL AP cP ps AL cL log e :=
 ⟨blk_below h.b2 hb, blk_below h.b4 hb, h.ne, h.ge, Kd.S_below h.hp hb, Kd.S_below h.hl hb, below_step h.hb hb⟩
theorem rb_F.mono {ok' : Nat → Prop} (h : rb_F w0 w g2 g4 okL AP cP ps AL cL log e) (hk : ∀ k, okL k → ok' k) : rb_F w0 w g2 g4 ok' AP cP ps AL cL log e := ⟨h.b2, h.b4, h.ne, h.ge, h.hp, Kd.S_mono h.hl hk, h.hb⟩
theorem rb_F.C (h : rb_F w0 w g2 g4 okL AP cP ps AL cL log e) : ps.length ≤ cP ∧ Kd.C k81 w AP ps.length ps := (rb_C (q := fun _ => false) h.hp).2
theorem rb_F.CL (h : rb_F w0 w g2 g4 okL AP cP ps AL cL log e) : log.length ≤ cL ∧ Kd.C k78 w AL log.length log := (Kd.S_reads' h.hl).2
theorem rb_s5 {α : Type} {d : Kd α} {t base g : Nat} {ok : Nat → Prop} {v : Value} {xs : List α} (h : Kd.S d t w base ok v xs) (hok : ∀ k, ok k → k ≠ g) (u0 u1 u2 u3 u4 : Value) : Kd.S d t (((((w.setCell ⟨g, 0, none⟩ u0).setCell ⟨g, 1, none⟩ u1).setCell ⟨g, 2, none⟩ u2).setCell ⟨g, 3, none⟩ u3).setCell ⟨g, 4, none⟩ u4) base ok v xs :=
 Kd.S_far (p := ⟨g, 4, none⟩) (Kd.S_far (p := ⟨g, 3, none⟩) (Kd.S_far (p := ⟨g, 2, none⟩) (Kd.S_far (p := ⟨g, 1, none⟩) (Kd.S_far (p := ⟨g, 0, none⟩) h hok u0) hok u1) hok u2) hok u3) hok u4
/-- A new box of five cells, filled. -/
theorem rb_F.box {g6 : Nat} {z0 z1 z2 z3 z4 : Value} (h : rb_F w0 w g2 g4 (fun _ => True) AP cP ps AL cL log e) (hg : g6 = w.heap.size) (hbox : w1.heap[g6]? = some (.cells #[z0, z1, z2, z3, z4] 78 (0, 0))) (hb : Below w.heap.size w w1) (u0 u1 u2 u3 u4 : Value) :
  rb_F w0 (((((w1.setCell ⟨g6, 0, none⟩ u0).setCell ⟨g6, 1, none⟩ u1).setCell ⟨g6, 2, none⟩ u2).setCell ⟨g6, 3, none⟩ u3).setCell ⟨g6, 4, none⟩ u4) g2 g4 (fun k => k ≠ g6) AP cP ps AL cL log e ∧
  (((((w1.setCell ⟨g6, 0, none⟩ u0).setCell ⟨g6, 1, none⟩ u1).setCell ⟨g6, 2, none⟩ u2).setCell ⟨g6, 3, none⟩ u3).setCell ⟨g6, 4, none⟩ u4).heap[g6]? = some (.cells #[u0, u1, u2, u3, u4] 78 (0, 0)) ∧ g6 ≠ g2 ∧ g6 ≠ g4 := by
 have aA : w0.heap.size ≤ g6 := by rw [hg]; exact h.hb.size
 have n2 : g6 ≠ g2 := by rw [hg]; exact Nat.ne_of_gt (blk_lt h.b2)
 have n4 : g6 ≠ g4 := by rw [hg]; exact Nat.ne_of_gt (blk_lt h.b4)
 have hP := Kd.S_mono (Kd.S_below (Kd.S_bound h.hp) hb) (ok' := fun k => k ≠ g6) (fun k hk => by have := hk.2.2.1; omega)
 have hL := Kd.S_mono (Kd.S_below (Kd.S_bound h.hl) hb) (ok' := fun k => k ≠ g6) (fun k hk => by have := hk.2.2.1; omega)
 have far : ∀ {g : Nat} {o : Obj}, g6 ≠ g → w1.heap[g]? = some o → (((((w1.setCell ⟨g6, 0, none⟩ u0).setCell ⟨g6, 1, none⟩ u1).setCell ⟨g6, 2, none⟩ u2).setCell ⟨g6, 3, none⟩ u3).setCell ⟨g6, 4, none⟩ u4).heap[g]? = some o := fun {g o} hne hh => by
  rw [Below.heap_setCell _ ⟨g6, 4, none⟩ _ g (Ne.symm hne), Below.heap_setCell _ ⟨g6, 3, none⟩ _ g (Ne.symm hne), Below.heap_setCell _ ⟨g6, 2, none⟩ _ g (Ne.symm hne), Below.heap_setCell _ ⟨g6, 1, none⟩ _ g (Ne.symm hne), Below.heap_setCell _ ⟨g6, 0, none⟩ _ g (Ne.symm hne)]
  exact hh
 refine ⟨⟨far n2 (blk_below h.b2 hb), far n4 (blk_below h.b4 hb), h.ne, h.ge, Kd.S_mono (rb_s5 hP (fun _ hk => hk) _ _ _ _ _) (fun _ _ => trivial), rb_s5 hL (fun _ hk => hk) _ _ _ _ _, ?_⟩, ?_, n2, n4⟩
 ·exact below_set (below_set (below_set (below_set (below_set (below_step h.hb hb) aA) aA) aA) aA) aA
 ·exact blk_put (cs := #[u0, u1, u2, u3, z4]) (blk_put (cs := #[u0, u1, u2, z3, z4]) (blk_put (cs := #[u0, u1, z2, z3, z4]) (blk_put (cs := #[u0, z1, z2, z3, z4]) (blk_put (cs := #[z0, z1, z2, z3, z4]) hbox 0 _ rfl) 1 _ rfl) 2 _ rfl) 3 _ rfl) 4 _ rfl
/-- The row of producers has grown by one; the box has it. -/
theorem rb_F.ins {i : Nat} {v1 : Value} {p : S81} {inner : List Value} {f : Nat → Nat} (h : rb_F w0 w g2 g4 okL AP cP ps AL cL log e) (hi : i ≤ ps.length) (hp0 : p.f3 = []) (hr : Reps ((Kd.tag f rb_q).M w w0.heap.size (fun k => True ∧ some k ≠ (Value.slice AP ps.length cP).ownBlock)) 4 (ps.map fun x => (x, false)).zipIdx inner)
  (hown : w1.ownsRow w0.heap.size 81 4 v1 (ps.length + 1) (inner.take (i * 4) ++ [.int .i64 p.f0, .int .i64 p.f1, .int .i64 p.f2, .slice none 0 0] ++ inner.drop (i * 4))) (hg : w.grownBy w1 (Value.slice AP ps.length cP).ownBlock) (hat : v1.ownBlock = (Value.slice AP ps.length cP).ownBlock ∨ v1.ownBlock = some w.heap.size) :
  ∃ AP' cP', v1 = .slice AP' (ps.take i ++ p :: ps.drop i).length cP' ∧ rb_F w0 (w1.setCell ⟨g4, 0, none⟩ v1) g2 g4 okL AP' cP' (ps.take i ++ p :: ps.drop i) AL cL log e := by
 have hlen : (ps.take i ++ p :: ps.drop i).length = ps.length + 1 := by simp only [List.length_append, List.length_take, List.length_cons, List.length_drop]; omega
 have hS := rb_insert (d := rb_q) (e := 81) (base := w0.heap.size) (i := i) (xs := ps.map fun x => (x, false)) (p := (p, false)) (by rw [List.length_map]; exact hi) hr ⟨.slice none 0 0, rfl, .inl ⟨rfl, hp0⟩, fun h => nomatch h⟩ (by rw [List.length_map]; exact hown) hg hat
 have hmap : (ps.map fun x => (x, false)).take i ++ (p, false) :: (ps.map fun x => (x, false)).drop i = (ps.take i ++ p :: ps.drop i).map fun x => (x, false) := by simp
 rw [hmap] at hS
 obtain ⟨AP', cP', rfl⟩ := Kd.S_slice hS
 rw [List.length_map] at hS
 have nP : ∀ {g : Nat} {cells : Array Value} {t : TypeId}, w.heap[g]? = some (.cells cells t (0, 0)) → 81 ≠ t → some g ≠ (Value.slice AP ps.length cP).ownBlock := fun hh ht => Kd.R_ne (Kd.S_R h.hp) hh ht
 have k2 := blk_grown h.b2 hg (nP h.b2 (by decide))
 have k4 := blk_grown h.b4 hg (nP h.b4 (by decide))
 have hL : Kd.S k78 78 w1 w0.heap.size okL (.slice AL log.length cL) log := Kd.S_mono (Kd.S_grown (Kd.S_bound h.hl) hg (fun k hk he => by
  obtain ⟨_, _, _, q, hq, cells, hc⟩ := hk
  exact nP hc (by rintro rfl; exact absurd hq (by decide)) he)) (fun _ hk => hk.1)
 refine ⟨AP', cP', by rw [List.length_map], ?_⟩
 rw [List.length_map]
 refine ⟨?_, blk_put (cs := #[.slice AP ps.length cP, .slice AL log.length cL, .int .i64 e]) k4 0 _ rfl, h.ne, h.ge, Kd.S_set hS k4 (by decide) 0 _, Kd.S_set hL k4 (by decide) 0 _, ?_⟩
 ·rw [Below.heap_setCell _ ⟨g4, 0, none⟩ _ g2 h.ne]
  exact k2
 ·refine below_set ?_ h.ge
  exact Below.grown h.hb hg h.hb.size (fun k hk => Kd.S_base h.hp k hk)
end
section
variable {w0 w w1 : World} {g2 g4 : Nat} {okL : Nat → Prop} {AP : Option Addr} {cP : Nat} {ps : List S81} {AL : Option Addr} {cL : Nat} {log : List S78} {e : Int}
/-- Nothing but the row's block and a window is written. -/
theorem rb_F.wrote {g i : Nat} {x' : S81} {row : Option Nat} (h : rb_F w0 w g2 g4 okL (some ⟨g, 0, none⟩) cP ps AL cL log e) (W : World) (hS : Kd.S rb_q 81 W w0.heap.size (fun _ => True) (.slice (some ⟨g, 0, none⟩) ps.length cP) ((ps.map fun x => (x, false)).set i (x', false)))
  (hg : w.grownBy w1 row) (hrow : ∀ k, row = some k → ∃ cells, w.heap[k]? = some (.cells cells 112 (0, 0))) (hrb : ∀ k, row = some k → w0.heap.size ≤ k) (hW : w1.grownBy W (some g)) :
  rb_F w0 W g2 g4 okL (some ⟨g, 0, none⟩) cP (ps.set i x') AL cL log e := by
 have hmap : (ps.map fun x => (x, false)).set i (x', false) = (ps.set i x').map fun x => (x, false) := (List.map_set).symm
 rw [hmap] at hS
 have nR : ∀ {k : Nat} {cells : Array Value} {t : TypeId}, w.heap[k]? = some (.cells cells t (0, 0)) → 112 ≠ t → some k ≠ row := fun {k cells t} hh ht he => by
  obtain ⟨c2, h2⟩ := hrow k he.symm
  rw [h2] at hh
  injection hh with hh
  injection hh with _ hh
  exact ht hh
 have hty : ∃ cells, w.heap[g]? = some (.cells cells 81 (0, 0)) := Kd.S_typed h.hp g rfl
 have nG : ∀ {k : Nat} {cells : Array Value} {t : TypeId}, w.heap[k]? = some (.cells cells t (0, 0)) → 81 ≠ t → k ≠ g := fun {k cells t} hh ht he => by
  obtain ⟨c2, h2⟩ := hty
  rw [he, h2] at hh
  injection hh with hh
  injection hh with _ hh
  exact ht hh
 have both : ∀ {k : Nat} {cells : Array Value} {t : TypeId}, w.heap[k]? = some (.cells cells t (0, 0)) → 112 ≠ t → 81 ≠ t → W.heap[k]? = w.heap[k]? := fun {k cells t} hh h1 h2 => by
  have hk := (Array.getElem?_eq_some_iff.1 hh).1
  exact (hW.block k (Nat.lt_of_lt_of_le hk hg.size) (fun he => nG hh h2 (by injection he))).trans (hg.block k hk (nR hh h1))
 refine ⟨(both h.b2 (by decide) (by decide)).trans h.b2, ?_, h.ne, h.ge, by rw [List.length_set]; exact hS, ?_, ?_⟩
 ·rw [List.length_set]
  exact (both h.b4 (by decide) (by decide)).trans h.b4
 ·refine Kd.S_mono (Kd.S_move (Kd.S_bound h.hl) (fun k hk => ?_)) (fun _ hk => hk.1)
  obtain ⟨_, _, _, q, hq, cells, hc⟩ := hk
  exact both hc (by rintro rfl; exact absurd hq (by decide)) (by rintro rfl; exact absurd hq (by decide))
 ·exact Below.grown (Below.grown h.hb hg h.hb.size hrb) hW (Nat.le_trans h.hb.size hg.size) (fun k hk => by obtain rfl := Option.some.inj hk; exact Kd.S_base h.hp _ rfl)
/-- An element: its cells, its window; what stores into it leave. -/
theorem rb_F.elem (i : Nat) (h : rb_F w0 w g2 g4 okL AP cP ps AL cL log e) (hi : i < ps.length) :
  ∃ (g : Nat) (v : Value), AP = some ⟨g, 0, none⟩ ∧ w.cell? ⟨g, i * 4, none⟩ = some (.int .i64 (ps.getD i z81).f0) ∧ w.cell? ⟨g, i * 4 + 1, none⟩ = some (.int .i64 (ps.getD i z81).f1) ∧ w.cell? ⟨g, i * 4 + 2, none⟩ = some (.int .i64 (ps.getD i z81).f2) ∧ w.cell? ⟨g, i * 4 + 3, none⟩ = some v ∧ (∀ j, w.frozen? ⟨g, i * 4 + j, none⟩ = false) ∧
   rb_win w w0.heap.size (fun k => some k = v.ownBlock) v (ps.getD i z81).f3 ∧ some g ≠ v.ownBlock ∧
   (∀ x' : S81, x'.f3 = [] → rb_F w0 (w.setCells g (i * 4) [.int .i64 x'.f0, .int .i64 x'.f1, .int .i64 x'.f2, .slice none 0 0]) g2 g4 okL AP cP (ps.set i x') AL cL log e) ∧
   (∀ n : Int, rb_F w0 (w.setCells g (i * 4 + 2) [.int .i64 n]) g2 g4 okL AP cP (ps.set i ⟨(ps.getD i z81).f0, (ps.getD i z81).f1, n, (ps.getD i z81).f3⟩) AL cL log e) ∧
   (∀ (w1 : World) (v1 : Value) (l1 : List S112), w.grownBy w1 v.ownBlock → rb_win w1 w0.heap.size (fun k => some k = v.ownBlock ∨ w.heap.size ≤ k) v1 l1 → rb_F w0 (w1.setCells g (i * 4 + 3) [v1]) g2 g4 okL AP cP (ps.set i ⟨(ps.getD i z81).f0, (ps.getD i z81).f1, (ps.getD i z81).f2, l1⟩) AL cL log e) := by
 obtain ⟨g, cap, he, hgb, hglt, _⟩ := Kd.R_form (Kd.S_R h.hp) (by rw [List.length_map]; omega)
 injection he with he _ _
 subst he
 have hlt : (i : Int) < ps.length := by omega
 obtain ⟨oki, c, hcl, hM, hcc, hfr, hoki, hH⟩ := Kd.S_elem h.hp ((z81, false) : S81 × Bool) (i : Int) (by omega) hlt
 rw [Int.toNat_natCast] at hM
 have hgd : (ps.map fun x => (x, false)).getD i ((z81, false) : S81 × Bool) = (ps.getD i z81, false) := by
  rw [List.getD_eq_getElem?_getD, List.getElem?_map, List.getD_eq_getElem?_getD, List.getElem?_eq_getElem hi]
  rfl
 rw [hgd] at hM
 obtain ⟨v, rfl, hwin, _⟩ := hM
 have hcc' : ∀ j u, ([.int .i64 (ps.getD i z81).f0, .int .i64 (ps.getD i z81).f1, .int .i64 (ps.getD i z81).f2, v] : List Value)[j]? = some u → w.cell? ⟨g, i * 4 + j, none⟩ = some u := fun j u hu => hcc j u hu
 have hv1 : v.oneCell' = true := by
  rcases hwin with ⟨rfl, _⟩ | ⟨_, _, _, _, _, rfl, _⟩ <;> rfl
 have hvl := rb_win_lt hwin
 have hng : some g ≠ v.ownBlock := fun he => (hoki g (hvl g he.symm).1).2 rfl
 have hwin2 : rb_win w w0.heap.size (fun k => some k = v.ownBlock) v (ps.getD i z81).f3 := rb_win_mono hwin (fun k hk _ => hk.symm)
 refine ⟨g, v, rfl, hcc' 0 _ rfl, hcc' 1 _ rfl, hcc' 2 _ rfl, hcc' 3 _ rfl, fun j => hfr j, hwin2, hng, fun x' hx' => ?_, fun n => ?_, fun w1 v1 l1 hg1 aA => ?_⟩
 ·obtain ⟨h1, h2⟩ := Kd.H_seg hH (by omega) hlt (seg := [.int .i64 x'.f0, .int .i64 x'.f1, .int .i64 x'.f2, .slice none 0 0]) (j := 0) (show 0 + 4 ≤ 4 from by omega) (fun q hq => by
   simp only [List.mem_cons, List.not_mem_nil, or_false] at hq
   rcases hq with rfl | rfl | rfl | rfl <;> rfl)
  have h3 := Kd.H_back h1 (x' := (x', false)) (okp := fun _ => False) ⟨.slice none 0 0, rfl, .inl ⟨rfl, hx'⟩, fun h => nomatch h⟩ (fun _ hk => hk.elim)
  exact rb_F.wrote (row := none) h _ h3 (grown_of_below (Below.refl _ _) _) (fun _ hk => nomatch hk) (fun _ hk => nomatch hk) h2
 ·obtain ⟨h1, h2⟩ := Kd.H_seg hH (by omega) hlt (seg := [.int .i64 n]) (j := 2) (show 2 + 1 ≤ 4 from by omega) (fun q hq => by rw [List.mem_singleton.1 hq]; rfl)
  have h4 : rb_win (w.setCells g ((i : Int).toNat * 4 + 2) [.int .i64 n]) w0.heap.size oki v (ps.getD i z81).f3 := rb_win_move hwin (fun k hk => h2.block k (hvl k hk).2.2.1 (fun he => hng (by rw [hk, he])))
  have h3 := Kd.H_back h1 (x' := (⟨(ps.getD i z81).f0, (ps.getD i z81).f1, n, (ps.getD i z81).f3⟩, false)) (okp := oki) ⟨v, rfl, h4, fun h => nomatch h⟩ (fun _ hk => hk)
  exact rb_F.wrote (row := none) h _ h3 (grown_of_below (Below.refl _ _) _) (fun _ hk => nomatch hk) (fun _ hk => nomatch hk) h2
 ·have hv11 : v1.oneCell' = true := by
   rcases aA with ⟨rfl, _⟩ | ⟨_, _, _, _, _, rfl, _⟩ <;> rfl
  have hH2 := Kd.H_grown (Kd.H_widen hH) hg1 (fun k hk => .inl (hvl k hk).1)
  obtain ⟨h1, h2⟩ := Kd.H_seg hH2 (by omega) hlt (seg := [v1]) (j := 3) (show 3 + 1 ≤ 4 from by omega) (fun q hq => by rw [List.mem_singleton.1 hq]; exact hv11)
  have bA := rb_win_lt aA
  have h4 : rb_win (w1.setCells g ((i : Int).toNat * 4 + 3) [v1]) w0.heap.size (fun k => oki k ∨ True ∧ w.heap.size ≤ k) v1 l1 := rb_win_move (rb_win_mono aA (fun k _ hk => hk.imp (fun he => (hvl k he.symm).1) (fun he => ⟨trivial, he⟩))) (fun k hk => h2.block k (bA k hk).2.2.1 (fun he => by
   obtain rfl : k = g := by injection he
   rcases (bA k hk).1 with h5 | h5
   ·exact hng h5
   ·omega))
  have h3 := Kd.H_back h1 (x' := (⟨(ps.getD i z81).f0, (ps.getD i z81).f1, (ps.getD i z81).f2, l1⟩, false)) (okp := fun k => oki k ∨ True ∧ w.heap.size ≤ k) ⟨v1, rfl, h4, fun h => nomatch h⟩ (fun _ hk => hk)
  exact rb_F.wrote (row := v.ownBlock) h _ h3 hg1 (fun k hk => (hvl k hk).2.2.2) (fun k hk => (hvl k hk).2.1) h2
end
/-- slices.Insert of a producer without a window, and what the store into the box leaves. -/
theorem rb_F.insC {w0 W : World} {g2 g4 g6 : Nat} {okL : Nat → Prop} {AP : Option Addr} {cP : Nat} {ps : List S81} {AL : Option Addr} {cL : Nat} {log : List S78} {e : Int} {c6 : Array Value} (h : rb_F w0 W g2 g4 okL AP cP ps AL cL log e) (i : Nat) (hi : i ≤ ps.length) (p0 p1 : Int) (hn : (ps.length + 1) * 48 ≤ 140737488355328) (h6 : W.heap[g6]? = some (.cells c6 78 (0, 0))) (h64 : g6 ≠ g4) (L : List S81) (hL : L = ps.take i ++ ⟨p0, p1, 0, []⟩ :: ps.drop i) :
  Calls Try.prog 89 #[.slice AP ps.length cP, .int .i64 i, .slice (some ⟨W.heap.size, 0, none⟩) 1 1] (W.alloc (.cells #[.int .i64 p0, .int .i64 p1, .int .i64 0, .slice none 0 0] 81)) fun e' w' => ∃ v', e' = .returned v' ∧ w'.heap[g4]? = some (.cells #[.slice AP ps.length cP, .slice AL log.length cL, .int .i64 e] 33 (0, 0)) ∧ (∃ AP' cP', v' = .slice AP' L.length cP' ∧ rb_F w0 (w'.setCell ⟨g4, 0, none⟩ v') g2 g4 okL AP' cP' L AL cL log e) ∧ (w'.setCell ⟨g4, 0, none⟩ v').heap[g6]? = some (.cells c6 78 (0, 0)) := by
 subst hL
 have hW := below_alloc (Below.refl W.heap.size W) (.cells #[.int .i64 p0, .int .i64 p1, .int .i64 0, .slice none 0 0] 81)
 have h' := h.below hW
 have h6' := blk_below h6 hW
 have hvb : (W.alloc (.cells #[.int .i64 p0, .int .i64 p1, .int .i64 0, .slice none 0 0] 81)).heap[W.heap.size]? = some (.cells #[.int .i64 p0, .int .i64 p1, .int .i64 0, .slice none 0 0] 81 (0, 0)) := by rw [World.alloc]; exact Array.getElem?_push_size
 have hlt := Kd.S_lt h.hp
 obtain ⟨f, _, inner, hown, hr⟩ := h'.hp
 rw [List.length_zipIdx, List.length_map] at hown
 have h1 : ∀ u ∈ inner, u.oneCell' = true := Kd.reps_one hr (show 0 < 4 from by decide) (fun _ _ hp => (Kd.tag f rb_q).K_one ((Kd.tag f rb_q).K_of_M hp))
 refine (slices_Insert_Producer.calls w0.heap.size (.slice AP ps.length cP) ps.length inner i hi W.heap.size [.int .i64 p0, .int .i64 p1, .int .i64 0, .slice none 0 0] _ hown h1 hvb rfl (fun u hu => by
  simp only [List.mem_cons, List.not_mem_nil, or_false] at hu
  rcases hu with rfl | rfl | rfl | rfl <;> rfl) (fun he => absurd (hlt _ he.symm) (Nat.lt_irrefl _)) h'.hb.size hn).mono ?_
 rintro e' w' ⟨v', rfl, h2, h3, h4⟩
 have nP : ∀ {g : Nat} {cells : Array Value} {t : TypeId}, (W.alloc (.cells #[.int .i64 p0, .int .i64 p1, .int .i64 0, .slice none 0 0] 81)).heap[g]? = some (.cells cells t (0, 0)) → 81 ≠ t → some g ≠ (Value.slice AP ps.length cP).ownBlock := fun hh ht => Kd.R_ne (Kd.S_R h'.hp) hh ht
 refine ⟨v', rfl, blk_grown h'.b4 h3 (nP h'.b4 (by decide)), ?_, ?_⟩
 ·exact h'.ins (p := ⟨p0, p1, 0, []⟩) hi rfl hr h2 h3 h4
 ·rw [Below.heap_setCell _ ⟨g4, 0, none⟩ _ g6 h64]
  exact blk_grown h6' h3 (nP h6' (by decide))
section
variable {w0 w w1 : World} {g2 g4 g6 : Nat} {okL : Nat → Prop} {AP : Option Addr} {cP : Nat} {ps : List S81} {AL : Option Addr} {cL : Nat} {log : List S78} {e : Int}
theorem rb_F.logs {u : Value} {p : S78} (h : rb_F w0 w g2 g4 okL AP cP ps AL cL log e) (ho : Kd.S k78 78 w1 w0.heap.size okL u (log ++ [p])) (hb : Below w0.heap.size w0 w1) (hg : w.grownBy w1 (Value.slice AL log.length cL).ownBlock) (L : List S78) (hL : L = log ++ [p]) :
  ∃ AL' cL', u = .slice AL' L.length cL' ∧ w1.heap[g4]? = some (.cells #[.slice AP ps.length cP, .slice AL log.length cL, .int .i64 e] 33 (0, 0)) ∧ rb_F w0 (w1.setCell ⟨g4, 1, none⟩ u) g2 g4 okL AP cP ps AL' cL' L e := by
 subst hL
 obtain ⟨AL', cL', rfl⟩ := Kd.S_slice ho
 have nL : ∀ {g : Nat} {cells : Array Value} {t : TypeId}, w.heap[g]? = some (.cells cells t (0, 0)) → 78 ≠ t → some g ≠ (Value.slice AL log.length cL).ownBlock := fun hh ht => Kd.R_ne (Kd.S_R h.hl) hh ht
 have k2 := blk_grown h.b2 hg (nL h.b2 (by decide))
 have k4 := blk_grown h.b4 hg (nL h.b4 (by decide))
 have hP : Kd.S rb_q 81 w1 w0.heap.size (fun _ => True) (.slice AP ps.length cP) (ps.map fun x => (x, false)) := Kd.S_mono (Kd.S_grown (Kd.S_bound h.hp) hg (fun k hk he => by
  obtain ⟨_, _, _, q, hq, cells, hc⟩ := hk
  exact nL hc (by rintro rfl; exact absurd hq (by decide)) he)) (fun _ _ => trivial)
 refine ⟨AL', cL', rfl, k4, ?_, blk_put (cs := #[.slice AP ps.length cP, .slice AL log.length cL, .int .i64 e]) k4 1 _ rfl, h.ne, h.ge, Kd.S_set hP k4 (by decide) 1 _, Kd.S_set ho k4 (by decide) 1 _, below_set hb h.ge⟩
 rw [Below.heap_setCell _ ⟨g4, 1, none⟩ _ g2 h.ne]
 exact k2
theorem rb_F.fin (h : rb_F w0 w g2 g4 okL AP cP ps AL cL log e) (e' : Int) : rb_F w0 (w.setCell ⟨g4, 2, none⟩ (.int .i64 e')) g2 g4 okL AP cP ps AL cL log e' := by
 refine ⟨?_, blk_put (cs := #[.slice AP ps.length cP, .slice AL log.length cL, .int .i64 e]) h.b4 2 _ rfl, h.ne, h.ge, Kd.S_set h.hp h.b4 (by decide) 2 _, Kd.S_set h.hl h.b4 (by decide) 2 _, below_set h.hb h.ge⟩
 rw [Below.heap_setCell _ ⟨g4, 2, none⟩ _ g2 h.ne]
 exact h.b2
theorem rb_F.far {g : Nat} {c6 : Array Value} (h : rb_F w0 w g2 g4 okL (some ⟨g, 0, none⟩) cP ps AL cL log e) (h6 : w.heap[g6]? = some (.cells c6 78 (0, 0))) : g6 ≠ g := fun he => (Kd.R_ne (Kd.S_R h.hp) h6 (by decide)) (by rw [he]; rfl)
end
theorem rb_same {α : Type} (l : List α) (i : Nat) (hi : i < l.length) (z : α) : l.set i (l.getD i z) = l := by
 rw [List.getD_eq_getElem?_getD, List.getElem?_eq_getElem hi]
 exact List.set_getElem_self hi
theorem rb_getD_set {α : Type} (l : List α) (i : Nat) (hi : i < l.length) (x z : α) : (l.set i x).getD i z = x := by
 rw [List.getD_eq_getElem?_getD, List.getElem?_set_self hi]
 rfl
theorem rb_app_step {ops : Array Oper} {o : Oper} {a : Act} {w : World} {K : Act → World → Prop} {Q : Exit → Act → World → Prop} {E : Prop}
  (hw : Region.wanted o (yielded ops a.tmps) = true) (d x : Operand) (dT sT : TypeId) (hop : o.op = Op.call { callee := Callee.builtin Builtin.append, args := #[d, x], argTypes := #[dT, sT] })
  (v u : Value) (hd : a.eval d = v) (hx : a.eval x = u) {v' : Value} {w' : World} (hr : (Builtin.append_ #[dT, sT] o.type #[v, u]).run Try.prog w = .ok v' w') (hK : K (a.put o.dst v') w') :
  if Region.wanted o (yielded ops a.tmps) = true then Oper.wp Try.prog o a w K Q else E := by
 rw [if_pos hw]
 unfold Oper.wp execOp
 simp only [hop, resolve, invoke, builtin, Sem.run_bind, Sem.run_pure, Result.andThen_ok, List.map_toArray, List.map_cons, List.map_nil, hd, hx, hr]
 exact hK
/-! #### the last loop: each window comes to a row of its own -/
structure rb_G (w0 w : World) (g2 g4 : Nat) (AP : Option Addr) (cP : Nat) (AL : Option Addr) (cL : Nat) (log : List S78) (e : Int) (L : List (S81 × Bool)) : Prop where
 b2 : w.heap[g2]? = some (.cells #[.slice none 0 0, .slice none 0 0, .int .i64 0] 33 (0, 0))
 b4 : w.heap[g4]? = some (.cells #[.slice AP L.length cP, .slice AL log.length cL, .int .i64 e] 33 (0, 0))
 ge : w0.heap.size ≤ g2
 hp : Kd.S rb_q 81 w w0.heap.size (fun _ => True) (.slice AP L.length cP) L
 hl : Kd.S k78 78 w w0.heap.size (fun _ => True) (.slice AL log.length cL) log
 hb : Below w0.heap.size w0 w
section
variable {w0 w w1 : World} {g2 g4 : Nat} {AP : Option Addr} {cP : Nat} {AL : Option Addr} {cL : Nat} {log : List S78} {e : Int} {L : List (S81 × Bool)}
theorem rb_G.below (h : rb_G w0 w g2 g4 AP cP AL cL log e L) (hb : Below w.heap.size w w1) : rb_G w0 w1 g2 g4 AP cP AL cL log e L :=
 ⟨blk_below h.b2 hb, blk_below h.b4 hb, h.ge, Kd.S_below h.hp hb, Kd.S_below h.hl hb, below_step h.hb hb⟩
theorem rb_G.elem (i : Nat) (x : S81) (h : rb_G w0 w g2 g4 AP cP AL cL log e L) (hx : L[i]? = some (x, false)) :
  ∃ (g : Nat) (A : Option Addr) (c : Nat), AP = some ⟨g, 0, none⟩ ∧ w.cell? ⟨g, i * 4 + 3, none⟩ = some (.slice A x.f3.length c) ∧ w.frozen? ⟨g, i * 4 + 3, none⟩ = false ∧ Kd.C k112 w A x.f3.length x.f3 ∧
   ∀ (w1 : World) (v1 : Value), Below w.heap.size w w1 → (k112).R 112 w1 w.heap.size (fun _ => True) v1 x.f3 → rb_G w0 (w1.setCell ⟨g, i * 4 + 3, none⟩ v1) g2 g4 AP cP AL cL log e (L.set i (x, true)) := by
 have hi : i < L.length := (List.getElem?_eq_some_iff.1 hx).1
 obtain ⟨g, cap, he, hgb, hglt, _⟩ := Kd.R_form (Kd.S_R h.hp) (by omega)
 injection he with he _ _
 subst he
 have hlt : (i : Int) < L.length := by omega
 obtain ⟨oki, c, hcl, hM, hcc, hfr, hoki, hH⟩ := Kd.S_elem h.hp (x, false) (i : Int) (by omega) hlt
 rw [Int.toNat_natCast, List.getD_eq_getElem?_getD, hx] at hM
 obtain ⟨v, rfl, hwin, _⟩ := hM
 obtain ⟨A, cw, rfl, _, hC⟩ := rb_win_C hwin
 refine ⟨g, A, cw, rfl, hcc 3 _ rfl, hfr 3, hC, fun w1 v1 hb hR => ?_⟩
 have h1 := h.below hb
 have hH1 := Kd.H_below (Kd.H_widen hH) hb
 obtain ⟨_, hone⟩ := Kd.R_val hR
 obtain ⟨h2, h3⟩ := Kd.H_seg hH1 (by omega) hlt (seg := [v1]) (j := 3) (show 3 + 1 ≤ 4 from by omega) (fun q hq => by rw [List.mem_singleton.1 hq]; exact hone)
 have hR1 : (k112).R 112 (w1.setCells g ((i : Int).toNat * 4 + 3) [v1]) w0.heap.size (fun k => oki k ∨ True ∧ w.heap.size ≤ k) v1 x.f3 := Kd.R_mono (Kd.R_lower (Kd.R_grown (Kd.R_bound hR) h3 (fun k hk he => by
  obtain rfl : k = g := by injection he
  have := hk.2.1
  omega)) h.hb.size) (fun k hk => .inr ⟨trivial, hk.2.1⟩)
 have h4 := Kd.H_back h2 (x' := (x, true)) (okp := fun k => oki k ∨ True ∧ w.heap.size ≤ k) ⟨v1, rfl, rb_win_R hR1, fun _ => hR1⟩ (fun _ hk => hk)
 have nG : ∀ {k : Nat} {cells : Array Value} {t : TypeId}, w1.heap[k]? = some (.cells cells t (0, 0)) → 81 ≠ t → k ≠ g := fun {k cells t} hh ht he => (Kd.R_ne (Kd.S_R h1.hp) hh ht) (by rw [he]; rfl)
 have same : ∀ {k : Nat} {cells : Array Value} {t : TypeId}, w1.heap[k]? = some (.cells cells t (0, 0)) → 81 ≠ t → (w1.setCell ⟨g, i * 4 + 3, none⟩ v1).heap[k]? = w1.heap[k]? := fun {k cells t} hh ht => Below.heap_setCell _ ⟨g, i * 4 + 3, none⟩ _ k (nG hh ht)
 refine ⟨(same h1.b2 (by decide)).trans h1.b2, by rw [List.length_set]; exact (same h1.b4 (by decide)).trans h1.b4, h.ge, by rw [List.length_set]; exact h4, ?_, below_set h1.hb hgb⟩
 refine Kd.S_mono (Kd.S_move (Kd.S_bound h1.hl) (fun k hk => ?_)) (fun _ _ => trivial)
 obtain ⟨_, _, _, q, hq, cells, hc⟩ := hk
 exact same hc (by rintro rfl; exact absurd hq (by decide))
end
theorem rb_mix {α : Type} (ps : List α) (i : Nat) (hi : i < ps.length) : ((ps.take i).map (fun x => (x, true)) ++ (ps.drop i).map (fun x => (x, false)))[i]? = some (ps[i], false) ∧ ((ps.take i).map (fun x => (x, true)) ++ (ps.drop i).map (fun x => (x, false))).set i (ps[i], true) = (ps.take (i + 1)).map (fun x => (x, true)) ++ (ps.drop (i + 1)).map (fun x => (x, false)) := by
 have hl : ((ps.take i).map (fun x => (x, true))).length = i := by rw [List.length_map, List.length_take]; omega
 constructor
 ·rw [List.getElem?_append_right (by omega), hl, Nat.sub_self, List.getElem?_map, List.getElem?_drop, Nat.add_zero, List.getElem?_eq_getElem hi]
  rfl
 ·rw [List.set_append_right _ _ (by omega), hl, Nat.sub_self, List.drop_eq_getElem_cons hi, List.map_cons, List.set_cons_zero, List.take_succ_eq_append_getElem hi, List.map_append, List.append_assoc]
  rfl

/-! #### the plain function -/
def impl_rebuild.cut (l : List S112) : List S112 := l.drop (l.length - 5)
/-- The first place whose number is not below. -/
def impl_rebuild.at (id : Int) : List S81 → Nat
 | [] => 0
 | x :: r => if x.f0 < id then impl_rebuild.at id r + 1 else 0
theorem impl_rebuild.at_le (id : Int) : ∀ l, impl_rebuild.at id l ≤ l.length
 | [] => Nat.le_refl _
 | x :: r => by
  rw [impl_rebuild.at]
  split
  ·exact Nat.succ_le_succ (impl_rebuild.at_le id r)
  ·exact Nat.zero_le _
def impl_rebuild.ix (ps : List S81) (b : S78) : Nat := if pa_ix (fun x => decide (x.f0 = b.f2)) 0 ps < 0 then impl_rebuild.at b.f2 ps else (pa_ix (fun x => decide (x.f0 = b.f2)) 0 ps).toNat
def impl_rebuild.ins (ps : List S81) (b : S78) : List S81 := if pa_ix (fun x => decide (x.f0 = b.f2)) 0 ps < 0 then ps.take (impl_rebuild.at b.f2 ps) ++ ⟨b.f2, b.f1, 0, []⟩ :: ps.drop (impl_rebuild.at b.f2 ps) else ps
def impl_rebuild.new (x : S81) (b : S78) : S81 := if x.f1 < b.f1 then ⟨b.f2, b.f1, 0, []⟩ else x
def impl_rebuild.put (x : S81) (b : S78) : S81 := ⟨x.f0, x.f1, wrap64 (x.f2 + (b.f4.length : Int)), impl_rebuild.cut (x.f3 ++ [⟨b.f3, (b.f4.length : Int), b.f0⟩])⟩
def impl_rebuild.no : List S81 × List S78 × Int × Bool := ([], [], 0, false)
def impl_rebuild.go : List S78 → List S81 → List S78 → Int → Option (List S81 × List S78 × Int × Bool)
 | [], ps, log, e => if 4 < ps.length then some impl_rebuild.no else some (ps, log, e, true)
 | b :: r, ps, log, e => (impl_isBatch.f b.f0 b.f1 b.f2 b.f3 b.f4).bind fun t => if t = true then
   (if b.f0 = e then
    (if 65535 < wrap64 (wrap64 (b.f3 + (b.f4.length : Int)) - 1) then some impl_rebuild.no else
     (if b.f1 < (impl_rebuild.new ((impl_rebuild.ins ps b).getD (impl_rebuild.ix ps b) z81) b).f1 then some impl_rebuild.no else
      (if b.f3 = (impl_rebuild.new ((impl_rebuild.ins ps b).getD (impl_rebuild.ix ps b) z81) b).f2 then
       (impl_copyBatch.f b.f0 b.f1 b.f2 b.f3 b.f4).bind fun c => (impl_Batch_end.f b.f0 b.f1 b.f2 b.f3 b.f4).bind fun e' =>
        impl_rebuild.go r ((impl_rebuild.ins ps b).set (impl_rebuild.ix ps b) (impl_rebuild.put (impl_rebuild.new ((impl_rebuild.ins ps b).getD (impl_rebuild.ix ps b) z81) b) b)) (log ++ [⟨c.1, c.2.1, c.2.2.1, c.2.2.2.1, c.2.2.2.2⟩]) e'
      else some impl_rebuild.no)))
   else some impl_rebuild.no)
  else some impl_rebuild.no
def impl_rebuild.f (l : List S78) : Option (List S81 × List S78 × Int × Bool) := if 60 < l.length then some impl_rebuild.no else impl_rebuild.go l [] [] 0
theorem impl_rebuild.ix_lt (ps : List S81) (b : S78) : impl_rebuild.ix ps b < (impl_rebuild.ins ps b).length := by
 unfold impl_rebuild.ix impl_rebuild.ins
 split
 ·have := impl_rebuild.at_le b.f2 ps
  simp only [List.length_append, List.length_take, List.length_cons, List.length_drop]
  omega
 ·have key : ∀ (l : List S81) (i : Nat), 0 ≤ pa_ix (fun x => decide (x.f0 = b.f2)) i l → (pa_ix (fun x => decide (x.f0 = b.f2)) i l).toNat < i + l.length := by
   intro l
   induction l with
   | nil => intro i h; simp [pa_ix] at h
   | cons x r ih =>
    intro i
    rw [pa_ix]
    split
    ·intro _
     rw [List.length_cons]
     omega
    ·intro h
     have := ih (i + 1) h
     rw [List.length_cons]
     omega
  have := key ps 0 (by omega)
  omega
theorem impl_rebuild.ins_ok (ps : List S81) (b : S78) (j : Nat) (h : ps.length ≤ j) (h5 : ∀ x ∈ ps, x.f3.length ≤ 5) : (impl_rebuild.ins ps b).length ≤ j + 1 ∧ ∀ x ∈ impl_rebuild.ins ps b, x.f3.length ≤ 5 := by
 unfold impl_rebuild.ins
 split
 ·have := impl_rebuild.at_le b.f2 ps
  refine ⟨by simp only [List.length_append, List.length_take, List.length_cons, List.length_drop]; omega, fun x hx => ?_⟩
  rcases List.mem_append.1 hx with hx | hx
  ·exact h5 x (List.mem_of_mem_take hx)
  ·rcases List.mem_cons.1 hx with rfl | hx
   ·exact Nat.zero_le _
   ·exact h5 x (List.mem_of_mem_drop hx)
 ·exact ⟨by omega, h5⟩

set_option maxHeartbeats 8000000 in
set_option maxRecDepth 100000 in
theorem impl_rebuild.calls (A0 : Option Addr) (c0 : Nat) (l : List S78) (r1 : List S81) (r2 : List S78) (r3 : Int) (r4 : Bool) (w : World) (hr0 : Kd.C k78 w A0 l.length l) (hc0 : l.length ≤ c0) (h : impl_rebuild.f l = some (r1, r2, r3, r4)) :
    Calls Try.prog 66 #[.slice A0 l.length c0] w fun e w' => ∃ v0_ v1_ : Value, e = .returned (.tuple #[.agg #[v0_, v1_, .int .i64 r3], .bool r4]) ∧ Kd.S k81 81 w' w.heap.size (fun _ => True) v0_ r1 ∧ Kd.S k78 78 w' w.heap.size (fun _ => True) v1_ r2 ∧ Below w.heap.size w w' := by
  have hu33 := Try.underlying33
  have hu81 := Try.underlying81
  have hu78 := Try.underlying78
  have hu79 := Try.underlying79
  have hu112 := Try.underlying112
  have HR := am_ hr0
  have hbig : l.length ≤ 9223372036854775807 := hr0.2.1
  clear hr0
  have HB := am_ (Below.refl w.heap.size w)
  unfold impl_rebuild.f at h
  by_cases h60 : 60 < l.length
  · rw [if_pos h60] at h
    obtain ⟨rfl, rfl, rfl, rfl⟩ : [] = r1 ∧ [] = r2 ∧ 0 = r3 ∧ false = r4 := by simpa [impl_rebuild.no] using h
    have hd : decide ((60 : Int) < (l.length : Int)) = true := decide_eq_true (by omega)
    clear h
    go_enter Try.func66, Try.ntmps66
    go_wp2_with (first | ((with_reducible refine gate_dst (N := 2) rfl ?_); refine be_ (N := 2) #[.slice none 0 0, .slice none 0 0, .int .i64 0] 33 ?_; intro cA hg w2 hbox hb; have dA := am_ hbox; have jA := ge_ hg; replace HB := nb_ hb; clear hb hbox hg; obtain ⟨hcz_0, hcz_1, hcz_2, hfz_0, hfz_1, hfz_2⟩ := cf3_ dA.out))
    refine bodyPost_ret (results_ct rfl _ _ cA 33 #[.slice none 0 0, .slice none 0 0, .int .i64 0] (0, 0) _ rfl (up_ dA) Try.underlying33 rfl (by kernel_rfl)) rfl ?_
    exact ⟨_, _, er_, Kd.S_nil _ _ _ _ _, Kd.S_nil _ _ _ _ _, hs_ jA.out⟩
  rw [if_neg h60] at h
  have hd : decide ((60 : Int) < (l.length : Int)) = false := decide_eq_false (by omega)
  have oC := am_ h60
  have H := am_ h
  clear h h60
  go_enter Try.func66, Try.ntmps66
  go_wp2_with (first | ((with_reducible refine gate_dst (N := 2) rfl ?_); refine be_ (N := 2) #[.slice none 0 0, .slice none 0 0, .int .i64 0] 33 ?_; intro cA hg w2 hbox hb; have dA := am_ hbox; have jA := ge_ hg; replace HB := nb_ hb; clear hb hbox hg) | ((with_reducible refine gate_dst (N := 4) rfl ?_); refine be_ (N := 4) #[.slice none 0 0, .slice none 0 0, .int .i64 0] 33 ?_; intro eA hg w4 hbox hb; have bC := am_ hbox; have pC := ge1_ hg jA; replace HB := nc_ jA hb; have N24 := nl_ dA hg; replace dA := bK_ dA hb; clear hb hbox hg; have nB := N24.out; obtain ⟨hcz_0, hcz_1, hcz_2, hfz_0, hfz_1, hfz_2⟩ := cf3_ bC.out) | ((with_reducible refine gate_store (t := 33) (p := 4) rfl ?_); refine store_event (t := 33) (p := 4) (v := ?vo_4) (w1 := ((w4.setCell ⟨eA, 0, none⟩ (.slice none 0 0)).setCell ⟨eA, 1, none⟩ (.slice none 0 0)).setCell ⟨eA, 2, none⟩ (.int .i64 0)) ?hg ?ho ?hn ?hr ?_; (case ho => rfl); (case hg => rfl); (case hn => rfl); (case hr => first | (go_simp; done) | (go_simp; rfl)); intro w5 qC; have rC : Aside0 (rb_F w w5 cA eA (fun _ => True) none 0 [] none 0 [] 0) := ⟨by rw [qC]; exact ⟨uf_ dA N24.out, up_ bC, N24.out, pC.out, Kd.S_nil _ _ _ _ _, Kd.S_nil _ _ _ _ _, hs2_ jA.out pC.out⟩⟩; clear qC dA bC nB hcz_0 hcz_1 hcz_2 hfz_0 hfz_1 hfz_2 HB))
  go_loopg [17] l.length (fun gg gD wr => ∃ (j : Nat) (AP : Option Addr) (cP : Nat) (ps : List S81) (AL : Option Addr) (cL : Nat) (log : List S78) (e : Int), gD = .int .i64 j ∧ j ≤ l.length ∧ l.length - j ≤ gg ∧ Aside0 (impl_rebuild.go (l.drop j) ps log e = some (r1, r2, r3, r4)) ∧ Aside0 (ps.length ≤ j ∧ log.length ≤ j ∧ ∀ x ∈ ps, x.f3.length ≤ 5) ∧ Aside0 (rb_F w wr cA eA (fun _ => True) AP cP ps AL cL log e))
  case atStart => exact ⟨0, none, 0, [], none, 0, [], 0, rfl, Nat.zero_le _, by omega, H, ⟨Nat.zero_le _, Nat.zero_le _, fun x hx => absurd hx (by simp)⟩, rC⟩
  case round =>
    clear H rC
    obtain ⟨j, AP, cP, ps, AL, cL, log, e, rfl, hj, hgg, HH, HN, HF⟩ := hrel
    by_cases hlt : j < l.length
    · have hltz : (j : Int) < (l.length : Int) := by omega
      obtain ⟨ad, A4, c4, rfl, eB, fB, gB, hB, iB, vB, wB⟩ := at_T78 HR.out (j : Int) (by omega) hltz
      have e1 : rd_T78 l (j : Int) = l[j] := by unfold rd_T78; rw [Int.toNat_natCast, List.getD_eq_getElem?_getD, List.getElem?_eq_getElem hlt]; rfl
      rw [e1] at eB fB gB hB iB vB wB
      have H := HH.out
      clear HH
      rw [List.drop_eq_getElem_cons hlt, impl_rebuild.go] at H
      generalize hb_ : l[j] = b at eB fB gB hB iB vB wB H e1
      clear e1 hb_
      rw [Int.toNat_natCast] at eB fB gB hB iB
      replace eB := pc_ HF.out.hb eB
      replace fB := pc_ HF.out.hb fB
      replace gB := pc_ HF.out.hb gB
      replace hB := pc_ HF.out.hb hB
      replace iB := pc_ HF.out.hb iB
      have jB := am_ wB
      have kB := am_ vB
      clear wB vB
      obtain ⟨t, A1, H⟩ := bnd_ H
      replace H := ifb_ H
      obtain ⟨rfl, H⟩ | ⟨rfl, H⟩ := H
      rotate_left
      · skip
        obtain ⟨rfl, rfl, rfl, rfl⟩ : [] = r1 ∧ [] = r2 ∧ 0 = r3 ∧ false = r4 := by simpa [impl_rebuild.no] using H
        clear H
        go_wp2_with (first | ((with_reducible refine gate_dst (N := 6) rfl ?_); refine be_ (N := 6) #[.int .i64 0, .int .i64 0, .int .i64 0, .int .i64 0, .slice none 0 0] 78 ?_; intro bA hg6 w6 hbox6 lA; have mA := am_ hg6; have gA := am_ hbox6; have nA := am_ lA; clear hg6 hbox6 lA; obtain ⟨hcy_0, hcy_1, hcy_2, hcy_3, hcy_4, hfy_0, hfy_1, hfy_2, hfy_3, hfy_4⟩ := cf5_ gA.out) | ((with_reducible refine gate_store (t := 78) (p := 6) rfl ?_); refine store_event (t := 78) (p := 6) (v := ?vo_6) (w1 := (((((w6.setCell ⟨bA, 0, none⟩ (.int .i64 b.f0)).setCell ⟨bA, 1, none⟩ (.int .i64 b.f1)).setCell ⟨bA, 2, none⟩ (.int .i64 b.f2)).setCell ⟨bA, 3, none⟩ (.int .i64 b.f3)).setCell ⟨bA, 4, none⟩ (.slice A4 b.f4.length c4))) ?hg ?ho ?hn ?hr ?_; (case ho => rfl); (case hg => rfl); (case hn => rfl); (case hr => first | (go_simp; done) | (go_simp; rfl)); intro w7 oA; obtain ⟨hF_, hB6_, hn62_, hn64_⟩ := rb_F.box HF.out mA.out gA.out nA.out (.int .i64 b.f0) (.int .i64 b.f1) (.int .i64 b.f2) (.int .i64 b.f3) (.slice A4 b.f4.length c4); rw [← oA] at hF_ hB6_; replace HF := am_ hF_; have aA := am_ hB6_; have N62 := am_ hn62_; have N64 := am_ hn64_; clear hF_ hB6_ hn62_ hn64_ oA mA gA nA hcy_0 hcy_1 hcy_2 hcy_3 hcy_4 hfy_0 hfy_1 hfy_2 hfy_3 hfy_4; obtain ⟨hcb_0, hcb_1, hcb_2, hcb_3, hcb_4, hfb_0, hfb_1, hfb_2, hfb_3, hfb_4⟩ := cf5_ aA.out) | ((with_reducible refine gate_callee (f := 88) rfl ?_); refine gl_ 22 Try.func88 #[.agg #[.int .i64 b.f0, .int .i64 b.f1, .int .i64 b.f2, .int .i64 b.f3, .slice A4 b.f4.length c4]] rfl ma_ ?_; (with_reducible refine (impl_isBatch.calls b.f0 b.f1 b.f2 b.f3 A4 c4 b.f4 false _ ?s1 ?s2 A1.out).mono ?_); (case s1 => exact Kd.C_below jB.out HF.out.hb); (case s2 => exact kB.out); rintro e_ w8 ⟨rfl, iA⟩; refine ⟨_, rfl, ?_⟩; replace HF := am_ (HF.out.below iA); replace aA := am_ (blk_below aA.out iA); clear iA hcb_0 hcb_1 hcb_2 hcb_3 hcb_4 hfb_0 hfb_1 hfb_2 hfb_3 hfb_4; obtain ⟨hcb_0, hcb_1, hcb_2, hcb_3, hcb_4, hfb_0, hfb_1, hfb_2, hfb_3, hfb_4⟩ := cf5_ aA.out; obtain ⟨hcp_0, hcp_1, hcp_2, hfp_0, hfp_1, hfp_2⟩ := cf3_ HF.out.b4; obtain ⟨hcr_0, hcr_1, hcr_2, hfr_0, hfr_1, hfr_2⟩ := cf3_ HF.out.b2))
        have HB := am_ HF.out.hb
        have dA := am_ HF.out.b2
        refine bodyPost_ret (results_ct rfl _ _ cA 33 #[.slice none 0 0, .slice none 0 0, .int .i64 0] (0, 0) _ rfl (up_ dA) Try.underlying33 rfl (by kernel_rfl)) rfl ?_
        exact ⟨_, _, er_, Kd.S_nil _ _ _ _ _, Kd.S_nil _ _ _ _ _, hs_ jA.out⟩
      replace H := ite_ H
      obtain ⟨c1, H⟩ | ⟨c1, H⟩ := H
      rotate_left
      · have c1b : (b.f0 != e) = true := bne_iff_ne.mpr c1
        have c1c : (b.f0 == e) = false := beq_eq_false_iff_ne.mpr c1
        clear c1
        obtain ⟨rfl, rfl, rfl, rfl⟩ : [] = r1 ∧ [] = r2 ∧ 0 = r3 ∧ false = r4 := by simpa [impl_rebuild.no] using H
        clear H
        go_wp2_with (first | ((with_reducible refine gate_dst (N := 6) rfl ?_); refine be_ (N := 6) #[.int .i64 0, .int .i64 0, .int .i64 0, .int .i64 0, .slice none 0 0] 78 ?_; intro bA hg6 w6 hbox6 lA; have mA := am_ hg6; have gA := am_ hbox6; have nA := am_ lA; clear hg6 hbox6 lA; obtain ⟨hcy_0, hcy_1, hcy_2, hcy_3, hcy_4, hfy_0, hfy_1, hfy_2, hfy_3, hfy_4⟩ := cf5_ gA.out) | ((with_reducible refine gate_store (t := 78) (p := 6) rfl ?_); refine store_event (t := 78) (p := 6) (v := ?vo_6) (w1 := (((((w6.setCell ⟨bA, 0, none⟩ (.int .i64 b.f0)).setCell ⟨bA, 1, none⟩ (.int .i64 b.f1)).setCell ⟨bA, 2, none⟩ (.int .i64 b.f2)).setCell ⟨bA, 3, none⟩ (.int .i64 b.f3)).setCell ⟨bA, 4, none⟩ (.slice A4 b.f4.length c4))) ?hg ?ho ?hn ?hr ?_; (case ho => rfl); (case hg => rfl); (case hn => rfl); (case hr => first | (go_simp; done) | (go_simp; rfl)); intro w7 oA; obtain ⟨hF_, hB6_, hn62_, hn64_⟩ := rb_F.box HF.out mA.out gA.out nA.out (.int .i64 b.f0) (.int .i64 b.f1) (.int .i64 b.f2) (.int .i64 b.f3) (.slice A4 b.f4.length c4); rw [← oA] at hF_ hB6_; replace HF := am_ hF_; have aA := am_ hB6_; have N62 := am_ hn62_; have N64 := am_ hn64_; clear hF_ hB6_ hn62_ hn64_ oA mA gA nA hcy_0 hcy_1 hcy_2 hcy_3 hcy_4 hfy_0 hfy_1 hfy_2 hfy_3 hfy_4; obtain ⟨hcb_0, hcb_1, hcb_2, hcb_3, hcb_4, hfb_0, hfb_1, hfb_2, hfb_3, hfb_4⟩ := cf5_ aA.out) | ((with_reducible refine gate_callee (f := 88) rfl ?_); refine gl_ 22 Try.func88 #[.agg #[.int .i64 b.f0, .int .i64 b.f1, .int .i64 b.f2, .int .i64 b.f3, .slice A4 b.f4.length c4]] rfl ma_ ?_; (with_reducible refine (impl_isBatch.calls b.f0 b.f1 b.f2 b.f3 A4 c4 b.f4 true _ ?s1 ?s2 A1.out).mono ?_); (case s1 => exact Kd.C_below jB.out HF.out.hb); (case s2 => exact kB.out); rintro e_ w8 ⟨rfl, iA⟩; refine ⟨_, rfl, ?_⟩; replace HF := am_ (HF.out.below iA); replace aA := am_ (blk_below aA.out iA); clear iA hcb_0 hcb_1 hcb_2 hcb_3 hcb_4 hfb_0 hfb_1 hfb_2 hfb_3 hfb_4; obtain ⟨hcb_0, hcb_1, hcb_2, hcb_3, hcb_4, hfb_0, hfb_1, hfb_2, hfb_3, hfb_4⟩ := cf5_ aA.out; obtain ⟨hcp_0, hcp_1, hcp_2, hfp_0, hfp_1, hfp_2⟩ := cf3_ HF.out.b4; obtain ⟨hcr_0, hcr_1, hcr_2, hfr_0, hfr_1, hfr_2⟩ := cf3_ HF.out.b2))
        have HB := am_ HF.out.hb
        have dA := am_ HF.out.b2
        refine bodyPost_ret (results_ct rfl _ _ cA 33 #[.slice none 0 0, .slice none 0 0, .int .i64 0] (0, 0) _ rfl (up_ dA) Try.underlying33 rfl (by kernel_rfl)) rfl ?_
        exact ⟨_, _, er_, Kd.S_nil _ _ _ _ _, Kd.S_nil _ _ _ _ _, hs_ jA.out⟩
      have c1b : (b.f0 != e) = false := bne_eq_false_iff_eq.mpr c1
      have c1c : (b.f0 == e) = true := beq_iff_eq.mpr c1
      have C1 := am_ c1
      clear c1
      replace H := ite_ H
      obtain ⟨c2, H⟩ | ⟨c2, H⟩ := H
      · have c2b := decide_eq_true c2
        clear c2
        obtain ⟨rfl, rfl, rfl, rfl⟩ : [] = r1 ∧ [] = r2 ∧ 0 = r3 ∧ false = r4 := by simpa [impl_rebuild.no] using H
        clear H
        go_wp2_with (first | ((with_reducible refine gate_dst (N := 6) rfl ?_); refine be_ (N := 6) #[.int .i64 0, .int .i64 0, .int .i64 0, .int .i64 0, .slice none 0 0] 78 ?_; intro bA hg6 w6 hbox6 lA; have mA := am_ hg6; have gA := am_ hbox6; have nA := am_ lA; clear hg6 hbox6 lA; obtain ⟨hcy_0, hcy_1, hcy_2, hcy_3, hcy_4, hfy_0, hfy_1, hfy_2, hfy_3, hfy_4⟩ := cf5_ gA.out) | ((with_reducible refine gate_store (t := 78) (p := 6) rfl ?_); refine store_event (t := 78) (p := 6) (v := ?vo_6) (w1 := (((((w6.setCell ⟨bA, 0, none⟩ (.int .i64 b.f0)).setCell ⟨bA, 1, none⟩ (.int .i64 b.f1)).setCell ⟨bA, 2, none⟩ (.int .i64 b.f2)).setCell ⟨bA, 3, none⟩ (.int .i64 b.f3)).setCell ⟨bA, 4, none⟩ (.slice A4 b.f4.length c4))) ?hg ?ho ?hn ?hr ?_; (case ho => rfl); (case hg => rfl); (case hn => rfl); (case hr => first | (go_simp; done) | (go_simp; rfl)); intro w7 oA; obtain ⟨hF_, hB6_, hn62_, hn64_⟩ := rb_F.box HF.out mA.out gA.out nA.out (.int .i64 b.f0) (.int .i64 b.f1) (.int .i64 b.f2) (.int .i64 b.f3) (.slice A4 b.f4.length c4); rw [← oA] at hF_ hB6_; replace HF := am_ hF_; have aA := am_ hB6_; have N62 := am_ hn62_; have N64 := am_ hn64_; clear hF_ hB6_ hn62_ hn64_ oA mA gA nA hcy_0 hcy_1 hcy_2 hcy_3 hcy_4 hfy_0 hfy_1 hfy_2 hfy_3 hfy_4; obtain ⟨hcb_0, hcb_1, hcb_2, hcb_3, hcb_4, hfb_0, hfb_1, hfb_2, hfb_3, hfb_4⟩ := cf5_ aA.out) | ((with_reducible refine gate_callee (f := 88) rfl ?_); refine gl_ 22 Try.func88 #[.agg #[.int .i64 b.f0, .int .i64 b.f1, .int .i64 b.f2, .int .i64 b.f3, .slice A4 b.f4.length c4]] rfl ma_ ?_; (with_reducible refine (impl_isBatch.calls b.f0 b.f1 b.f2 b.f3 A4 c4 b.f4 true _ ?s1 ?s2 A1.out).mono ?_); (case s1 => exact Kd.C_below jB.out HF.out.hb); (case s2 => exact kB.out); rintro e_ w8 ⟨rfl, iA⟩; refine ⟨_, rfl, ?_⟩; replace HF := am_ (HF.out.below iA); replace aA := am_ (blk_below aA.out iA); clear iA hcb_0 hcb_1 hcb_2 hcb_3 hcb_4 hfb_0 hfb_1 hfb_2 hfb_3 hfb_4; obtain ⟨hcb_0, hcb_1, hcb_2, hcb_3, hcb_4, hfb_0, hfb_1, hfb_2, hfb_3, hfb_4⟩ := cf5_ aA.out; obtain ⟨hcp_0, hcp_1, hcp_2, hfp_0, hfp_1, hfp_2⟩ := cf3_ HF.out.b4; obtain ⟨hcr_0, hcr_1, hcr_2, hfr_0, hfr_1, hfr_2⟩ := cf3_ HF.out.b2))
        have HB := am_ HF.out.hb
        have dA := am_ HF.out.b2
        refine bodyPost_ret (results_ct rfl _ _ cA 33 #[.slice none 0 0, .slice none 0 0, .int .i64 0] (0, 0) _ rfl (up_ dA) Try.underlying33 rfl (by kernel_rfl)) rfl ?_
        exact ⟨_, _, er_, Kd.S_nil _ _ _ _ _, Kd.S_nil _ _ _ _ _, hs_ jA.out⟩
      have c2b := decide_eq_false c2
      clear c2
      have H' := am_ H
      clear H
      go_upto_if 47 with (first | ((with_reducible refine gate_dst (N := 6) rfl ?_); refine be_ (N := 6) #[.int .i64 0, .int .i64 0, .int .i64 0, .int .i64 0, .slice none 0 0] 78 ?_; intro bA hg6 w6 hbox6 lA; have mA := am_ hg6; have gA := am_ hbox6; have nA := am_ lA; clear hg6 hbox6 lA; obtain ⟨hcy_0, hcy_1, hcy_2, hcy_3, hcy_4, hfy_0, hfy_1, hfy_2, hfy_3, hfy_4⟩ := cf5_ gA.out) | ((with_reducible refine gate_store (t := 78) (p := 6) rfl ?_); refine store_event (t := 78) (p := 6) (v := ?vo_6) (w1 := (((((w6.setCell ⟨bA, 0, none⟩ (.int .i64 b.f0)).setCell ⟨bA, 1, none⟩ (.int .i64 b.f1)).setCell ⟨bA, 2, none⟩ (.int .i64 b.f2)).setCell ⟨bA, 3, none⟩ (.int .i64 b.f3)).setCell ⟨bA, 4, none⟩ (.slice A4 b.f4.length c4))) ?hg ?ho ?hn ?hr ?_; (case ho => rfl); (case hg => rfl); (case hn => rfl); (case hr => first | (go_simp; done) | (go_simp; rfl)); intro w7 oA; obtain ⟨hF_, hB6_, hn62_, hn64_⟩ := rb_F.box HF.out mA.out gA.out nA.out (.int .i64 b.f0) (.int .i64 b.f1) (.int .i64 b.f2) (.int .i64 b.f3) (.slice A4 b.f4.length c4); rw [← oA] at hF_ hB6_; replace HF := am_ hF_; have aA := am_ hB6_; have N62 := am_ hn62_; have N64 := am_ hn64_; clear hF_ hB6_ hn62_ hn64_ oA mA gA nA hcy_0 hcy_1 hcy_2 hcy_3 hcy_4 hfy_0 hfy_1 hfy_2 hfy_3 hfy_4; obtain ⟨hcb_0, hcb_1, hcb_2, hcb_3, hcb_4, hfb_0, hfb_1, hfb_2, hfb_3, hfb_4⟩ := cf5_ aA.out) | ((with_reducible refine gate_callee (f := 88) rfl ?_); refine gl_ 22 Try.func88 #[.agg #[.int .i64 b.f0, .int .i64 b.f1, .int .i64 b.f2, .int .i64 b.f3, .slice A4 b.f4.length c4]] rfl ma_ ?_; (with_reducible refine (impl_isBatch.calls b.f0 b.f1 b.f2 b.f3 A4 c4 b.f4 true _ ?s1 ?s2 A1.out).mono ?_); (case s1 => exact Kd.C_below jB.out HF.out.hb); (case s2 => exact kB.out); rintro e_ w8 ⟨rfl, iA⟩; refine ⟨_, rfl, ?_⟩; replace HF := am_ (HF.out.below iA); replace aA := am_ (blk_below aA.out iA); clear iA hcb_0 hcb_1 hcb_2 hcb_3 hcb_4 hfb_0 hfb_1 hfb_2 hfb_3 hfb_4; obtain ⟨hcb_0, hcb_1, hcb_2, hcb_3, hcb_4, hfb_0, hfb_1, hfb_2, hfb_3, hfb_4⟩ := cf5_ aA.out; obtain ⟨hcp_0, hcp_1, hcp_2, hfp_0, hfp_1, hfp_2⟩ := cf3_ HF.out.b4) | ((with_reducible refine gate_callee (f := 50) rfl ?_); refine gl_ 45 Try.func50 #[.agg #[.slice AP ps.length cP, .slice AL log.length cL, .int .i64 e], .int .i64 b.f2] rfl ma_ ?_; (with_reducible refine (impl_Part_producerAt.calls AP cP ps AL cL log e b.f2 _ _ HF.out.C.2 HF.out.C.1 HF.out.CL.2 HF.out.CL.1 rfl).mono ?_); rintro e_ w9 ⟨rfl, cC⟩; refine ⟨_, rfl, ?_⟩; replace HF := am_ (HF.out.below cC); replace aA := am_ (blk_below aA.out cC); clear cC; clear hcb_0 hcb_1 hcb_2 hcb_3 hcb_4 hfb_0 hfb_1 hfb_2 hfb_3 hfb_4; clear hcp_0 hcp_1 hcp_2 hfp_0 hfp_1 hfp_2))
      clear eB fB gB hB iB
      have HLP : Aside0 (ps.length ≤ 60) := ⟨by have := HN.out.1; have := oC.out; omega⟩
      go_cut [7] (fun v7 wc => ∃ (AP' : Option Addr) (cP' : Nat), v7 = .int .i64 (impl_rebuild.ix ps b : Nat) ∧ Aside0 (rb_F w wc cA eA (fun k => k ≠ bA) AP' cP' (impl_rebuild.ins ps b) AL cL log e) ∧ Aside0 (wc.heap[bA]? = some (.cells #[.int .i64 b.f0, .int .i64 b.f1, .int .i64 b.f2, .int .i64 b.f3, .slice A4 b.f4.length c4] 78 (0, 0))))
      case first =>
        by_cases hp : pa_ix (fun x => decide (x.f0 = b.f2)) 0 ps < 0
        rotate_left
        · have HX := am_ (show impl_rebuild.ix ps b = (pa_ix (fun x => decide (x.f0 = b.f2)) 0 ps).toNat from if_neg hp)
          have HI := am_ (show impl_rebuild.ins ps b = ps from if_neg hp)
          generalize pa_ix (fun x => decide (x.f0 = b.f2)) 0 ps = q at hp HX ⊢
          have hpb := decide_eq_false hp
          have hq : ((q.toNat : Nat) : Int) = q := Int.toNat_of_nonneg (by omega)
          have HQ := am_ hq
          clear hp hq
          rw [hpb]
          go_wp2
          go_meet
          exact ⟨AP, cP, by rw [HX.out, HQ.out], by rw [HI.out]; exact HF, aA⟩
        · have HX := am_ (show impl_rebuild.ix ps b = impl_rebuild.at b.f2 ps from if_pos hp)
          have HI := am_ (show impl_rebuild.ins ps b = ps.take (impl_rebuild.at b.f2 ps) ++ ⟨b.f2, b.f1, 0, []⟩ :: ps.drop (impl_rebuild.at b.f2 ps) from if_pos hp)
          have hpb := decide_eq_true hp
          clear hp
          rw [hpb]
          go_wp2
          clear hpb
          go_loopg [7] ps.length (fun gg v7 wr2 => ∃ i : Nat, v7 = .int .i64 i ∧ i ≤ ps.length ∧ ps.length - i ≤ gg ∧ Aside0 (impl_rebuild.at b.f2 ps = i + impl_rebuild.at b.f2 (ps.drop i)) ∧ Aside0 (rb_F w wr2 cA eA (fun k => k ≠ bA) AP cP ps AL cL log e) ∧ Aside0 (wr2.heap[bA]? = some (.cells #[.int .i64 b.f0, .int .i64 b.f1, .int .i64 b.f2, .int .i64 b.f3, .slice A4 b.f4.length c4] 78 (0, 0))))
          case atStart => exact ⟨0, rfl, Nat.zero_le _, by omega, ⟨by simp⟩, HF, aA⟩
          case round =>
            clear HF aA
            obtain ⟨i, rfl, hi, hgi, HA, HF, aA⟩ := hrel
            obtain ⟨hcp_0, hcp_1, hcp_2, hfp_0, hfp_1, hfp_2⟩ := cf3_ HF.out.b4
            obtain ⟨hcb_0, hcb_1, hcb_2, hcb_3, hcb_4, hfb_0, hfb_1, hfb_2, hfb_3, hfb_4⟩ := cf5_ aA.out
            by_cases hlti : i < ps.length
            · as_aux_lemma =>
                have hltzi : (i : Int) < (ps.length : Int) := by omega
                obtain ⟨adp, Aw, cw, rfl, hp0, hp1, hp2, hp3, _, _⟩ := at_T81 HF.out.C.2 (i : Int) (by omega) hltzi
                have e2 : rd_T81 ps (i : Int) = ps[i] := by unfold rd_T81; rw [Int.toNat_natCast, List.getD_eq_getElem?_getD, List.getElem?_eq_getElem hlti]; rfl
                rw [e2] at hp0
                clear hp1 hp2 hp3 e2
                rw [Int.toNat_natCast] at hp0
                have hA := HA.out
                rw [List.drop_eq_getElem_cons hlti, impl_rebuild.at] at hA
                clear HA
                generalize ps[i] = x at hp0 hA
                by_cases hcm : x.f0 < b.f2
                · rw [if_pos hcm] at hA
                  have HA := am_ hA
                  have hcmb := decide_eq_true hcm
                  clear hA hcm
                  go_wp2_with fail
                  refine start_ (n := 16) (S := fun w' => w'.cell? ⟨eA, 0, none⟩ = some (.slice (some adp) ps.length cP) ∧ w'.cell? ⟨bA, 2, none⟩ = some (.int .i64 b.f2) ∧ w'.cell? (adp.add (i * 4)) = some (.int .i64 x.f0)) (ds := []) #[false, false, false, false, false, false, false, false, false, false, false, false, false, false, false, false] (by kernel_rfl) rfl rfl ⟨hcp_0, hcb_2, hp0⟩ (fun hHeld => ?_)
                  refine px_ 0 48 ?_
                  refine px_ 1 49 ?_
                  refine tx_ 2 50 ?_
                  refine px_ 3 51 ?_
                  refine px_ 4 52 ?_
                  refine px_ 5 53 ?_
                  refine px_ 6 54 ?_
                  refine tx_ 7 55 ?_
                  refine px_ 8 56 ?_
                  refine px_ 9 57 ?_
                  refine px_ 10 58 ?_
                  refine tx_ 11 59 ?_
                  refine px_ 12 60 ?_
                  refine tx_ 13 61 ?_
                  refine px_ 14 62 ?_
                  refine px_ 15 63 ?_
                  refine done_ (by kernel_rfl) ?_
                  have rA := am_ (HF.out.below (below_drew1 (Below.refl wr.heap.size wr)))
                  have fA := am_ (blk_drew aA.out)
                  go_wp2
                  have hps60 := HLP.out
                  go_roundg (ps.length - (i + 1))
                  case measure => omega
                  case rel => exact ⟨i + 1, by first | go_num | (rw [show wrap64 ((i : Int) + 1) = ((i + 1 : Nat) : Int) by unfold wrap64; omega]), by omega, by omega, ⟨by have := HA.out; omega⟩, rA, fA⟩
                · rw [if_neg hcm] at hA
                  have HA := am_ (show impl_rebuild.at b.f2 ps = i by omega)
                  have hcmb := decide_eq_false hcm
                  clear hA hcm
                  go_wp2_with fail
                  refine start_ (n := 16) (S := fun w' => w'.cell? ⟨eA, 0, none⟩ = some (.slice (some adp) ps.length cP) ∧ w'.cell? ⟨bA, 2, none⟩ = some (.int .i64 b.f2) ∧ w'.cell? (adp.add (i * 4)) = some (.int .i64 x.f0)) (ds := []) #[false, false, false, false, false, false, false, false, false, false, false, false, false, false, false, false] (by kernel_rfl) rfl rfl ⟨hcp_0, hcb_2, hp0⟩ (fun hHeld => ?_)
                  refine px_ 0 48 ?_
                  refine px_ 1 49 ?_
                  refine tx_ 2 50 ?_
                  refine px_ 3 51 ?_
                  refine px_ 4 52 ?_
                  refine px_ 5 53 ?_
                  refine px_ 6 54 ?_
                  refine tx_ 7 55 ?_
                  refine px_ 8 56 ?_
                  refine px_ 9 57 ?_
                  refine px_ 10 58 ?_
                  refine tx_ 11 59 ?_
                  refine px_ 12 60 ?_
                  refine tx_ 13 61 ?_
                  refine px_ 14 62 ?_
                  refine px_ 15 63 ?_
                  refine done_ (by kernel_rfl) ?_
                  have rA := am_ (HF.out.below (below_drew1 (Below.refl wr.heap.size wr)))
                  have fA := am_ (blk_drew aA.out)
                  obtain ⟨L2, hL2⟩ : ∃ L2, L2 = ps.take i ++ (⟨b.f2, b.f1, 0, []⟩ : S81) :: ps.drop i := ⟨_, rfl⟩
                  have HIC := am_ (rA.out.insC i (by omega) b.f2 b.f1 (by have := HLP.out; omega) fA.out N64.out L2 hL2)
                  have dC := am_ hL2
                  clear hL2
                  clear hcp_0 hcp_1 hcp_2 hfp_0 hfp_1 hfp_2 hcb_0 hcb_1 hcb_2 hcb_3 hcb_4 hfb_0 hfb_1 hfb_2 hfb_3 hfb_4
                  generalize wr.drew = eC at rA fA HIC ⊢
                  obtain ⟨hcp_0, hcp_1, hcp_2, hfp_0, hfp_1, hfp_2⟩ := cf3_ rA.out.b4
                  obtain ⟨hcb_0, hcb_1, hcb_2, hcb_3, hcb_4, hfb_0, hfb_1, hfb_2, hfb_3, hfb_4⟩ := cf5_ fA.out
                  go_wp2_with (first | ((with_reducible refine gate_callee (f := 89) rfl ?_); refine gl_ 75 Try.func89 #[.slice _ ps.length cP, .int .i64 i, .slice (some ⟨eC.heap.size, 0, none⟩) 1 1] rfl ma_ ?_; refine HIC.out.mono ?_; clear HIC; rintro e_ hD ⟨iD, rfl, hb4_, ⟨AP2, cP2, rfl, hF_⟩, hB6_⟩; refine ⟨_, rfl, ?_⟩; have uA := am_ hF_; have vA := am_ hB6_; have sA := am_ hb4_; clear hF_ hB6_ hb4_ hcp_0 hcp_1 hcp_2 hfp_0 hfp_1 hfp_2 hcb_0 hcb_1 hcb_2 hcb_3 hcb_4 hfb_0 hfb_1 hfb_2 hfb_3 hfb_4; obtain ⟨hcp_0, hcp_1, hcp_2, hfp_0, hfp_1, hfp_2⟩ := cf3_ sA.out))
                  go_meet
                  exact ⟨AP2, cP2, by rw [HX.out, HA.out], by rw [HI.out, HA.out, ← dC.out]; exact uA, vA⟩
            · as_aux_lemma =>
                have hltzi : decide ((i : Int) < (ps.length : Int)) = false := decide_eq_false (by omega)
                have hA := HA.out
                rw [List.drop_eq_nil_of_le (by omega), impl_rebuild.at, Nat.add_zero] at hA
                have HA := am_ hA
                clear hA
                go_wp2_with fail
                refine start_ (n := 16) (S := fun w' => w'.cell? ⟨eA, 0, none⟩ = some (.slice AP ps.length cP) ∧ w'.cell? ⟨bA, 2, none⟩ = some (.int .i64 b.f2)) (ds := []) #[false, false, false, false, false, false, false, false, false, false, false, false, false, false, false, false] (by kernel_rfl) rfl rfl ⟨hcp_0, hcb_2⟩ (fun hHeld => ?_)
                refine px_ 0 48 ?_
                refine px_ 1 49 ?_
                refine tx_ 2 50 ?_
                refine px_ 3 51 ?_
                refine px_ 4 52 ?_
                refine px_ 5 53 ?_
                refine pz_ 6 54 ?_
                refine pz_ 7 55 ?_
                refine pz_ 8 56 ?_
                refine pz_ 9 57 ?_
                refine pz_ 10 58 ?_
                refine pz_ 11 59 ?_
                refine pz_ 12 60 ?_
                refine pz_ 13 61 ?_
                refine pz_ 14 62 ?_
                refine px_ 15 63 ?_
                refine done_ (by kernel_rfl) ?_
                have rA := am_ (HF.out.below (below_drew1 (Below.refl wr.heap.size wr)))
                have fA := am_ (blk_drew aA.out)
                obtain ⟨L2, hL2⟩ : ∃ L2, L2 = ps.take i ++ (⟨b.f2, b.f1, 0, []⟩ : S81) :: ps.drop i := ⟨_, rfl⟩
                have HIC := am_ (rA.out.insC i (by omega) b.f2 b.f1 (by have := HLP.out; omega) fA.out N64.out L2 hL2)
                have dC := am_ hL2
                clear hL2
                clear hcp_0 hcp_1 hcp_2 hfp_0 hfp_1 hfp_2 hcb_0 hcb_1 hcb_2 hcb_3 hcb_4 hfb_0 hfb_1 hfb_2 hfb_3 hfb_4
                generalize wr.drew = eC at rA fA HIC ⊢
                obtain ⟨hcp_0, hcp_1, hcp_2, hfp_0, hfp_1, hfp_2⟩ := cf3_ rA.out.b4
                obtain ⟨hcb_0, hcb_1, hcb_2, hcb_3, hcb_4, hfb_0, hfb_1, hfb_2, hfb_3, hfb_4⟩ := cf5_ fA.out
                go_wp2_with (first | ((with_reducible refine gate_callee (f := 89) rfl ?_); refine gl_ 75 Try.func89 #[.slice _ ps.length cP, .int .i64 i, .slice (some ⟨eC.heap.size, 0, none⟩) 1 1] rfl ma_ ?_; refine HIC.out.mono ?_; clear HIC; rintro e_ hD ⟨iD, rfl, hb4_, ⟨AP2, cP2, rfl, hF_⟩, hB6_⟩; refine ⟨_, rfl, ?_⟩; have uA := am_ hF_; have vA := am_ hB6_; have sA := am_ hb4_; clear hF_ hB6_ hb4_ hcp_0 hcp_1 hcp_2 hfp_0 hfp_1 hfp_2 hcb_0 hcb_1 hcb_2 hcb_3 hcb_4 hfb_0 hfb_1 hfb_2 hfb_3 hfb_4; obtain ⟨hcp_0, hcp_1, hcp_2, hfp_0, hfp_1, hfp_2⟩ := cf3_ sA.out))
                go_meet
                exact ⟨AP2, cP2, by rw [HX.out, HA.out], by rw [HI.out, HA.out, ← dC.out]; exact uA, vA⟩
      case rest =>
        obtain ⟨AP1, cP1, rfl, HF, aA⟩ := hcut
        have hi := impl_rebuild.ix_lt ps b
        have H := H'.out
        have xB := am_ (impl_rebuild.ins_ok ps b j HN.out.1 HN.out.2.2)
        have HNL := am_ HN.out.2.1
        clear H' HN
        generalize impl_rebuild.ins ps b = ps1 at H HF xB hi
        generalize impl_rebuild.ix ps b = i at H hi ⊢
        have HI := am_ hi
        obtain ⟨x, hx⟩ : ∃ x, x = ps1.getD i z81 := ⟨_, rfl⟩
        rw [← hx] at H
        have HXE := am_ hx
        clear hx
        have H' := am_ H
        obtain ⟨g, v, rfl, hq0, hq1, hq2, hq3, hqf, _, _, _, _, _⟩ := HF.out.elem i hi
        rw [← HXE.out] at hq1
        clear H hq0 hq2 hq3 hqf
        obtain ⟨hcp_0, hcp_1, hcp_2, hfp_0, hfp_1, hfp_2⟩ := cf3_ HF.out.b4
        obtain ⟨hcb_0, hcb_1, hcb_2, hcb_3, hcb_4, hfb_0, hfb_1, hfb_2, hfb_3, hfb_4⟩ := cf5_ aA.out
        have hiz : (i : Int) < (ps1.length : Int) := by omega
        go_wp2_with fail
        refine start_ (n := 7) (S := fun w' => w'.cell? ⟨bA, 1, none⟩ = some (.int .i64 b.f1) ∧ w'.cell? ⟨g, i * 4 + 1, none⟩ = some (.int .i64 x.f1)) (ds := []) #[false, false, false, false, false, false, false] (by kernel_rfl) rfl rfl ⟨hcb_1, hq1⟩ (fun hHeld => ?_)
        refine px_ 0 81 ?_
        refine tx_ 1 82 ?_
        refine px_ 2 83 ?_
        refine px_ 3 84 ?_
        refine px_ 4 85 ?_
        refine tx_ 5 86 ?_
        refine px_ 6 87 ?_
        refine done_ (by kernel_rfl) ?_
        replace HF := am_ (HF.out.below (below_drew1 (Below.refl wc.heap.size wc)))
        replace aA := am_ (blk_drew aA.out)
        clear hcp_0 hcp_1 hcp_2 hfp_0 hfp_1 hfp_2 hcb_0 hcb_1 hcb_2 hcb_3 hcb_4 hfb_0 hfb_1 hfb_2 hfb_3 hfb_4 hq1
        generalize wc.drew = tD at HF aA ⊢
        go_upto_if 87 with fail
        go_cut [] (fun wd => Aside0 (rb_F w wd cA eA (fun k => k ≠ bA) (some ⟨g, 0, none⟩) cP1 (ps1.set i (impl_rebuild.new x b)) AL cL log e) ∧ Aside0 (wd.heap[bA]? = some (.cells #[.int .i64 b.f0, .int .i64 b.f1, .int .i64 b.f2, .int .i64 b.f3, .slice A4 b.f4.length c4] 78 (0, 0))))
        case first =>
          obtain ⟨g_, v, hg_, hq0, hq1, hq2, hq3, hqf, _, _, K1, _, _⟩ := HF.out.elem i HI.out
          obtain rfl : g = g_ := by simpa using hg_
          have hqf0 := hqf 0
          have hqf1 := hqf 1
          have hqf2 := hqf 2
          have hqf3 := hqf 3
          rw [Nat.add_zero] at hqf0
          have jD := am_ K1
          clear hg_ K1 hqf
          rw [← HXE.out] at hq0 hq1 hq2
          by_cases hc : x.f1 < b.f1
          · have HNE := am_ (show impl_rebuild.new x b = ⟨b.f2, b.f1, 0, []⟩ from if_pos hc)
            have hcb := decide_eq_true hc
            rw [hcb]
            clear hc hcb
            obtain ⟨hcb_0, hcb_1, hcb_2, hcb_3, hcb_4, hfb_0, hfb_1, hfb_2, hfb_3, hfb_4⟩ := cf5_ aA.out
            go_wp2
            go_meet
            have hfar := HF.out.far aA.out
            refine ⟨⟨by rw [HNE.out]; exact jD.out ⟨b.f2, b.f1, 0, []⟩ rfl⟩, ⟨?_⟩⟩
            rw [Below.heap_setCell _ ⟨g, i * 4 + 3, none⟩ _ bA hfar, Below.heap_setCell _ ⟨g, i * 4 + 2, none⟩ _ bA hfar, Below.heap_setCell _ ⟨g, i * 4 + 1, none⟩ _ bA hfar, Below.heap_setCell _ ⟨g, i * 4, none⟩ _ bA hfar]
            exact aA.out
          · have HNE := am_ (show impl_rebuild.new x b = x from if_neg hc)
            have hcb := decide_eq_false hc
            rw [hcb]
            clear hc hcb
            go_wp2
            go_meet
            exact ⟨⟨by rw [HNE.out, HXE.out, rb_same _ _ HI.out]; exact HF.out⟩, aA⟩
        case rest =>
          obtain ⟨HF, aA⟩ := hcut
          have H := H'.out
          have sC : Aside0 ((impl_rebuild.new x b).f3.length ≤ 5) := ⟨by
            unfold impl_rebuild.new
            split
            · exact Nat.zero_le _
            · rw [HXE.out, List.getD_eq_getElem?_getD, List.getElem?_eq_getElem HI.out]
              exact xB.out.2 _ (List.getElem_mem _)⟩
          clear H' HXE
          generalize impl_rebuild.new x b = x1 at H HF sC
          have fC : i < (ps1.set i x1).length := by rw [List.length_set]; exact HI.out
          obtain ⟨g_, v, hg_, hq0, hq1, hq2, hq3, hqf, _, _, _, _, _⟩ := HF.out.elem i fC
          obtain rfl : g = g_ := by simpa using hg_
          rw [rb_getD_set _ _ HI.out] at hq0 hq1 hq2
          clear hg_ hqf hq3 hq0
          obtain ⟨hcb_0, hcb_1, hcb_2, hcb_3, hcb_4, hfb_0, hfb_1, hfb_2, hfb_3, hfb_4⟩ := cf5_ aA.out
          replace H := ite_ H
          obtain ⟨c3, H⟩ | ⟨c3, H⟩ := H
          · as_aux_lemma =>
              have c3b := decide_eq_true c3
              clear c3
              obtain ⟨rfl, rfl, rfl, rfl⟩ : [] = r1 ∧ [] = r2 ∧ 0 = r3 ∧ false = r4 := by simpa [impl_rebuild.no] using H
              clear H
              go_wp2_with fail
              refine start_ (n := 16) (S := fun w' => w'.cell? ⟨bA, 1, none⟩ = some (.int .i64 b.f1) ∧ w'.cell? ⟨bA, 3, none⟩ = some (.int .i64 b.f3) ∧ w'.cell? ⟨g, i * 4 + 1, none⟩ = some (.int .i64 x1.f1) ∧ w'.cell? ⟨g, i * 4 + 2, none⟩ = some (.int .i64 x1.f2)) (ds := []) #[false, false, false, false, false, false, false, false, false, false, false, false, false, false, false, false] (by kernel_rfl) rfl rfl ⟨hcb_1, hcb_3, hq1, hq2⟩ (fun hHeld => ?_)
              refine px_ 0 95 ?_
              refine tx_ 1 96 ?_
              refine px_ 2 97 ?_
              refine px_ 3 98 ?_
              refine px_ 4 99 ?_
              refine tx_ 5 100 ?_
              refine px_ 6 101 ?_
              refine px_ 7 102 ?_
              refine pz_ 8 103 ?_
              refine pz_ 9 104 ?_
              refine pz_ 10 105 ?_
              refine pz_ 11 106 ?_
              refine pz_ 12 107 ?_
              refine pz_ 13 108 ?_
              refine pz_ 14 109 ?_
              refine px_ 15 110 ?_
              refine done_ (by kernel_rfl) ?_
              replace HF := am_ (HF.out.below (below_drew1 (Below.refl wc.heap.size wc)))
              clear hcb_0 hcb_1 hcb_2 hcb_3 hcb_4 hfb_0 hfb_1 hfb_2 hfb_3 hfb_4 hq1 hq2 aA
              generalize wc.drew = oB at HF ⊢
              obtain ⟨hcr_0, hcr_1, hcr_2, hfr_0, hfr_1, hfr_2⟩ := cf3_ HF.out.b2
              go_wp2
              have HB := am_ HF.out.hb
              have dA := am_ HF.out.b2
              refine bodyPost_ret (results_ct rfl _ _ cA 33 #[.slice none 0 0, .slice none 0 0, .int .i64 0] (0, 0) _ rfl (up_ dA) Try.underlying33 rfl (by kernel_rfl)) rfl ?_
              exact ⟨_, _, er_, Kd.S_nil _ _ _ _ _, Kd.S_nil _ _ _ _ _, hs_ jA.out⟩
          have c3b := decide_eq_false c3
          clear c3
          replace H := ite_ H
          obtain ⟨c4_, H⟩ | ⟨c4_, H⟩ := H
          rotate_left
          · as_aux_lemma =>
              have c4b : (b.f3 != x1.f2) = true := bne_iff_ne.mpr c4_
              have c4c : (b.f3 == x1.f2) = false := beq_eq_false_iff_ne.mpr c4_
              clear c4_
              obtain ⟨rfl, rfl, rfl, rfl⟩ : [] = r1 ∧ [] = r2 ∧ 0 = r3 ∧ false = r4 := by simpa [impl_rebuild.no] using H
              clear H
              go_wp2_with fail
              refine start_ (n := 16) (S := fun w' => w'.cell? ⟨bA, 1, none⟩ = some (.int .i64 b.f1) ∧ w'.cell? ⟨bA, 3, none⟩ = some (.int .i64 b.f3) ∧ w'.cell? ⟨g, i * 4 + 1, none⟩ = some (.int .i64 x1.f1) ∧ w'.cell? ⟨g, i * 4 + 2, none⟩ = some (.int .i64 x1.f2)) (ds := []) #[false, false, false, false, false, false, false, false, false, false, false, false, false, false, false, false] (by kernel_rfl) rfl rfl ⟨hcb_1, hcb_3, hq1, hq2⟩ (fun hHeld => ?_)
              refine px_ 0 95 ?_
              refine tx_ 1 96 ?_
              refine px_ 2 97 ?_
              refine px_ 3 98 ?_
              refine px_ 4 99 ?_
              refine tx_ 5 100 ?_
              refine px_ 6 101 ?_
              refine px_ 7 102 ?_
              refine px_ 8 103 ?_
              refine tx_ 9 104 ?_
              refine px_ 10 105 ?_
              refine px_ 11 106 ?_
              refine px_ 12 107 ?_
              refine tx_ 13 108 ?_
              refine px_ 14 109 ?_
              refine px_ 15 110 ?_
              refine done_ (by kernel_rfl) ?_
              replace HF := am_ (HF.out.below (below_drew1 (Below.refl wc.heap.size wc)))
              clear hcb_0 hcb_1 hcb_2 hcb_3 hcb_4 hfb_0 hfb_1 hfb_2 hfb_3 hfb_4 hq1 hq2 aA
              generalize wc.drew = oB at HF ⊢
              obtain ⟨hcr_0, hcr_1, hcr_2, hfr_0, hfr_1, hfr_2⟩ := cf3_ HF.out.b2
              go_wp2
              have HB := am_ HF.out.hb
              have dA := am_ HF.out.b2
              refine bodyPost_ret (results_ct rfl _ _ cA 33 #[.slice none 0 0, .slice none 0 0, .int .i64 0] (0, 0) _ rfl (up_ dA) Try.underlying33 rfl (by kernel_rfl)) rfl ?_
              exact ⟨_, _, er_, Kd.S_nil _ _ _ _ _, Kd.S_nil _ _ _ _ _, hs_ jA.out⟩
          have c4b : (b.f3 != x1.f2) = false := bne_eq_false_iff_eq.mpr c4_
          have c4c : (b.f3 == x1.f2) = true := beq_iff_eq.mpr c4_
          clear c4_
          obtain ⟨⟨d0, d1, d2, d3, d4⟩, A2, H⟩ := bnd_ H
          obtain ⟨e', A3, H⟩ := bnd_ H
          have H' := am_ H
          clear H
          go_wp2_with fail
          refine start_ (n := 16) (S := fun w' => w'.cell? ⟨bA, 1, none⟩ = some (.int .i64 b.f1) ∧ w'.cell? ⟨bA, 3, none⟩ = some (.int .i64 b.f3) ∧ w'.cell? ⟨g, i * 4 + 1, none⟩ = some (.int .i64 x1.f1) ∧ w'.cell? ⟨g, i * 4 + 2, none⟩ = some (.int .i64 x1.f2)) (ds := []) #[false, false, false, false, false, false, false, false, false, false, false, false, false, false, false, false] (by kernel_rfl) rfl rfl ⟨hcb_1, hcb_3, hq1, hq2⟩ (fun hHeld => ?_)
          refine px_ 0 95 ?_
          refine tx_ 1 96 ?_
          refine px_ 2 97 ?_
          refine px_ 3 98 ?_
          refine px_ 4 99 ?_
          refine tx_ 5 100 ?_
          refine px_ 6 101 ?_
          refine px_ 7 102 ?_
          refine px_ 8 103 ?_
          refine tx_ 9 104 ?_
          refine px_ 10 105 ?_
          refine px_ 11 106 ?_
          refine px_ 12 107 ?_
          refine tx_ 13 108 ?_
          refine px_ 14 109 ?_
          refine px_ 15 110 ?_
          refine done_ (by kernel_rfl) ?_
          replace HF := am_ (HF.out.below (below_drew1 (Below.refl wc.heap.size wc)))
          replace aA := am_ (blk_drew aA.out)
          clear hcb_0 hcb_1 hcb_2 hcb_3 hcb_4 hfb_0 hfb_1 hfb_2 hfb_3 hfb_4 hq1 hq2 c3b c4b c4c
          generalize wc.drew = oB at HF aA ⊢
          obtain ⟨g_, v, hg_, hq0, hq1, hq2, hq3, hqf, _, _, _, _, _⟩ := HF.out.elem i fC
          obtain rfl : g = g_ := by simpa using hg_
          rw [rb_getD_set _ _ HI.out] at hq0 hq1 hq2
          clear hg_ hqf hq3 hq0 hq1
          obtain ⟨hcb_0, hcb_1, hcb_2, hcb_3, hcb_4, hfb_0, hfb_1, hfb_2, hfb_3, hfb_4⟩ := cf5_ aA.out
          go_wp2_with fail
          refine start_ (n := 11) (S := fun w' => w'.cell? ⟨g, i * 4 + 2, none⟩ = some (.int .i64 x1.f2) ∧ w'.cell? ⟨bA, 4, none⟩ = some (.slice A4 b.f4.length c4)) (ds := [10]) #[false, false, false, false, false, false, false, false, false, false, false] (by kernel_rfl) rfl rfl ⟨hq2, hcb_4⟩ (fun hHeld => ?_)
          replace HF := am_ (HF.out.below (below_drew1 (Below.refl oB.heap.size oB)))
          replace aA := am_ (blk_drew aA.out)
          clear hcb_0 hcb_1 hcb_2 hcb_3 hcb_4 hfb_0 hfb_1 hfb_2 hfb_3 hfb_4 hq2
          generalize oB.drew = gC at HF aA hHeld ⊢
          refine px_ 0 112 ?_
          refine px_ 1 113 ?_
          refine px_ 2 114 ?_
          refine tx_ 3 115 ?_
          refine px_ 4 116 ?_
          refine tx_ 5 117 ?_
          refine px_ 6 118 ?_
          refine px_ 7 119 ?_
          refine px_ 8 120 ?_
          refine px_ 9 121 ?_
          refine last_ (i := 10) (N := none) #[true, true, true, true, true, true, true, true, true, true, true] rfl rfl (by kernel_rfl) (by decide) (fun K hK => ?_)
          obtain ⟨g_, v, hg_, _, _, hq2, _, hqf, _, _, _, K2, _⟩ := HF.out.elem i fC
          obtain rfl : g = g_ := by simpa using hg_
          rw [rb_getD_set _ _ HI.out] at hq2 K2
          have hqf2 := hqf 2
          have tC := am_ (K2 (wrap64 (x1.f2 + (b.f4.length : Int))))
          have hfar := HF.out.far aA.out
          have BK6' := am_ (show (gC.setCell ⟨g, i * 4 + 2, none⟩ (.int .i64 (wrap64 (x1.f2 + (b.f4.length : Int))))).heap[bA]? = _ from (Below.heap_setCell _ ⟨g, i * 4 + 2, none⟩ _ bA hfar).trans aA.out)
          clear hg_ K2 hqf hfar
          refine skip_ (w1 := ?_) (by rfl) rfl ?_ ?_
          rotate_left
          · go_simp
            rfl
          refine hK.out _ _ ?_
          clear hK K
          refine done_ (by kernel_rfl) ?_
          have uA : Aside0 (rb_F w (gC.setCell ⟨g, i * 4 + 2, none⟩ (.int .i64 (wrap64 (x1.f2 + (b.f4.length : Int))))) cA eA (fun k => k ≠ bA) (some ⟨g, 0, none⟩) cP1 (ps1.set i ⟨x1.f0, x1.f1, wrap64 (x1.f2 + (b.f4.length : Int)), x1.f3⟩) AL cL log e) := ⟨by have h_ := tC.out; rw [List.set_set] at h_; exact h_⟩
          clear HF aA tC hq2 hqf2
          generalize gC.setCell ⟨g, i * 4 + 2, none⟩ (.int .i64 (wrap64 (x1.f2 + (b.f4.length : Int)))) = iC at uA BK6' ⊢
          have HF := uA
          have aA := BK6'
          clear uA BK6'
          have uC : i < (ps1.set i (⟨x1.f0, x1.f1, wrap64 (x1.f2 + (b.f4.length : Int)), x1.f3⟩ : S81)).length := by rw [List.length_set]; exact HI.out
          obtain ⟨g_, v, hg_, _, _, _, hq3, hqf, _, _, _, _, _⟩ := HF.out.elem i uC
          obtain rfl : g = g_ := by simpa using hg_
          clear hg_ hqf
          obtain ⟨hcb_0, hcb_1, hcb_2, hcb_3, hcb_4, hfb_0, hfb_1, hfb_2, hfb_3, hfb_4⟩ := cf5_ aA.out
          go_wp2_with fail
          refine start_ (n := 18) (S := fun w' => w'.cell? ⟨g, i * 4 + 3, none⟩ = some v ∧ w'.cell? ⟨bA, 0, none⟩ = some (.int .i64 b.f0) ∧ w'.cell? ⟨bA, 3, none⟩ = some (.int .i64 b.f3) ∧ w'.cell? ⟨bA, 4, none⟩ = some (.slice A4 b.f4.length c4)) (ds := [17]) #[false, false, false, false, false, false, false, false, false, false, false, false, false, false, false, false, false, false] (by kernel_rfl) rfl rfl ⟨hq3, hcb_0, hcb_3, hcb_4⟩ (fun hHeld => ?_)
          replace HF := am_ (HF.out.below (below_drew1 (Below.refl iC.heap.size iC)))
          replace aA := am_ (blk_drew aA.out)
          clear hcb_0 hcb_1 hcb_2 hcb_3 hcb_4 hfb_0 hfb_1 hfb_2 hfb_3 hfb_4 hq3
          generalize iC.drew = wA at HF aA hHeld ⊢
          refine px_ 0 122 ?_
          refine px_ 1 123 ?_
          refine px_ 2 124 ?_
          refine px_ 3 125 ?_
          refine tx_ 4 126 ?_
          refine px_ 5 127 ?_
          refine tx_ 6 128 ?_
          refine px_ 7 129 ?_
          refine tx_ 8 130 ?_
          refine px_ 9 131 ?_
          refine px_ 10 132 ?_
          refine tx_ 11 133 ?_
          refine px_ 12 134 ?_
          refine ox_ 13 135 fun K hK => ?_
          refine value_ (w1 := ?_) (v := ?_) (by rfl) rfl ?_ ?_
          rotate_left 2
          · go_simp
            constructor
            · rfl
            · rfl
          refine hK.out _ _ ⟨(World.cell?_alloc_lt _ _ _ (World.block_lt_of_cell? _ _ hHeld.1)).trans hHeld.1, (blk_cell (blk_alloc aA.out _) 0).trans rfl, (blk_cell (blk_alloc aA.out _) 3).trans rfl, (blk_cell (blk_alloc aA.out _) 4).trans rfl⟩ (fun hHeld => ?_)
          clear hK K
          refine norm_ (a' := ?_) ?_ ?_
          rotate_left
          · show Act.put _ (some 135) _ = _
            simp only [Act.put, List.setIfInBounds_toArray, List.set_cons_zero, List.set_cons_succ, i64_w, i32_w]
            rfl
          refine ox_ 14 136 fun K hK => ?_
          have hW := below_alloc (Below.refl wA.heap.size wA) (.cells #[.int .i64 b.f3, .int .i64 (b.f4.length : Int), .int .i64 b.f0] 112)
          have xA := am_ (HF.out.below hW)
          have pA := am_ (blk_below aA.out hW)
          obtain ⟨g_, v_, hg_, _, _, _, hq3, hqf, hwin, hng, _, _, K3⟩ := xA.out.elem i uC
          obtain rfl : g = g_ := by simpa using hg_
          obtain rfl : v = v_ := Option.some.inj (hHeld.1.symm.trans hq3)
          rw [rb_getD_set _ _ HI.out] at hwin K3
          have hbox : (wA.alloc (.cells #[.int .i64 b.f3, .int .i64 (b.f4.length : Int), .int .i64 b.f0] 112)).heap[wA.heap.size]? = some (.cells #[.int .i64 b.f3, .int .i64 (b.f4.length : Int), .int .i64 b.f0] 112 (0, 0)) := by rw [World.alloc]; exact Array.getElem?_push_size
          have kD : x1.f3.length ≤ 5 := sC.out
          obtain ⟨v1, yB, hrun, pB, hgr, hat⟩ := rb_append 79 ⟨b.f3, (b.f4.length : Int), b.f0⟩ wA.heap.size hwin hbox xA.out.hb.size (by show (x1.f3.length + 1) * 24 ≤ _; omega)
          obtain ⟨l6, zB⟩ : ∃ l6, l6 = x1.f3 ++ [(⟨b.f3, (b.f4.length : Int), b.f0⟩ : S112)] := ⟨_, rfl⟩
          rw [← zB] at pB
          have jC : Aside0 (1 ≤ l6.length ∧ l6.length ≤ 6) := ⟨by rw [zB, List.length_append]; exact ⟨Nat.le_add_left _ _, by show x1.f3.length + 1 ≤ 6; omega⟩⟩
          have vC := am_ zB
          clear zB
          have HRUN := am_ hrun
          have hgl : g < (wA.alloc (.cells #[.int .i64 b.f3, .int .i64 (b.f4.length : Int), .int .i64 b.f0] 112)).heap.size := World.block_lt_of_cell? _ _ hq3
          have hc3 := (hgr.cell_far ⟨g, i * 4 + 3, none⟩ hgl hng).trans hq3
          have hf3 := (hgr.frozen_far ⟨g, i * 4 + 3, none⟩ hgl hng).trans (hqf 3)
          have n6 : some bA ≠ v.ownBlock := fun he => by
            obtain ⟨_, _, _, c_, hc_⟩ := rb_win_lt hwin _ he.symm
            rw [hc_] at pA
            injection (Option.some.inj pA.out) with _ h_
            exact absurd h_ (by decide)
          have qA := am_ (blk_grown pA.out hgr n6)
          have kC := am_ hc3
          have HF3' := am_ hf3
          have lB := am_ (K3 yB v1 l6 hgr (rb_win_mono pB (fun k _ hk => hk)))
          have hfar := xA.out.far pA.out
          have yA := am_ (show (yB.setCell ⟨g, i * 4 + 3, none⟩ v1).heap[bA]? = _ from (Below.heap_setCell _ ⟨g, i * 4 + 3, none⟩ _ bA hfar).trans qA.out)
          have lD := am_ (show v1.oneCell' = true from by rcases pB with ⟨rfl, _⟩ | ⟨_, _, _, _, _, rfl, _⟩ <;> rfl)
          have hsl : ∃ A_ c_, v1 = .slice A_ l6.length c_ := (rb_win_C pB).imp fun _ h_ => h_.imp fun _ h_ => h_.1
          clear hg_ hq3 hqf hwin hng K3 hbox hrun pB hgr hat hgl hc3 hf3 n6 hfar hW
          refine rb_app_step (by rfl) (.tmp 126) (.tmp 135) 79 79 rfl v (.slice (some ⟨wA.heap.size, 0, none⟩) 1 1) (by rfl) (by rfl) HRUN.out ?_
          refine hK.out _ _ ⟨kC.out, (blk_cell qA.out 0).trans rfl, (blk_cell qA.out 3).trans rfl, (blk_cell qA.out 4).trans rfl⟩ (fun hHeld => ?_)
          clear hK K
          refine norm_ (a' := ?_) ?_ ?_
          rotate_left
          · show Act.put _ (some 136) _ = _
            simp only [Act.put, List.setIfInBounds_toArray, List.set_cons_zero, List.set_cons_succ, i64_w, i32_w]
            rfl
          refine px_ 15 137 ?_
          refine px_ 16 138 ?_
          refine last_ (i := 17) (N := none) #[true, true, true, true, true, true, true, true, true, true, true, true, true, true, true, true, true, true] rfl rfl (by kernel_rfl) (by decide) (fun K hK => ?_)
          obtain ⟨AV, cV, rfl⟩ := hsl
          have hs_ := kC.out
          have hfs_ := HF3'.out
          refine skip_ (w1 := ?_) (by rfl) rfl ?_ ?_
          rotate_left
          · go_simp
            rfl
          refine hK.out _ _ ?_
          clear hK K
          refine done_ (by kernel_rfl) ?_
          have lC : Aside0 (rb_F w (yB.setCell ⟨g, i * 4 + 3, none⟩ (.slice AV l6.length cV)) cA eA (fun k => k ≠ bA) (some ⟨g, 0, none⟩) cP1 (ps1.set i ⟨x1.f0, x1.f1, wrap64 (x1.f2 + (b.f4.length : Int)), l6⟩) AL cL log e) := ⟨by have h_ := lB.out; rw [List.set_set] at h_; exact h_⟩
          clear HF aA xA pA qA lB kC HF3' HRUN lD
          generalize yB.setCell ⟨g, i * 4 + 3, none⟩ (.slice AV l6.length cV) = mC at lC yA ⊢
          have HF := lC
          have aA := yA
          clear lC yA
          have wC : i < (ps1.set i (⟨x1.f0, x1.f1, wrap64 (x1.f2 + (b.f4.length : Int)), l6⟩ : S81)).length := by rw [List.length_set]; exact HI.out
          go_upto_region 22 with fail
          go_cut [] (fun wd => Aside0 (rb_F w wd cA eA (fun k => k ≠ bA) (some ⟨g, 0, none⟩) cP1 (ps1.set i (impl_rebuild.put x1 b)) AL cL log e) ∧ Aside0 (wd.heap[bA]? = some (.cells #[.int .i64 b.f0, .int .i64 b.f1, .int .i64 b.f2, .int .i64 b.f3, .slice A4 b.f4.length c4] 78 (0, 0))))
          case first =>
            obtain ⟨g_, v, hg_, _, _, _, hq3, hqf, hwin, hng, _, _, K3⟩ := HF.out.elem i wC
            obtain rfl : g = g_ := by simpa using hg_
            rw [rb_getD_set _ _ HI.out] at hwin K3
            dsimp only at hwin K3
            have HW := am_ hwin
            have lB := am_ K3
            have mD : 1 ≤ l6.length := jC.out.1
            have nD : l6.length ≤ 6 := jC.out.2
            clear hg_ K3 hng
            rcases hwin with ⟨_, h0⟩ | ⟨gw, ow, cw, cur, inner, hv, _, _, _, hcw, hcm, _, _, _⟩
            · have h1_ := congrArg List.length h0
              rw [List.length_nil] at h1_
              omega
            subst hv
            have hcw63 : cw ≤ 9223372036854775807 := by unfold maxLen at hcm; omega
            have hsub : wrap64 ((l6.length : Int) - 5) = (l6.length : Int) - 5 := by unfold wrap64; omega
            obtain ⟨m, hm⟩ : ∃ m : Nat, m = l6.length - 5 := ⟨_, rfl⟩
            have hm6 : m ≤ l6.length := by omega
            have hmx : (if (5 : Int) < (l6.length : Int) then (l6.length : Int) - 5 else 0) = (m : Int) := by split <;> omega
            have hmw : ¬ (cw = m) := by omega
            have HM := am_ hm
            have hmz : (m : Int) ≤ (l6.length : Int) := by omega
            clear hm hcm
            go_wp2_with fail
            refine start_ (n := 16) (S := fun w' => w'.cell? ⟨g, i * 4 + 3, none⟩ = some (.slice (some ⟨gw, ow, none⟩) l6.length cw)) (ds := [15]) #[false, false, false, false, false, false, false, false, false, false, false, false, false, false, false, false] (by kernel_rfl) rfl rfl hq3 (fun hHeld => ?_)
            replace HF := am_ (HF.out.below (below_drew1 (Below.refl mC.heap.size mC)))
            replace aA := am_ (blk_drew aA.out)
            clear hq3 hqf HW lB
            generalize mC.drew = xC at HF aA hHeld ⊢
            refine px_ 0 139 ?_
            refine px_ 1 140 ?_
            refine px_ 2 141 ?_
            refine px_ 3 142 ?_
            refine take_ (i := 4) (N := some 143) (v := ?_) (a' := ?_) #[true, true, true, true, true, false, false, false, false, false, false, false, false, false, false, false] rfl rfl (by kernel_rfl) (fun _ _ _ h => h) (Or.inl ⟨by rfl, ?_⟩) hHeld ?_ ?_
            rotate_left
            · rintro w' s0
              go_simp
              with_reducible rfl
            rotate_left
            · simp only [Act.put, List.setIfInBounds_toArray, List.set_cons_zero, List.set_cons_succ, i64_w, i32_w]
              rfl
            refine px_ 5 144 ?_
            refine px_ 6 145 ?_
            refine px_ 7 146 ?_
            refine take_ (i := 8) (N := some 147) (v := ?_) (a' := ?_) #[true, true, true, true, true, true, true, true, true, false, false, false, false, false, false, false] rfl rfl (by kernel_rfl) (fun _ _ _ h => h) (Or.inl ⟨by rfl, ?_⟩) hHeld ?_ ?_
            rotate_left
            · rintro w' s0
              go_simp
              with_reducible rfl
            rotate_left
            · simp only [Act.put, List.setIfInBounds_toArray, List.set_cons_zero, List.set_cons_succ, i64_w, i32_w]
              rfl
            refine px_ 9 148 ?_
            refine px_ 10 149 ?_
            refine px_ 11 150 ?_
            refine px_ 12 151 ?_
            refine px_ 13 152 ?_
            refine px_ 14 153 ?_
            refine last_ (i := 15) (N := none) #[true, true, true, true, true, true, true, true, true, true, true, true, true, true, true, true] rfl rfl (by kernel_rfl) (by decide) (fun K hK => ?_)
            obtain ⟨g_, v_, hg_, _, _, _, hq3, hqf, hwin, hng, _, _, K3⟩ := HF.out.elem i wC
            obtain rfl : g = g_ := by simpa using hg_
            rw [rb_getD_set _ _ HI.out] at hwin K3
            dsimp only at hwin K3
            obtain rfl := Option.some.inj (hHeld.symm.trans hq3)
            have lB := am_ (K3 xC _ (l6.drop m) (grown_of_below (Below.refl _ _) _) (rb_win_mono (rb_drop hwin m hm6) (fun k _ hk => .inl hk)))
            have hfar := HF.out.far aA.out
            have BK6' := am_ (show (xC.setCell ⟨g, i * 4 + 3, none⟩ (.slice (some ⟨gw, ow + m * 3, none⟩) (l6.length - m) (cw - m))).heap[bA]? = _ from (Below.heap_setCell _ ⟨g, i * 4 + 3, none⟩ _ bA hfar).trans aA.out)
            have hqf3 := hqf 3
            clear hg_ K3 hqf hwin hng hfar
            refine skip_ (w1 := ?_) (by rfl) rfl ?_ ?_
            rotate_left
            · go_simp
              rfl
            refine hK.out _ _ ?_
            clear hK K
            refine done_ (by kernel_rfl) ?_
            go_wp2
            go_meet
            refine ⟨⟨?_⟩, BK6'⟩
            have h_ := lB.out
            rw [List.set_set] at h_
            rw [show impl_rebuild.put x1 b = ⟨x1.f0, x1.f1, wrap64 (x1.f2 + (b.f4.length : Int)), l6.drop m⟩ from by unfold impl_rebuild.put impl_rebuild.cut; rw [HM.out, vC.out]]
            exact h_
          case rest =>
            obtain ⟨HF, aA⟩ := hcut
            obtain ⟨hcp_0, hcp_1, hcp_2, hfp_0, hfp_1, hfp_2⟩ := cf3_ HF.out.b4
            obtain ⟨hcb_0, hcb_1, hcb_2, hcb_3, hcb_4, hfb_0, hfb_1, hfb_2, hfb_3, hfb_4⟩ := cf5_ aA.out
            clear vC jC
            go_wp2_with fail
            refine start_ (n := 8) (S := fun w' => w'.cell? ⟨eA, 1, none⟩ = some (.slice AL log.length cL) ∧ w'.cell? ⟨bA, 0, none⟩ = some (.int .i64 b.f0) ∧ w'.cell? ⟨bA, 1, none⟩ = some (.int .i64 b.f1) ∧ w'.cell? ⟨bA, 2, none⟩ = some (.int .i64 b.f2) ∧ w'.cell? ⟨bA, 3, none⟩ = some (.int .i64 b.f3) ∧ w'.cell? ⟨bA, 4, none⟩ = some (.slice A4 b.f4.length c4)) (ds := [7]) #[false, false, false, false, false, false, false, false] (by kernel_rfl) rfl rfl ⟨hcp_1, hcb_0, hcb_1, hcb_2, hcb_3, hcb_4⟩ (fun hHeld => ?_)
            replace HF := am_ (HF.out.below (below_drew1 (Below.refl wc.heap.size wc)))
            replace aA := am_ (blk_drew aA.out)
            clear hcp_0 hcp_1 hcp_2 hfp_0 hfp_1 hfp_2 hcb_0 hcb_1 hcb_2 hcb_3 hcb_4 hfb_0 hfb_1 hfb_2 hfb_3 hfb_4
            generalize wc.drew = mB at HF aA hHeld ⊢
            refine px_ 0 154 ?_
            refine tx_ 1 155 ?_
            refine tx_ 2 156 ?_
            refine ox_ 3 157 fun K hK => ?_
            refine gs_ Try.func90 #[.agg #[.int .i64 b.f0, .int .i64 b.f1, .int .i64 b.f2, .int .i64 b.f3, .slice A4 b.f4.length c4]] rfl ma_ ?_
            refine (impl_copyBatch.calls b.f0 b.f1 b.f2 b.f3 A4 c4 b.f4 d0 d1 d2 d3 d4 _ (Kd.C_below jB.out HF.out.hb) kB.out A2.out).mono ?_
            rintro e_ oD ⟨v4, rfl, ho, hb⟩
            refine ⟨_, rfl, ?_⟩
            have hlt6 : bA < mB.heap.size := (Array.getElem?_eq_some_iff.1 aA.out).1
            have HOL := am_ (Kd.S_mono (Kd.S_below (Kd.S_bound HF.out.hl) hb) (ok' := fun k => k ≠ bA ∧ k < mB.heap.size) (fun k hk => ⟨hk.1, hk.2.2.1⟩))
            have HLT := am_ (Kd.S_lt HF.out.hl)
            have HOR := am_ (Kd.R_lower (Kd.R_mono (Kd.R_bound ho) (ok' := fun k => mB.heap.size ≤ k) (fun k hk => hk.2.1)) HF.out.hb.size)
            replace HF := am_ (HF.out.below hb)
            replace aA := am_ (blk_below aA.out hb)
            have HSZ := am_ (show bA < mB.heap.size ∧ mB.heap.size ≤ oD.heap.size from ⟨hlt6, hb.size⟩)
            clear ho hb hlt6
            obtain ⟨A9, c9, rfl⟩ := Kd.R_slice HOR.out
            refine hK.out _ _ ⟨(blk_cell HF.out.b4 1).trans rfl, (blk_cell aA.out 0).trans rfl, (blk_cell aA.out 1).trans rfl, (blk_cell aA.out 2).trans rfl, (blk_cell aA.out 3).trans rfl, (blk_cell aA.out 4).trans rfl⟩ (fun hHeld => ?_)
            clear hK K
            refine norm_ (a' := ?_) ?_ ?_
            rotate_left
            · show Act.put _ (some 157) _ = _
              simp only [Act.put, List.setIfInBounds_toArray, List.set_cons_zero, List.set_cons_succ, i64_w, i32_w]
              rfl
            refine ox_ 4 158 fun K hK => ?_
            refine value_ (w1 := ?_) (v := ?_) (by rfl) rfl ?_ ?_
            rotate_left 2
            · go_simp
              constructor
              · rfl
              · rfl
            refine hK.out _ _ ⟨(blk_cell (blk_alloc HF.out.b4 _) 1).trans rfl, (blk_cell (blk_alloc aA.out _) 0).trans rfl, (blk_cell (blk_alloc aA.out _) 1).trans rfl, (blk_cell (blk_alloc aA.out _) 2).trans rfl, (blk_cell (blk_alloc aA.out _) 3).trans rfl, (blk_cell (blk_alloc aA.out _) 4).trans rfl⟩ (fun hHeld => ?_)
            clear hK K
            refine norm_ (a' := ?_) ?_ ?_
            rotate_left
            · show Act.put _ (some 158) _ = _
              simp only [Act.put, List.setIfInBounds_toArray, List.set_cons_zero, List.set_cons_succ, i64_w, i32_w]
              rfl
            refine ox_ 5 159 fun K hK => ?_
            have hj60 : j < 60 := by have := oC.out; omega
            refine Kd.S_append_step k78 (w0 := w) w.heap.size (by rfl) (.tmp 155) (.tmp 158) 31 78 (.agg #[(.int .i64 0), (.int .i64 0), (.int .i64 0), (.int .i64 0), (.slice none 0 0)]) 56 rfl Try.underlying31 info78 rfl (show 0 < 5 from by decide) (by omega) (.slice AL log.length cL) log (⟨d0, d1, d2, d3, d4⟩ : S78) [.int .i64 d0, .int .i64 d1, .int .i64 d2, .int .i64 d3, .slice A9 d4.length c9] (fun k => k ≠ bA) (fun k => mB.heap.size ≤ k) rfl rfl ?aP ?aK ?aF ?aO ?aB ?aS ?aL ?_
            (case aP => exact k78_mkM _ _ _ (⟨d0, d1, d2, d3, d4⟩ : S78) HOR.out)
            (case aK => exact fun k hk => ⟨by have := HSZ.out.1; omega, fun he => by have := HLT.out k he.symm; omega⟩)
            (case aF => exact fun k hk => by have := HSZ.out; omega)
            (case aO => exact Kd.S_mono HOL.out (fun k hk => ⟨hk.1, by omega⟩))
            (case aB => exact HF.out.hb)
            (case aS => exact HF.out.hb.size)
            (case aL => have := HNL.out; omega)
            intro pD yC ho hb hg hat
            obtain ⟨log2, hlog2⟩ : ∃ log2, log2 = log ++ [(⟨d0, d1, d2, d3, d4⟩ : S78)] := ⟨_, rfl⟩
            obtain ⟨AL2, cL2, rfl, k4, hF_⟩ := HF.out.logs ho hb hg log2 hlog2
            have HLG := am_ hlog2
            clear hlog2
            have xA := am_ hF_
            have K4 := am_ k4
            have n6 : some bA ≠ (Value.slice AL log.length cL).ownBlock := fun he => (Kd.S_R HF.out.hl).1 bA he.symm rfl
            have zA := am_ (blk_grown aA.out hg n6)
            clear ho hb hg hat k4 hF_ n6 HOL HLT HOR hj60
            refine hK.out _ _ ⟨(blk_cell K4.out 1).trans rfl, (blk_cell zA.out 0).trans rfl, (blk_cell zA.out 1).trans rfl, (blk_cell zA.out 2).trans rfl, (blk_cell zA.out 3).trans rfl, (blk_cell zA.out 4).trans rfl⟩ (fun hHeld => ?_)
            clear hK K
            refine norm_ (a' := ?_) ?_ ?_
            rotate_left
            · show Act.put _ (some 159) _ = _
              simp only [Act.put, List.setIfInBounds_toArray, List.set_cons_zero, List.set_cons_succ, i64_w, i32_w]
              rfl
            refine px_ 6 160 ?_
            refine last_ (i := 7) (N := none) #[true, true, true, true, true, true, true, true] rfl rfl (by kernel_rfl) (by decide) (fun K hK => ?_)
            obtain ⟨hcp_0, hcp_1, hcp_2, hfp_0, hfp_1, hfp_2⟩ := cf3_ K4.out
            have zC := am_ (show (yC.setCell ⟨eA, 1, none⟩ (.slice AL2 log2.length cL2)).heap[bA]? = _ from (Below.heap_setCell _ ⟨eA, 1, none⟩ _ bA N64.out).trans zA.out)
            refine skip_ (w1 := ?_) (by rfl) rfl ?_ ?_
            rotate_left
            · go_simp
              rfl
            refine hK.out _ _ ?_
            clear hK K
            refine done_ (by kernel_rfl) ?_
            have HF := xA
            have aA := zC
            clear xA zC zA K4 hcp_0 hcp_1 hcp_2 hfp_0 hfp_1 hfp_2
            generalize yC.setCell ⟨eA, 1, none⟩ (.slice AL2 log2.length cL2) = uD at HF aA ⊢
            obtain ⟨hcb_0, hcb_1, hcb_2, hcb_3, hcb_4, hfb_0, hfb_1, hfb_2, hfb_3, hfb_4⟩ := cf5_ aA.out
            go_wp2_with (first | ((with_reducible refine gate_callee (f := 91) rfl ?_); refine gl_ 162 Try.func91 #[.agg #[.int .i64 b.f0, .int .i64 b.f1, .int .i64 b.f2, .int .i64 b.f3, .slice A4 b.f4.length c4]] rfl ma_ ?_; (with_reducible refine (impl_Batch_end.calls b.f0 b.f1 b.f2 b.f3 A4 c4 b.f4 e' _ ?s1 ?s2 A3.out).mono ?_); (case s1 => exact Kd.C_below jB.out HF.out.hb); (case s2 => exact kB.out); rintro e_ vD ⟨rfl, qB⟩; refine ⟨_, rfl, ?_⟩; have aD := am_ (HF.out.below qB); clear qB hcb_0 hcb_1 hcb_2 hcb_3 hcb_4 hfb_0 hfb_1 hfb_2 hfb_3 hfb_4; obtain ⟨hcp_0, hcp_1, hcp_2, hfp_0, hfp_1, hfp_2⟩ := cf3_ aD.out.b4))
            go_roundg (l.length - (j + 1))
            case measure => omega
            case rel =>
              refine ⟨j + 1, some ⟨g, 0, none⟩, cP1, ps1.set i (impl_rebuild.put x1 b), AL2, cL2, log2, e', by go_num, by omega, by omega, ⟨by rw [HLG.out]; exact H'.out⟩, ⟨by rw [List.length_set]; exact xB.out.1, by rw [HLG.out, List.length_append]; exact Nat.succ_le_succ HNL.out, fun y hy => ?_⟩, ⟨(aD.out.fin e').mono (fun _ _ => trivial)⟩⟩
              rcases List.mem_or_eq_of_mem_set hy with hy | rfl
              · exact xB.out.2 y hy
              · show (impl_rebuild.cut _).length ≤ 5
                unfold impl_rebuild.cut
                rw [List.length_drop]
                omega
    · have hltz : decide ((j : Int) < (l.length : Int)) = false := decide_eq_false (by omega)
      have H := HH.out
      clear HH
      rw [List.drop_eq_nil_of_le (by omega), impl_rebuild.go] at H
      obtain ⟨hcp_0, hcp_1, hcp_2, hfp_0, hfp_1, hfp_2⟩ := cf3_ HF.out.b4
      replace H := ite_ H
      obtain ⟨c5, H⟩ | ⟨c5, H⟩ := H
      · have c5b : decide ((4 : Int) < (ps.length : Int)) = true := decide_eq_true (by omega)
        clear c5
        obtain ⟨rfl, rfl, rfl, rfl⟩ : [] = r1 ∧ [] = r2 ∧ 0 = r3 ∧ false = r4 := by simpa [impl_rebuild.no] using H
        clear H
        obtain ⟨hcr_0, hcr_1, hcr_2, hfr_0, hfr_1, hfr_2⟩ := cf3_ HF.out.b2
        have nB := HF.out.ne
        go_wp2
        have HB := am_ HF.out.hb
        have dA := am_ HF.out.b2
        refine bodyPost_ret (results_ct rfl _ _ cA 33 #[.slice none 0 0, .slice none 0 0, .int .i64 0] (0, 0) _ rfl (up_ dA) Try.underlying33 rfl (by kernel_rfl)) rfl ?_
        exact ⟨_, _, er_, Kd.S_nil _ _ _ _ _, Kd.S_nil _ _ _ _ _, hs_ jA.out⟩
      have c5b : decide ((4 : Int) < (ps.length : Int)) = false := decide_eq_false (by omega)
      have hps : ps.length ≤ 4 := by omega
      have h5 := HN.out.2.2
      have H5 := am_ h5
      obtain ⟨rfl, rfl, rfl, rfl⟩ : ps = r1 ∧ log = r2 ∧ e = r3 ∧ true = r4 := by simpa using H
      clear c5 H h5
      have bD : Aside0 (rb_G w wr cA eA AP cP AL cL log e ((ps.take 0).map (fun x => (x, true)) ++ (ps.drop 0).map (fun x => (x, false)))) := ⟨⟨HF.out.b2, by simpa using HF.out.b4, jA.out, by simpa using HF.out.hp, HF.out.hl, HF.out.hb⟩⟩
      have N24' := am_ HF.out.ne
      clear HF
      go_wp2
      clear hcp_0 hcp_1 hcp_2 hfp_0 hfp_1 hfp_2 hltz c5b
      go_loopg [173] ps.length (fun gg nC wq => ∃ i : Nat, nC = .int .i64 i ∧ i ≤ ps.length ∧ ps.length - i ≤ gg ∧ Aside0 (rb_G w wq cA eA AP cP AL cL log e ((ps.take i).map (fun x => (x, true)) ++ (ps.drop i).map (fun x => (x, false)))))
      case atStart => exact ⟨0, rfl, Nat.zero_le _, by omega, bD⟩
      case round =>
        clear bD
        obtain ⟨i, rfl, hi, hgi, HG⟩ := hrel
        have hlen : ((ps.take i).map (fun x => (x, true)) ++ (ps.drop i).map (fun x => (x, false))).length = ps.length := by simp; omega
        by_cases hlti : i < ps.length
        · as_aux_lemma =>
            have hltzi : (i : Int) < (ps.length : Int) := by omega
            obtain ⟨hm1, hm2⟩ := rb_mix ps i hlti
            have cD := am_ hm2
            have dD := am_ (H5.out ps[i] (List.getElem_mem _))
            have HG' := HG
            have bB := HG.out.b4
            rw [hlen] at bB
            have sA := am_ bB
            obtain ⟨g, A, c, rfl, hq3, hqf, hC, K⟩ := HG.out.elem i ps[i] hm1
            clear hm1 hm2 bB hqf hC K
            generalize hxx : ps[i] = x at hq3 cD dD
            have HXX := am_ hxx
            clear hxx
            obtain ⟨hcp_0, hcp_1, hcp_2, hfp_0, hfp_1, hfp_2⟩ := cf3_ sA.out
            go_wp2_with fail
            refine start_ (n := 14) (S := fun w' => w'.cell? ⟨eA, 0, none⟩ = some (.slice (some ⟨g, 0, none⟩) ps.length cP) ∧ w'.cell? ⟨g, i * 4 + 3, none⟩ = some (.slice A x.f3.length c)) (ds := [13]) #[false, false, false, false, false, false, false, false, false, false, false, false, false, false] (by kernel_rfl) rfl rfl ⟨hcp_0, hq3⟩ (fun hHeld => ?_)
            replace HG := am_ (HG.out.below (below_drew1 (Below.refl wr.heap.size wr)))
            replace sA := am_ (blk_drew sA.out)
            clear hcp_0 hcp_1 hcp_2 hfp_0 hfp_1 hfp_2 hq3 HG'
            generalize wr.drew = aC at HG sA hHeld ⊢
            refine px_ 0 176 ?_
            refine tx_ 1 177 ?_
            refine px_ 2 178 ?_
            refine px_ 4 180 ?_
            refine tx_ 5 181 ?_
            refine px_ 6 182 ?_
            refine px_ 7 183 ?_
            refine px_ 8 184 ?_
            refine tx_ 9 185 ?_
            refine ox_ 3 179 fun K hK => ?_
            refine Kd.R_lit_step k112 (w0 := aC) aC.heap.size 112 ?hg (N := 179) ?hd (xs := ([] : List S112)) (inner := []) (ok := fun _ => True) (okp := fun _ => False) ?hr ?hp (fun _ hk => hk.elim) trivial (Below.refl _ _) (Nat.le_refl _) (by simp) ?_
            (case hd => rfl)
            (case hg => rfl)
            (case hr => first | (go_simp; done) | (go_simp; rfl))
            (case hp => exact (Reps.none _ _))
            intro qD rD rB sB _ hnew_
            have cB := am_ rB
            have kA := am_ sB
            clear rB sB hnew_
            obtain ⟨A0_, c0_, e0_⟩ := Kd.R_slice cB.out
            subst e0_
            refine hK.out _ _ ⟨pw_cell_below kA.out hHeld.1, pw_cell_below kA.out hHeld.2⟩ (fun hHeld => ?_)
            clear hK K
            refine norm_ (a' := ?_) ?_ ?_
            rotate_left
            · show Act.put _ (some 179) _ = _
              simp only [Act.put, List.setIfInBounds_toArray, List.set_cons_zero, List.set_cons_succ, i64_w, i32_w]
              rfl
            refine ox_ 10 186 fun K hK => ?_
            obtain ⟨g_, A_, c_, hg_, hq3, hqf, hC, KK⟩ := HG.out.elem i x (by rw [← HXX.out]; exact (rb_mix ps i hlti).1)
            obtain rfl : g = g_ := by simpa using hg_
            have hAA : Value.slice A x.f3.length c = Value.slice A_ x.f3.length c_ := Option.some.inj (hHeld.2.symm.trans (pw_cell_below kA.out hq3))
            injection hAA with hA1 _ hA2
            subst hA1 hA2
            have HC := am_ (Kd.C_below hC kA.out)
            have HKK := am_ KK
            have eD := am_ hq3
            have HQF := am_ hqf
            clear hg_ hq3 hqf hC KK
            refine Kd.R_append_rows_step k112 (Rr := (k112).K rD) (w0 := aC) aC.heap.size (by rfl) (.tmp 179) (.tmp 185) 79 112 (.agg #[(.int .i64 0), (.int .i64 0), (.int .i64 0)]) 24 rfl Try.underlying79 info112 rfl (show 0 < 3 from by decide) (by omega) (.slice A0_ ([] : List S112).length c0_) [] x.f3 _ _ _ (fun _ => True) (fun _ => False) rfl rfl ?aO ?aR (fun x_ cs_ h_ => by rw [k112_open h_]; exact k112_mkM _ _ _ x_) (fun _ h_ => h_.elim) (fun _ _ => trivial) ?aB ?aS ?aL ?_
            (case aO => exact cB.out)
            (case aR => exact HC.out)
            (case aB => exact kA.out)
            (case aS => exact kA.out.size)
            (case aL => have := dD.out; simp only [List.length_nil]; omega)
            intro sD fD dB tB _ _
            rw [List.nil_append] at dB
            have uB := am_ dB
            have tA := am_ tB
            clear dB tB cB HC
            obtain ⟨A1_, c1_, e1_⟩ := Kd.R_slice uB.out
            subst e1_
            refine hK.out _ _ ⟨pw_cell_below tA.out (blk_cell sA.out 0), pw_cell_below tA.out eD.out⟩ (fun hHeld => ?_)
            clear hK K
            refine norm_ (a' := ?_) ?_ ?_
            rotate_left
            · show Act.put _ (some 186) _ = _
              simp only [Act.put, List.setIfInBounds_toArray, List.set_cons_zero, List.set_cons_succ, i64_w, i32_w]
              rfl
            refine px_ 11 187 ?_
            refine px_ 12 188 ?_
            refine last_ (i := 13) (N := none) #[true, true, true, true, true, true, true, true, true, true, true, true, true, true] rfl rfl (by kernel_rfl) (by decide) (fun K hK => ?_)
            have hs_ := hHeld.2
            have hfs_ : fD.frozen? ⟨g, i * 4 + 3, none⟩ = false := (World.frozen?_of_block (tA.out.block g (World.block_lt_of_cell? _ _ eD.out))).trans HQF.out
            have HNEW := am_ (HKK.out fD _ tA.out uB.out)
            refine skip_ (w1 := ?_) (by rfl) rfl ?_ ?_
            rotate_left
            · go_simp
              rfl
            refine hK.out _ _ ?_
            clear hK K
            refine done_ (by kernel_rfl) ?_
            go_wp2
            go_roundg (ps.length - (i + 1))
            case measure => omega
            case rel => exact ⟨i + 1, by first | go_num | (rw [show wrap64 ((i : Int) + 1) = ((i + 1 : Nat) : Int) by unfold wrap64; omega]), by omega, by omega, ⟨by have h_ := HNEW.out; rw [cD.out] at h_; exact h_⟩⟩
        · have hin : i = ps.length := by omega
          have hltzi : decide ((i : Int) < (ps.length : Int)) = false := decide_eq_false (by omega)
          subst hin
          rw [List.take_length, List.drop_length, List.map_nil, List.append_nil] at HG
          have bB := HG.out.b4
          rw [List.length_map] at bB
          have hP := HG.out.hp
          rw [List.length_map] at hP
          have HP := am_ (rb_done hP)
          obtain ⟨hcp_0, hcp_1, hcp_2, hfp_0, hfp_1, hfp_2⟩ := cf3_ bB
          obtain ⟨hcr_0, hcr_1, hcr_2, hfr_0, hfr_1, hfr_2⟩ := cf3_ HG.out.b2
          have dA := am_ HG.out.b2
          have HB := am_ HG.out.hb
          clear bB hP
          go_wp2
          refine bodyPost_ret (results_ct rfl _ _ cA 33 #[.slice AP ps.length cP, .slice AL log.length cL, .int .i64 e] (0, 0) _ rfl (up_ dA) Try.underlying33 rfl (by kernel_rfl)) rfl ?_
          exact ⟨_, _, er_, Kd.S_mono (Kd.S_far (p := ⟨cA, 2, none⟩) (Kd.S_far (p := ⟨cA, 1, none⟩) (Kd.S_far (p := ⟨cA, 0, none⟩) (Kd.S_types HP.out dA.out (by decide)) (fun _ hk => hk.2) _) (fun _ hk => hk.2) _) (fun _ hk => hk.2) _) (fun _ _ => trivial), Kd.S_mono (Kd.S_far (p := ⟨cA, 2, none⟩) (Kd.S_far (p := ⟨cA, 1, none⟩) (Kd.S_far (p := ⟨cA, 0, none⟩) (Kd.S_types HG.out.hl dA.out (by decide)) (fun _ hk => hk.2) _) (fun _ hk => hk.2) _) (fun _ hk => hk.2) _) (fun _ _ => trivial), hs_ jA.out⟩
end Go.Proofs.Ytojdaolclcmalaa.QFnExactAskPart
