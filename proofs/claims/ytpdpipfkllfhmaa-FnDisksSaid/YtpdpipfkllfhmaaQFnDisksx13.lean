/- Functions that one statement reaches: of each a plain function, and the proof that calls come to it. Conditions: those that each contract names. Written by a program of this repository. -/
import Derived.Test.YtpdpipfkllfhmaaVFnDisksa
import Derived.Test.YtpdpipfkllfhmaaQFnDisksx3
namespace Go.Proofs.Ytpdpipfkllfhmaa.QFnDisks
open Go.RowKit Go.Proofs.YtpdpipfkllfhmaaW.PrintWords Go.Proofs.YtpdpipfkllfhmaaW.PrintLast Go.Proofs.YtpdpipfkllfhmaaW.PrintMore
attribute [local go_sem] max2_int min2_int max_two min_two max_three min_three max_four min_four Go.Proofs.YtpdpipfkllfhmaaW.PrintMore2.isSome_setCell   -- for this text's walks alone
set_option linter.unusedVariables false
set_option linter.unusedSimpArgs false

/-- A state of type 92 at block g of W; what its slices lead to came in by w0. -/
def IsS92 (w0 W : World) (g : Nat) (f0 : List Int) (f1 : Int) (f2 : Int) : Prop := ∃ A0 c0, W.heap[g]? = some (.cells #[.slice A0 f0.length c0, .int .i64 f1, .int .u64 f2] 92 (0, 0)) ∧ w0.heap.size ≤ g ∧ Kd.C (Kd.int .u8) w0 A0 f0.length f0
theorem IsS92.grown {w0 W : World} {g : Nat} {f0 : List Int} {f1 : Int} {f2 : Int} {W1 : World} {row : Option Nat} (h : IsS92 w0 W g f0 f1 f2) (hw : W.grownBy W1 row) (hne : some g ≠ row) : IsS92 w0 W1 g f0 f1 f2 := by
 obtain ⟨A0, c0, hb, hg, aA⟩ := h
 exact ⟨A0, c0, blk_grown hb hw hne, hg, aA⟩
theorem IsS92.own_neN {w0 W : World} {g : Nat} {f0 : List Int} {f1 : Int} {f2 : Int} {α : Type} {d : Kd α} {e : Nat} {base : Nat} {ok : Nat → Prop} {v : Value} {xs : List α} (h : IsS92 w0 W g f0 f1 f2) (ho : Kd.N d e W base ok v xs) (ht : e ≠ 92) : some g ≠ v.ownBlock := by
 obtain ⟨A0, c0, hb, hg, aA⟩ := h
 exact Kd.N_ne ho hb ht
theorem IsS92.fresh {w0 W : World} {g : Nat} {f0 : List Int} {f1 : Int} {f2 : Int} (h : IsS92 w0 W g f0 f1 f2) : ∀ k, W.heap.size ≤ k → k ≠ g := by
 obtain ⟨A0, c0, hb, hg, aA⟩ := h
 exact Kd.freshB hb
theorem IsS92.kept {w0 W : World} {g : Nat} {f0 : List Int} {f1 : Int} {f2 : Int} {W1 : World} {S : Nat → Prop} (h : IsS92 w0 W g f0 f1 f2) (hk : Kept W W1 S) (hne : ¬ S g) : IsS92 w0 W1 g f0 f1 f2 := by
 obtain ⟨A0, c0, hb, hg, aA⟩ := h
 exact ⟨A0, c0, blk_kept hb hk hne, hg, aA⟩
theorem IsS92.below {w0 W : World} {g : Nat} {f0 : List Int} {f1 : Int} {f2 : Int} {W1 : World} (h : IsS92 w0 W g f0 f1 f2) (hw : Below W.heap.size W W1) : IsS92 w0 W1 g f0 f1 f2 := h.grown (grown_of_below hw none) (by simp)
theorem IsS92.alloc {w0 W : World} {g : Nat} {f0 : List Int} {f1 : Int} {f2 : Int} (h : IsS92 w0 W g f0 f1 f2) (o : Obj) : IsS92 w0 (W.alloc o) g f0 f1 f2 := h.below (below_alloc (Below.refl _ _) o)
theorem IsS92.drewN {w0 W : World} {g : Nat} {f0 : List Int} {f1 : Int} {f2 : Int} (h : IsS92 w0 W g f0 f1 f2) (m : Nat) : IsS92 w0 (W.drewN m) g f0 f1 f2 := h
theorem IsS92.drew {w0 W : World} {g : Nat} {f0 : List Int} {f1 : Int} {f2 : Int} (h : IsS92 w0 W g f0 f1 f2) : IsS92 w0 W.drew g f0 f1 f2 := h
theorem IsS92.at_ {w0 W : World} {g : Nat} {f0 : List Int} {f1 : Int} {f2 : Int} {w' : World} {m : Nat} (hq : W.drewN m = w') (h : IsS92 w0 W g f0 f1 f2) : IsS92 w0 w' g f0 f1 f2 := by subst hq; exact IsS92.drewN h m
theorem IsS92.apart {w0 W : World} {g : Nat} {f0 : List Int} {f1 : Int} {f2 : Int} {α : Type} {d : Kd α} {e : Nat} {base : Nat} {ok : Nat → Prop} {v : Value} {xs : List α} (h : IsS92 w0 W g f0 f1 f2) (ho : d.R e W base ok v xs) (ht : ∀ q, q ∈ e :: d.E → q ≠ 92) : d.R e W base (fun k => ok k ∧ k ≠ g) v xs := by
 obtain ⟨A0, c0, hb, hg, aA⟩ := h
 exact Kd.R_types ho hb ht
theorem IsS92.own_ne {w0 W : World} {g : Nat} {f0 : List Int} {f1 : Int} {f2 : Int} {α : Type} {d : Kd α} {e : Nat} {base : Nat} {ok : Nat → Prop} {v : Value} {xs : List α} (h : IsS92 w0 W g f0 f1 f2) (ho : d.R e W base ok v xs) (ht : e ≠ 92) : some g ≠ v.ownBlock := by
 obtain ⟨A0, c0, hb, hg, aA⟩ := h
 exact Kd.R_ne ho hb ht
theorem IsS92.apartQ {w0 W : World} {g : Nat} {f0 : List Int} {f1 : Int} {f2 : Int} {α : Type} {d : Kd α} {e : Nat} {base : Nat} {ok : Nat → Prop} {v : Value} {xs : List α} (h : IsS92 w0 W g f0 f1 f2) (ho : d.Q e W base ok v xs) (ht : ∀ q, q ∈ e :: d.E → q ≠ 92) : d.Q e W base (fun k => ok k ∧ k ≠ g) v xs := by
 obtain ⟨A0, c0, hb, hg, aA⟩ := h
 exact Kd.Q_types ho hb ht
theorem IsS92.own_neQ {w0 W : World} {g : Nat} {f0 : List Int} {f1 : Int} {f2 : Int} {α : Type} {d : Kd α} {e : Nat} {base : Nat} {ok : Nat → Prop} {v : Value} {xs : List α} (h : IsS92 w0 W g f0 f1 f2) (ho : d.Q e W base ok v xs) (ht : e ≠ 92) : some g ≠ v.ownBlock := by
 obtain ⟨A0, c0, hb, hg, aA⟩ := h
 exact Kd.Q_ne ho hb ht
theorem IsS92.apartS {w0 W : World} {g : Nat} {f0 : List Int} {f1 : Int} {f2 : Int} {α : Type} {d : Kd α} {e : Nat} {base : Nat} {ok : Nat → Prop} {v : Value} {xs : List α} (h : IsS92 w0 W g f0 f1 f2) (ho : d.S e W base ok v xs) (ht : ∀ q, q ∈ e :: d.E → q ≠ 92) : d.S e W base (fun k => ok k ∧ k ≠ g) v xs := by
 obtain ⟨A0, c0, hb, hg, aA⟩ := h
 exact Kd.S_types ho hb ht
theorem IsS92.own_neS {w0 W : World} {g : Nat} {f0 : List Int} {f1 : Int} {f2 : Int} {α : Type} {d : Kd α} {e : Nat} {base : Nat} {ok : Nat → Prop} {v : Value} {xs : List α} (h : IsS92 w0 W g f0 f1 f2) (ho : d.S e W base ok v xs) (ht : e ≠ 92) : some g ≠ v.ownBlock := by
 obtain ⟨A0, c0, hb, hg, aA⟩ := h
 exact Kd.S_ne ho hb ht
theorem IsS92.lt {w0 W : World} {g : Nat} {f0 : List Int} {f1 : Int} {f2 : Int} (h : IsS92 w0 W g f0 f1 f2) : g < W.heap.size := by
 obtain ⟨A0, c0, hb, hg, aA⟩ := h
 exact blk_lt hb
theorem IsS92.ge {w0 W : World} {g : Nat} {f0 : List Int} {f1 : Int} {f2 : Int} (h : IsS92 w0 W g f0 f1 f2) : w0.heap.size ≤ g := by
 obtain ⟨A0, c0, hb, hg, aA⟩ := h
 exact hg
theorem IsS92.ne_blk {w0 W : World} {g : Nat} {f0 : List Int} {f1 : Int} {f2 : Int} {a : Nat} {cs : Array Value} {t : TypeId} {fr : Nat × Nat} (h : IsS92 w0 W g f0 f1 f2) (hb2 : W.heap[a]? = some (.cells cs t fr)) (ht : t ≠ 92) : g ≠ a := by
 obtain ⟨A0, c0, hb, hg, aA⟩ := h
 rintro rfl
 rw [hb] at hb2
 injection hb2 with hb2
 injection hb2 with _ ht2
 exact ht ht2.symm
theorem IsS92.far {w0 W : World} {g : Nat} {f0 : List Int} {f1 : Int} {f2 : Int} {p : Addr} (h : IsS92 w0 W g f0 f1 f2) (hne : g ≠ p.block) (u : Value) : IsS92 w0 (W.setCell p u) g f0 f1 f2 := by
 obtain ⟨A0, c0, hb, hg, aA⟩ := h
 exact ⟨A0, c0, blk_far hb hne u, hg, aA⟩
theorem cellS92_0 {W : World} {g : Nat} {A0 : Option Addr} {c0 : Nat} {f0 : List Int} {f1 : Int} {f2 : Int} (h : W.heap[g]? = some (.cells #[.slice A0 f0.length c0, .int .i64 f1, .int .u64 f2] 92 (0, 0))) : W.cell? ⟨g, 0, none⟩ = some (.slice A0 f0.length c0) := (blk_cell h 0).trans rfl
theorem cellS92_1 {W : World} {g : Nat} {A0 : Option Addr} {c0 : Nat} {f0 : List Int} {f1 : Int} {f2 : Int} (h : W.heap[g]? = some (.cells #[.slice A0 f0.length c0, .int .i64 f1, .int .u64 f2] 92 (0, 0))) : W.cell? ⟨g, 1, none⟩ = some (.int .i64 f1) := (blk_cell h 1).trans rfl
theorem IsS92.set_1 {w0 W : World} {g : Nat} {f0 : List Int} {f1 : Int} {f2 : Int} (h : IsS92 w0 W g f0 f1 f2) (x : Int) : IsS92 w0 (W.setCell ⟨g, 1, none⟩ (.int .i64 x)) g f0 x f2 := by
 obtain ⟨A0, c0, hb, hg, aA⟩ := h
 exact ⟨A0, c0, by simpa using blk_set hb 1 (.int .i64 x), hg, aA⟩
theorem cellS92_2 {W : World} {g : Nat} {A0 : Option Addr} {c0 : Nat} {f0 : List Int} {f1 : Int} {f2 : Int} (h : W.heap[g]? = some (.cells #[.slice A0 f0.length c0, .int .i64 f1, .int .u64 f2] 92 (0, 0))) : W.cell? ⟨g, 2, none⟩ = some (.int .u64 f2) := (blk_cell h 2).trans rfl
theorem IsS92.set_2 {w0 W : World} {g : Nat} {f0 : List Int} {f1 : Int} {f2 : Int} (h : IsS92 w0 W g f0 f1 f2) (x : Int) : IsS92 w0 (W.setCell ⟨g, 2, none⟩ (.int .u64 x)) g f0 f1 x := by
 obtain ⟨A0, c0, hb, hg, aA⟩ := h
 exact ⟨A0, c0, by simpa using blk_set hb 2 (.int .u64 x), hg, aA⟩
theorem IsS92.new (w0 W : World) (A0 : Option Addr) (c0 : Nat) (f0 : List Int) (f1 : Int) (f2 : Int) (hB : Below w0.heap.size w0 W) (hr0 : Kd.C (Kd.int .u8) w0 A0 f0.length f0) : IsS92 w0 (W.alloc (.cells #[.slice A0 f0.length c0, .int .i64 f1, .int .u64 f2] 92)) W.heap.size f0 f1 f2 := ⟨A0, c0, by simpa using heap_alloc_new W _, hB.size, hr0⟩

theorem iS92_0_ {p : Prop} (h : p := by (repeat (first | (with_reducible first | exact HI0.out | apply IsS92.alloc | apply IsS92.drewN | apply IsS92.drew | apply IsS92.set_1 | apply IsS92.set_2) | exact HI0.out))) : p := h
theorem iS92_1_ {p q1 : Prop} (g1 : q1) (h : q1 → p := by (intro g1_; repeat (first | (with_reducible first | exact HI0.out | apply IsS92.alloc | apply IsS92.drewN | apply IsS92.drew | apply IsS92.set_1 | apply IsS92.set_2 | refine IsS92.far ?_ g1_ _) | exact HI0.out))) : p := h g1
theorem iS92_2_ {p q1 q2 : Prop} (g1 : q1) (g2 : q2) (h : q1 → q2 → p := by (intro g1_ g2_; repeat (first | (with_reducible first | exact HI0.out | apply IsS92.alloc | apply IsS92.drewN | apply IsS92.drew | apply IsS92.set_1 | apply IsS92.set_2 | refine IsS92.far ?_ g1_ _ | refine IsS92.far ?_ g2_ _) | exact HI0.out))) : p := h g1 g2
theorem iS92_3_ {p q1 q2 q3 : Prop} (g1 : q1) (g2 : q2) (g3 : q3) (h : q1 → q2 → q3 → p := by (intro g1_ g2_ g3_; repeat (first | (with_reducible first | exact HI0.out | apply IsS92.alloc | apply IsS92.drewN | apply IsS92.drew | apply IsS92.set_1 | apply IsS92.set_2 | refine IsS92.far ?_ g1_ _ | refine IsS92.far ?_ g2_ _ | refine IsS92.far ?_ g3_ _) | exact HI0.out))) : p := h g1 g2 g3
theorem iS92_4_ {p q1 q2 q3 q4 : Prop} (g1 : q1) (g2 : q2) (g3 : q3) (g4 : q4) (h : q1 → q2 → q3 → q4 → p := by (intro g1_ g2_ g3_ g4_; repeat (first | (with_reducible first | exact HI0.out | apply IsS92.alloc | apply IsS92.drewN | apply IsS92.drew | apply IsS92.set_1 | apply IsS92.set_2 | refine IsS92.far ?_ g1_ _ | refine IsS92.far ?_ g2_ _ | refine IsS92.far ?_ g3_ _ | refine IsS92.far ?_ g4_ _) | exact HI0.out))) : p := h g1 g2 g3 g4
theorem iS92_5_ {p q1 q2 q3 q4 q5 : Prop} (g1 : q1) (g2 : q2) (g3 : q3) (g4 : q4) (g5 : q5) (h : q1 → q2 → q3 → q4 → q5 → p := by (intro g1_ g2_ g3_ g4_ g5_; repeat (first | (with_reducible first | exact HI0.out | apply IsS92.alloc | apply IsS92.drewN | apply IsS92.drew | apply IsS92.set_1 | apply IsS92.set_2 | refine IsS92.far ?_ g1_ _ | refine IsS92.far ?_ g2_ _ | refine IsS92.far ?_ g3_ _ | refine IsS92.far ?_ g4_ _ | refine IsS92.far ?_ g5_ _) | exact HI0.out))) : p := h g1 g2 g3 g4 g5
/-! ### spec_l1Cur_next: function 94 -/
def spec_l1Cur_next.f (s0_0 : List Int) (s0_1 : Int) (s0_2 : Int) : Option (Int × Int × Int) := if s0_1 < (s0_0.length : Int) then (if 0 ≤ s0_1 then (if (wrap64 (s0_1 + 1)) ≤ (s0_0.length : Int) then (some (wrap64 (rd s0_0 s0_1), wrap64 (s0_1 + 1), IntKind.u64.wrap ((IntKind.u64.wrap ((IntKind.u64.wrap (s0_2 * 6364136223846793005)) + (IntKind.u64.wrap (wrap64 (rd s0_0 s0_1))))) + 1442695040888963407))) else (some (wrap64 (Go.bits .and .u64 ((IntKind.u64.wrap ((IntKind.u64.wrap ((IntKind.u64.wrap (s0_2 * 6364136223846793005)) + (IntKind.u64.wrap (wrap64 (rd s0_0 s0_1))))) + 1442695040888963407)) / 1099511627776) 255), wrap64 (s0_1 + 1), IntKind.u64.wrap ((IntKind.u64.wrap ((IntKind.u64.wrap (s0_2 * 6364136223846793005)) + (IntKind.u64.wrap (wrap64 (rd s0_0 s0_1))))) + 1442695040888963407)))) else (none)) else (if (wrap64 (s0_1 + 1)) ≤ (s0_0.length : Int) then (some (0, wrap64 (s0_1 + 1), IntKind.u64.wrap ((IntKind.u64.wrap (IntKind.u64.wrap (s0_2 * 6364136223846793005))) + 1442695040888963407))) else (some (wrap64 (Go.bits .and .u64 ((IntKind.u64.wrap ((IntKind.u64.wrap (IntKind.u64.wrap (s0_2 * 6364136223846793005))) + 1442695040888963407)) / 1099511627776) 255), wrap64 (s0_1 + 1), IntKind.u64.wrap ((IntKind.u64.wrap (IntKind.u64.wrap (s0_2 * 6364136223846793005))) + 1442695040888963407))))
set_option maxHeartbeats 8000000 in
set_option maxRecDepth 100000 in
theorem spec_l1Cur_next.calls (g : Nat) (s0_0 : List Int) (s0_1 : Int) (s0_2 : Int) (r1 : Int) (r2 : Int) (r3 : Int) (w0 w : World) (hI : IsS92 w0 w g s0_0 s0_1 s0_2) (hB : Below w0.heap.size w0 w) (h : spec_l1Cur_next.f s0_0 s0_1 s0_2 = some (r1, r2, r3)) :
  Calls Try.prog 94 #[.pointer (some ⟨g, 0, none⟩)] w fun e w' => e = .returned (.int .i64 r1) ∧ IsS92 w0 w' g s0_0 r2 r3 ∧ Below w0.heap.size w0 w' ∧ KeepBut w w' g none := by
 have HI0 := Aside0.mk hI
 have HK := Aside0.mk (KeepBut.refl w g none)
 have HL := Aside0.mk hB.size
 clear hI
 have dB := Aside0.mk hB.size
 have HB := Aside0.mk hB
 clear hB
 have H : (if s0_1 < (s0_0.length : Int) then (if 0 ≤ s0_1 then (if (wrap64 (s0_1 + 1)) ≤ (s0_0.length : Int) then (some (wrap64 (rd s0_0 s0_1), wrap64 (s0_1 + 1), IntKind.u64.wrap ((IntKind.u64.wrap ((IntKind.u64.wrap (s0_2 * 6364136223846793005)) + (IntKind.u64.wrap (wrap64 (rd s0_0 s0_1))))) + 1442695040888963407))) else (some (wrap64 (Go.bits .and .u64 ((IntKind.u64.wrap ((IntKind.u64.wrap ((IntKind.u64.wrap (s0_2 * 6364136223846793005)) + (IntKind.u64.wrap (wrap64 (rd s0_0 s0_1))))) + 1442695040888963407)) / 1099511627776) 255), wrap64 (s0_1 + 1), IntKind.u64.wrap ((IntKind.u64.wrap ((IntKind.u64.wrap (s0_2 * 6364136223846793005)) + (IntKind.u64.wrap (wrap64 (rd s0_0 s0_1))))) + 1442695040888963407)))) else (none)) else (if (wrap64 (s0_1 + 1)) ≤ (s0_0.length : Int) then (some (0, wrap64 (s0_1 + 1), IntKind.u64.wrap ((IntKind.u64.wrap (IntKind.u64.wrap (s0_2 * 6364136223846793005))) + 1442695040888963407))) else (some (wrap64 (Go.bits .and .u64 ((IntKind.u64.wrap ((IntKind.u64.wrap (IntKind.u64.wrap (s0_2 * 6364136223846793005))) + 1442695040888963407)) / 1099511627776) 255), wrap64 (s0_1 + 1), IntKind.u64.wrap ((IntKind.u64.wrap (IntKind.u64.wrap (s0_2 * 6364136223846793005))) + 1442695040888963407))))) = some (r1, r2, r3) := h
 clear h
 replace H := ite_ H
 obtain ⟨c2, H⟩ | ⟨c2, H⟩ := H
 rotate_left
 ·have fA := decide_eq_false c2
  clear c2
  replace H := ite_ H
  obtain ⟨c7, H⟩ | ⟨c7, H⟩ := H
  ·have gA := decide_eq_true c7
   clear c7
   simp only [Option.some.injEq, Prod.mk.injEq] at H
   obtain ⟨rfl, rfl, rfl⟩ := H
   obtain ⟨ASz8_0, cSz8_0, HGz8, hgz8, HSz8_0⟩ := HI0.out
   have hA := cellS92_0 HGz8
   have iA := cellS92_1 HGz8
   have jA := cellS92_2 HGz8
   have kA := blk_frozen HGz8 1
   have lA := blk_frozen HGz8 2
   clear HGz8 hgz8
   go_enter Try.func94, Try.ntmps94
   go_wp2
   repeat (go_quiet (fail); try go_wp2)
   go_ret
   exact ⟨er_, iS92_0_, hs_ (IsS92.ge HI0.out), kp0_⟩
  have gA := decide_eq_false c7
  clear c7
  simp only [Option.some.injEq, Prod.mk.injEq] at H
  obtain ⟨rfl, rfl, rfl⟩ := H
  obtain ⟨ASz9_0, cSz9_0, HGz9, hgz9, HSz9_0⟩ := HI0.out
  have mA := cellS92_0 HGz9
  have nA := cellS92_1 HGz9
  have oA := cellS92_2 HGz9
  have pA := blk_frozen HGz9 1
  have qA := blk_frozen HGz9 2
  clear HGz9 hgz9
  go_enter Try.func94, Try.ntmps94
  go_wp2
  repeat (go_quiet (fail); try go_wp2)
  go_ret
  exact ⟨er_, iS92_0_, hs_ (IsS92.ge HI0.out), kp0_⟩
 have fA := decide_eq_true c2
 clear c2
 replace H := ifs_ H
 obtain ⟨c3, H⟩ := H
 have cB := decide_eq_true c3
 clear c3
 replace H := ite_ H
 obtain ⟨c4, H⟩ | ⟨c4, H⟩ := H
 ·have rA := decide_eq_true c4
  clear c4
  simp only [Option.some.injEq, Prod.mk.injEq] at H
  obtain ⟨rfl, rfl, rfl⟩ := H
  obtain ⟨ASz5_0, cSz5_0, HGz5, hgz5, HSz5_0⟩ := HI0.out
  have sA := cellS92_0 HGz5
  have tA := cellS92_1 HGz5
  have uA := cellS92_2 HGz5
  have vA := blk_frozen HGz5 1
  have wA := blk_frozen HGz5 2
  clear HGz5 hgz5
  have bA : 0 ≤ (s0_1 : Int) := oa_
  have cA : s0_1 < (s0_0.length : Int) := oa_
  obtain ⟨eA, dA, aA⟩ := Kd.at_int HSz5_0 s0_1 bA cA
  cases dA
  replace aA := pw_cell_below HB.out aA
  replace bA := eq_true bA
  replace cA := eq_true cA
  go_enter Try.func94, Try.ntmps94
  go_wp2
  repeat (go_quiet (fail); try go_wp2)
  go_ret
  exact ⟨er_, iS92_0_, hs_ (IsS92.ge HI0.out), kp0_⟩
 have rA := decide_eq_false c4
 clear c4
 simp only [Option.some.injEq, Prod.mk.injEq] at H
 obtain ⟨rfl, rfl, rfl⟩ := H
 obtain ⟨ASz6_0, cSz6_0, HGz6, hgz6, HSz6_0⟩ := HI0.out
 have xA := cellS92_0 HGz6
 have yA := cellS92_1 HGz6
 have zA := cellS92_2 HGz6
 have aB := blk_frozen HGz6 1
 have bB := blk_frozen HGz6 2
 clear HGz6 hgz6
 have bA : 0 ≤ (s0_1 : Int) := oa_
 have cA : s0_1 < (s0_0.length : Int) := oa_
 obtain ⟨eA, dA, aA⟩ := Kd.at_int HSz6_0 s0_1 bA cA
 cases dA
 replace aA := pw_cell_below HB.out aA
 replace bA := eq_true bA
 replace cA := eq_true cA
 go_enter Try.func94, Try.ntmps94
 go_wp2
 repeat (go_quiet (fail); try go_wp2)
 go_ret
 exact ⟨er_, iS92_0_, hs_ (IsS92.ge HI0.out), kp0_⟩

/-! ### spec_l1Cur_pick: function 74 -/
def spec_l1Cur_pick.f (s0_0 : List Int) (s0_1 : Int) (s0_2 : Int) (a1 : Int) : Option (Int × Int × Int) := if a1 ≤ 1 then (some (0, s0_1, s0_2)) else ((spec_l1Cur_next.f s0_0 s0_1 s0_2).bind fun bt308 => (if a1 > 200 then ((spec_l1Cur_next.f s0_0 bt308.2.1 bt308.2.2).bind fun bt311 => (if a1 = 0 then (none) else (some (Int.tmod (wrap64 ((wrap64 (bt308.1 * 256)) + bt311.1)) a1, bt311.2.1, bt311.2.2)))) else (if a1 = 0 then (none) else (some (Int.tmod bt308.1 a1, bt308.2.1, bt308.2.2)))))
set_option maxHeartbeats 8000000 in
set_option maxRecDepth 100000 in
theorem spec_l1Cur_pick.calls (g : Nat) (s0_0 : List Int) (s0_1 : Int) (s0_2 : Int) (a1 : Int) (r1 : Int) (r2 : Int) (r3 : Int) (w0 w : World) (hI : IsS92 w0 w g s0_0 s0_1 s0_2) (hB : Below w0.heap.size w0 w) (h : spec_l1Cur_pick.f s0_0 s0_1 s0_2 a1 = some (r1, r2, r3)) :
  Calls Try.prog 74 #[.pointer (some ⟨g, 0, none⟩), .int .i64 a1] w fun e w' => e = .returned (.int .i64 r1) ∧ IsS92 w0 w' g s0_0 r2 r3 ∧ Below w0.heap.size w0 w' ∧ KeepBut w w' g none := by
 have HI0 := Aside0.mk hI
 have HK := Aside0.mk (KeepBut.refl w g none)
 have HL := Aside0.mk hB.size
 clear hI
 have pA := Aside0.mk hB.size
 have HB := Aside0.mk hB
 clear hB
 have H : (if a1 ≤ 1 then (some (0, s0_1, s0_2)) else ((spec_l1Cur_next.f s0_0 s0_1 s0_2).bind fun aA => (if a1 > 200 then ((spec_l1Cur_next.f s0_0 aA.2.1 aA.2.2).bind fun bA => (if a1 = 0 then (none) else (some (Int.tmod (wrap64 ((wrap64 (aA.1 * 256)) + bA.1)) a1, bA.2.1, bA.2.2)))) else (if a1 = 0 then (none) else (some (Int.tmod aA.1 a1, aA.2.1, aA.2.2)))))) = some (r1, r2, r3) := h
 clear h
 replace H := ite_ H
 obtain ⟨c3, H⟩ | ⟨c3, H⟩ := H
 ·have fA := decide_eq_true c3
  clear c3
  simp only [Option.some.injEq, Prod.mk.injEq] at H
  obtain ⟨rfl, rfl, rfl⟩ := H
  go_enter Try.func74, Try.ntmps74
  go_wp2
  go_ret
  exact ⟨er_, iS92_0_, hs_ (IsS92.ge HI0.out), kp0_⟩
 have fA := decide_eq_false c3
 clear c3
 replace H := bnd_ H
 obtain ⟨⟨eA, cA, dA⟩, A4, H⟩ := H
 replace H := red_ H
 replace H := ite_ H
 obtain ⟨c5, H⟩ | ⟨c5, H⟩ := H
 rotate_left
 ·have gA := dgf_ c5
  clear c5
  replace H := ifx_ H
  obtain ⟨kA, H⟩ := H
  have lA : (a1 == 0) = false := beq_eq_false_iff_ne.mpr kA
  have mA : (a1 != 0) = true := bne_iff_ne.mpr kA
  simp only [Option.some.injEq, Prod.mk.injEq] at H
  obtain ⟨rfl, rfl, rfl⟩ := H
  go_enter Try.func74, Try.ntmps74
  go_wp2_with (first | ((with_reducible refine gate_callee (f := 94) rfl ?_); refine gl_ 9 Try.func94 #[.pointer (some ⟨g, 0, none⟩)] rfl ma_ ?_; (with_reducible refine (spec_l1Cur_next.calls g s0_0 s0_1 s0_2 eA cA dA w0 _ ?side1 ?side2 A4.out).mono ?_); (case side1 => exact iS92_0_); (case side2 => exact hs_ (IsS92.ge HI0.out)); rintro e qA ⟨rfl, hi, hb, hk⟩; refine ⟨_, rfl, ?_⟩; replace HK := Aside0.mk (KeepBut.trans (kp0_) hk (.inl rfl)); replace HB := Aside0.mk (hb); replace HI0 := Aside0.mk (hi); (try clear hb); (try clear hb2); (try clear hk); (try clear hi)))
  go_ret
  exact ⟨er_, iS92_0_, hs_ (IsS92.ge HI0.out), kp0_⟩
 have gA := dgt_ c5
 clear c5
 replace H := bnd_ H
 obtain ⟨⟨hA, iA, jA⟩, A6, H⟩ := H
 replace H := red_ H
 replace H := ifx_ H
 obtain ⟨c7, H⟩ := H
 have nA : (a1 == 0) = false := beq_eq_false_iff_ne.mpr c7
 have oA : (a1 != 0) = true := bne_iff_ne.mpr c7
 simp only [Option.some.injEq, Prod.mk.injEq] at H
 obtain ⟨rfl, rfl, rfl⟩ := H
 go_enter Try.func74, Try.ntmps74
 go_wp2_with (first | ((with_reducible refine gate_callee (f := 94) rfl ?_); refine gl_ 9 Try.func94 #[.pointer (some ⟨g, 0, none⟩)] rfl ma_ ?_; (with_reducible refine (spec_l1Cur_next.calls g s0_0 s0_1 s0_2 eA cA dA w0 _ ?side1 ?side2 A4.out).mono ?_); (case side1 => exact iS92_0_); (case side2 => exact hs_ (IsS92.ge HI0.out)); rintro e w8 ⟨rfl, hi, hb, hk⟩; refine ⟨_, rfl, ?_⟩; replace HK := Aside0.mk (KeepBut.trans (kp0_) hk (.inl rfl)); replace HB := Aside0.mk (hb); replace HI0 := Aside0.mk (hi); (try clear hb); (try clear hb2); (try clear hk); (try clear hi)) | ((with_reducible refine gate_callee (f := 94) rfl ?_); refine gl_ 15 Try.func94 #[.pointer (some ⟨g, 0, none⟩)] rfl ma_ ?_; (with_reducible refine (spec_l1Cur_next.calls g s0_0 cA dA hA iA jA w0 _ ?side1 ?side2 A6.out).mono ?_); (case side1 => exact iS92_0_); (case side2 => exact hs_ (IsS92.ge HI0.out)); rintro e w9 ⟨rfl, hi, hb, hk⟩; refine ⟨_, rfl, ?_⟩; replace HK := Aside0.mk (KeepBut.trans (kp0_) hk (.inl rfl)); replace HB := Aside0.mk (hb); replace HI0 := Aside0.mk (hi); (try clear hb); (try clear hb2); (try clear hk); (try clear hi)))
 go_ret
 exact ⟨er_, iS92_0_, hs_ (IsS92.ge HI0.out), kp0_⟩

/-! ### spec_l1Cur_among: function 92 -/
def spec_l1Cur_among.f (s0_0 : List Int) (s0_1 : Int) (s0_2 : Int) (l1 : List Int) : Option (Int × Int × Int) := (spec_l1Cur_pick.f s0_0 s0_1 s0_2 (l1.length : Int)).bind fun bt314 => (if 0 ≤ bt314.1 then (if bt314.1 < (l1.length : Int) then (some (rd l1 bt314.1, bt314.2.1, bt314.2.2)) else (none)) else (none))
set_option maxHeartbeats 8000000 in
set_option maxRecDepth 100000 in
theorem spec_l1Cur_among.calls (g : Nat) (s0_0 : List Int) (s0_1 : Int) (s0_2 : Int) (A1 : Option Addr) (c1 : Nat) (l1 : List Int) (r1 : Int) (r2 : Int) (r3 : Int) (w0 w : World) (hI : IsS92 w0 w g s0_0 s0_1 s0_2) (hB : Below w0.heap.size w0 w) (hr1 : Kd.C (Kd.int .i64) w A1 l1.length l1) (hc1 : l1.length ≤ c1) (hf1 : ∀ ad, A1 = some ad → 0 < l1.length → ad.block ≠ g) (h : spec_l1Cur_among.f s0_0 s0_1 s0_2 l1 = some (r1, r2, r3)) :
  Calls Try.prog 92 #[.pointer (some ⟨g, 0, none⟩), .slice A1 l1.length c1] w fun e w' => e = .returned (.int .i64 r1) ∧ IsS92 w0 w' g s0_0 r2 r3 ∧ Below w0.heap.size w0 w' ∧ KeepBut w w' g none := by
 have jA := Aside0.mk hr1
 have mA := Aside0.mk hc1
 clear hr1 hc1
 have HI0 := Aside0.mk hI
 have HK := Aside0.mk (KeepBut.refl w g none)
 have HL := Aside0.mk hB.size
 clear hI
 have nA := Aside0.mk hB.size
 have HB := Aside0.mk hB
 clear hB
 have H : ((spec_l1Cur_pick.f s0_0 s0_1 s0_2 (l1.length : Int)).bind fun aA => (if 0 ≤ aA.1 then (if aA.1 < (l1.length : Int) then (some (rd l1 aA.1, aA.2.1, aA.2.2)) else (none)) else (none))) = some (r1, r2, r3) := h
 clear h
 replace H := bnd_ H
 obtain ⟨⟨cA, gA, hA⟩, A3, H⟩ := H
 replace H := red_ H
 replace H := ifs_ H
 obtain ⟨c4, H⟩ := H
 have kA := decide_eq_true c4
 clear c4
 replace H := ifs_ H
 obtain ⟨c5, H⟩ := H
 have lA := decide_eq_true c5
 clear c5
 simp only [Option.some.injEq, Prod.mk.injEq] at H
 obtain ⟨rfl, rfl, rfl⟩ := H
 go_enter Try.func92, Try.ntmps92
 go_wp2_with (first | ((with_reducible refine gate_callee (f := 74) rfl ?_); refine gl_ 9 Try.func74 #[.pointer (some ⟨g, 0, none⟩), .int .i64 (l1.length : Int)] rfl ma_ ?_; (with_reducible refine (spec_l1Cur_pick.calls g s0_0 s0_1 s0_2 (l1.length : Int) cA gA hA w0 _ ?side1 ?side2 A3.out).mono ?_); (case side1 => exact iS92_0_); (case side2 => exact hs_ (IsS92.ge HI0.out)); rintro e w6 ⟨rfl, hi, hb, hk⟩; refine ⟨_, rfl, ?_⟩; replace HK := Aside0.mk (KeepBut.trans (kp0_) hk (.inl rfl)); replace HB := Aside0.mk (hb); replace HI0 := Aside0.mk (hi); (try clear hb); (try clear hb2); (try clear hk); (try clear hi); have dA : 0 ≤ (cA : Int) := oa_; have eA : cA < (l1.length : Int) := oa_; obtain ⟨fA, iA, bA⟩ := Kd.at_int jA.out cA dA eA; cases iA; replace bA := keep_cell HK.out bA (by first | (rw [add_block]; exact hf1 _ rfl (by omega)) | exact hf1 _ rfl (by omega) | exact hf1 fA rfl (by omega)); replace dA := eq_true dA; replace eA := eq_true eA))
 go_ret
 exact ⟨er_, iS92_0_, hs_ (IsS92.ge HI0.out), kp0_⟩

/-! ### spec_l1Cur_of: function 75 -/
def spec_l1Cur_of.f (s0_0 : List Int) (s0_1 : Int) (s0_2 : Int) (l1 : List ByteArray) : Option (ByteArray × Int × Int) := (spec_l1Cur_pick.f s0_0 s0_1 s0_2 (l1.length : Int)).bind fun bt318 => (if 0 ≤ bt318.1 then (if bt318.1 < (l1.length : Int) then (some (rdOf ByteArray.empty l1 bt318.1, bt318.2.1, bt318.2.2)) else (none)) else (none))
set_option maxHeartbeats 8000000 in
set_option maxRecDepth 100000 in
theorem spec_l1Cur_of.calls (g : Nat) (s0_0 : List Int) (s0_1 : Int) (s0_2 : Int) (A1 : Option Addr) (c1 : Nat) (l1 : List ByteArray) (r1 : ByteArray) (r2 : Int) (r3 : Int) (w0 w : World) (hI : IsS92 w0 w g s0_0 s0_1 s0_2) (hB : Below w0.heap.size w0 w) (hr1 : Kd.C Kd.string w A1 l1.length l1) (hc1 : l1.length ≤ c1) (hf1 : ∀ ad, A1 = some ad → 0 < l1.length → ad.block ≠ g) (h : spec_l1Cur_of.f s0_0 s0_1 s0_2 l1 = some (r1, r2, r3)) :
  Calls Try.prog 75 #[.pointer (some ⟨g, 0, none⟩), .slice A1 l1.length c1] w fun e w' => e = .returned (.string r1) ∧ IsS92 w0 w' g s0_0 r2 r3 ∧ Below w0.heap.size w0 w' ∧ KeepBut w w' g none := by
 have jA := Aside0.mk hr1
 have mA := Aside0.mk hc1
 clear hr1 hc1
 have HI0 := Aside0.mk hI
 have HK := Aside0.mk (KeepBut.refl w g none)
 have HL := Aside0.mk hB.size
 clear hI
 have nA := Aside0.mk hB.size
 have HB := Aside0.mk hB
 clear hB
 have H : ((spec_l1Cur_pick.f s0_0 s0_1 s0_2 (l1.length : Int)).bind fun aA => (if 0 ≤ aA.1 then (if aA.1 < (l1.length : Int) then (some (rdOf ByteArray.empty l1 aA.1, aA.2.1, aA.2.2)) else (none)) else (none))) = some (r1, r2, r3) := h
 clear h
 replace H := bnd_ H
 obtain ⟨⟨cA, gA, hA⟩, A3, H⟩ := H
 replace H := red_ H
 replace H := ifs_ H
 obtain ⟨c4, H⟩ := H
 have kA := decide_eq_true c4
 clear c4
 replace H := ifs_ H
 obtain ⟨c5, H⟩ := H
 have lA := decide_eq_true c5
 clear c5
 simp only [Option.some.injEq, Prod.mk.injEq] at H
 obtain ⟨rfl, rfl, rfl⟩ := H
 go_enter Try.func75, Try.ntmps75
 go_wp2_with (first | ((with_reducible refine gate_callee (f := 74) rfl ?_); refine gl_ 9 Try.func74 #[.pointer (some ⟨g, 0, none⟩), .int .i64 (l1.length : Int)] rfl ma_ ?_; (with_reducible refine (spec_l1Cur_pick.calls g s0_0 s0_1 s0_2 (l1.length : Int) cA gA hA w0 _ ?side1 ?side2 A3.out).mono ?_); (case side1 => exact iS92_0_); (case side2 => exact hs_ (IsS92.ge HI0.out)); rintro e w6 ⟨rfl, hi, hb, hk⟩; refine ⟨_, rfl, ?_⟩; replace HK := Aside0.mk (KeepBut.trans (kp0_) hk (.inl rfl)); replace HB := Aside0.mk (hb); replace HI0 := Aside0.mk (hi); (try clear hb); (try clear hb2); (try clear hk); (try clear hi); have dA : 0 ≤ (cA : Int) := oa_; have eA : cA < (l1.length : Int) := oa_; obtain ⟨fA, iA, bA⟩ := Kd.at_string jA.out cA dA eA; cases iA; replace bA := keep_cell HK.out bA (by first | (rw [add_block]; exact hf1 _ rfl (by omega)) | exact hf1 _ rfl (by omega) | exact hf1 fA rfl (by omega)); replace dA := eq_true dA; replace eA := eq_true eA))
 go_ret
 exact ⟨er_, iS92_0_, hs_ (IsS92.ge HI0.out), kp0_⟩

/-! ### spec_l1Cur_recordText: function 93 -/
def spec_l1Cur_recordText.f (s0_0 : List Int) (s0_1 : Int) (s0_2 : Int) : Option (ByteArray × Int × Int) := (spec_l1Cur_of.f s0_0 s0_1 s0_2 (([(⟨#[]⟩ : ByteArray), (⟨#[97]⟩ : ByteArray), (⟨#[114, 101, 99]⟩ : ByteArray), (⟨#[0, 255]⟩ : ByteArray), (⟨#[115, 111, 109, 101, 32, 109, 111, 114, 101, 32, 116, 101, 120, 116, 32, 111, 102, 32, 105, 116]⟩ : ByteArray)] : List ByteArray))).bind fun bt325 => (some (bt325.1, bt325.2.1, bt325.2.2))
set_option maxHeartbeats 8000000 in
set_option maxRecDepth 100000 in
theorem spec_l1Cur_recordText.calls (g : Nat) (s0_0 : List Int) (s0_1 : Int) (s0_2 : Int) (r1 : ByteArray) (r2 : Int) (r3 : Int) (w0 w : World) (hI : IsS92 w0 w g s0_0 s0_1 s0_2) (hB : Below w0.heap.size w0 w) (h : spec_l1Cur_recordText.f s0_0 s0_1 s0_2 = some (r1, r2, r3)) :
  Calls Try.prog 93 #[.pointer (some ⟨g, 0, none⟩)] w fun e w' => e = .returned (.string r1) ∧ IsS92 w0 w' g s0_0 r2 r3 ∧ Below w0.heap.size w0 w' ∧ KeepBut w w' g none := by
 have HI0 := Aside0.mk hI
 have HK := Aside0.mk (KeepBut.refl w g none)
 have HL := Aside0.mk hB.size
 clear hI
 have nA := Aside0.mk hB.size
 have HB := Aside0.mk hB
 clear hB
 have H : ((spec_l1Cur_of.f s0_0 s0_1 s0_2 (([(⟨#[]⟩ : ByteArray), (⟨#[97]⟩ : ByteArray), (⟨#[114, 101, 99]⟩ : ByteArray), (⟨#[0, 255]⟩ : ByteArray), (⟨#[115, 111, 109, 101, 32, 109, 111, 114, 101, 32, 116, 101, 120, 116, 32, 111, 102, 32, 105, 116]⟩ : ByteArray)] : List ByteArray))).bind fun aA => (some (aA.1, aA.2.1, aA.2.2))) = some (r1, r2, r3) := h
 clear h
 obtain ⟨eA, cA⟩ : ∃ y_ : List ByteArray, y_ = (([(⟨#[]⟩ : ByteArray), (⟨#[97]⟩ : ByteArray), (⟨#[114, 101, 99]⟩ : ByteArray), (⟨#[0, 255]⟩ : ByteArray), (⟨#[115, 111, 109, 101, 32, 109, 111, 114, 101, 32, 116, 101, 120, 116, 32, 111, 102, 32, 105, 116]⟩ : ByteArray)] : List ByteArray)) := ⟨_, rfl⟩
 replace H : ((spec_l1Cur_of.f s0_0 s0_1 s0_2 eA).bind fun aA => (some (aA.1, aA.2.1, aA.2.2))) = some (r1, r2, r3) := by first | (rw [cA]; with_reducible exact H) | (have H2_ := (Option.bind_some _ _).symm.trans H; rw [cA]; with_reducible exact H2_) | (have H2_ := (Option.bind_some _ _).symm.trans H; with_reducible exact H2_) | with_reducible exact H | (rw [cA]; exact H) | exact H
 have dA := Aside0.mk cA
 clear cA
 replace H := bnd_ H
 obtain ⟨⟨gA, hA, iA⟩, A2, H⟩ := H
 replace H := red_ H
 simp only [Option.some.injEq, Prod.mk.injEq] at H
 obtain ⟨rfl, rfl, rfl⟩ := H
 go_enter Try.func93, Try.ntmps93
 go_wp2_with (first | ((with_reducible refine gate_dst (N := 4) rfl ?_); refine Kd.R_lit Kd.string _ 9 ?hg (N := 4) ?hd (xs := ([(⟨#[]⟩ : ByteArray), (⟨#[97]⟩ : ByteArray), (⟨#[114, 101, 99]⟩ : ByteArray), (⟨#[0, 255]⟩ : ByteArray), (⟨#[115, 111, 109, 101, 32, 109, 111, 114, 101, 32, 116, 101, 120, 116, 32, 111, 102, 32, 105, 116]⟩ : ByteArray)] : List ByteArray)) (inner := [.string (⟨#[]⟩ : ByteArray), .string (⟨#[97]⟩ : ByteArray), .string (⟨#[114, 101, 99]⟩ : ByteArray), .string (⟨#[0, 255]⟩ : ByteArray), .string (⟨#[115, 111, 109, 101, 32, 109, 111, 114, 101, 32, 116, 101, 120, 116, 32, 111, 102, 32, 105, 116]⟩ : ByteArray)]) (ok := fun _ => True) (okp := fun _ => True) ?hr ?hp (fun _ hk => hk) trivial (Below.refl _ _) (Nat.le_refl _) (by simp) ?_; (case hd => rfl); (case hg => rfl); (case hr => first | (go_simp; done) | (go_simp; rfl)); (case hp => exact (Reps.one (show Kd.M Kd.string _ _ _ (⟨#[]⟩ : ByteArray) [.string (⟨#[]⟩ : ByteArray)] from rfl) (Reps.one (show Kd.M Kd.string _ _ _ (⟨#[97]⟩ : ByteArray) [.string (⟨#[97]⟩ : ByteArray)] from rfl) (Reps.one (show Kd.M Kd.string _ _ _ (⟨#[114, 101, 99]⟩ : ByteArray) [.string (⟨#[114, 101, 99]⟩ : ByteArray)] from rfl) (Reps.one (show Kd.M Kd.string _ _ _ (⟨#[0, 255]⟩ : ByteArray) [.string (⟨#[0, 255]⟩ : ByteArray)] from rfl) (Reps.one (show Kd.M Kd.string _ _ _ (⟨#[115, 111, 109, 101, 32, 109, 111, 114, 101, 32, 116, 101, 120, 116, 32, 111, 102, 32, 105, 116]⟩ : ByteArray) [.string (⟨#[115, 111, 109, 101, 32, 109, 111, 114, 101, 32, 116, 101, 120, 116, 32, 111, 102, 32, 105, 116]⟩ : ByteArray)] from rfl) (Reps.none _ _))))))); intro jA w3 fA hb hg_ hnew_; clear hg_ hnew_; (first | rw [← dA.out] at fA | (simp only [Int.reduceToNat] at fA; rw [← dA.out] at fA)); have bA := Aside0.mk (Kd.R_lower fA (keep_size (w := w) (g := g) (row := none) (kp0_))); replace HK := Aside0.mk (KeepBut.trans (kp0_) (KeepBut.of_below hb g none) (.inl rfl)); replace HB := Aside0.mk (below_step (hs_ (IsS92.ge HI0.out)) hb); replace HI0 := Aside0.mk (IsS92.below (iS92_0_) hb); clear hb fA; obtain ⟨kA, lA, mA⟩ := Kd.R_slice bA.out; subst mA) | ((with_reducible refine gate_callee (f := 75) rfl ?_); refine gl_ 5 Try.func75 #[.pointer (some ⟨g, 0, none⟩), .slice kA eA.length lA] rfl ma_ ?_; (with_reducible refine (spec_l1Cur_of.calls g s0_0 s0_1 s0_2 _ _ eA gA hA iA w0 _ ?side1 ?side2 ?side3 ?side4 ?side5 A2.out).mono ?_); (case side1 => exact iS92_0_); (case side2 => exact hs_ (IsS92.ge HI0.out)); (case side3 => exact cs_ ((Kd.R_reads' bA.out).2.2)); (case side4 => exact (Kd.R_reads' bA.out).2.1); (case side5 => exact far_slice (IsS92.own_ne HI0.out bA.out (by decide))); rintro e w6 ⟨rfl, hi, hb, hk⟩; refine ⟨_, rfl, ?_⟩; replace bA := Aside0.mk (Kd.R_mono (Kd.R_keep (IsS92.apart (show IsS92 w0 _ g s0_0 s0_1 s0_2 from iS92_0_) (kr_ bA.out) (by decide)) hk (fun _ h => h.2)) (fun _ h => h.1)); replace HK := Aside0.mk (KeepBut.trans (kp0_) hk (.inl rfl)); replace HB := Aside0.mk (hb); replace HI0 := Aside0.mk (hi); (try clear hb); (try clear hb2); (try clear hk); (try clear hi)))
 go_ret
 exact ⟨er_, iS92_0_, hs_ (IsS92.ge HI0.out), kp0_⟩

/-! ### spec_l1Cur_batch: function 71 -/
def spec_l1Cur_batch.l0 : Nat → Int → List Int → Int → Int → Int → Int → Int → Int → List ByteArray → Option (Int × Int × Int × Int × List ByteArray × Int × Int)
 | 0, _, _, _, _, _, _, _, _, _ => none
 | k + 1, x4, x1000, x1001, x1002, x342000, x342001, x342002, x342003, x342004 => if x4 > 0 then ((spec_l1Cur_recordText.f x1000 x1001 x1002).bind fun bt345 => (if x342004.length < 8796093022208 then (spec_l1Cur_batch.l0 k (wrap64 (x4 - 1)) x1000 bt345.2.1 bt345.2.2 x342000 x342001 x342002 x342003 (x342004 ++ [bt345.1])) else (none))) else ((spec_l1Cur_pick.f x1000 x1001 x1002 40).bind fun bt351 => (if bt351.1 = 0 then ((spec_l1Cur_among.f x1000 bt351.2.1 bt351.2.2 (([(-1), 100000, 100001] : List Int))).bind fun bt357 => (some (bt357.1, x342001, x342002, x342003, x342004, bt357.2.1, bt357.2.2))) else (if bt351.1 = 1 then (some (x342000, x342001, x342002, x342003, ([] : List ByteArray), bt351.2.1, bt351.2.2)) else (if bt351.1 = 2 then ((spec_l1Cur_among.f x1000 bt351.2.1 bt351.2.2 (([(-1), 1000, 1001] : List Int))).bind fun bt363 => (some (x342000, bt363.1, x342002, x342003, x342004, bt363.2.1, bt363.2.2))) else (if bt351.1 = 3 then (if 0 < (x342004.length : Int) then (some (x342000, x342001, x342002, x342003, (x342004.set (0 : Int).toNat (⟨#[97, 32, 116, 101, 120, 116, 32, 111, 102, 32, 109, 111, 114, 101, 32, 116, 104, 97, 110, 32, 50, 48]⟩ : ByteArray)), bt351.2.1, bt351.2.2)) else (none)) else (some (x342000, x342001, x342002, x342003, x342004, bt351.2.1, bt351.2.2)))))))
def spec_l1Cur_batch.f (k : Nat) (s0_0 : List Int) (s0_1 : Int) (s0_2 : Int) : Option (Int × Int × Int × Int × List ByteArray × Int × Int) := (spec_l1Cur_pick.f s0_0 s0_1 s0_2 50).bind fun bt329 => ((spec_l1Cur_pick.f s0_0 bt329.2.1 bt329.2.2 4).bind fun bt332 => ((spec_l1Cur_pick.f s0_0 bt332.2.1 bt332.2.2 3).bind fun bt335 => ((spec_l1Cur_pick.f s0_0 bt335.2.1 bt335.2.2 9).bind fun bt338 => ((spec_l1Cur_pick.f s0_0 bt338.2.1 bt338.2.2 3).bind fun bt342 => (spec_l1Cur_batch.l0 k (wrap64 (1 + bt342.1)) s0_0 bt342.2.1 bt342.2.2 bt329.1 bt332.1 bt335.1 bt338.1 ([] : List ByteArray))))))
theorem spec_l1Cur_batch.mono_l : ∀ k, (∀ y0 y1 y2 y3 y4 y5 y6 y7 y8, LeO (spec_l1Cur_batch.l0 k y0 y1 y2 y3 y4 y5 y6 y7 y8) (spec_l1Cur_batch.l0 (k + 1) y0 y1 y2 y3 y4 y5 y6 y7 y8))
 | 0 => fun _ _ _ _ _ _ _ _ _ r h => by simp [spec_l1Cur_batch.l0] at h
 | k + 1 => by
  have ih0 := spec_l1Cur_batch.mono_l k
  ·intro y0 y1 y2 y3 y4 y5 y6 y7 y8
   unfold spec_l1Cur_batch.l0
   repeat' first
   | (with_reducible first | apply ih0 | exact LeO.refl _ | exact LeO.none _ | refine LeO.ite ?_ ?_ | refine LeO.bind ?_ (fun _ => ?_))
theorem spec_l1Cur_batch.mono : ∀ a0 a1 a2 k, LeO (spec_l1Cur_batch.f k a0 a1 a2) (spec_l1Cur_batch.f (k + 1) a0 a1 a2) := by
 intro a0 a1 a2 k
 have ih0 := spec_l1Cur_batch.mono_l k
 unfold spec_l1Cur_batch.f
 repeat' first
   | (with_reducible first | apply ih0 | exact LeO.refl _ | exact LeO.none _ | refine LeO.ite ?_ ?_ | refine LeO.bind ?_ (fun _ => ?_))
def spec_l1Cur_batch.T5 : Bool × List (List Nat × List Nat) := (true, [([], []), ([0], [0]), ([], []), ([2], [2]), ([3], [3]), ([1, 4, 3], [1, 4]), ([0, 1, 2, 3, 4, 5], []), ([6, 5, 5, 0, 1, 2, 3, 4, 5], [5, 6])])
def spec_l1Cur_batch.B5 : List Nat := [0, 1, 0, 4, 12, 31, 63, 127]
theorem spec_l1Cur_batch.tab5 : rtab .any (opsOf Try.f71 5) = spec_l1Cur_batch.T5 := by kernel_rfl
theorem spec_l1Cur_batch.bits5 : waitsOk spec_l1Cur_batch.T5.2 spec_l1Cur_batch.B5 = true := by kernel_rfl
set_option maxHeartbeats 8000000 in
set_option maxRecDepth 100000 in
theorem spec_l1Cur_batch.calls (k : Nat) (g : Nat) (s0_0 : List Int) (s0_1 : Int) (s0_2 : Int) (r1 : Int) (r2 : Int) (r3 : Int) (r4 : Int) (r5 : List ByteArray) (r6 : Int) (r7 : Int) (w0 w : World) (hI : IsS92 w0 w g s0_0 s0_1 s0_2) (hB : Below w0.heap.size w0 w) (h : spec_l1Cur_batch.f k s0_0 s0_1 s0_2 = some (r1, r2, r3, r4, r5, r6, r7)) :
  Calls Try.prog 71 #[.pointer (some ⟨g, 0, none⟩)] w fun e w' => ∃ v4_ : Value, e = .returned (.agg #[.int .i64 r1, .int .i64 r2, .int .i64 r3, .int .i64 r4, v4_]) ∧ Kd.R Kd.string 9 w' w.heap.size (fun _ => True) v4_ r5 ∧ IsS92 w0 w' g s0_0 r6 r7 ∧ Below w0.heap.size w0 w' ∧ KeepBut w w' g none := by
 have hu44 := Try.underlying44
 have HI0 := Aside0.mk hI
 have HK := Aside0.mk (KeepBut.refl w g none)
 have HL := Aside0.mk hB.size
 clear hI
 have dJ := Aside0.mk hB.size
 have HB := Aside0.mk hB
 clear hB
 have H : ((spec_l1Cur_pick.f s0_0 s0_1 s0_2 50).bind fun jB => ((spec_l1Cur_pick.f s0_0 jB.2.1 jB.2.2 4).bind fun kB => ((spec_l1Cur_pick.f s0_0 kB.2.1 kB.2.2 3).bind fun lB => ((spec_l1Cur_pick.f s0_0 lB.2.1 lB.2.2 9).bind fun mB => ((spec_l1Cur_pick.f s0_0 mB.2.1 mB.2.2 3).bind fun nB => (spec_l1Cur_batch.l0 k (wrap64 (1 + nB.1)) s0_0 nB.2.1 nB.2.2 jB.1 kB.1 lB.1 mB.1 ([] : List ByteArray))))))) = some (r1, r2, r3, r4, r5, r6, r7) := h
 clear h
 replace H := bnd_ H
 obtain ⟨⟨rA, vC, wC⟩, A2, H⟩ := H
 replace H := red_ H
 replace H := bnd_ H
 obtain ⟨⟨uA, xC, yC⟩, A3, H⟩ := H
 replace H := red_ H
 replace H := bnd_ H
 obtain ⟨⟨sA, zC, aD⟩, A4, H⟩ := H
 replace H := red_ H
 replace H := bnd_ H
 obtain ⟨⟨vA, uB, vB⟩, A5, H⟩ := H
 replace H := red_ H
 replace H := bnd_ H
 obtain ⟨⟨bD, cD, dD⟩, A6, H⟩ := H
 replace H := red_ H
 have H' := Aside0.mk H
 clear H
 go_enter Try.func71, Try.ntmps71
 go_wp2_with (first | ((with_reducible refine gate_dst (N := 2) rfl ?_); refine bq_ (N := 2) #[.int .i64 0, .int .i64 0, .int .i64 0, .int .i64 0, .slice none 0 0] 44 ?_; intro jA hg w7 eA hb; replace HB := Aside0.mk (below_step (hs_ (IsS92.ge HI0.out)) hb); have hA := Aside0.mk ((by rw [hg]; exact (keep_size (w := w) (g := g) (row := none) (kp0_)) : w.heap.size ≤ jA)); have pA := Aside0.mk ((Nat.le_trans dJ.out (by rw [hg]; exact (keep_size (w := w) (g := g) (row := none) (kp0_)) : w.heap.size ≤ jA) : w0.heap.size ≤ jA)); replace HK := Aside0.mk (KeepBut.trans (kp0_) (KeepBut.of_below hb g none) (.inl rfl)); have bA := Aside0.mk ((by rw [hg]; exact Nat.ne_of_lt (IsS92.lt (show IsS92 w0 _ g s0_0 s0_1 s0_2 from iS92_0_)) : g ≠ jA)); have gA := Aside0.mk ((by rw [hg]; exact Nat.ne_of_gt (IsS92.lt (show IsS92 w0 _ g s0_0 s0_1 s0_2 from iS92_0_)) : jA ≠ g)); replace HI0 := Aside0.mk (IsS92.below (iS92_0_) hb); clear hb hg) | ((with_reducible refine gate_callee (f := 74) rfl ?_); refine gl_ 6 Try.func74 #[.pointer (some ⟨g, 0, none⟩), .int .i64 50] rfl ma_ ?_; (with_reducible refine (spec_l1Cur_pick.calls g s0_0 s0_1 s0_2 50 rA vC wC w0 _ ?side1 ?side2 A2.out).mono ?_); (case side1 => exact iS92_1_ bA.out); (case side2 => exact hs2_ (IsS92.ge HI0.out) pA.out); rintro e w8 ⟨rfl, hi, hb, hk⟩; refine ⟨_, rfl, ?_⟩; replace eA := Aside0.mk (KeepBut.blk hk (g' := jA) (o := .cells #[.int .i64 0, .int .i64 0, .int .i64 0, .int .i64 0, .slice none 0 0] 44 (0, 0)) (kb_ eA.out) gA.out (by simp)); replace HK := Aside0.mk (KeepBut.trans (kp1_ hA.out) hk (.inl rfl)); replace HB := Aside0.mk (hb); replace HI0 := Aside0.mk (hi); (try clear hb); (try clear hb2); (try clear hk); (try clear hi)) | ((with_reducible refine gate_callee (f := 74) rfl ?_); refine gl_ 8 Try.func74 #[.pointer (some ⟨g, 0, none⟩), .int .i64 4] rfl ma_ ?_; (with_reducible refine (spec_l1Cur_pick.calls g s0_0 vC wC 4 uA xC yC w0 _ ?side1 ?side2 A3.out).mono ?_); (case side1 => exact iS92_1_ bA.out); (case side2 => exact hs2_ (IsS92.ge HI0.out) pA.out); rintro e w9 ⟨rfl, hi, hb, hk⟩; refine ⟨_, rfl, ?_⟩; replace eA := Aside0.mk (KeepBut.blk hk (g' := jA) (o := .cells #[.int .i64 0, .int .i64 0, .int .i64 0, .int .i64 0, .slice none 0 0] 44 (0, 0)) (kb_ eA.out) gA.out (by simp)); replace HK := Aside0.mk (KeepBut.trans (kp1_ hA.out) hk (.inl rfl)); replace HB := Aside0.mk (hb); replace HI0 := Aside0.mk (hi); (try clear hb); (try clear hb2); (try clear hk); (try clear hi)) | ((with_reducible refine gate_callee (f := 74) rfl ?_); refine gl_ 10 Try.func74 #[.pointer (some ⟨g, 0, none⟩), .int .i64 3] rfl ma_ ?_; (with_reducible refine (spec_l1Cur_pick.calls g s0_0 xC yC 3 sA zC aD w0 _ ?side1 ?side2 A4.out).mono ?_); (case side1 => exact iS92_1_ bA.out); (case side2 => exact hs2_ (IsS92.ge HI0.out) pA.out); rintro e bL ⟨rfl, hi, hb, hk⟩; refine ⟨_, rfl, ?_⟩; replace eA := Aside0.mk (KeepBut.blk hk (g' := jA) (o := .cells #[.int .i64 0, .int .i64 0, .int .i64 0, .int .i64 0, .slice none 0 0] 44 (0, 0)) (kb_ eA.out) gA.out (by simp)); replace HK := Aside0.mk (KeepBut.trans (kp1_ hA.out) hk (.inl rfl)); replace HB := Aside0.mk (hb); replace HI0 := Aside0.mk (hi); (try clear hb); (try clear hb2); (try clear hk); (try clear hi)) | ((with_reducible refine gate_callee (f := 74) rfl ?_); refine gl_ 12 Try.func74 #[.pointer (some ⟨g, 0, none⟩), .int .i64 9] rfl ma_ ?_; (with_reducible refine (spec_l1Cur_pick.calls g s0_0 zC aD 9 vA uB vB w0 _ ?side1 ?side2 A5.out).mono ?_); (case side1 => exact iS92_1_ bA.out); (case side2 => exact hs2_ (IsS92.ge HI0.out) pA.out); rintro e cL ⟨rfl, hi, hb, hk⟩; refine ⟨_, rfl, ?_⟩; replace eA := Aside0.mk (KeepBut.blk hk (g' := jA) (o := .cells #[.int .i64 0, .int .i64 0, .int .i64 0, .int .i64 0, .slice none 0 0] 44 (0, 0)) (kb_ eA.out) gA.out (by simp)); replace HK := Aside0.mk (KeepBut.trans (kp1_ hA.out) hk (.inl rfl)); replace HB := Aside0.mk (hb); replace HI0 := Aside0.mk (hi); (try clear hb); (try clear hb2); (try clear hk); (try clear hi)) | ((with_reducible refine gate_dst (N := 3) rfl ?_); refine bq_ (N := 3) #[.int .i64 0, .int .i64 0, .int .i64 0, .int .i64 0, .slice none 0 0] 44 ?_; intro kA hg dL cA hb; replace HB := Aside0.mk (below_step (hs2_ (IsS92.ge HI0.out) pA.out) hb); have qA := Aside0.mk ((by rw [hg]; exact (keep_size (w := w) (g := g) (row := none) (kp1_ hA.out)) : w.heap.size ≤ kA)); have tA := Aside0.mk ((Nat.le_trans dJ.out (by rw [hg]; exact (keep_size (w := w) (g := g) (row := none) (kp1_ hA.out)) : w.heap.size ≤ kA) : w0.heap.size ≤ kA)); replace HK := Aside0.mk (KeepBut.trans (kp1_ hA.out) (KeepBut.of_below hb g none) (.inl rfl)); have iA := nl_ eA hg; have wA := ng_ eA hg; replace eA := bK_ eA hb; have dA := Aside0.mk ((by rw [hg]; exact Nat.ne_of_lt (IsS92.lt (show IsS92 w0 _ g s0_0 uB vB from iS92_1_ bA.out)) : g ≠ kA)); have lA := Aside0.mk ((by rw [hg]; exact Nat.ne_of_gt (IsS92.lt (show IsS92 w0 _ g s0_0 uB vB from iS92_1_ bA.out)) : kA ≠ g)); replace HI0 := Aside0.mk (IsS92.below (iS92_1_ bA.out) hb); clear hb hg; have eJ := wA.out; have fJ := iA.out; have gJ := lA.out; have hJ := dA.out; obtain ⟨wB, xB, yB, zB, aC, bC, cC, dC, eC, fC⟩ := cf5_ cA.out) | ((with_reducible refine gate_callee (f := 74) rfl ?_); refine gl_ 15 Try.func74 #[.pointer (some ⟨g, 0, none⟩), .int .i64 3] rfl ma_ ?_; (with_reducible refine (spec_l1Cur_pick.calls g s0_0 uB vB 3 bD cD dD w0 _ ?side1 ?side2 A6.out).mono ?_); (case side1 => exact iS92_2_ bA.out dA.out); (case side2 => exact hs3_ (IsS92.ge HI0.out) pA.out tA.out); rintro e eL ⟨rfl, hi, hb, hk⟩; refine ⟨_, rfl, ?_⟩; replace eA := Aside0.mk (KeepBut.blk hk (g' := jA) (o := .cells #[.int .i64 0, .int .i64 0, .int .i64 0, .int .i64 0, .slice none 0 0] 44 (0, 0)) (uf_ eA iA.out) gA.out (by simp)); replace cA := Aside0.mk (KeepBut.blk hk (g' := kA) (o := .cells #[.int .i64 rA, .int .i64 uA, .int .i64 sA, .int .i64 vA, .slice none 0 0] 44 (0, 0)) (up_ cA) lA.out (by simp)); replace HK := Aside0.mk (KeepBut.trans (kp2_ hA.out qA.out) hk (.inl rfl)); replace HB := Aside0.mk (hb); replace HI0 := Aside0.mk (hi); (try clear hb); (try clear hb2); (try clear hk); (try clear hi)))
 go_loopg [4] k (fun kq v4 w' => ∃ (oB : Int) (mA : Int) (nA : Int) (fA : List ByteArray) (oA : Value), v4 = .int .i64 oB ∧ Aside0 (spec_l1Cur_batch.l0 kq oB s0_0 mA nA rA uA sA vA fA = some (r1, r2, r3, r4, r5, r6, r7)) ∧ Aside0 (kq ≤ k) ∧ Aside0 (Kd.R Kd.string 9 w' w.heap.size (fun _ => True) oA fA) ∧ Aside0 (w'.heap[jA]? = some (.cells #[.int .i64 0, .int .i64 0, .int .i64 0, .int .i64 0, (.slice none 0 0)] 44 (0, 0))) ∧ Aside0 (w'.heap[kA]? = some (.cells #[.int .i64 rA, .int .i64 uA, .int .i64 sA, .int .i64 vA, oA] 44 (0, 0))) ∧ Aside0 (IsS92 w0 w' g s0_0 mA nA) ∧ Aside0 (KeepBut w w' g none) ∧ Aside0 (Below w0.heap.size w0 w'))
 case atStart => exact ⟨(wrap64 (1 + bD)), (cD), (dD), (([] : List ByteArray)), (.slice none 0 0), sr_, H', ⟨Nat.le_refl _⟩, ⟨ni_⟩, ⟨kb_ eA.out⟩, ⟨kb_ cA.out⟩, ⟨iS92_2_ bA.out dA.out⟩, ⟨kp2_ hA.out qA.out⟩, ⟨hs3_ (IsS92.ge HI0.out) pA.out tA.out⟩⟩
 case round =>
  clear H'
  try clear wB
  try clear xB
  try clear yB
  try clear zB
  try clear aC
  try clear bC
  try clear cC
  try clear dC
  try clear eC
  try clear fC
  obtain ⟨oB, mA, nA, fA, oA, rfl, HA, iJ, aA, eA, cA, HI0, HK, HB⟩ := hrel
  cases gk with
  | zero => exact absurd HA.out (by simp [spec_l1Cur_batch.l0])
  | succ k1 =>
   have H := HA.out
   clear HA
   simp only [spec_l1Cur_batch.l0] at H
   replace H := ite_ H
   obtain ⟨eD, H⟩ | ⟨eD, H⟩ := H
   ·have fD := dgt_ eD
    clear eD
    replace H := bnd_ H
    obtain ⟨⟨gC, lC, mC⟩, tK, H⟩ := H
    replace H := red_ H
    replace H := ifs_ H
    obtain ⟨jJ, H⟩ := H
    have gD := Aside0.mk jJ
    clear jJ
    obtain ⟨hC, cB⟩ : ∃ y_ : List ByteArray, y_ = (fA ++ [gC]) := ⟨_, rfl⟩
    replace H : (spec_l1Cur_batch.l0 k1 (wrap64 (oB - 1)) s0_0 lC mC rA uA sA vA hC) = some (r1, r2, r3, r4, r5, r6, r7) := by first | (rw [cB]; with_reducible exact H) | (have H2_ := (Option.bind_some _ _).symm.trans H; rw [cB]; with_reducible exact H2_) | (have H2_ := (Option.bind_some _ _).symm.trans H; with_reducible exact H2_) | with_reducible exact H | (rw [cB]; exact H) | exact H
    have hD := Aside0.mk cB
    clear cB
    have H' := Aside0.mk H
    clear H
    try go_wp2
    replace aA := qR_ aA
    replace eA := qK_ eA
    replace cA := qK_ cA
    replace HI0 := Aside0.mk (IsS92.drew HI0.out)
    replace HK := Aside0.mk (keep_drew HK.out)
    replace HB := qH_ HB
    refine start_ (n := 8) (S := fun w' => w'.cell? ⟨kA, 0, none⟩ = some (.int .i64 rA) ∧ w'.cell? ⟨kA, 1, none⟩ = some (.int .i64 uA) ∧ w'.cell? ⟨kA, 2, none⟩ = some (.int .i64 sA) ∧ w'.cell? ⟨kA, 3, none⟩ = some (.int .i64 vA) ∧ w'.cell? ⟨kA, 4, none⟩ = some (oA)) (ds := [7]) #[false, false, false, false, false, false, false, false] (by kernel_rfl) rfl rfl ⟨bt_ cA 0, bt_ cA 1, bt_ cA 2, bt_ cA 3, bt_ cA 4⟩ (fun hHeld => ?_); refine with_tabW spec_l1Cur_batch.tab5 spec_l1Cur_batch.bits5 (fun HT_ HW_ => ?_)
    generalize wr.drew = fL at aA eA cA HI0 HK HB hHeld ⊢
    refine pv_ 0 21 ?_
    refine pv_ 2 23 ?_
    refine tk_ 1 22 ?_
    refine on_ 3 24 (fun K hK => ?_)
    refine gs_ Try.func93 #[.pointer (some ⟨g, 0, none⟩)] rfl ma_ ?_
    with_reducible refine (spec_l1Cur_recordText.calls g s0_0 mA nA gC lC mC w0 _ ?side1 ?side2 tK.out).mono ?_
    (case side1 => exact iS92_2_ bA.out dA.out)
    (case side2 => exact hs3_ (IsS92.ge HI0.out) pA.out tA.out)
    rintro e gL ⟨rfl, hi, hb, hk⟩
    refine ⟨_, rfl, ?_⟩
    replace aA := Aside0.mk (Kd.R_mono (Kd.R_keep (IsS92.apart (show IsS92 w0 _ g s0_0 mA nA from iS92_2_ bA.out dA.out) (kr_ aA.out) (by decide)) hk (fun _ h => h.2)) (fun _ h => h.1))
    replace eA := Aside0.mk (KeepBut.blk hk (g' := jA) (o := .cells #[.int .i64 0, .int .i64 0, .int .i64 0, .int .i64 0, .slice none 0 0] 44 (0, 0)) (kb_ eA.out) gA.out (by simp))
    replace cA := Aside0.mk (KeepBut.blk hk (g' := kA) (o := .cells #[.int .i64 rA, .int .i64 uA, .int .i64 sA, .int .i64 vA, oA] 44 (0, 0)) (kb_ cA.out) lA.out (by simp))
    replace HK := Aside0.mk (KeepBut.trans (kp2_ hA.out qA.out) hk (.inl rfl))
    replace HB := Aside0.mk (hb)
    replace HI0 := Aside0.mk (hi)
    (try clear hb)
    (try clear hb2)
    (try clear hk)
    (try clear hi)
    refine hK.out _ _ ⟨bt_ cA 0, bt_ cA 1, bt_ cA 2, bt_ cA 3, bt_ cA 4⟩ (fun hHeld => ?_)
    clear hK K
    refine no_ ?_
    refine on_ 4 25 (fun K hK => ?_)
    refine value_ (w1 := ?_) (v := ?_) (by rfl) rfl ?_ ?_
    rotate_left 2
    ·go_simp
     constructor
     ·rfl
     ·rfl
    refine hK.out _ _ ⟨(blk_cell (blk_alloc cA.out _) 0).trans rfl, (blk_cell (blk_alloc cA.out _) 1).trans rfl, (blk_cell (blk_alloc cA.out _) 2).trans rfl, (blk_cell (blk_alloc cA.out _) 3).trans rfl, (blk_cell (blk_alloc cA.out _) 4).trans rfl⟩ (fun hHeld => ?_)
    clear hK K
    refine no_ ?_
    refine on_ 5 26 (fun K hK => ?_)
    refine Kd.R_append_step Kd.string w.heap.size (by rfl) (.tmp 22) (.tmp 25) 38 9 (.string ⟨#[]⟩) 16 rfl Try.underlying38 info9 rfl (by decide) (by omega) oA fA gC [.string gC] (fun _ => True) (fun _ => False) rfl rfl ?aP (fun _ hk => hk.elim) ?aF ?aO (Below.refl _ _) ?aS ?aL ?_
    (case aP => exact rfl)
    (case aF => exact (fun _ _ => trivial))
    (case aO => exact (kr_ aA.out))
    (case aS => exact (keep_size (w := w) (g := g) (row := none) (kp2_ hA.out qA.out)))
    (case aL => have := gD.out; omega)
    intro uK vK ho hb hg hat
    rw [← hD.out] at ho
    replace eA := Aside0.mk (blk_grown (g := jA) (o := .cells #[.int .i64 0, .int .i64 0, .int .i64 0, .int .i64 0, .slice none 0 0] 44 (0, 0)) (kb_ eA.out) hg (Kd.R_ne aA.out eA.out (by decide)))
    replace cA := Aside0.mk (blk_grown (g := kA) (o := .cells #[.int .i64 rA, .int .i64 uA, .int .i64 sA, .int .i64 vA, oA] 44 (0, 0)) (kb_ cA.out) hg (Kd.R_ne aA.out cA.out (by decide)))
    replace HB := Aside0.mk (below_weaken (hs3_ (IsS92.ge HI0.out) pA.out tA.out) HL.out hb)
    replace HI0 := Aside0.mk (IsS92.grown (iS92_2_ bA.out dA.out) hg (IsS92.own_ne HI0.out aA.out (by decide)))
    replace HK := Aside0.mk (KeepBut.trans (kp2_ hA.out qA.out) (KeepBut.of_grown hg g) (Kd.R_base2 aA.out))
    have iC := Aside0.mk (ho)
    clear aA
    clear ho hb hg hat
    obtain ⟨iD, jD, kD⟩ := Kd.R_slice iC.out
    (first | subst kD | (injection kD with f1_ f2_ f3_; have f4_ := f1_.symm; have f5_ := f3_.symm; clear f1_ f2_ f3_; subst f4_; subst f5_))
    refine hK.out _ _ ⟨bt_ cA 0, bt_ cA 1, bt_ cA 2, bt_ cA 3, bt_ cA 4⟩ (fun hHeld => ?_)
    clear hK K
    refine no_ ?_
    refine pv_ 6 27 ?_
    refine last_ (i := 7) (N := none) #[true, true, true, true, true, true, true, true] rfl rfl (one_of HT_.out (by kernel_rfl)) (by decide) (fun K hK => ?_)
    have hs24 : vK.cell? ⟨kA, 4, none⟩ = some (oA) := bt_ cA 4
    have hfs24 := blk_frozen cA.out 4
    have hns24_0 := iA.out
    have hms24_0 := wA.out
    refine skip_ (w1 := ?_) (by rfl) rfl ?_ ?_
    rotate_left
    ·go_simp
     rfl
    refine hK.out _ _ ?_
    clear hK K
    refine done_ (done_of HT_.out (by kernel_rfl)) ?_
    try go_wp2
    go_roundg k1
    case measure => have := iJ.out; omega
    case rel => exact ⟨(wrap64 (oB - 1)), (lC), (mC), (hC), (.slice iD hC.length jD), sr_, H', ⟨by have := iJ.out; omega⟩, ⟨rF_ (Kd.R_mono (Kd.R_far (p := ⟨kA, 4, none⟩) (Kd.R_types iC.out cA.out (by decide)) (fun _ hk => hk.2) (.slice iD hC.length jD)) (fun _ hk => trivial))⟩, ⟨uf_ eA iA.out⟩, ⟨up_ cA⟩, ⟨iS92_2_ bA.out dA.out⟩, ⟨kp2_ hA.out qA.out⟩, ⟨hs3_ (IsS92.ge HI0.out) pA.out tA.out⟩⟩
   have fD := dgf_ eD
   clear eD
   replace H := bnd_ H
   obtain ⟨⟨xA, yA, zA⟩, lD, H⟩ := H
   replace H := red_ H
   replace H := ite_ H
   obtain ⟨rC, H⟩ | ⟨rC, H⟩ := H
   ·have mD : (xA == 0) = true := beq_iff_eq.mpr rC
    have nD : (xA != 0) = false := bne_eq_false_iff_eq.mpr rC
    clear rC
    obtain ⟨nC, dB⟩ : ∃ y_ : List Int, y_ = (([(-1), 100000, 100001] : List Int)) := ⟨_, rfl⟩
    replace H : ((spec_l1Cur_among.f s0_0 yA zA nC).bind fun pB => (some (pB.1, uA, sA, vA, fA, pB.2.1, pB.2.2))) = some (r1, r2, r3, r4, r5, r6, r7) := by first | (rw [dB]; with_reducible exact H) | (have H2_ := (Option.bind_some _ _).symm.trans H; rw [dB]; with_reducible exact H2_) | (have H2_ := (Option.bind_some _ _).symm.trans H; with_reducible exact H2_) | with_reducible exact H | (rw [dB]; exact H) | exact H
    have jC := Aside0.mk dB
    clear dB
    replace H := bnd_ H
    obtain ⟨⟨gB, gI, iI⟩, wK, H⟩ := H
    replace H := red_ H
    simp only [Option.some.injEq, Prod.mk.injEq] at H
    obtain ⟨rfl, rfl, rfl, rfl, rfl, rfl, rfl⟩ := H
    go_wp2_with (first | ((with_reducible refine gate_callee (f := 74) rfl ?_); refine gl_ 29 Try.func74 #[.pointer (some ⟨g, 0, none⟩), .int .i64 40] rfl ma_ ?_; (with_reducible refine (spec_l1Cur_pick.calls g s0_0 mA nA 40 xA yA zA w0 _ ?side1 ?side2 lD.out).mono ?_); (case side1 => exact iS92_2_ bA.out dA.out); (case side2 => exact hs3_ (IsS92.ge HI0.out) pA.out tA.out); rintro e hL ⟨rfl, hi, hb, hk⟩; refine ⟨_, rfl, ?_⟩; replace aA := Aside0.mk (Kd.R_mono (Kd.R_keep (IsS92.apart (show IsS92 w0 _ g s0_0 mA nA from iS92_2_ bA.out dA.out) (kr_ aA.out) (by decide)) hk (fun _ h => h.2)) (fun _ h => h.1)); replace eA := Aside0.mk (KeepBut.blk hk (g' := jA) (o := .cells #[.int .i64 0, .int .i64 0, .int .i64 0, .int .i64 0, .slice none 0 0] 44 (0, 0)) (kb_ eA.out) gA.out (by simp)); replace cA := Aside0.mk (KeepBut.blk hk (g' := kA) (o := .cells #[.int .i64 rA, .int .i64 uA, .int .i64 sA, .int .i64 vA, oA] 44 (0, 0)) (kb_ cA.out) lA.out (by simp)); replace HK := Aside0.mk (KeepBut.trans (kp2_ hA.out qA.out) hk (.inl rfl)); replace HB := Aside0.mk (hb); replace HI0 := Aside0.mk (hi); (try clear hb); (try clear hb2); (try clear hk); (try clear hi)) | ((with_reducible refine gate_dst (N := 33) rfl ?_); refine Kd.R_lit (Kd.int .i64) _ 3 ?hg (N := 33) ?hd (xs := ([(-1), 100000, 100001] : List Int)) (inner := [.int .i64 (-1), .int .i64 100000, .int .i64 100001]) (ok := fun _ => True) (okp := fun _ => True) ?hr ?hp (fun _ hk => hk) trivial (Below.refl _ _) (Nat.le_refl _) (by simp) ?_; (case hd => rfl); (case hg => rfl); (case hr => first | (go_simp; done) | (go_simp; rfl)); (case hp => exact (Reps.one (show Kd.M (Kd.int .i64) _ _ _ (-1) [.int .i64 (-1)] from rfl) (Reps.one (show Kd.M (Kd.int .i64) _ _ _ 100000 [.int .i64 100000] from rfl) (Reps.one (show Kd.M (Kd.int .i64) _ _ _ 100001 [.int .i64 100001] from rfl) (Reps.none _ _))))); intro xK iL qB hb hg_ hnew_; clear hg_ hnew_; (first | rw [← jC.out] at qB | (simp only [Int.reduceToNat] at qB; rw [← jC.out] at qB)); replace aA := rB_ aA hb; have aB := Aside0.mk (Kd.R_lower qB (keep_size (w := w) (g := g) (row := none) (kp2_ hA.out qA.out))); replace eA := bK_ eA hb; replace cA := bK_ cA hb; replace HK := Aside0.mk (KeepBut.trans (kp2_ hA.out qA.out) (KeepBut.of_below hb g none) (.inl rfl)); replace HB := Aside0.mk (below_step (hs3_ (IsS92.ge HI0.out) pA.out tA.out) hb); replace HI0 := Aside0.mk (IsS92.below (iS92_2_ bA.out dA.out) hb); clear hb qB; obtain ⟨jI, kI, lI⟩ := Kd.R_slice aB.out; subst lI) | ((with_reducible refine gate_callee (f := 92) rfl ?_); refine gl_ 34 Try.func92 #[.pointer (some ⟨g, 0, none⟩), .slice jI nC.length kI] rfl ma_ ?_; (with_reducible refine (spec_l1Cur_among.calls g s0_0 yA zA _ _ nC gB gI iI w0 _ ?side1 ?side2 ?side3 ?side4 ?side5 wK.out).mono ?_); (case side1 => exact iS92_2_ bA.out dA.out); (case side2 => exact hs3_ (IsS92.ge HI0.out) pA.out tA.out); (case side3 => exact cs_ ((Kd.R_reads' aB.out).2.2)); (case side4 => exact (Kd.R_reads' aB.out).2.1); (case side5 => exact far_slice (IsS92.own_ne HI0.out aB.out (by decide))); rintro e jL ⟨rfl, hi, hb, hk⟩; refine ⟨_, rfl, ?_⟩; replace aA := Aside0.mk (Kd.R_mono (Kd.R_keep (IsS92.apart (show IsS92 w0 _ g s0_0 yA zA from iS92_2_ bA.out dA.out) (kr_ aA.out) (by decide)) hk (fun _ h => h.2)) (fun _ h => h.1)); replace eA := Aside0.mk (KeepBut.blk hk (g' := jA) (o := .cells #[.int .i64 0, .int .i64 0, .int .i64 0, .int .i64 0, .slice none 0 0] 44 (0, 0)) (kb_ eA.out) gA.out (by simp)); replace cA := Aside0.mk (KeepBut.blk hk (g' := kA) (o := .cells #[.int .i64 rA, .int .i64 uA, .int .i64 sA, .int .i64 vA, oA] 44 (0, 0)) (kb_ cA.out) lA.out (by simp)); replace aB := Aside0.mk (Kd.R_mono (Kd.R_keep (IsS92.apart (show IsS92 w0 _ g s0_0 yA zA from iS92_2_ bA.out dA.out) (kr_ aB.out) (by decide)) hk (fun _ h => h.2)) (fun _ h => h.1)); replace HK := Aside0.mk (KeepBut.trans (kp2_ hA.out qA.out) hk (.inl rfl)); replace HB := Aside0.mk (hb); replace HI0 := Aside0.mk (hi); (try clear hb); (try clear hb2); (try clear hk); (try clear hi); have kJ := wA.out; have lJ := iA.out; have mJ := lA.out; have nJ := dA.out; obtain ⟨zD, aE, bE, cE, dE, eE, fE, gE, hE, iE⟩ := cf5_ cA.out; have oJ := gA.out; have pJ := bA.out; obtain ⟨jE, kE, lE, mE, nE, oE, pE, qE, rE, sE⟩ := cf5_ eA.out; obtain ⟨mI, nI, oI⟩ := Kd.R_slice aA.out; subst oI))
    refine bodyPost_ret (results_cell_row rfl _ _ jA 44 #[.int .i64 gB, .int .i64 uA, .int .i64 sA, .int .i64 vA, .slice mI fA.length nI] (0, 0) _ rfl (by (with_reducible repeat (first | refine blk_drewN ?_ _ | refine blk_drew ?_ | refine blk_alloc ?_ _)); refine blk_put (cs := #[.int .i64 gB, .int .i64 uA, .int .i64 sA, .int .i64 vA, .slice none 0 0]) ?_ 4 _ rfl; (with_reducible repeat (first | refine blk_drewN ?_ _ | refine blk_drew ?_ | refine blk_alloc ?_ _)); refine blk_put (cs := #[.int .i64 gB, .int .i64 uA, .int .i64 sA, .int .i64 0, .slice none 0 0]) ?_ 3 _ rfl; (with_reducible repeat (first | refine blk_drewN ?_ _ | refine blk_drew ?_ | refine blk_alloc ?_ _)); refine blk_put (cs := #[.int .i64 gB, .int .i64 uA, .int .i64 0, .int .i64 0, .slice none 0 0]) ?_ 2 _ rfl; (with_reducible repeat (first | refine blk_drewN ?_ _ | refine blk_drew ?_ | refine blk_alloc ?_ _)); refine blk_put (cs := #[.int .i64 gB, .int .i64 0, .int .i64 0, .int .i64 0, .slice none 0 0]) ?_ 1 _ rfl; (with_reducible repeat (first | refine blk_drewN ?_ _ | refine blk_drew ?_ | refine blk_alloc ?_ _)); refine blk_put (cs := #[.int .i64 0, .int .i64 0, .int .i64 0, .int .i64 0, .slice none 0 0]) ?_ 0 _ rfl; (with_reducible repeat (first | refine blk_drewN ?_ _ | refine blk_drew ?_ | refine blk_alloc ?_ _)); refine blk_far ?_ iA.out _; (with_reducible repeat (first | refine blk_drewN ?_ _ | refine blk_drew ?_ | refine blk_alloc ?_ _)); exact eA.out) Try.underlying44 rfl (by kernel_rfl)) rfl ?_
    exact ⟨_, er_, Kd.R_mono (rF_ (Kd.R_far (p := ⟨kA, 0, none⟩) (Kd.R_types (Kd.R_types aA.out cA.out (by decide)) eA.out (by decide)) (fun _ hk => hk.1.2) (.int .i64 gB))) (fun _ hk => trivial), iS92_2_ bA.out dA.out, hs3_ (IsS92.ge HI0.out) pA.out tA.out, kp2_ hA.out qA.out⟩
   have mD : (xA == 0) = false := beq_eq_false_iff_ne.mpr rC
   have nD : (xA != 0) = true := bne_iff_ne.mpr rC
   replace H := ite_ H
   obtain ⟨sC, H⟩ | ⟨sC, H⟩ := H
   ·have oD : (xA == 1) = true := beq_iff_eq.mpr sC
    have pD : (xA != 1) = false := bne_eq_false_iff_eq.mpr sC
    clear sC
    simp only [Option.some.injEq, Prod.mk.injEq] at H
    obtain ⟨rfl, rfl, rfl, rfl, rfl, rfl, rfl⟩ := H
    go_wp2_with (first | ((with_reducible refine gate_callee (f := 74) rfl ?_); refine gl_ 29 Try.func74 #[.pointer (some ⟨g, 0, none⟩), .int .i64 40] rfl ma_ ?_; (with_reducible refine (spec_l1Cur_pick.calls g s0_0 mA nA 40 xA yA zA w0 _ ?side1 ?side2 lD.out).mono ?_); (case side1 => exact iS92_2_ bA.out dA.out); (case side2 => exact hs3_ (IsS92.ge HI0.out) pA.out tA.out); rintro e kL ⟨rfl, hi, hb, hk⟩; refine ⟨_, rfl, ?_⟩; replace aA := Aside0.mk (Kd.R_mono (Kd.R_keep (IsS92.apart (show IsS92 w0 _ g s0_0 mA nA from iS92_2_ bA.out dA.out) (kr_ aA.out) (by decide)) hk (fun _ h => h.2)) (fun _ h => h.1)); replace eA := Aside0.mk (KeepBut.blk hk (g' := jA) (o := .cells #[.int .i64 0, .int .i64 0, .int .i64 0, .int .i64 0, .slice none 0 0] 44 (0, 0)) (kb_ eA.out) gA.out (by simp)); replace cA := Aside0.mk (KeepBut.blk hk (g' := kA) (o := .cells #[.int .i64 rA, .int .i64 uA, .int .i64 sA, .int .i64 vA, oA] 44 (0, 0)) (kb_ cA.out) lA.out (by simp)); replace HK := Aside0.mk (KeepBut.trans (kp2_ hA.out qA.out) hk (.inl rfl)); replace HB := Aside0.mk (hb); replace HI0 := Aside0.mk (hi); (try clear hb); (try clear hb2); (try clear hk); (try clear hi); have qJ := wA.out; have rJ := iA.out; have sJ := lA.out; have tJ := dA.out; obtain ⟨tE, uE, vE, wE, xE, yE, zE, bF, cF, dF⟩ := cf5_ cA.out; have uJ := gA.out; have vJ := bA.out; obtain ⟨eF, fF, gF, hF, iF, jF, kF, lF, mF, nF⟩ := cf5_ eA.out))
    refine bodyPost_ret (results_cell_row rfl _ _ jA 44 #[.int .i64 rA, .int .i64 uA, .int .i64 sA, .int .i64 vA, .slice none 0 0] (0, 0) _ rfl (by (with_reducible repeat (first | refine blk_drewN ?_ _ | refine blk_drew ?_ | refine blk_alloc ?_ _)); refine blk_put (cs := #[.int .i64 rA, .int .i64 uA, .int .i64 sA, .int .i64 vA, .slice none 0 0]) ?_ 4 _ rfl; (with_reducible repeat (first | refine blk_drewN ?_ _ | refine blk_drew ?_ | refine blk_alloc ?_ _)); refine blk_put (cs := #[.int .i64 rA, .int .i64 uA, .int .i64 sA, .int .i64 0, .slice none 0 0]) ?_ 3 _ rfl; (with_reducible repeat (first | refine blk_drewN ?_ _ | refine blk_drew ?_ | refine blk_alloc ?_ _)); refine blk_put (cs := #[.int .i64 rA, .int .i64 uA, .int .i64 0, .int .i64 0, .slice none 0 0]) ?_ 2 _ rfl; (with_reducible repeat (first | refine blk_drewN ?_ _ | refine blk_drew ?_ | refine blk_alloc ?_ _)); refine blk_put (cs := #[.int .i64 rA, .int .i64 0, .int .i64 0, .int .i64 0, .slice none 0 0]) ?_ 1 _ rfl; (with_reducible repeat (first | refine blk_drewN ?_ _ | refine blk_drew ?_ | refine blk_alloc ?_ _)); refine blk_put (cs := #[.int .i64 0, .int .i64 0, .int .i64 0, .int .i64 0, .slice none 0 0]) ?_ 0 _ rfl; (with_reducible repeat (first | refine blk_drewN ?_ _ | refine blk_drew ?_ | refine blk_alloc ?_ _)); refine blk_far ?_ iA.out _; (with_reducible repeat (first | refine blk_drewN ?_ _ | refine blk_drew ?_ | refine blk_alloc ?_ _)); exact eA.out) Try.underlying44 rfl (by kernel_rfl)) rfl ?_
    exact ⟨_, er_, ni_, iS92_2_ bA.out dA.out, hs3_ (IsS92.ge HI0.out) pA.out tA.out, kp2_ hA.out qA.out⟩
   have oD : (xA == 1) = false := beq_eq_false_iff_ne.mpr sC
   have pD : (xA != 1) = true := bne_iff_ne.mpr sC
   replace H := ite_ H
   obtain ⟨tC, H⟩ | ⟨tC, H⟩ := H
   ·have qD : (xA == 2) = true := beq_iff_eq.mpr tC
    have rD : (xA != 2) = false := bne_eq_false_iff_eq.mpr tC
    clear tC
    obtain ⟨oC, eB⟩ : ∃ y_ : List Int, y_ = (([(-1), 1000, 1001] : List Int)) := ⟨_, rfl⟩
    replace H : ((spec_l1Cur_among.f s0_0 yA zA oC).bind fun rB => (some (rA, rB.1, sA, vA, fA, rB.2.1, rB.2.2))) = some (r1, r2, r3, r4, r5, r6, r7) := by first | (rw [eB]; with_reducible exact H) | (have H2_ := (Option.bind_some _ _).symm.trans H; rw [eB]; with_reducible exact H2_) | (have H2_ := (Option.bind_some _ _).symm.trans H; with_reducible exact H2_) | with_reducible exact H | (rw [eB]; exact H) | exact H
    have kC := Aside0.mk eB
    clear eB
    replace H := bnd_ H
    obtain ⟨⟨iB, pI, qI⟩, yK, H⟩ := H
    replace H := red_ H
    simp only [Option.some.injEq, Prod.mk.injEq] at H
    obtain ⟨rfl, rfl, rfl, rfl, rfl, rfl, rfl⟩ := H
    go_wp2_with (first | ((with_reducible refine gate_callee (f := 74) rfl ?_); refine gl_ 29 Try.func74 #[.pointer (some ⟨g, 0, none⟩), .int .i64 40] rfl ma_ ?_; (with_reducible refine (spec_l1Cur_pick.calls g s0_0 mA nA 40 xA yA zA w0 _ ?side1 ?side2 lD.out).mono ?_); (case side1 => exact iS92_2_ bA.out dA.out); (case side2 => exact hs3_ (IsS92.ge HI0.out) pA.out tA.out); rintro e lL ⟨rfl, hi, hb, hk⟩; refine ⟨_, rfl, ?_⟩; replace aA := Aside0.mk (Kd.R_mono (Kd.R_keep (IsS92.apart (show IsS92 w0 _ g s0_0 mA nA from iS92_2_ bA.out dA.out) (kr_ aA.out) (by decide)) hk (fun _ h => h.2)) (fun _ h => h.1)); replace eA := Aside0.mk (KeepBut.blk hk (g' := jA) (o := .cells #[.int .i64 0, .int .i64 0, .int .i64 0, .int .i64 0, .slice none 0 0] 44 (0, 0)) (kb_ eA.out) gA.out (by simp)); replace cA := Aside0.mk (KeepBut.blk hk (g' := kA) (o := .cells #[.int .i64 rA, .int .i64 uA, .int .i64 sA, .int .i64 vA, oA] 44 (0, 0)) (kb_ cA.out) lA.out (by simp)); replace HK := Aside0.mk (KeepBut.trans (kp2_ hA.out qA.out) hk (.inl rfl)); replace HB := Aside0.mk (hb); replace HI0 := Aside0.mk (hi); (try clear hb); (try clear hb2); (try clear hk); (try clear hi)) | ((with_reducible refine gate_dst (N := 42) rfl ?_); refine Kd.R_lit (Kd.int .i64) _ 3 ?hg (N := 42) ?hd (xs := ([(-1), 1000, 1001] : List Int)) (inner := [.int .i64 (-1), .int .i64 1000, .int .i64 1001]) (ok := fun _ => True) (okp := fun _ => True) ?hr ?hp (fun _ hk => hk) trivial (Below.refl _ _) (Nat.le_refl _) (by simp) ?_; (case hd => rfl); (case hg => rfl); (case hr => first | (go_simp; done) | (go_simp; rfl)); (case hp => exact (Reps.one (show Kd.M (Kd.int .i64) _ _ _ (-1) [.int .i64 (-1)] from rfl) (Reps.one (show Kd.M (Kd.int .i64) _ _ _ 1000 [.int .i64 1000] from rfl) (Reps.one (show Kd.M (Kd.int .i64) _ _ _ 1001 [.int .i64 1001] from rfl) (Reps.none _ _))))); intro zK mL sB hb hg_ hnew_; clear hg_ hnew_; (first | rw [← kC.out] at sB | (simp only [Int.reduceToNat] at sB; rw [← kC.out] at sB)); replace aA := rB_ aA hb; have bB := Aside0.mk (Kd.R_lower sB (keep_size (w := w) (g := g) (row := none) (kp2_ hA.out qA.out))); replace eA := bK_ eA hb; replace cA := bK_ cA hb; replace HK := Aside0.mk (KeepBut.trans (kp2_ hA.out qA.out) (KeepBut.of_below hb g none) (.inl rfl)); replace HB := Aside0.mk (below_step (hs3_ (IsS92.ge HI0.out) pA.out tA.out) hb); replace HI0 := Aside0.mk (IsS92.below (iS92_2_ bA.out dA.out) hb); clear hb sB; obtain ⟨rI, sI, tI⟩ := Kd.R_slice bB.out; subst tI) | ((with_reducible refine gate_callee (f := 92) rfl ?_); refine gl_ 43 Try.func92 #[.pointer (some ⟨g, 0, none⟩), .slice rI oC.length sI] rfl ma_ ?_; (with_reducible refine (spec_l1Cur_among.calls g s0_0 yA zA _ _ oC iB pI qI w0 _ ?side1 ?side2 ?side3 ?side4 ?side5 yK.out).mono ?_); (case side1 => exact iS92_2_ bA.out dA.out); (case side2 => exact hs3_ (IsS92.ge HI0.out) pA.out tA.out); (case side3 => exact cs_ ((Kd.R_reads' bB.out).2.2)); (case side4 => exact (Kd.R_reads' bB.out).2.1); (case side5 => exact far_slice (IsS92.own_ne HI0.out bB.out (by decide))); rintro e nL ⟨rfl, hi, hb, hk⟩; refine ⟨_, rfl, ?_⟩; replace aA := Aside0.mk (Kd.R_mono (Kd.R_keep (IsS92.apart (show IsS92 w0 _ g s0_0 yA zA from iS92_2_ bA.out dA.out) (kr_ aA.out) (by decide)) hk (fun _ h => h.2)) (fun _ h => h.1)); replace eA := Aside0.mk (KeepBut.blk hk (g' := jA) (o := .cells #[.int .i64 0, .int .i64 0, .int .i64 0, .int .i64 0, .slice none 0 0] 44 (0, 0)) (kb_ eA.out) gA.out (by simp)); replace cA := Aside0.mk (KeepBut.blk hk (g' := kA) (o := .cells #[.int .i64 rA, .int .i64 uA, .int .i64 sA, .int .i64 vA, oA] 44 (0, 0)) (kb_ cA.out) lA.out (by simp)); replace bB := Aside0.mk (Kd.R_mono (Kd.R_keep (IsS92.apart (show IsS92 w0 _ g s0_0 yA zA from iS92_2_ bA.out dA.out) (kr_ bB.out) (by decide)) hk (fun _ h => h.2)) (fun _ h => h.1)); replace HK := Aside0.mk (KeepBut.trans (kp2_ hA.out qA.out) hk (.inl rfl)); replace HB := Aside0.mk (hb); replace HI0 := Aside0.mk (hi); (try clear hb); (try clear hb2); (try clear hk); (try clear hi); have wJ := wA.out; have xJ := iA.out; have yJ := lA.out; have zJ := dA.out; obtain ⟨oF, pF, qF, rF, sF, tF, uF, vF, wF, xF⟩ := cf5_ cA.out; have aK := gA.out; have bK := bA.out; obtain ⟨yF, zF, aG, bG, cG, dG, eG, fG, gG, hG⟩ := cf5_ eA.out; obtain ⟨uI, vI, wI⟩ := Kd.R_slice aA.out; subst wI))
    refine bodyPost_ret (results_cell_row rfl _ _ jA 44 #[.int .i64 rA, .int .i64 iB, .int .i64 sA, .int .i64 vA, .slice uI fA.length vI] (0, 0) _ rfl (by (with_reducible repeat (first | refine blk_drewN ?_ _ | refine blk_drew ?_ | refine blk_alloc ?_ _)); refine blk_put (cs := #[.int .i64 rA, .int .i64 iB, .int .i64 sA, .int .i64 vA, .slice none 0 0]) ?_ 4 _ rfl; (with_reducible repeat (first | refine blk_drewN ?_ _ | refine blk_drew ?_ | refine blk_alloc ?_ _)); refine blk_put (cs := #[.int .i64 rA, .int .i64 iB, .int .i64 sA, .int .i64 0, .slice none 0 0]) ?_ 3 _ rfl; (with_reducible repeat (first | refine blk_drewN ?_ _ | refine blk_drew ?_ | refine blk_alloc ?_ _)); refine blk_put (cs := #[.int .i64 rA, .int .i64 iB, .int .i64 0, .int .i64 0, .slice none 0 0]) ?_ 2 _ rfl; (with_reducible repeat (first | refine blk_drewN ?_ _ | refine blk_drew ?_ | refine blk_alloc ?_ _)); refine blk_put (cs := #[.int .i64 rA, .int .i64 0, .int .i64 0, .int .i64 0, .slice none 0 0]) ?_ 1 _ rfl; (with_reducible repeat (first | refine blk_drewN ?_ _ | refine blk_drew ?_ | refine blk_alloc ?_ _)); refine blk_put (cs := #[.int .i64 0, .int .i64 0, .int .i64 0, .int .i64 0, .slice none 0 0]) ?_ 0 _ rfl; (with_reducible repeat (first | refine blk_drewN ?_ _ | refine blk_drew ?_ | refine blk_alloc ?_ _)); refine blk_far ?_ iA.out _; (with_reducible repeat (first | refine blk_drewN ?_ _ | refine blk_drew ?_ | refine blk_alloc ?_ _)); exact eA.out) Try.underlying44 rfl (by kernel_rfl)) rfl ?_
    exact ⟨_, er_, Kd.R_mono (rF_ (Kd.R_far (p := ⟨kA, 1, none⟩) (Kd.R_types (Kd.R_types aA.out cA.out (by decide)) eA.out (by decide)) (fun _ hk => hk.1.2) (.int .i64 iB))) (fun _ hk => trivial), iS92_2_ bA.out dA.out, hs3_ (IsS92.ge HI0.out) pA.out tA.out, kp2_ hA.out qA.out⟩
   have qD : (xA == 2) = false := beq_eq_false_iff_ne.mpr tC
   have rD : (xA != 2) = true := bne_iff_ne.mpr tC
   replace H := ite_ H
   obtain ⟨uC, H⟩ | ⟨uC, H⟩ := H
   rotate_left
   ·have sD : (xA == 3) = false := beq_eq_false_iff_ne.mpr uC
    have tD : (xA != 3) = true := bne_iff_ne.mpr uC
    simp only [Option.some.injEq, Prod.mk.injEq] at H
    obtain ⟨rfl, rfl, rfl, rfl, rfl, rfl, rfl⟩ := H
    go_wp2_with (first | ((with_reducible refine gate_callee (f := 74) rfl ?_); refine gl_ 29 Try.func74 #[.pointer (some ⟨g, 0, none⟩), .int .i64 40] rfl ma_ ?_; (with_reducible refine (spec_l1Cur_pick.calls g s0_0 mA nA 40 xA yA zA w0 _ ?side1 ?side2 lD.out).mono ?_); (case side1 => exact iS92_2_ bA.out dA.out); (case side2 => exact hs3_ (IsS92.ge HI0.out) pA.out tA.out); rintro e oL ⟨rfl, hi, hb, hk⟩; refine ⟨_, rfl, ?_⟩; replace aA := Aside0.mk (Kd.R_mono (Kd.R_keep (IsS92.apart (show IsS92 w0 _ g s0_0 mA nA from iS92_2_ bA.out dA.out) (kr_ aA.out) (by decide)) hk (fun _ h => h.2)) (fun _ h => h.1)); replace eA := Aside0.mk (KeepBut.blk hk (g' := jA) (o := .cells #[.int .i64 0, .int .i64 0, .int .i64 0, .int .i64 0, .slice none 0 0] 44 (0, 0)) (kb_ eA.out) gA.out (by simp)); replace cA := Aside0.mk (KeepBut.blk hk (g' := kA) (o := .cells #[.int .i64 rA, .int .i64 uA, .int .i64 sA, .int .i64 vA, oA] 44 (0, 0)) (kb_ cA.out) lA.out (by simp)); replace HK := Aside0.mk (KeepBut.trans (kp2_ hA.out qA.out) hk (.inl rfl)); replace HB := Aside0.mk (hb); replace HI0 := Aside0.mk (hi); (try clear hb); (try clear hb2); (try clear hk); (try clear hi); have cK := wA.out; have dK := iA.out; have eK := lA.out; have fK := dA.out; obtain ⟨iG, jG, kG, lG, mG, nG, oG, pG, qG, rG⟩ := cf5_ cA.out; have gK := gA.out; have iK := bA.out; obtain ⟨sG, tG, uG, vG, wG, xG, yG, zG, aH, bH⟩ := cf5_ eA.out; obtain ⟨xI, yI, zI⟩ := Kd.R_slice aA.out; subst zI))
    refine bodyPost_ret (results_cell_row rfl _ _ jA 44 #[.int .i64 rA, .int .i64 uA, .int .i64 sA, .int .i64 vA, .slice xI fA.length yI] (0, 0) _ rfl (up_ eA) Try.underlying44 rfl (by kernel_rfl)) rfl ?_
    exact ⟨_, er_, Kd.R_mono (rF_ (Kd.R_types aA.out eA.out (by decide))) (fun _ hk => trivial), iS92_2_ bA.out dA.out, hs3_ (IsS92.ge HI0.out) pA.out tA.out, kp2_ hA.out qA.out⟩
   have sD : (xA == 3) = true := beq_iff_eq.mpr uC
   have tD : (xA != 3) = false := bne_eq_false_iff_eq.mpr uC
   clear uC
   replace H := ifs_ H
   obtain ⟨jK, H⟩ := H
   have kK := decide_eq_true jK
   have lK : decide (0 < fA.length) = true := decide_eq_true (by omega)
   clear jK
   obtain ⟨uD, fB⟩ : ∃ y_ : List ByteArray, y_ = (fA.set (0 : Int).toNat (⟨#[97, 32, 116, 101, 120, 116, 32, 111, 102, 32, 109, 111, 114, 101, 32, 116, 104, 97, 110, 32, 50, 48]⟩ : ByteArray)) := ⟨_, rfl⟩
   replace H : (some (rA, uA, sA, vA, uD, yA, zA)) = some (r1, r2, r3, r4, r5, r6, r7) := by first | (rw [fB]; with_reducible exact H) | (have H2_ := (Option.bind_some _ _).symm.trans H; rw [fB]; with_reducible exact H2_) | (have H2_ := (Option.bind_some _ _).symm.trans H; with_reducible exact H2_) | with_reducible exact H | (rw [fB]; exact H) | exact H
   have vD := Aside0.mk fB
   clear fB
   simp only [Option.some.injEq, Prod.mk.injEq] at H
   obtain ⟨rfl, rfl, rfl, rfl, rfl, rfl, rfl⟩ := H
   go_wp2_with (first | ((with_reducible refine gate_callee (f := 74) rfl ?_); refine gl_ 29 Try.func74 #[.pointer (some ⟨g, 0, none⟩), .int .i64 40] rfl ma_ ?_; (with_reducible refine (spec_l1Cur_pick.calls g s0_0 mA nA 40 xA yA zA w0 _ ?side1 ?side2 lD.out).mono ?_); (case side1 => exact iS92_2_ bA.out dA.out); (case side2 => exact hs3_ (IsS92.ge HI0.out) pA.out tA.out); rintro e mK ⟨rfl, hi, hb, hk⟩; refine ⟨_, rfl, ?_⟩; replace aA := Aside0.mk (Kd.R_mono (Kd.R_keep (IsS92.apart (show IsS92 w0 _ g s0_0 mA nA from iS92_2_ bA.out dA.out) (kr_ aA.out) (by decide)) hk (fun _ h => h.2)) (fun _ h => h.1)); replace eA := Aside0.mk (KeepBut.blk hk (g' := jA) (o := .cells #[.int .i64 0, .int .i64 0, .int .i64 0, .int .i64 0, .slice none 0 0] 44 (0, 0)) (kb_ eA.out) gA.out (by simp)); replace cA := Aside0.mk (KeepBut.blk hk (g' := kA) (o := .cells #[.int .i64 rA, .int .i64 uA, .int .i64 sA, .int .i64 vA, oA] 44 (0, 0)) (kb_ cA.out) lA.out (by simp)); replace HK := Aside0.mk (KeepBut.trans (kp2_ hA.out qA.out) hk (.inl rfl)); replace HB := Aside0.mk (hb); replace HI0 := Aside0.mk (hi); (try clear hb); (try clear hb2); (try clear hk); (try clear hi); have nK := wA.out; have oK := iA.out; have pK := lA.out; have qK := dA.out; obtain ⟨cH, dH, eH, fH, gH, hH, iH, jH, kH, lH⟩ := cf5_ cA.out; have aJ : 0 ≤ (0 : Int) := (by omega); have bJ : (0 : Int) < ((fA.length : Int) : Int) := oa_; have qi61 : (0 < fA.length) = True := eq_true (by omega); obtain ⟨go61, pC, wD, xD, gl61, cl61, yD⟩ := Kd.R_form aA.out (by omega); (first | cases wD | (injection wD with ea_ en_ ec_; (first | subst ea_ | (injection ea_ with ea_; subst ea_)); subst ec_; clear en_)); have GB61 := Aside0.mk xD; have GG61 := Aside0.mk yD; clear xD gl61 yD; obtain ⟨tB, hf61_0⟩ := Kd.R_celln (⟨#[]⟩ : ByteArray) aA.out (0 : Int) aJ bJ; (try rw [show ((0 : Int)).toNat = 0 from rfl] at tB); (try simp only [Nat.reduceMul, Nat.zero_mul, Nat.zero_add, Nat.reduceAdd] at tB); (try rw [show ((0 : Int)).toNat = 0 from rfl] at hf61_0); (try simp only [Nat.reduceMul, Nat.zero_mul, Nat.zero_add, Nat.reduceAdd] at hf61_0); replace aJ := eq_true aJ; replace bJ := eq_true bJ; obtain ⟨hy66_, hz66_⟩ := Kd.R_celln (⟨#[]⟩ : ByteArray) aA.out (0 : Int) (by omega) (oa_); (try simp only [Int.reduceToNat, Int.toNat_zero, Int.toNat_ofNat, Nat.reduceMul, Nat.zero_mul, Nat.zero_add] at hy66_ hz66_); (try rw [show ((0 : Int)).toNat = 0 from rfl] at hy66_); (try rw [show ((0 : Int)).toNat = 0 from rfl] at hz66_); have qC := Kd.R_putg aA.out (0 : Int) (⟨#[97, 32, 116, 101, 120, 116, 32, 111, 102, 32, 109, 111, 114, 101, 32, 116, 104, 97, 110, 32, 50, 48]⟩ : ByteArray)) | ((with_reducible refine gate_store (t := 9) (p := 49) rfl ?_); refine store_event (t := 9) (p := 49) (v := ?vo_w67) (w1 := (mK.setCell ⟨go61, (0 : Int).toNat, none⟩ (.string (⟨#[97, 32, 116, 101, 120, 116, 32, 111, 102, 32, 109, 111, 114, 101, 32, 116, 104, 97, 110, 32, 50, 48]⟩ : ByteArray)))) ?hg ?ho ?hn ?hr ?_; (case ho => rfl); (case hg => rfl); (case hn => rfl); (case hr => first | (go_simp; done) | (go_simp; rfl)); intro cJ hw; have hg : mK.grownBy cJ (some go61) := (by rw [hw]; exact qC.2); have hp_ : Kd.R Kd.string 9 cJ w.heap.size (fun _ => True) (.slice (some ⟨go61, 0, none⟩) fA.length pC) uD := (by rw [hw, vD.out]; exact qC.1); clear qC; replace eA := Aside0.mk (blk_grown (g := jA) (o := .cells #[.int .i64 0, .int .i64 0, .int .i64 0, .int .i64 0, .slice none 0 0] 44 (0, 0)) (kb_ eA.out) hg (Kd.R_ne aA.out eA.out (by decide))); replace cA := Aside0.mk (blk_grown (g := kA) (o := .cells #[.int .i64 rA, .int .i64 uA, .int .i64 sA, .int .i64 vA, .slice (some ⟨go61, 0, none⟩) fA.length pC] 44 (0, 0)) (kb_ cA.out) hg (Kd.R_ne aA.out cA.out (by decide))); replace HI0 := Aside0.mk (IsS92.grown (iS92_2_ bA.out dA.out) hg (IsS92.own_ne HI0.out aA.out (by decide))); replace HB := Aside0.mk ((by rw [hw]; exact below_set (HB.out) (Nat.le_trans HL.out GB61.out) : Below w0.heap.size w0 cJ)); replace HK := Aside0.mk (KeepBut.trans (kp2_ hA.out qA.out) (KeepBut.of_grown hg g) (Kd.R_base2 aA.out)); replace aA := Aside0.mk (hp_); clear hg hw hp_; obtain ⟨mH, nH, oH, pH, qH, rH, sH, tH, uH, vH⟩ := cf5_ cA.out; have rK := gA.out; have sK := bA.out; obtain ⟨wH, xH, yH, zH, aI, bI, cI, dI, eI, fI⟩ := cf5_ eA.out))
   refine bodyPost_ret (results_cell_row rfl _ _ jA 44 #[.int .i64 rA, .int .i64 uA, .int .i64 sA, .int .i64 vA, .slice (some ⟨go61, 0, none⟩) fA.length pC] (0, 0) _ rfl (up_ eA) Try.underlying44 rfl (by kernel_rfl)) rfl ?_
   exact ⟨_, er_, Kd.R_mono (rF_ (Kd.R_types aA.out eA.out (by decide))) (fun _ hk => trivial), iS92_2_ bA.out dA.out, hs3_ (IsS92.ge HI0.out) pA.out tA.out, kp2_ hA.out qA.out⟩

/-! ### spec_l1Cur_one: function 72 -/
def spec_l1Cur_one.f (s0_0 : List Int) (s0_1 : Int) (s0_2 : Int) (a1 : Int) : Option (Bool × Int × Int) := (spec_l1Cur_pick.f s0_0 s0_1 s0_2 a1).bind fun bt367 => (some ((bt367.1 == 0), bt367.2.1, bt367.2.2))
set_option maxHeartbeats 8000000 in
set_option maxRecDepth 100000 in
theorem spec_l1Cur_one.calls (g : Nat) (s0_0 : List Int) (s0_1 : Int) (s0_2 : Int) (a1 : Int) (r1 : Bool) (r2 : Int) (r3 : Int) (w0 w : World) (hI : IsS92 w0 w g s0_0 s0_1 s0_2) (hB : Below w0.heap.size w0 w) (h : spec_l1Cur_one.f s0_0 s0_1 s0_2 a1 = some (r1, r2, r3)) :
  Calls Try.prog 72 #[.pointer (some ⟨g, 0, none⟩), .int .i64 a1] w fun e w' => e = .returned (.bool r1) ∧ IsS92 w0 w' g s0_0 r2 r3 ∧ Below w0.heap.size w0 w' ∧ KeepBut w w' g none := by
 have HI0 := Aside0.mk hI
 have HK := Aside0.mk (KeepBut.refl w g none)
 have HL := Aside0.mk hB.size
 clear hI
 have eA := Aside0.mk hB.size
 have HB := Aside0.mk hB
 clear hB
 have H : ((spec_l1Cur_pick.f s0_0 s0_1 s0_2 a1).bind fun aA => (some ((aA.1 == 0), aA.2.1, aA.2.2))) = some (r1, r2, r3) := h
 clear h
 replace H := bnd_ H
 obtain ⟨⟨bA, cA, dA⟩, A3, H⟩ := H
 replace H := red_ H
 simp only [Option.some.injEq, Prod.mk.injEq] at H
 obtain ⟨rfl, rfl, rfl⟩ := H
 go_enter Try.func72, Try.ntmps72
 go_wp2_with (first | ((with_reducible refine gate_callee (f := 74) rfl ?_); refine gl_ 7 Try.func74 #[.pointer (some ⟨g, 0, none⟩), .int .i64 a1] rfl ma_ ?_; (with_reducible refine (spec_l1Cur_pick.calls g s0_0 s0_1 s0_2 a1 bA cA dA w0 _ ?side1 ?side2 A3.out).mono ?_); (case side1 => exact iS92_0_); (case side2 => exact hs_ (IsS92.ge HI0.out)); rintro e w4 ⟨rfl, hi, hb, hk⟩; refine ⟨_, rfl, ?_⟩; replace HK := Aside0.mk (KeepBut.trans (kp0_) hk (.inl rfl)); replace HB := Aside0.mk (hb); replace HI0 := Aside0.mk (hi); (try clear hb); (try clear hb2); (try clear hk); (try clear hi)))
 go_ret
 exact ⟨er_, iS92_0_, hs_ (IsS92.ge HI0.out), kp0_⟩
end Go.Proofs.Ytpdpipfkllfhmaa.QFnDisks
