/- Functions that one statement reaches: of each a plain function, and the proof that calls come to it. Conditions: those that each contract names. Written by a program of this repository. -/
import Derived.Test.YtpdpipfkllfhmaaVFnDisksa
import Derived.Test.YtpdpipfkllfhmaaProg
import Derived.Below
import Derived.Deep.Draws
import Derived.Deep.AppendLies
import Derived.Maps.AppendAt
import Derived.OwnWalk
import Derived.Laws.BytesArg
import Derived.Laws.MakeOwn
import Derived.Laws.OwnMore
import Derived.Deep.OwnRows
import Derived.Tactics
import Derived.Lib.ConvBytes
import Derived.Laws.Slices
import Derived.WalkKit
import Derived.KernelRfl
import Derived.RowKit3
import Derived.Deep.LoopGhost
import Derived.Deep.QuietTactic
import Derived.BigQuiet
import Derived.WideLaws
import Derived.Deep.DeepCutAuto
import Derived.Deep.CutBlock
import Derived.Deep.RegionHeld3
import Derived.Laws.Rows
import Derived.Lib.AppendStr
import Derived.ArgAppend
import Derived.Laws.IdiomCopy
import Derived.OrdersHeld
import Derived.Laws.BitsLemmas
import Derived.RowKit
namespace Go.Proofs.Ytpdpipfkllfhmaa.QFnDisks
open Go.RowKit Go.Proofs.YtpdpipfkllfhmaaW.PrintWords Go.Proofs.YtpdpipfkllfhmaaW.PrintLast Go.Proofs.YtpdpipfkllfhmaaW.PrintMore
attribute [local go_sem] max2_int min2_int max_two min_two max_three min_three max_four min_four Go.Proofs.YtpdpipfkllfhmaaW.PrintMore2.isSome_setCell   -- for this text's walks alone
set_option linter.unusedVariables false
set_option linter.unusedSimpArgs false

def errW : Option Int → Value
 | none => .nilIface
 | some c => .iface 0 (.int .i64 c)
theorem errW_none : errW none = .nilIface := rfl
theorem errW_some (c : Int) : errW (some c) = .iface 0 (.int .i64 c) := rfl

theorem info3 : (Try.prog.info? 3).map (fun i => (i.zero, i.size, i.bytes)) = some (some (.int .i64 0), 1, 8) := by kernel_rfl
theorem info5 : (Try.prog.info? 5).map (fun i => (i.zero, i.size, i.bytes)) = some (some (.int .u8 0), 1, 1) := by kernel_rfl
theorem info9 : (Try.prog.info? 9).map (fun i => (i.zero, i.size, i.bytes)) = some (some (.string ⟨#[]⟩), 1, 16) := by kernel_rfl
theorem info44 : (Try.prog.info? 44).map (fun i => (i.zero, i.size, i.bytes)) = some (some (.agg #[(.int .i64 0), (.int .i64 0), (.int .i64 0), (.int .i64 0), (.slice none 0 0)]), 5, 56) := by kernel_rfl
theorem info56 : (Try.prog.info? 56).map (fun i => (i.zero, i.size, i.bytes)) = some (some (.agg #[(.string ⟨#[]⟩), (.int .i64 0)]), 2, 24) := by kernel_rfl
-- the values' own types
/-! #### struct type 56 -/
structure S56 where
 f0 : ByteArray
 f1 : Int
def z56 : S56 := ⟨(⟨#[]⟩ : ByteArray), (0 : Int)⟩
def k56 : Kd S56 := Kd.iso (Kd.pair Kd.string (Kd.int .i64)) (fun x : S56 => (x.f0, x.f1))
theorem k56_open {w : World} {x : S56} {cs : List Value} (h : k56.K w x cs) : cs = [.string x.f0, .int .i64 x.f1] := by
 obtain ⟨_, _, rfl, rfl, rfl⟩ := h
 exact rfl
theorem k56_openM {w : World} {base : Nat} {ok : Nat → Prop} {x : S56} {cs : List Value} (h : k56.M w base ok x cs) : cs = [.string x.f0, .int .i64 x.f1] := by
 obtain ⟨_, _, rfl, rfl, rfl⟩ := h
 exact rfl
theorem k56_mk (w : World) (x : S56)  : k56.K w x [.string x.f0, .int .i64 x.f1] := ⟨[.string x.f0], [.int .i64 x.f1], rfl, rfl, rfl⟩
theorem k56_mkM (w : World) (base : Nat) (ok : Nat → Prop) (x : S56)  : k56.M w base ok x [.string x.f0, .int .i64 x.f1] := ⟨[.string x.f0], [.int .i64 x.f1], rfl, rfl, rfl⟩
def rd_T56 (xs : List S56) (i : Int) : S56 := xs.getD i.toNat z56
theorem at_T56 {w : World} {A : Option Addr} {n : Nat} {xs : List S56} (h : Kd.C k56 w A n xs) (i : Int) (h0 : 0 ≤ i) (h1 : i < n) : ∃ ad , A = some ad ∧ w.cell? (ad.add (i.toNat * 2)) = some (.string (rd_T56 xs i).f0) ∧ w.cell? ⟨(ad.add (i.toNat * 2)).block, (ad.add (i.toNat * 2)).off + 1, none⟩ = some (.int .i64 (rd_T56 xs i).f1) := by
 obtain ⟨ad, c, e, _, hK, hc0⟩ := Kd.C_get h z56 i h0 h1
 have hc : ∀ j u, c[j]? = some u → w.cell? (ad.add (i.toNat * 2 + j)) = some u := hc0
 obtain rfl := k56_open hK
 exact ⟨ad, e, hc 0 _ rfl, by rw [← add_field _ _ 1 (by omega)]; exact hc 1 _ rfl⟩

def rd_L3 (xs : List (List S56)) (i : Int) : (List S56) := xs.getD i.toNat ([] : List S56)
theorem at_L3 {w : World} {A : Option Addr} {n : Nat} {xs : List (List S56)} (h : Kd.C (Kd.slice 56 k56) w A n xs) (i : Int) (h0 : 0 ≤ i) (h1 : i < n) : ∃ ad A0 c0, A = some ad ∧ w.cell? (ad.add i.toNat) = some (.slice A0 (rd_L3 xs i).length c0) ∧ (rd_L3 xs i).length ≤ c0 ∧ k56.C w A0 (rd_L3 xs i).length (rd_L3 xs i) := by
 obtain ⟨ad, c, e, _, hK, hc0⟩ := Kd.C_get h ([] : List S56) i h0 h1
 have hc : ∀ j u, c[j]? = some u → w.cell? (ad.add (i.toNat * 1 + j)) = some u := hc0
 obtain ⟨A0, c0, rfl, l0, g0⟩ := hK
 exact ⟨ad, A0, c0, e, by have hq := hc 0 _ rfl; rwa [Nat.mul_one, Nat.add_zero] at hq, l0, g0⟩

/-! #### struct type 31 -/
structure S31 where
 f0 : (List S56)
def z31 : S31 := ⟨([] : List S56)⟩
def k31 : Kd S31 := Kd.iso (Kd.slice 56 k56) (fun x : S31 => x.f0)
theorem k31_open {w : World} {x : S31} {cs : List Value} (h : k31.K w x cs) : ∃ A0 c0, cs = [.slice A0 x.f0.length c0] ∧ x.f0.length ≤ c0 ∧ k56.C w A0 x.f0.length x.f0 := by
 obtain ⟨A0, c0, rfl, l0, g0⟩ := h
 exact ⟨A0, c0, rfl, l0, g0⟩
theorem k31_openM {w : World} {base : Nat} {ok : Nat → Prop} {x : S31} {cs : List Value} (h : k31.M w base ok x cs) : ∃ v0, cs = [v0] ∧ k56.R 56 w base ok v0 x.f0 := by
 obtain ⟨v0, rfl, g0⟩ := h
 exact ⟨v0, rfl, g0⟩
theorem k31_mk (w : World) (x : S31) {A0 : Option Addr} {c0 : Nat} (l0 : x.f0.length ≤ c0) (g0 : k56.C w A0 x.f0.length x.f0) : k31.K w x [.slice A0 x.f0.length c0] := ⟨A0, c0, rfl, l0, g0⟩
theorem k31_mkM (w : World) (base : Nat) (ok : Nat → Prop) (x : S31) {v0 : Value} (g0 : k56.R 56 w base ok v0 x.f0) : k31.M w base ok x [v0] := ⟨v0, rfl, g0⟩
def rd_T31 (xs : List S31) (i : Int) : S31 := xs.getD i.toNat z31
theorem at_T31 {w : World} {A : Option Addr} {n : Nat} {xs : List S31} (h : Kd.C k31 w A n xs) (i : Int) (h0 : 0 ≤ i) (h1 : i < n) : ∃ ad A0 c0, A = some ad ∧ w.cell? (ad.add i.toNat) = some (.slice A0 (rd_T31 xs i).f0.length c0) ∧ (rd_T31 xs i).f0.length ≤ c0 ∧ k56.C w A0 (rd_T31 xs i).f0.length (rd_T31 xs i).f0 := by
 obtain ⟨ad, c, e, _, hK, hc0⟩ := Kd.C_get h z31 i h0 h1
 have hc : ∀ j u, c[j]? = some u → w.cell? (ad.add (i.toNat * 1 + j)) = some u := hc0
 obtain ⟨A0, c0, rfl, l0, g0⟩ := k31_open hK
 exact ⟨ad, A0, c0, e, by have hq := hc 0 _ rfl; rwa [Nat.mul_one, Nat.add_zero] at hq, l0, g0⟩

def rd_L5 (xs : List (List ByteArray)) (i : Int) : (List ByteArray) := xs.getD i.toNat ([] : List ByteArray)
theorem at_L5 {w : World} {A : Option Addr} {n : Nat} {xs : List (List ByteArray)} (h : Kd.C (Kd.slice 9 Kd.string) w A n xs) (i : Int) (h0 : 0 ≤ i) (h1 : i < n) : ∃ ad A0 c0, A = some ad ∧ w.cell? (ad.add i.toNat) = some (.slice A0 (rd_L5 xs i).length c0) ∧ (rd_L5 xs i).length ≤ c0 ∧ Kd.string.C w A0 (rd_L5 xs i).length (rd_L5 xs i) := by
 obtain ⟨ad, c, e, _, hK, hc0⟩ := Kd.C_get h ([] : List ByteArray) i h0 h1
 have hc : ∀ j u, c[j]? = some u → w.cell? (ad.add (i.toNat * 1 + j)) = some u := hc0
 obtain ⟨A0, c0, rfl, l0, g0⟩ := hK
 exact ⟨ad, A0, c0, e, by have hq := hc 0 _ rfl; rwa [Nat.mul_one, Nat.add_zero] at hq, l0, g0⟩

/-! #### struct type 44 -/
structure S44 where
 f0 : Int
 f1 : Int
 f2 : Int
 f3 : Int
 f4 : (List ByteArray)
def z44 : S44 := ⟨(0 : Int), (0 : Int), (0 : Int), (0 : Int), ([] : List ByteArray)⟩
def k44 : Kd S44 := Kd.iso (Kd.pair (Kd.int .i64) (Kd.pair (Kd.int .i64) (Kd.pair (Kd.int .i64) (Kd.pair (Kd.int .i64) (Kd.slice 9 Kd.string))))) (fun x : S44 => (x.f0, x.f1, x.f2, x.f3, x.f4))
theorem k44_open {w : World} {x : S44} {cs : List Value} (h : k44.K w x cs) : ∃ A4 c4, cs = [.int .i64 x.f0, .int .i64 x.f1, .int .i64 x.f2, .int .i64 x.f3, .slice A4 x.f4.length c4] ∧ x.f4.length ≤ c4 ∧ Kd.string.C w A4 x.f4.length x.f4 := by
 obtain ⟨_, _, rfl, rfl, ⟨_, _, rfl, rfl, ⟨_, _, rfl, rfl, ⟨_, _, rfl, rfl, ⟨A4, c4, rfl, l4, g4⟩⟩⟩⟩⟩ := h
 exact ⟨A4, c4, rfl, l4, g4⟩
theorem k44_openM {w : World} {base : Nat} {ok : Nat → Prop} {x : S44} {cs : List Value} (h : k44.M w base ok x cs) : ∃ v4, cs = [.int .i64 x.f0, .int .i64 x.f1, .int .i64 x.f2, .int .i64 x.f3, v4] ∧ Kd.string.R 9 w base ok v4 x.f4 := by
 obtain ⟨_, _, rfl, rfl, ⟨_, _, rfl, rfl, ⟨_, _, rfl, rfl, ⟨_, _, rfl, rfl, ⟨v4, rfl, g4⟩⟩⟩⟩⟩ := h
 exact ⟨v4, rfl, g4⟩
theorem k44_mk (w : World) (x : S44) {A4 : Option Addr} {c4 : Nat} (l4 : x.f4.length ≤ c4) (g4 : Kd.string.C w A4 x.f4.length x.f4) : k44.K w x [.int .i64 x.f0, .int .i64 x.f1, .int .i64 x.f2, .int .i64 x.f3, .slice A4 x.f4.length c4] := ⟨[.int .i64 x.f0], [.int .i64 x.f1, .int .i64 x.f2, .int .i64 x.f3, .slice A4 x.f4.length c4], rfl, rfl, ⟨[.int .i64 x.f1], [.int .i64 x.f2, .int .i64 x.f3, .slice A4 x.f4.length c4], rfl, rfl, ⟨[.int .i64 x.f2], [.int .i64 x.f3, .slice A4 x.f4.length c4], rfl, rfl, ⟨[.int .i64 x.f3], [.slice A4 x.f4.length c4], rfl, rfl, ⟨A4, c4, rfl, l4, g4⟩⟩⟩⟩⟩
theorem k44_mkM (w : World) (base : Nat) (ok : Nat → Prop) (x : S44) {v4 : Value} (g4 : Kd.string.R 9 w base ok v4 x.f4) : k44.M w base ok x [.int .i64 x.f0, .int .i64 x.f1, .int .i64 x.f2, .int .i64 x.f3, v4] := ⟨[.int .i64 x.f0], [.int .i64 x.f1, .int .i64 x.f2, .int .i64 x.f3, v4], rfl, rfl, ⟨[.int .i64 x.f1], [.int .i64 x.f2, .int .i64 x.f3, v4], rfl, rfl, ⟨[.int .i64 x.f2], [.int .i64 x.f3, v4], rfl, rfl, ⟨[.int .i64 x.f3], [v4], rfl, rfl, ⟨v4, rfl, g4⟩⟩⟩⟩⟩
def rd_T44 (xs : List S44) (i : Int) : S44 := xs.getD i.toNat z44
theorem at_T44 {w : World} {A : Option Addr} {n : Nat} {xs : List S44} (h : Kd.C k44 w A n xs) (i : Int) (h0 : 0 ≤ i) (h1 : i < n) : ∃ ad A4 c4, A = some ad ∧ w.cell? (ad.add (i.toNat * 5)) = some (.int .i64 (rd_T44 xs i).f0) ∧ w.cell? ⟨(ad.add (i.toNat * 5)).block, (ad.add (i.toNat * 5)).off + 1, none⟩ = some (.int .i64 (rd_T44 xs i).f1) ∧ w.cell? ⟨(ad.add (i.toNat * 5)).block, (ad.add (i.toNat * 5)).off + 2, none⟩ = some (.int .i64 (rd_T44 xs i).f2) ∧ w.cell? ⟨(ad.add (i.toNat * 5)).block, (ad.add (i.toNat * 5)).off + 3, none⟩ = some (.int .i64 (rd_T44 xs i).f3) ∧ w.cell? ⟨(ad.add (i.toNat * 5)).block, (ad.add (i.toNat * 5)).off + 4, none⟩ = some (.slice A4 (rd_T44 xs i).f4.length c4) ∧ (rd_T44 xs i).f4.length ≤ c4 ∧ Kd.string.C w A4 (rd_T44 xs i).f4.length (rd_T44 xs i).f4 := by
 obtain ⟨ad, c, e, _, hK, hc0⟩ := Kd.C_get h z44 i h0 h1
 have hc : ∀ j u, c[j]? = some u → w.cell? (ad.add (i.toNat * 5 + j)) = some u := hc0
 obtain ⟨A4, c4, rfl, l4, g4⟩ := k44_open hK
 exact ⟨ad, A4, c4, e, hc 0 _ rfl, by rw [← add_field _ _ 1 (by omega)]; exact hc 1 _ rfl, by rw [← add_field _ _ 2 (by omega)]; exact hc 2 _ rfl, by rw [← add_field _ _ 3 (by omega)]; exact hc 3 _ rfl, by rw [← add_field _ _ 4 (by omega)]; exact hc 4 _ rfl, l4, g4⟩

def rd_L8 (xs : List (List Int)) (i : Int) : (List Int) := xs.getD i.toNat ([] : List Int)
theorem at_L8 {w : World} {A : Option Addr} {n : Nat} {xs : List (List Int)} (h : Kd.C (Kd.slice 5 (Kd.int .u8)) w A n xs) (i : Int) (h0 : 0 ≤ i) (h1 : i < n) : ∃ ad A0 c0, A = some ad ∧ w.cell? (ad.add i.toNat) = some (.slice A0 (rd_L8 xs i).length c0) ∧ (rd_L8 xs i).length ≤ c0 ∧ (Kd.int .u8).C w A0 (rd_L8 xs i).length (rd_L8 xs i) := by
 obtain ⟨ad, c, e, _, hK, hc0⟩ := Kd.C_get h ([] : List Int) i h0 h1
 have hc : ∀ j u, c[j]? = some u → w.cell? (ad.add (i.toNat * 1 + j)) = some u := hc0
 obtain ⟨A0, c0, rfl, l0, g0⟩ := hK
 exact ⟨ad, A0, c0, e, by have hq := hc 0 _ rfl; rwa [Nat.mul_one, Nat.add_zero] at hq, l0, g0⟩

/-! #### struct type 92 -/
structure S92 where
 f0 : (List Int)
 f1 : Int
 f2 : Int
def z92 : S92 := ⟨([] : List Int), (0 : Int), (0 : Int)⟩
def k92 : Kd S92 := Kd.iso (Kd.pair (Kd.slice 5 (Kd.int .u8)) (Kd.pair (Kd.int .i64) (Kd.int .u64))) (fun x : S92 => (x.f0, x.f1, x.f2))
theorem k92_open {w : World} {x : S92} {cs : List Value} (h : k92.K w x cs) : ∃ A0 c0, cs = [.slice A0 x.f0.length c0, .int .i64 x.f1, .int .u64 x.f2] ∧ x.f0.length ≤ c0 ∧ (Kd.int .u8).C w A0 x.f0.length x.f0 := by
 obtain ⟨_, _, rfl, ⟨A0, c0, rfl, l0, g0⟩, ⟨_, _, rfl, rfl, rfl⟩⟩ := h
 exact ⟨A0, c0, rfl, l0, g0⟩
theorem k92_openM {w : World} {base : Nat} {ok : Nat → Prop} {x : S92} {cs : List Value} (h : k92.M w base ok x cs) : ∃ v0, cs = [v0, .int .i64 x.f1, .int .u64 x.f2] ∧ (Kd.int .u8).R 5 w base ok v0 x.f0 := by
 obtain ⟨_, _, rfl, ⟨v0, rfl, g0⟩, ⟨_, _, rfl, rfl, rfl⟩⟩ := h
 exact ⟨v0, rfl, g0⟩
theorem k92_mk (w : World) (x : S92) {A0 : Option Addr} {c0 : Nat} (l0 : x.f0.length ≤ c0) (g0 : (Kd.int .u8).C w A0 x.f0.length x.f0) : k92.K w x [.slice A0 x.f0.length c0, .int .i64 x.f1, .int .u64 x.f2] := ⟨[.slice A0 x.f0.length c0], [.int .i64 x.f1, .int .u64 x.f2], rfl, ⟨A0, c0, rfl, l0, g0⟩, ⟨[.int .i64 x.f1], [.int .u64 x.f2], rfl, rfl, rfl⟩⟩
theorem k92_mkM (w : World) (base : Nat) (ok : Nat → Prop) (x : S92) {v0 : Value} (g0 : (Kd.int .u8).R 5 w base ok v0 x.f0) : k92.M w base ok x [v0, .int .i64 x.f1, .int .u64 x.f2] := ⟨[v0], [.int .i64 x.f1, .int .u64 x.f2], rfl, ⟨v0, rfl, g0⟩, ⟨[.int .i64 x.f1], [.int .u64 x.f2], rfl, rfl, rfl⟩⟩
def rd_T92 (xs : List S92) (i : Int) : S92 := xs.getD i.toNat z92
theorem at_T92 {w : World} {A : Option Addr} {n : Nat} {xs : List S92} (h : Kd.C k92 w A n xs) (i : Int) (h0 : 0 ≤ i) (h1 : i < n) : ∃ ad A0 c0, A = some ad ∧ w.cell? (ad.add (i.toNat * 3)) = some (.slice A0 (rd_T92 xs i).f0.length c0) ∧ w.cell? ⟨(ad.add (i.toNat * 3)).block, (ad.add (i.toNat * 3)).off + 1, none⟩ = some (.int .i64 (rd_T92 xs i).f1) ∧ w.cell? ⟨(ad.add (i.toNat * 3)).block, (ad.add (i.toNat * 3)).off + 2, none⟩ = some (.int .u64 (rd_T92 xs i).f2) ∧ (rd_T92 xs i).f0.length ≤ c0 ∧ (Kd.int .u8).C w A0 (rd_T92 xs i).f0.length (rd_T92 xs i).f0 := by
 obtain ⟨ad, c, e, _, hK, hc0⟩ := Kd.C_get h z92 i h0 h1
 have hc : ∀ j u, c[j]? = some u → w.cell? (ad.add (i.toNat * 3 + j)) = some u := hc0
 obtain ⟨A0, c0, rfl, l0, g0⟩ := k92_open hK
 exact ⟨ad, A0, c0, e, hc 0 _ rfl, by rw [← add_field _ _ 1 (by omega)]; exact hc 1 _ rfl, by rw [← add_field _ _ 2 (by omega)]; exact hc 2 _ rfl, l0, g0⟩
theorem eqA56 (d : Nat) (w : World) (x0 y0 : ByteArray) (x1 y1 : Int) :
  (Op.equalIn (d + 2) 56 (.agg #[.string x0, .int .i64 x1]) (.agg #[.string y0, .int .i64 y1])).run Try.prog w = .ok (x0.toList == y0.toList && (x1 == y1)) w := by
 refine eqA_of Try.underlying56 (by kernel_rfl) ?_
 refine eqf_cons (by rfl) (by go_simp; rfl) (by go_simp; rfl) (by go_simp) ?_
 exact eqf_last (by rfl) (by go_simp; rfl) (by go_simp; rfl) (by go_simp)
/-! ### impl_in: function 77 -/
def impl_in.f (a0 : Int) (a1 : Int) (a2 : Int) : Option (Bool) := if a0 ≥ a1 then (some (decide (a0 ≤ a2))) else (some false)
set_option maxHeartbeats 8000000 in
set_option maxRecDepth 100000 in
theorem impl_in.calls (a0 : Int) (a1 : Int) (a2 : Int) (r : Bool) (w : World) (h : impl_in.f a0 a1 a2 = some r) :
  Calls Try.prog 77 #[.int .i64 a0, .int .i64 a1, .int .i64 a2] w fun e w' => e = .returned (.bool r) ∧ Drawn0 w w' := by
 have H : (if a0 ≥ a1 then (some (decide (a0 ≤ a2))) else (some false)) = some r := h
 clear h
 replace H := ite_ H
 obtain ⟨c4, H⟩ | ⟨c4, H⟩ := H
 rotate_left
 ·have aA := dne_ c4
  clear c4
  obtain rfl := Option.some.inj H
  go_enter Try.func77, Try.ntmps77
  go_wp2
  go_ret
  exact ⟨by first | rfl | (simp; done) | (simp [*]; done), dr_⟩
 have aA := dge_ c4
 clear c4
 obtain rfl := Option.some.inj H
 go_enter Try.func77, Try.ntmps77
 go_wp2
 go_ret
 exact ⟨by first | rfl | (simp; done) | (simp [*]; done), dr_⟩

-- NOT PRINTED: function 102 (slices_IndexFunc_File)

-- NOT PRINTED: function 95 (slices_ContainsFunc_File)

/-! ### impl_isDisk: function 79 -/
/-- The first place, from i on, of d places, where q holds. -/
def isDisk_ix (q : Nat → Bool) : Nat → Nat → Int
 | _, 0 => -1
 | i, d + 1 => if q i = true then (i : Int) else isDisk_ix q (i + 1) d
set_option maxHeartbeats 8000000 in
set_option maxRecDepth 100000 in
theorem isDisk_idx (q : Nat → Bool) (l : List S56) (A : Option Addr) (c : Nat) (g : Nat) (lb : Array Value) (eg : ∀ args w, (callFunc g args).run Try.prog w = .ok (.enter g args) w) (w : World)
  (hr : Kd.C k56 w A l.length l)
  (hp : ∀ (W : World) (i : Nat), Below w.heap.size w W → i < l.length → Calls Try.prog g (#[.agg #[.string (rd_T56 l (i : Int)).f0, .int .i64 (rd_T56 l (i : Int)).f1]] ++ lb) W fun e w' => e = .returned (.bool (q i)) ∧ Below w.heap.size w w') :
  Calls Try.prog 102 #[.slice A l.length c, .func (.func g) #[] lb] w fun e w' => e = .returned (.int .i64 (isDisk_ix q 0 l.length)) ∧ Below w.heap.size w w' := by
 have hbig : l.length ≤ 9223372036854775807 := hr.2.1
 have hu_ := Try.underlying56
 have HR := Aside0.mk hr
 have HP := Aside0.mk hp
 clear hr hp
 go_enter Try.func102, Try.ntmps102
 go_wp2
 go_loopg [5, 8] l.length (fun gg _ s8 wr => ∃ kk : Nat, kk ≤ l.length ∧ l.length - kk ≤ gg ∧ s8 = .int .i64 kk ∧ Aside (Below w.heap.size w wr) ∧ Aside (isDisk_ix q 0 l.length = isDisk_ix q kk (l.length - kk)))
 case atStart => exact ⟨0, Nat.zero_le _, by omega, rfl, Below.refl _ w, rfl⟩
 case round =>
  obtain ⟨kk, hkk, hg, rfl, BW, AA⟩ := hrel
  by_cases hlt : kk < l.length
  ·have hltz : (kk : Int) < (l.length : Int) := by omega
   have CW := Kd.C_below HR.out (BW.out)
   obtain ⟨ad, rfl, hcell0, hcell1⟩ := at_T56 CW (kk : Int) (by omega) hltz
   have hcall := HP.out wr kk BW.out hlt
   clear CW
   generalize rd_T56 l (kk : Int) = y at hcell0 hcell1 hcall
   rw [Int.toNat_natCast] at hcell0 hcell1
   have e1 : isDisk_ix q kk (l.length - kk) = if q kk = true then (kk : Int) else isDisk_ix q (kk + 1) (l.length - (kk + 1)) := by
    rw [show l.length - kk = (l.length - (kk + 1)) + 1 by omega]
    rfl
   have E1 := Aside0.mk e1
   clear e1
   have HC := Aside0.mk hcall
   clear hcall
   cases hq : q kk with
   | true =>
    have HQ := Aside0.mk hq
    clear hq
    go_wp2_with fail
    refine HC.out.mono ?_
    rw [HQ.out]
    clear HC
    rintro e w2 ⟨rfl, aA⟩
    have bA := Aside0.mk aA
    clear aA
    go_wp2_with fail
    go_ret
    refine ⟨?_, bA.out⟩
    rw [AA.out, E1.out, if_pos HQ.out]
    rfl
   | false =>
    have HQ := Aside0.mk hq
    clear hq
    go_wp2_with fail
    refine HC.out.mono ?_
    rw [HQ.out]
    clear HC
    rintro e w2 ⟨rfl, aA⟩
    have bA := Aside0.mk aA
    clear aA
    go_wp2_with fail
    go_roundg (l.length - (kk + 1))
    case measure => omega
    case rel => exact ⟨kk + 1, by omega, by omega, by go_num, bA.out, (show Aside _ from by rw [AA.out, E1.out, if_neg (by rw [HQ.out]; decide)]; exact rfl)⟩
  ·have hltz : ¬ (kk : Int) < (l.length : Int) := by omega
   have hkl : kk = l.length := by omega
   subst hkl
   go_wp2
   go_ret
   refine ⟨?_, BW.out⟩
   rw [AA.out, Nat.sub_self]
   rfl
set_option maxHeartbeats 8000000 in
set_option maxRecDepth 100000 in
theorem isDisk_cont (q : Nat → Bool) (l : List S56) (A : Option Addr) (c : Nat) (g : Nat) (lb : Array Value) (eg : ∀ args w, (callFunc g args).run Try.prog w = .ok (.enter g args) w) (w : World)
  (hr : Kd.C k56 w A l.length l)
  (hp : ∀ (W : World) (i : Nat), Below w.heap.size w W → i < l.length → Calls Try.prog g (#[.agg #[.string (rd_T56 l (i : Int)).f0, .int .i64 (rd_T56 l (i : Int)).f1]] ++ lb) W fun e w' => e = .returned (.bool (q i)) ∧ Below w.heap.size w w') :
  Calls Try.prog 95 #[.slice A l.length c, .func (.func g) #[] lb] w fun e w' => e = .returned (.bool (decide (0 ≤ isDisk_ix q 0 l.length))) ∧ Below w.heap.size w w' := by
 have HC := Aside0.mk (isDisk_idx q l A c g lb eg w hr hp)
 clear hr hp
 go_enter Try.func95, Try.ntmps95
 go_wp2_with fail
 refine HC.out.mono ?_
 clear HC
 rintro e w2 ⟨rfl, aA⟩
 have bA := Aside0.mk aA
 clear aA
 go_wp2_with fail
 go_ret
 exact ⟨rfl, bA.out⟩

theorem isDisk_in (a b c : Int) : impl_in.f a b c = some (decide (b ≤ a ∧ a ≤ c)) := by
 unfold impl_in.f
 by_cases h : a ≥ b
 ·rw [if_pos h]
  have e : (b ≤ a ∧ a ≤ c) ↔ a ≤ c := ⟨fun h => h.2, fun h' => ⟨h, h'⟩⟩
  simp only [e]
 ·rw [if_neg h, decide_eq_false]
  intro h'
  exact h h'.1
def impl_isDisk.q1 (s : ByteArray) (n : Int) : Bool := if (s.size : Int) > 400 then true else !(decide (0 ≤ n ∧ n ≤ (s.size : Int)))
def impl_isDisk.q (l : List S56) (i : Nat) : Bool := impl_isDisk.q1 (rd_T56 l (i : Int)).f0 (rd_T56 l (i : Int)).f1
set_option maxHeartbeats 8000000 in
set_option maxRecDepth 100000 in
theorem isDisk_lit (s : ByteArray) (n : Int) (w : World) : Calls Try.prog 96 #[.agg #[.string s, .int .i64 n]] w fun e w' => e = .returned (.bool (impl_isDisk.q1 s n)) ∧ Below w.heap.size w w' := by
 have hu_ := Try.underlying56
 have HI := Aside0.mk (isDisk_in n 0 (s.size : Int))
 by_cases h1 : (s.size : Int) > 400
 ·have HQ := Aside0.mk (show impl_isDisk.q1 s n = true from by unfold impl_isDisk.q1; rw [if_pos h1])
  have h1b : decide ((400 : Int) < (s.size : Int)) = true := decide_eq_true h1
  have h1c : decide (400 < s.size) = true := decide_eq_true (by omega)
  clear h1
  go_enter Try.func96, Try.ntmps96
  go_wp2_with fail
  go_ret
  exact ⟨by rw [HQ.out]; rfl, by repeat (first | exact Below.refl _ _ | apply below_alloc | apply pw_below_drewN)⟩
 ·have HQ := Aside0.mk (show impl_isDisk.q1 s n = !(decide (0 ≤ n ∧ n ≤ (s.size : Int))) from by unfold impl_isDisk.q1; rw [if_neg h1])
  have h1b : decide ((400 : Int) < (s.size : Int)) = false := decide_eq_false h1
  have h1c : decide (400 < s.size) = false := decide_eq_false (by omega)
  clear h1
  go_enter Try.func96, Try.ntmps96
  go_wp2_with fail
  refine (impl_in.calls _ _ _ _ _ HI.out).mono ?_
  clear HI
  rintro e w1 ⟨rfl, ⟨n1, rfl⟩⟩
  generalize decide (0 ≤ n ∧ n ≤ (s.size : Int)) = b at HQ
  go_wp2_with fail
  go_ret
  exact ⟨by rw [HQ.out]; rfl, by repeat (first | exact Below.refl _ _ | apply below_alloc | apply pw_below_drewN)⟩
def impl_isDisk.f (l0_0 : List S56) : Option (Bool) := (impl_in.f (l0_0.length : Int) 1 4).bind fun t => if t = true then some (!(decide (0 ≤ isDisk_ix (impl_isDisk.q l0_0) 0 l0_0.length))) else some false
set_option maxHeartbeats 8000000 in
set_option maxRecDepth 100000 in
theorem impl_isDisk.calls (A0_0 : Option Addr) (c0_0 : Nat) (l0_0 : List S56) (r : Bool) (w : World) (hr0_0 : Kd.C k56 w A0_0 l0_0.length l0_0) (_hc0_0 : l0_0.length ≤ c0_0) (h : impl_isDisk.f l0_0 = some r) :
  Calls Try.prog 79 #[.agg #[.slice A0_0 l0_0.length c0_0]] w fun e w' => e = .returned (.bool r) ∧ Below w.heap.size w w' := by
 have hu_ := Try.underlying31
 have HR := Aside0.mk hr0_0
 clear hr0_0
 unfold impl_isDisk.f at h
 obtain ⟨t, h1, h2⟩ := Option.bind_eq_some_iff.1 h
 have H1 := Aside0.mk h1
 clear h h1
 cases t with
 | true =>
  rw [if_pos rfl] at h2
  have H4 := Aside0.mk (Option.some.inj h2)
  clear h2
  go_enter Try.func79, Try.ntmps79
  go_wp2_with fail
  refine (impl_in.calls _ _ _ _ _ H1.out).mono ?_
  rintro e w1 ⟨rfl, ⟨n1, rfl⟩⟩
  go_wp2_with fail
  refine (isDisk_cont (impl_isDisk.q l0_0) l0_0 A0_0 c0_0 96 #[] (fun args w => by first | rfl | kernel_rfl) _ (Kd.C_below HR.out (by repeat (first | exact Below.refl _ _ | apply below_alloc | apply pw_below_drewN))) (fun W i hd hi => (isDisk_lit _ _ W).mono fun e w' he => ⟨he.1, hd.trans (he.2.mono hd.size)⟩)).mono ?_
  rintro e w2 ⟨rfl, hb⟩
  have HB := Aside0.mk hb
  clear hb
  go_wp2_with fail
  go_ret
  exact ⟨by rw [H4.out]; rfl, below_step (by repeat (first | exact Below.refl _ _ | apply below_alloc | apply pw_below_drewN)) HB.out⟩
 | false =>
  rw [if_neg (by decide)] at h2
  have H2 := Aside0.mk (Option.some.inj h2)
  clear h2
  go_enter Try.func79, Try.ntmps79
  go_wp2_with fail
  refine (impl_in.calls _ _ _ _ _ H1.out).mono ?_
  rintro e w1 ⟨rfl, ⟨n1, rfl⟩⟩
  go_wp2_with fail
  go_ret
  exact ⟨by rw [H2.out]; rfl, by repeat (first | exact Below.refl _ _ | apply below_alloc | apply pw_below_drewN)⟩



/-! ### impl_Disk_has: function 52 -/
def impl_Disk_has.f (l0_0 : List (S56)) (a1 : Int) : Option (Bool) := (impl_isDisk.f l0_0).bind fun t102 => (if t102 = true then ((impl_in.f a1 0 (wrap64 ((l0_0.length : Int) - 1))).bind fun t103 => (some t103)) else (some false))
set_option maxHeartbeats 8000000 in
set_option maxRecDepth 100000 in
theorem impl_Disk_has.calls (A0_0 : Option Addr) (c0_0 : Nat) (l0_0 : List (S56)) (a1 : Int) (r : Bool) (w : World) (hr0_0 : Kd.C k56 w A0_0 l0_0.length l0_0) (hc0_0 : l0_0.length ≤ c0_0) (h : impl_Disk_has.f l0_0 a1 = some r) :
  Calls Try.prog 52 #[.agg #[.slice A0_0 l0_0.length c0_0], .int .i64 a1] w fun e w' => e = .returned (.bool r) ∧ Below w.heap.size w w' := by
 have hu31 := Try.underlying31
 have cA := Aside0.mk hr0_0
 have dA := Aside0.mk hc0_0
 clear hr0_0 hc0_0
 have HB := Aside0.mk (Below.refl w.heap.size w)
 have H : ((impl_isDisk.f l0_0).bind fun fA => (if fA = true then ((impl_in.f a1 0 (wrap64 ((l0_0.length : Int) - 1))).bind fun eA => (some eA)) else (some false))) = some r := h
 clear h
 replace H := bnd_ H
 obtain ⟨fA, A3, H⟩ := H
 replace H := ifb_ H
 obtain ⟨rfl, H⟩ | ⟨rfl, H⟩ := H
 rotate_left
 ·obtain rfl := Option.some.inj H
  go_enter Try.func52, Try.ntmps52
  go_wp2_with (first | ((with_reducible refine gate_dst (N := 2) rfl ?_); (try (refine gate_guard (by rfl) ?_; dsimp only)); refine bq_ (N := 2) #[.slice A0_0 l0_0.length c0_0] 31 ?_; intro gA hg nA aA hb; have bA := ge_ hg; replace HB := nb_ hb; clear hb hg; obtain ⟨hA, iA⟩ := cf1_ aA.out) | ((with_reducible refine gate_callee (f := 79) rfl ?_); refine gl_ 6 Try.func79 #[.agg #[.slice A0_0 l0_0.length c0_0]] rfl ma_ ?_; (with_reducible refine (impl_isDisk.calls _ _ l0_0 false _ ?side1 ?side2 A3.out).mono ?_); (case side1 => exact cs_ ((Kd.C_below cA.out HB.out))); (case side2 => exact dA.out); rintro e oA ⟨rfl, hb⟩; refine ⟨_, rfl, ?_⟩; replace aA := bK_ aA hb; replace HB := nc_ bA hb; (try clear hb); (try clear hb2); (try clear hk); (try clear hi)))
  go_ret
  exact ⟨er_, hs_ bA.out⟩
 replace H := bnd_ H
 obtain ⟨eA, A5, H⟩ := H
 obtain rfl := Option.some.inj H
 go_enter Try.func52, Try.ntmps52
 go_wp2_with (first | ((with_reducible refine gate_dst (N := 2) rfl ?_); (try (refine gate_guard (by rfl) ?_; dsimp only)); refine bq_ (N := 2) #[.slice A0_0 l0_0.length c0_0] 31 ?_; intro gA hg w6 aA hb; have bA := ge_ hg; replace HB := nb_ hb; clear hb hg; obtain ⟨jA, kA⟩ := cf1_ aA.out) | ((with_reducible refine gate_callee (f := 79) rfl ?_); refine gl_ 6 Try.func79 #[.agg #[.slice A0_0 l0_0.length c0_0]] rfl ma_ ?_; (with_reducible refine (impl_isDisk.calls _ _ l0_0 true _ ?side1 ?side2 A3.out).mono ?_); (case side1 => exact cs_ ((Kd.C_below cA.out HB.out))); (case side2 => exact dA.out); rintro e w8 ⟨rfl, hb⟩; refine ⟨_, rfl, ?_⟩; replace aA := bK_ aA hb; replace HB := nc_ bA hb; (try clear hb); (try clear hb2); (try clear hk); (try clear hi); obtain ⟨lA, mA⟩ := cf1_ aA.out) | (go_at_call 77; (with_reducible refine (impl_in.calls a1 0 (wrap64 ((l0_0.length : Int) - 1)) eA _ A5.out).mono ?_); rintro e w' ⟨rfl, ⟨nd, rfl⟩⟩))
 go_ret
 exact ⟨er_, hs_ bA.out⟩

/-! ### impl_Batch_end: function 91 -/
def impl_Batch_end.f (a0_0 : Int) (a0_1 : Int) (a0_2 : Int) (a0_3 : Int) (l0_4 : List ByteArray) : Option (Int) := some (wrap64 (a0_0 + (l0_4.length : Int)))
set_option maxHeartbeats 8000000 in
set_option maxRecDepth 100000 in
theorem impl_Batch_end.calls (a0_0 : Int) (a0_1 : Int) (a0_2 : Int) (a0_3 : Int) (A0_4 : Option Addr) (c0_4 : Nat) (l0_4 : List ByteArray) (r : Int) (w : World) (hr0_4 : Kd.C Kd.string w A0_4 l0_4.length l0_4) (hc0_4 : l0_4.length ≤ c0_4) (h : impl_Batch_end.f a0_0 a0_1 a0_2 a0_3 l0_4 = some r) :
  Calls Try.prog 91 #[.agg #[.int .i64 a0_0, .int .i64 a0_1, .int .i64 a0_2, .int .i64 a0_3, .slice A0_4 l0_4.length c0_4]] w fun e w' => e = .returned (.int .i64 r) ∧ Below w.heap.size w w' := by
 have hu44 := Try.underlying44
 have mA := Aside0.mk hr0_4
 have nA := Aside0.mk hc0_4
 clear hr0_4 hc0_4
 have HB := Aside0.mk (Below.refl w.heap.size w)
 have H : (some (wrap64 (a0_0 + (l0_4.length : Int)))) = some r := h
 clear h
 obtain rfl := Option.some.inj H
 go_enter Try.func91, Try.ntmps91
 go_wp2_with (first | ((with_reducible refine gate_dst (N := 1) rfl ?_); refine bq_ (N := 1) #[.int .i64 a0_0, .int .i64 a0_1, .int .i64 a0_2, .int .i64 a0_3, .slice A0_4 l0_4.length c0_4] 44 ?_; intro oA hg w2 aA hb; have bA := ge_ hg; replace HB := nb_ hb; clear hb hg; obtain ⟨cA, dA, eA, fA, gA, hA, iA, jA, kA, lA⟩ := cf5_ aA.out))
 go_ret
 exact ⟨er_, hs_ bA.out⟩

/-! ### impl_follows: function 65 -/
def impl_follows.f (l0 : List (S44)) (a1_0 : Int) (a1_1 : Int) (a1_2 : Int) (a1_3 : Int) (l1_4 : List ByteArray) : Option (Bool) := if (l0.length : Int) = 0 then (some true) else (if 0 ≤ (wrap64 ((l0.length : Int) - 1)) then (if (wrap64 ((l0.length : Int) - 1)) < (l0.length : Int) then ((impl_Batch_end.f ((rd_T44 l0 (wrap64 ((l0.length : Int) - 1))).f0) ((rd_T44 l0 (wrap64 ((l0.length : Int) - 1))).f1) ((rd_T44 l0 (wrap64 ((l0.length : Int) - 1))).f2) ((rd_T44 l0 (wrap64 ((l0.length : Int) - 1))).f3) ((rd_T44 l0 (wrap64 ((l0.length : Int) - 1))).f4)).bind fun t108 => (if a1_0 = t108 then (some (decide (a1_1 ≥ ((rd_T44 l0 (wrap64 ((l0.length : Int) - 1))).f1)))) else (some false))) else (none)) else (none))
def impl_follows.T4 : Bool × List (List Nat × List Nat) := (true, [([], []), ([0], [0]), ([], []), ([2], [2]), ([1, 3], [1, 3]), ([4, 3], [4]), ([5], [5]), ([6, 5], [5, 6]), ([5], [5]), ([8, 5], [5, 8]), ([7, 9, 5], [5, 7, 9]), ([5, 10], [5, 10]), ([11, 5, 0, 1, 2, 3, 4, 5, 6, 7, 8, 9, 10, 11], [11])])
def impl_follows.B4 : List Nat := [0, 1, 0, 4, 15, 31, 63, 127, 63, 319, 1023, 2047, 4095]
theorem impl_follows.tab4 : rtab .any (opsOf Try.f65 4) = impl_follows.T4 := by kernel_rfl
theorem impl_follows.bits4 : waitsOk impl_follows.T4.2 impl_follows.B4 = true := by kernel_rfl
set_option maxHeartbeats 8000000 in
set_option maxRecDepth 100000 in
theorem impl_follows.calls (A0 : Option Addr) (c0 : Nat) (l0 : List (S44)) (a1_0 : Int) (a1_1 : Int) (a1_2 : Int) (a1_3 : Int) (A1_4 : Option Addr) (c1_4 : Nat) (l1_4 : List ByteArray) (r : Bool) (w : World) (hr0 : Kd.C k44 w A0 l0.length l0) (hc0 : l0.length ≤ c0) (hr1_4 : Kd.C Kd.string w A1_4 l1_4.length l1_4) (hc1_4 : l1_4.length ≤ c1_4) (h : impl_follows.f l0 a1_0 a1_1 a1_2 a1_3 l1_4 = some r) :
  Calls Try.prog 65 #[.slice A0 l0.length c0, .agg #[.int .i64 a1_0, .int .i64 a1_1, .int .i64 a1_2, .int .i64 a1_3, .slice A1_4 l1_4.length c1_4]] w fun e w' => e = .returned (.bool r) ∧ Below w.heap.size w w' := by
 have hu44 := Try.underlying44
 have yB := Aside0.mk hr0
 have kC := Aside0.mk hc0
 clear hr0 hc0
 have zB := Aside0.mk hr1_4
 have aC := Aside0.mk hc1_4
 clear hr1_4 hc1_4
 have HB := Aside0.mk (Below.refl w.heap.size w)
 have H : (if (l0.length : Int) = 0 then (some true) else (if 0 ≤ (wrap64 ((l0.length : Int) - 1)) then (if (wrap64 ((l0.length : Int) - 1)) < (l0.length : Int) then ((impl_Batch_end.f ((rd_T44 l0 (wrap64 ((l0.length : Int) - 1))).f0) ((rd_T44 l0 (wrap64 ((l0.length : Int) - 1))).f1) ((rd_T44 l0 (wrap64 ((l0.length : Int) - 1))).f2) ((rd_T44 l0 (wrap64 ((l0.length : Int) - 1))).f3) ((rd_T44 l0 (wrap64 ((l0.length : Int) - 1))).f4)).bind fun tA => (if a1_0 = tA then (some (decide (a1_1 ≥ ((rd_T44 l0 (wrap64 ((l0.length : Int) - 1))).f1)))) else (some false))) else (none)) else (none))) = some r := h
 clear h
 replace H := ite_ H
 obtain ⟨c3, H⟩ | ⟨c3, H⟩ := H
 ·have uB : ((l0.length : Int) == 0) = true := beq_iff_eq.mpr c3
  have vB : ((l0.length : Int) != 0) = false := bne_eq_false_iff_eq.mpr c3
  clear c3
  obtain rfl := Option.some.inj H
  go_enter Try.func65, Try.ntmps65
  go_wp2_with (first | ((with_reducible refine gate_dst (N := 3) rfl ?_); refine bq_ (N := 3) #[.int .i64 a1_0, .int .i64 a1_1, .int .i64 a1_2, .int .i64 a1_3, .slice A1_4 l1_4.length c1_4] 44 ?_; intro fA hg w4 bA hb; have gA := ge_ hg; replace HB := nb_ hb; clear hb hg))
  go_ret
  exact ⟨er_, hs_ gA.out⟩
 have uB : ((l0.length : Int) == 0) = false := beq_eq_false_iff_ne.mpr c3
 have vB : ((l0.length : Int) != 0) = true := bne_iff_ne.mpr c3
 have fC : ¬ (l0 = []) := fun h_ => c3 (by rw [h_]; rfl)
 obtain ⟨ji5, hji5⟩ : ∃ j_ : Int, (wrap64 ((l0.length : Int) - 1)) = j_ := ⟨_, rfl⟩
 first | rw [hji5] at H | simp only [hji5] at H
 have hji5w : (IntKind.i64.wrap ((l0.length : Int) - 1)) = ji5 := (i64_w _).trans hji5
 replace H := ifs_ H
 obtain ⟨c6, H⟩ := H
 have gC := decide_eq_true c6
 clear c6
 replace H := ifs_ H
 obtain ⟨c7, H⟩ := H
 have hC := decide_eq_true c7
 clear c7
 replace H := bnd_ H
 obtain ⟨tA, A8, H⟩ := H
 replace H := ite_ H
 obtain ⟨c9, H⟩ | ⟨c9, H⟩ := H
 ·have wB : (a1_0 == tA) = true := beq_iff_eq.mpr c9
  have xB : (a1_0 != tA) = false := bne_eq_false_iff_eq.mpr c9
  clear c9
  obtain rfl := Option.some.inj H
  go_enter Try.func65, Try.ntmps65
  try go_wp2_with (first | ((with_reducible refine gate_dst (N := 3) rfl ?_); refine bq_ (N := 3) #[.int .i64 a1_0, .int .i64 a1_1, .int .i64 a1_2, .int .i64 a1_3, .slice A1_4 l1_4.length c1_4] 44 ?_; intro fA hg lC bA hb; have gA := ge_ hg; replace HB := nb_ hb; clear hb hg; have uA : 0 ≤ ((ji5) : Int) := oa_; have vA : (ji5) < (l0.length : Int) := oa_; obtain ⟨xA, dA, eA, wA, iA, jA, kA, lA, mA, nA, oA⟩ := at_T44 yB.out (ji5) uA vA; cases wA; replace iA := pc_ HB.out iA; replace jA := pc_ HB.out jA; replace kA := pc_ HB.out kA; replace lA := pc_ HB.out lA; replace mA := pc_ HB.out mA; have rA := Aside0.mk oA; have sA := Aside0.mk nA; clear oA nA; replace uA := eq_true uA; replace vA := eq_true vA) | ((with_reducible refine gate_dst (N := 5) rfl ?_); refine bq_ (N := 5) #[.int .i64 0, .int .i64 0, .int .i64 0, .int .i64 0, .slice none 0 0] 44 ?_; intro aA hg yA cA hb; have qA := ge1_ hg gA; replace HB := nc_ gA hb; have hA := nl_ bA hg; have pA := ng_ bA hg; replace bA := bK_ bA hb; clear hb hg; have bC := pA.out; have cC := hA.out; obtain ⟨zA, aB, bB, cB, dB, eB, fB, gB, hB, iB⟩ := cf5_ cA.out))
  have n0_ : Aside0 ((((((yA.setCell ⟨aA, 0, none⟩ (.int .i64 ((rd_T44 l0 (ji5)).f0))).setCell ⟨aA, 1, none⟩ (.int .i64 ((rd_T44 l0 (ji5)).f1))).setCell ⟨aA, 2, none⟩ (.int .i64 ((rd_T44 l0 (ji5)).f2))).setCell ⟨aA, 3, none⟩ (.int .i64 ((rd_T44 l0 (ji5)).f3))).setCell ⟨aA, 4, none⟩ (.slice dA ((rd_T44 l0 (ji5)).f4).length eA)).heap[fA]? = some (.cells #[.int .i64 a1_0, .int .i64 a1_1, .int .i64 a1_2, .int .i64 a1_3, .slice A1_4 l1_4.length c1_4] 44 (0, 0))) := ⟨uf_ bA hA.out⟩
  have n1_ : Aside0 ((((((yA.setCell ⟨aA, 0, none⟩ (.int .i64 ((rd_T44 l0 (ji5)).f0))).setCell ⟨aA, 1, none⟩ (.int .i64 ((rd_T44 l0 (ji5)).f1))).setCell ⟨aA, 2, none⟩ (.int .i64 ((rd_T44 l0 (ji5)).f2))).setCell ⟨aA, 3, none⟩ (.int .i64 ((rd_T44 l0 (ji5)).f3))).setCell ⟨aA, 4, none⟩ (.slice dA ((rd_T44 l0 (ji5)).f4).length eA)).heap[aA]? = some (.cells #[.int .i64 ((rd_T44 l0 (ji5)).f0), .int .i64 ((rd_T44 l0 (ji5)).f1), .int .i64 ((rd_T44 l0 (ji5)).f2), .int .i64 ((rd_T44 l0 (ji5)).f3), .slice dA ((rd_T44 l0 (ji5)).f4).length eA] 44 (0, 0))) := ⟨up_ cA⟩
  have n2_ : Aside0 (Below w.heap.size w (((((yA.setCell ⟨aA, 0, none⟩ (.int .i64 ((rd_T44 l0 (ji5)).f0))).setCell ⟨aA, 1, none⟩ (.int .i64 ((rd_T44 l0 (ji5)).f1))).setCell ⟨aA, 2, none⟩ (.int .i64 ((rd_T44 l0 (ji5)).f2))).setCell ⟨aA, 3, none⟩ (.int .i64 ((rd_T44 l0 (ji5)).f3))).setCell ⟨aA, 4, none⟩ (.slice dA ((rd_T44 l0 (ji5)).f4).length eA))) := ⟨hs2_ gA.out qA.out⟩
  (try clear bA)
  (try clear cA)
  (try clear HB)
  generalize (((((yA.setCell ⟨aA, 0, none⟩ (.int .i64 ((rd_T44 l0 (ji5)).f0))).setCell ⟨aA, 1, none⟩ (.int .i64 ((rd_T44 l0 (ji5)).f1))).setCell ⟨aA, 2, none⟩ (.int .i64 ((rd_T44 l0 (ji5)).f2))).setCell ⟨aA, 3, none⟩ (.int .i64 ((rd_T44 l0 (ji5)).f3))).setCell ⟨aA, 4, none⟩ (.slice dA ((rd_T44 l0 (ji5)).f4).length eA)) = iC at n0_ n1_ n2_ ⊢
  have bA := n0_
  have cA := n1_
  have HB := n2_
  clear n0_ n1_ n2_
  replace bA := qK_ bA
  replace cA := qK_ cA
  replace HB := qH_ HB
  refine start_ (n := 13) (S := fun w' => w'.cell? ⟨fA, 0, none⟩ = some (.int .i64 a1_0) ∧ w'.cell? ⟨fA, 1, none⟩ = some (.int .i64 a1_1) ∧ w'.cell? ⟨fA, 2, none⟩ = some (.int .i64 a1_2) ∧ w'.cell? ⟨fA, 3, none⟩ = some (.int .i64 a1_3) ∧ w'.cell? ⟨fA, 4, none⟩ = some (.slice A1_4 l1_4.length c1_4) ∧ w'.cell? ⟨aA, 0, none⟩ = some (.int .i64 ((rd_T44 l0 (ji5)).f0)) ∧ w'.cell? ⟨aA, 1, none⟩ = some (.int .i64 ((rd_T44 l0 (ji5)).f1)) ∧ w'.cell? ⟨aA, 2, none⟩ = some (.int .i64 ((rd_T44 l0 (ji5)).f2)) ∧ w'.cell? ⟨aA, 3, none⟩ = some (.int .i64 ((rd_T44 l0 (ji5)).f3)) ∧ w'.cell? ⟨aA, 4, none⟩ = some (.slice dA ((rd_T44 l0 (ji5)).f4).length eA)) (ds := []) (List.replicate 13 false).toArray (by kernel_rfl) rfl rfl ⟨bt_ bA 0, bt_ bA 1, bt_ bA 2, bt_ bA 3, bt_ bA 4, bt_ cA 0, bt_ cA 1, bt_ cA 2, bt_ cA 3, bt_ cA 4⟩ (fun hHeld => ?_); refine with_tabW impl_follows.tab4 impl_follows.bits4 (fun HT_ HW_ => ?_)
  generalize iC.drew = mC at bA cA HB hHeld ⊢
  refine pv_ 0 15 ?_
  refine tk_ 1 16 ?_
  refine tk_ 2 17 ?_
  refine on_ 3 18 (fun K hK => ?_)
  refine gs_ Try.func91 #[.agg #[.int .i64 ((rd_T44 l0 (ji5)).f0), .int .i64 ((rd_T44 l0 (ji5)).f1), .int .i64 ((rd_T44 l0 (ji5)).f2), .int .i64 ((rd_T44 l0 (ji5)).f3), .slice dA ((rd_T44 l0 (ji5)).f4).length eA]] rfl (mb_ hji5) ?_
  with_reducible refine (impl_Batch_end.calls ((rd_T44 l0 (ji5)).f0) ((rd_T44 l0 (ji5)).f1) ((rd_T44 l0 (ji5)).f2) ((rd_T44 l0 (ji5)).f3) _ _ ((rd_T44 l0 (ji5)).f4) tA _ ?side1 ?side2 A8.out).mono ?_
  (case side1 => exact cs_ ((Kd.C_below rA.out HB.out)))
  (case side2 => exact sA.out)
  rintro e nC ⟨rfl, hb⟩
  refine ⟨_, rfl, ?_⟩
  replace bA := bK_ bA hb
  replace cA := bK_ cA hb
  replace HB := nc2_ gA qA hb
  (try clear hb)
  (try clear hb2)
  (try clear hk)
  (try clear hi)
  refine hK.out _ _ ⟨bt_ bA 0, bt_ bA 1, bt_ bA 2, bt_ bA 3, bt_ bA 4, bt_ cA 0, bt_ cA 1, bt_ cA 2, bt_ cA 3, bt_ cA 4⟩ (fun hHeld => ?_)
  clear hK K
  refine no_ ?_
  refine pv_ 4 19 ?_
  refine pv_ 5 20 ?_
  refine pv_ 6 21 ?_
  refine pv_ 8 23 ?_
  refine tk_ 7 22 ?_
  refine tk_ 9 24 ?_
  refine pv_ 10 25 ?_
  refine pv_ 11 26 ?_
  refine pv_ 12 4 ?_
  refine done_ (done_of HT_.out (by kernel_rfl)) ?_
  try go_wp2
  go_ret
  exact ⟨by first | rfl | (simp [errW_none, errW_some] <;> rfl) | (simp only [← hji5]; first | rfl | (simp [errW_none, errW_some] <;> rfl)) | (simp [*, errW_none, errW_some] <;> rfl), hs2_ gA.out qA.out⟩
 have wB : (a1_0 == tA) = false := beq_eq_false_iff_ne.mpr c9
 have xB : (a1_0 != tA) = true := bne_iff_ne.mpr c9
 obtain rfl := Option.some.inj H
 go_enter Try.func65, Try.ntmps65
 try go_wp2_with (first | ((with_reducible refine gate_dst (N := 3) rfl ?_); refine bq_ (N := 3) #[.int .i64 a1_0, .int .i64 a1_1, .int .i64 a1_2, .int .i64 a1_3, .slice A1_4 l1_4.length c1_4] 44 ?_; intro fA hg oC bA hb; have gA := ge_ hg; replace HB := nb_ hb; clear hb hg; have uA : 0 ≤ ((ji5) : Int) := oa_; have vA : (ji5) < (l0.length : Int) := oa_; obtain ⟨xA, dA, eA, wA, iA, jA, kA, lA, mA, nA, oA⟩ := at_T44 yB.out (ji5) uA vA; cases wA; replace iA := pc_ HB.out iA; replace jA := pc_ HB.out jA; replace kA := pc_ HB.out kA; replace lA := pc_ HB.out lA; replace mA := pc_ HB.out mA; have rA := Aside0.mk oA; have sA := Aside0.mk nA; clear oA nA; replace uA := eq_true uA; replace vA := eq_true vA) | ((with_reducible refine gate_dst (N := 5) rfl ?_); refine bq_ (N := 5) #[.int .i64 0, .int .i64 0, .int .i64 0, .int .i64 0, .slice none 0 0] 44 ?_; intro aA hg jB cA hb; have qA := ge1_ hg gA; replace HB := nc_ gA hb; have hA := nl_ bA hg; have pA := ng_ bA hg; replace bA := bK_ bA hb; clear hb hg; have dC := pA.out; have eC := hA.out; obtain ⟨kB, lB, mB, nB, oB, pB, qB, rB, sB, tB⟩ := cf5_ cA.out))
 have n0_ : Aside0 ((((((jB.setCell ⟨aA, 0, none⟩ (.int .i64 ((rd_T44 l0 (ji5)).f0))).setCell ⟨aA, 1, none⟩ (.int .i64 ((rd_T44 l0 (ji5)).f1))).setCell ⟨aA, 2, none⟩ (.int .i64 ((rd_T44 l0 (ji5)).f2))).setCell ⟨aA, 3, none⟩ (.int .i64 ((rd_T44 l0 (ji5)).f3))).setCell ⟨aA, 4, none⟩ (.slice dA ((rd_T44 l0 (ji5)).f4).length eA)).heap[fA]? = some (.cells #[.int .i64 a1_0, .int .i64 a1_1, .int .i64 a1_2, .int .i64 a1_3, .slice A1_4 l1_4.length c1_4] 44 (0, 0))) := ⟨uf_ bA hA.out⟩
 have n1_ : Aside0 ((((((jB.setCell ⟨aA, 0, none⟩ (.int .i64 ((rd_T44 l0 (ji5)).f0))).setCell ⟨aA, 1, none⟩ (.int .i64 ((rd_T44 l0 (ji5)).f1))).setCell ⟨aA, 2, none⟩ (.int .i64 ((rd_T44 l0 (ji5)).f2))).setCell ⟨aA, 3, none⟩ (.int .i64 ((rd_T44 l0 (ji5)).f3))).setCell ⟨aA, 4, none⟩ (.slice dA ((rd_T44 l0 (ji5)).f4).length eA)).heap[aA]? = some (.cells #[.int .i64 ((rd_T44 l0 (ji5)).f0), .int .i64 ((rd_T44 l0 (ji5)).f1), .int .i64 ((rd_T44 l0 (ji5)).f2), .int .i64 ((rd_T44 l0 (ji5)).f3), .slice dA ((rd_T44 l0 (ji5)).f4).length eA] 44 (0, 0))) := ⟨up_ cA⟩
 have n2_ : Aside0 (Below w.heap.size w (((((jB.setCell ⟨aA, 0, none⟩ (.int .i64 ((rd_T44 l0 (ji5)).f0))).setCell ⟨aA, 1, none⟩ (.int .i64 ((rd_T44 l0 (ji5)).f1))).setCell ⟨aA, 2, none⟩ (.int .i64 ((rd_T44 l0 (ji5)).f2))).setCell ⟨aA, 3, none⟩ (.int .i64 ((rd_T44 l0 (ji5)).f3))).setCell ⟨aA, 4, none⟩ (.slice dA ((rd_T44 l0 (ji5)).f4).length eA))) := ⟨hs2_ gA.out qA.out⟩
 (try clear bA)
 (try clear cA)
 (try clear HB)
 generalize (((((jB.setCell ⟨aA, 0, none⟩ (.int .i64 ((rd_T44 l0 (ji5)).f0))).setCell ⟨aA, 1, none⟩ (.int .i64 ((rd_T44 l0 (ji5)).f1))).setCell ⟨aA, 2, none⟩ (.int .i64 ((rd_T44 l0 (ji5)).f2))).setCell ⟨aA, 3, none⟩ (.int .i64 ((rd_T44 l0 (ji5)).f3))).setCell ⟨aA, 4, none⟩ (.slice dA ((rd_T44 l0 (ji5)).f4).length eA)) = jC at n0_ n1_ n2_ ⊢
 have bA := n0_
 have cA := n1_
 have HB := n2_
 clear n0_ n1_ n2_
 replace bA := qK_ bA
 replace cA := qK_ cA
 replace HB := qH_ HB
 refine start_ (n := 13) (S := fun w' => w'.cell? ⟨fA, 0, none⟩ = some (.int .i64 a1_0) ∧ w'.cell? ⟨fA, 1, none⟩ = some (.int .i64 a1_1) ∧ w'.cell? ⟨fA, 2, none⟩ = some (.int .i64 a1_2) ∧ w'.cell? ⟨fA, 3, none⟩ = some (.int .i64 a1_3) ∧ w'.cell? ⟨fA, 4, none⟩ = some (.slice A1_4 l1_4.length c1_4) ∧ w'.cell? ⟨aA, 0, none⟩ = some (.int .i64 ((rd_T44 l0 (ji5)).f0)) ∧ w'.cell? ⟨aA, 1, none⟩ = some (.int .i64 ((rd_T44 l0 (ji5)).f1)) ∧ w'.cell? ⟨aA, 2, none⟩ = some (.int .i64 ((rd_T44 l0 (ji5)).f2)) ∧ w'.cell? ⟨aA, 3, none⟩ = some (.int .i64 ((rd_T44 l0 (ji5)).f3)) ∧ w'.cell? ⟨aA, 4, none⟩ = some (.slice dA ((rd_T44 l0 (ji5)).f4).length eA)) (ds := []) (List.replicate 13 false).toArray (by kernel_rfl) rfl rfl ⟨bt_ bA 0, bt_ bA 1, bt_ bA 2, bt_ bA 3, bt_ bA 4, bt_ cA 0, bt_ cA 1, bt_ cA 2, bt_ cA 3, bt_ cA 4⟩ (fun hHeld => ?_); refine with_tabW impl_follows.tab4 impl_follows.bits4 (fun HT_ HW_ => ?_)
 generalize jC.drew = pC at bA cA HB hHeld ⊢
 refine pv_ 0 15 ?_
 refine tk_ 1 16 ?_
 refine tk_ 2 17 ?_
 refine on_ 3 18 (fun K hK => ?_)
 refine gs_ Try.func91 #[.agg #[.int .i64 ((rd_T44 l0 (ji5)).f0), .int .i64 ((rd_T44 l0 (ji5)).f1), .int .i64 ((rd_T44 l0 (ji5)).f2), .int .i64 ((rd_T44 l0 (ji5)).f3), .slice dA ((rd_T44 l0 (ji5)).f4).length eA]] rfl (mb_ hji5) ?_
 with_reducible refine (impl_Batch_end.calls ((rd_T44 l0 (ji5)).f0) ((rd_T44 l0 (ji5)).f1) ((rd_T44 l0 (ji5)).f2) ((rd_T44 l0 (ji5)).f3) _ _ ((rd_T44 l0 (ji5)).f4) tA _ ?side1 ?side2 A8.out).mono ?_
 (case side1 => exact cs_ ((Kd.C_below rA.out HB.out)))
 (case side2 => exact sA.out)
 rintro e qC ⟨rfl, hb⟩
 refine ⟨_, rfl, ?_⟩
 replace bA := bK_ bA hb
 replace cA := bK_ cA hb
 replace HB := nc2_ gA qA hb
 (try clear hb)
 (try clear hb2)
 (try clear hk)
 (try clear hi)
 refine hK.out _ _ ⟨bt_ bA 0, bt_ bA 1, bt_ bA 2, bt_ bA 3, bt_ bA 4, bt_ cA 0, bt_ cA 1, bt_ cA 2, bt_ cA 3, bt_ cA 4⟩ (fun hHeld => ?_)
 clear hK K
 refine no_ ?_
 refine pv_ 4 19 ?_
 refine pv_ 5 20 ?_
 refine po_ 6 21 ?_
 refine po_ 7 22 ?_
 refine po_ 8 23 ?_
 refine po_ 9 24 ?_
 refine po_ 10 25 ?_
 refine pv_ 11 26 ?_
 refine pv_ 12 4 ?_
 refine done_ (done_of HT_.out (by kernel_rfl)) ?_
 try go_wp2
 go_ret
 exact ⟨by first | rfl | (simp [errW_none, errW_some] <;> rfl) | (simp only [← hji5]; first | rfl | (simp [errW_none, errW_some] <;> rfl)) | (simp [*, errW_none, errW_some] <;> rfl), hs2_ gA.out qA.out⟩

-- NOT PRINTED: function 104 (slices_IndexFunc_string)

-- NOT PRINTED: function 100 (slices_ContainsFunc_string)

/-! ### impl_areRecords: function 88 -/
/-- The first place, from i on, of d places, where q holds. -/
def ixS (q : Nat → Bool) : Nat → Nat → Int
 | _, 0 => -1
 | i, d + 1 => if q i = true then (i : Int) else ixS q (i + 1) d
theorem areRecords_lit (s : ByteArray) (w : World) : Calls Try.prog 101 #[.string s] w fun e w' => e = .returned (.bool (decide ((20 : Int) < (s.size : Int)))) ∧ w = w' := by
 go_enter Try.func101, Try.ntmps101
 go_wp2
 go_ret
 exact ⟨rfl, rfl⟩
set_option maxHeartbeats 8000000 in
set_option maxRecDepth 100000 in
theorem areRecords_idx (q : Nat → Bool) (l : List ByteArray) (A : Option Addr) (c : Nat) (g : Nat) (lb : Array Value) (eg : ∀ args w, (callFunc g args).run Try.prog w = .ok (.enter g args) w) (w : World)
  (hr : Kd.C Kd.string w A l.length l)
  (hp : ∀ (W : World) (i : Nat), Drawn0 w W → i < l.length → Calls Try.prog g (#[.string (rdOf ByteArray.empty l (i : Int))] ++ lb) W fun e w' => e = .returned (.bool (q i)) ∧ Drawn0 w w') :
  Calls Try.prog 104 #[.slice A l.length c, .func (.func g) #[] lb] w fun e w' => e = .returned (.int .i64 (ixS q 0 l.length)) ∧ Drawn0 w w' := by
 have hbig : l.length ≤ 9223372036854775807 := hr.2.1
 have HR := Aside0.mk hr
 have HP := Aside0.mk hp
 clear hr hp
 go_enter Try.func104, Try.ntmps104
 go_wp2
 go_loopg [5, 8] l.length (fun gg _ s8 wr => ∃ kk : Nat, kk ≤ l.length ∧ l.length - kk ≤ gg ∧ s8 = .int .i64 kk ∧ Aside (Drawn0 w wr) ∧ Aside (ixS q 0 l.length = ixS q kk (l.length - kk)))
 case atStart => exact ⟨0, Nat.zero_le _, by omega, rfl, Drawn0.refl w, rfl⟩
 case round =>
  obtain ⟨kk, hkk, hg, rfl, BW, AA⟩ := hrel
  by_cases hlt : kk < l.length
  ·have hltz : (kk : Int) < (l.length : Int) := by omega
   obtain ⟨ad, rfl, hcell⟩ := Kd.at_string (Kd.C_below HR.out BW.out.below) (kk : Int) (by omega) hltz
   have hcall := HP.out wr kk BW.out hlt
   generalize rdOf ByteArray.empty l (kk : Int) = y at hcell hcall
   rw [Int.toNat_natCast] at hcell
   have e1 : ixS q kk (l.length - kk) = if q kk = true then (kk : Int) else ixS q (kk + 1) (l.length - (kk + 1)) := by
    rw [show l.length - kk = (l.length - (kk + 1)) + 1 by omega]
    rfl
   have E1 := Aside0.mk e1
   clear e1
   have HC := Aside0.mk hcall
   clear hcall
   cases hq : q kk with
   | true =>
    have HQ := Aside0.mk hq
    clear hq
    go_wp2_with fail
    refine HC.out.mono ?_
    rw [HQ.out]
    clear HC
    rintro e w2 ⟨rfl, aA⟩
    have bA := Aside0.mk aA
    clear aA
    go_wp2_with fail
    go_ret
    refine ⟨?_, bA.out⟩
    rw [AA.out, E1.out, if_pos HQ.out]
    rfl
   | false =>
    have HQ := Aside0.mk hq
    clear hq
    go_wp2_with fail
    refine HC.out.mono ?_
    rw [HQ.out]
    clear HC
    rintro e w2 ⟨rfl, aA⟩
    have bA := Aside0.mk aA
    clear aA
    go_wp2_with fail
    go_roundg (l.length - (kk + 1))
    case measure => omega
    case rel => exact ⟨kk + 1, by omega, by omega, by go_num, bA.out, (show Aside _ from by rw [AA.out, E1.out, if_neg (by rw [HQ.out]; decide)]; exact rfl)⟩
  ·have hltz : ¬ (kk : Int) < (l.length : Int) := by omega
   have hkl : kk = l.length := by omega
   subst hkl
   go_wp2
   go_ret
   refine ⟨?_, BW.out⟩
   rw [AA.out, Nat.sub_self]
   rfl
set_option maxHeartbeats 8000000 in
set_option maxRecDepth 100000 in
theorem areRecords_cont (q : Nat → Bool) (l : List ByteArray) (A : Option Addr) (c : Nat) (g : Nat) (lb : Array Value) (eg : ∀ args w, (callFunc g args).run Try.prog w = .ok (.enter g args) w) (w : World)
  (hr : Kd.C Kd.string w A l.length l)
  (hp : ∀ (W : World) (i : Nat), Drawn0 w W → i < l.length → Calls Try.prog g (#[.string (rdOf ByteArray.empty l (i : Int))] ++ lb) W fun e w' => e = .returned (.bool (q i)) ∧ Drawn0 w w') :
  Calls Try.prog 100 #[.slice A l.length c, .func (.func g) #[] lb] w fun e w' => e = .returned (.bool (decide (0 ≤ ixS q 0 l.length))) ∧ Drawn0 w w' := by
 have HC := Aside0.mk (areRecords_idx q l A c g lb eg w hr hp)
 clear hr hp
 go_enter Try.func100, Try.ntmps100
 go_wp2_with fail
 refine HC.out.mono ?_
 clear HC
 rintro e w2 ⟨rfl, aA⟩
 have bA := Aside0.mk aA
 clear aA
 go_wp2_with fail
 go_ret
 exact ⟨rfl, bA.out⟩
def impl_areRecords.q (l : List ByteArray) (i : Nat) : Bool := decide ((20 : Int) < ((rdOf ByteArray.empty l (i : Int)).size : Int))
def impl_areRecords.f (l0 : List ByteArray) : Option (Bool) := (impl_in.f (l0.length : Int) 1 8).bind fun t => if t = true then some (!(decide (0 ≤ ixS (impl_areRecords.q l0) 0 l0.length))) else some false
set_option maxHeartbeats 8000000 in
set_option maxRecDepth 100000 in
theorem impl_areRecords.calls (A0 : Option Addr) (c0 : Nat) (l0 : List ByteArray) (r : Bool) (w : World) (hr0 : Kd.C Kd.string w A0 l0.length l0) (_hc0 : l0.length ≤ c0) (h : impl_areRecords.f l0 = some r) :
  Calls Try.prog 88 #[.slice A0 l0.length c0] w fun e w' => e = .returned (.bool r) ∧ Drawn0 w w' := by
 have HR := Aside0.mk hr0
 clear hr0
 unfold impl_areRecords.f at h
 obtain ⟨t, h1, h2⟩ := Option.bind_eq_some_iff.1 h
 have H1 := Aside0.mk h1
 clear h h1
 cases t with
 | true =>
  rw [if_pos rfl] at h2
  have H2 := Aside0.mk (Option.some.inj h2)
  clear h2
  go_enter Try.func88, Try.ntmps88
  go_wp2_with fail
  refine (impl_in.calls _ _ _ _ _ H1.out).mono ?_
  rintro e w1 ⟨rfl, hd1⟩
  have aA := Aside0.mk hd1
  clear hd1
  go_wp2_with fail
  refine (areRecords_cont (impl_areRecords.q l0) l0 A0 c0 101 #[] (fun args w => by first | rfl | kernel_rfl) w1 (Kd.C_below HR.out aA.out.below) (fun W i hd hi => (areRecords_lit _ W).mono fun e w' he => ⟨he.1, he.2 ▸ hd⟩)).mono ?_
  rintro e w2 ⟨rfl, hd2⟩
  have bA := Aside0.mk hd2
  clear hd2
  go_wp2_with fail
  go_ret
  refine ⟨by rw [H2.out]; rfl, ?_⟩
  obtain ⟨n2, e2⟩ := bA.out.out
  rw [e2]
  exact aA.out.step n2
 | false =>
  rw [if_neg (by decide)] at h2
  have H2 := Aside0.mk (Option.some.inj h2)
  clear h2
  go_enter Try.func88, Try.ntmps88
  go_wp2_with fail
  refine (impl_in.calls _ _ _ _ _ H1.out).mono ?_
  rintro e w1 ⟨rfl, hd1⟩
  have aA := Aside0.mk hd1
  clear hd1
  go_wp2_with fail
  go_ret
  exact ⟨by rw [H2.out]; rfl, aA.out⟩



/-! ### impl_isBatch: function 63 -/
def impl_isBatch.f (a0_0 : Int) (a0_1 : Int) (a0_2 : Int) (a0_3 : Int) (l0_4 : List ByteArray) : Option (Bool) := (impl_in.f a0_0 0 100000).bind fun t110 => (if t110 = true then ((impl_in.f a0_1 0 1000).bind fun t111 => (if t111 = true then ((impl_in.f a0_2 0 65535).bind fun t112 => (if t112 = true then ((impl_in.f a0_3 0 65535).bind fun t113 => (if t113 = true then ((impl_areRecords.f l0_4).bind fun t114 => (some t114)) else (some false))) else (some false))) else (some false))) else (some false))
set_option maxHeartbeats 8000000 in
set_option maxRecDepth 100000 in
theorem impl_isBatch.calls (a0_0 : Int) (a0_1 : Int) (a0_2 : Int) (a0_3 : Int) (A0_4 : Option Addr) (c0_4 : Nat) (l0_4 : List ByteArray) (r : Bool) (w : World) (hr0_4 : Kd.C Kd.string w A0_4 l0_4.length l0_4) (hc0_4 : l0_4.length ≤ c0_4) (h : impl_isBatch.f a0_0 a0_1 a0_2 a0_3 l0_4 = some r) :
  Calls Try.prog 63 #[.agg #[.int .i64 a0_0, .int .i64 a0_1, .int .i64 a0_2, .int .i64 a0_3, .slice A0_4 l0_4.length c0_4]] w fun e w' => e = .returned (.bool r) ∧ Below w.heap.size w w' := by
 have hu44 := Try.underlying44
 have eA := Aside0.mk hr0_4
 have fA := Aside0.mk hc0_4
 clear hr0_4 hc0_4
 have HB := Aside0.mk (Below.refl w.heap.size w)
 have H : ((impl_in.f a0_0 0 100000).bind fun gA => (if gA = true then ((impl_in.f a0_1 0 1000).bind fun hA => (if hA = true then ((impl_in.f a0_2 0 65535).bind fun iA => (if iA = true then ((impl_in.f a0_3 0 65535).bind fun jA => (if jA = true then ((impl_areRecords.f l0_4).bind fun dA => (some dA)) else (some false))) else (some false))) else (some false))) else (some false))) = some r := h
 clear h
 replace H := bnd_ H
 obtain ⟨gA, A2, H⟩ := H
 replace H := ifb_ H
 obtain ⟨rfl, H⟩ | ⟨rfl, H⟩ := H
 rotate_left
 ·obtain rfl := Option.some.inj H
  go_enter Try.func63, Try.ntmps63
  go_wp2_with (first | ((with_reducible refine gate_dst (N := 1) rfl ?_); refine bq_ (N := 1) #[.int .i64 a0_0, .int .i64 a0_1, .int .i64 a0_2, .int .i64 a0_3, .slice A0_4 l0_4.length c0_4] 44 ?_; intro cA hg jC bA hb; have aA := ge_ hg; replace HB := nb_ hb; clear hb hg; obtain ⟨kA, lA, mA, nA, oA, pA, qA, rA, sA, tA⟩ := cf5_ bA.out) | ((with_reducible refine gate_callee (f := 77) rfl ?_); refine gl_ 5 Try.func77 #[.int .i64 a0_0, .int .i64 0, .int .i64 100000] rfl ma_ ?_; (with_reducible refine (impl_in.calls a0_0 0 100000 false _ A2.out).mono ?_); rintro e w' ⟨rfl, ⟨nd, rfl⟩⟩; refine ⟨_, rfl, ?_⟩))
  go_ret
  exact ⟨er_, hs_ aA.out⟩
 replace H := bnd_ H
 obtain ⟨hA, A4, H⟩ := H
 replace H := ifb_ H
 obtain ⟨rfl, H⟩ | ⟨rfl, H⟩ := H
 rotate_left
 ·obtain rfl := Option.some.inj H
  go_enter Try.func63, Try.ntmps63
  go_wp2_with (first | ((with_reducible refine gate_dst (N := 1) rfl ?_); refine bq_ (N := 1) #[.int .i64 a0_0, .int .i64 a0_1, .int .i64 a0_2, .int .i64 a0_3, .slice A0_4 l0_4.length c0_4] 44 ?_; intro cA hg kC bA hb; have aA := ge_ hg; replace HB := nb_ hb; clear hb hg; obtain ⟨uA, vA, wA, xA, yA, zA, aB, bB, cB, dB⟩ := cf5_ bA.out) | ((with_reducible refine gate_callee (f := 77) rfl ?_); refine gl_ 5 Try.func77 #[.int .i64 a0_0, .int .i64 0, .int .i64 100000] rfl ma_ ?_; (with_reducible refine (impl_in.calls a0_0 0 100000 true _ A2.out).mono ?_); rintro e w' ⟨rfl, ⟨nd, rfl⟩⟩; refine ⟨_, rfl, ?_⟩) | (go_at_call 77; (with_reducible refine (impl_in.calls a0_1 0 1000 false _ A4.out).mono ?_); rintro e w' ⟨rfl, ⟨nd, rfl⟩⟩))
  go_ret
  exact ⟨er_, hs_ aA.out⟩
 replace H := bnd_ H
 obtain ⟨iA, A6, H⟩ := H
 replace H := ifb_ H
 obtain ⟨rfl, H⟩ | ⟨rfl, H⟩ := H
 rotate_left
 ·obtain rfl := Option.some.inj H
  go_enter Try.func63, Try.ntmps63
  go_wp2_with (first | ((with_reducible refine gate_dst (N := 1) rfl ?_); refine bq_ (N := 1) #[.int .i64 a0_0, .int .i64 a0_1, .int .i64 a0_2, .int .i64 a0_3, .slice A0_4 l0_4.length c0_4] 44 ?_; intro cA hg lC bA hb; have aA := ge_ hg; replace HB := nb_ hb; clear hb hg; obtain ⟨eB, fB, gB, hB, iB, jB, kB, lB, mB, nB⟩ := cf5_ bA.out) | ((with_reducible refine gate_callee (f := 77) rfl ?_); refine gl_ 5 Try.func77 #[.int .i64 a0_0, .int .i64 0, .int .i64 100000] rfl ma_ ?_; (with_reducible refine (impl_in.calls a0_0 0 100000 true _ A2.out).mono ?_); rintro e w' ⟨rfl, ⟨nd, rfl⟩⟩; refine ⟨_, rfl, ?_⟩) | (go_at_call 77; (with_reducible refine (impl_in.calls a0_1 0 1000 true _ A4.out).mono ?_); rintro e w' ⟨rfl, ⟨nd, rfl⟩⟩) | (go_at_call 77; (with_reducible refine (impl_in.calls a0_2 0 65535 false _ A6.out).mono ?_); rintro e w' ⟨rfl, ⟨nd, rfl⟩⟩))
  go_ret
  exact ⟨er_, hs_ aA.out⟩
 replace H := bnd_ H
 obtain ⟨jA, A8, H⟩ := H
 replace H := ifb_ H
 obtain ⟨rfl, H⟩ | ⟨rfl, H⟩ := H
 rotate_left
 ·obtain rfl := Option.some.inj H
  go_enter Try.func63, Try.ntmps63
  go_wp2_with (first | ((with_reducible refine gate_dst (N := 1) rfl ?_); refine bq_ (N := 1) #[.int .i64 a0_0, .int .i64 a0_1, .int .i64 a0_2, .int .i64 a0_3, .slice A0_4 l0_4.length c0_4] 44 ?_; intro cA hg mC bA hb; have aA := ge_ hg; replace HB := nb_ hb; clear hb hg; obtain ⟨oB, pB, qB, rB, sB, tB, uB, vB, wB, xB⟩ := cf5_ bA.out) | ((with_reducible refine gate_callee (f := 77) rfl ?_); refine gl_ 5 Try.func77 #[.int .i64 a0_0, .int .i64 0, .int .i64 100000] rfl ma_ ?_; (with_reducible refine (impl_in.calls a0_0 0 100000 true _ A2.out).mono ?_); rintro e w' ⟨rfl, ⟨nd, rfl⟩⟩; refine ⟨_, rfl, ?_⟩) | (go_at_call 77; (with_reducible refine (impl_in.calls a0_1 0 1000 true _ A4.out).mono ?_); rintro e w' ⟨rfl, ⟨nd, rfl⟩⟩) | (go_at_call 77; (with_reducible refine (impl_in.calls a0_2 0 65535 true _ A6.out).mono ?_); rintro e w' ⟨rfl, ⟨nd, rfl⟩⟩) | (go_at_call 77; (with_reducible refine (impl_in.calls a0_3 0 65535 false _ A8.out).mono ?_); rintro e w' ⟨rfl, ⟨nd, rfl⟩⟩))
  go_ret
  exact ⟨er_, hs_ aA.out⟩
 replace H := bnd_ H
 obtain ⟨dA, iC, H⟩ := H
 obtain rfl := Option.some.inj H
 go_enter Try.func63, Try.ntmps63
 go_wp2_with (first | ((with_reducible refine gate_dst (N := 1) rfl ?_); refine bq_ (N := 1) #[.int .i64 a0_0, .int .i64 a0_1, .int .i64 a0_2, .int .i64 a0_3, .slice A0_4 l0_4.length c0_4] 44 ?_; intro cA hg nC bA hb; have aA := ge_ hg; replace HB := nb_ hb; clear hb hg; obtain ⟨yB, zB, aC, bC, cC, dC, eC, fC, gC, hC⟩ := cf5_ bA.out) | ((with_reducible refine gate_callee (f := 77) rfl ?_); refine gl_ 5 Try.func77 #[.int .i64 a0_0, .int .i64 0, .int .i64 100000] rfl ma_ ?_; (with_reducible refine (impl_in.calls a0_0 0 100000 true _ A2.out).mono ?_); rintro e w' ⟨rfl, ⟨nd, rfl⟩⟩; refine ⟨_, rfl, ?_⟩) | (go_at_call 77; (with_reducible refine (impl_in.calls a0_1 0 1000 true _ A4.out).mono ?_); rintro e w' ⟨rfl, ⟨nd, rfl⟩⟩) | (go_at_call 77; (with_reducible refine (impl_in.calls a0_2 0 65535 true _ A6.out).mono ?_); rintro e w' ⟨rfl, ⟨nd, rfl⟩⟩) | (go_at_call 77; (with_reducible refine (impl_in.calls a0_3 0 65535 true _ A8.out).mono ?_); rintro e w' ⟨rfl, ⟨nd, rfl⟩⟩) | (go_at_call 88; (with_reducible refine (impl_areRecords.calls _ _ l0_4 dA _ ?side1 ?side2 iC.out).mono ?_); (case side1 => exact cs_ ((Kd.C_below eA.out (hs_ aA.out)))); (case side2 => exact fA.out); rintro e w' ⟨rfl, ⟨nd, rfl⟩⟩))
 go_ret
 exact ⟨er_, hs_ aA.out⟩
/-! ### impl_put: function 89 -/
def impl_put.l0 : Nat → Int → List Int → Int → Option (ByteArray)
 | 0, _, _, _ => none
 | k + 1, x0, x5, x6 => if x6 ≥ 0 then (if 0 ≤ x6 then (if x6 < (x5.length : Int) then (impl_put.l0 k (x0 / 256) (x5.set (x6 : Int).toNat ((x0) % 256)) (wrap64 (x6 - 1))) else (none)) else (none)) else (some (strOfNums x5))
def impl_put.f (k : Nat) (a0 : Int) (a1 : Int) : Option (ByteArray) := if 0 ≤ a1 then (if (a1 : Int).toNat ≤ 281474976710656 then (impl_put.l0 k a0 (List.replicate (a1 : Int).toNat 0) (wrap64 (a1 - 1))) else (none)) else (none)
theorem impl_put.mono_l : ∀ k, (∀ y0 y1 y2, LeO (impl_put.l0 k y0 y1 y2) (impl_put.l0 (k + 1) y0 y1 y2))
 | 0 => fun _ _ _ r h => by simp [impl_put.l0] at h
 | k + 1 => by
  have ih0 := impl_put.mono_l k
  ·intro y0 y1 y2
   unfold impl_put.l0
   repeat' first
   | (with_reducible first | apply ih0 | exact LeO.refl _ | exact LeO.none _ | refine LeO.ite ?_ ?_ | refine LeO.bind ?_ (fun _ => ?_))
theorem impl_put.mono : ∀ a0 a1 k, LeO (impl_put.f k a0 a1) (impl_put.f (k + 1) a0 a1) := by
 intro a0 a1 k
 have ih0 := impl_put.mono_l k
 unfold impl_put.f
 repeat' first
   | (with_reducible first | apply ih0 | exact LeO.refl _ | exact LeO.none _ | refine LeO.ite ?_ ?_ | refine LeO.bind ?_ (fun _ => ?_))
set_option maxHeartbeats 8000000 in
set_option maxRecDepth 100000 in
theorem impl_put.calls (k : Nat) (a0 : Int) (a1 : Int) (r : ByteArray) (w : World) (h : impl_put.f k a0 a1 = some r) :
  Calls Try.prog 89 #[.int .i64 a0, .int .i64 a1] w fun e w' => e = .returned (.string r) ∧ Below w.heap.size w w' := by
 have HB := Aside0.mk (Below.refl w.heap.size w)
 have H : (if 0 ≤ a1 then (if (a1 : Int).toNat ≤ 281474976710656 then (impl_put.l0 k a0 (List.replicate (a1 : Int).toNat 0) (wrap64 (a1 - 1))) else (none)) else (none)) = some r := h
 clear h
 replace H := ifs_ H
 obtain ⟨c3, H⟩ := H
 have qA := eq_true c3
 have rA := decide_eq_true c3
 clear c3
 replace H := ifs_ H
 obtain ⟨c4, H⟩ := H
 have sA := eq_true c4
 have tA := decide_eq_true c4
 clear c4
 obtain ⟨jA, bA⟩ : ∃ y_ : List Int, y_ = (List.replicate (a1 : Int).toNat 0) := ⟨_, rfl⟩
 replace H : (impl_put.l0 k a0 jA (wrap64 (a1 - 1))) = some r := by first | (rw [bA]; with_reducible exact H) | (have H2_ := (Option.bind_some _ _).symm.trans H; rw [bA]; with_reducible exact H2_) | (have H2_ := (Option.bind_some _ _).symm.trans H; with_reducible exact H2_) | with_reducible exact H | (rw [bA]; exact H) | exact H
 have gA := Aside0.mk bA
 clear bA
 have H' := Aside0.mk H
 clear H
 go_enter Try.func89, Try.ntmps89
 go_wp2_with (first | ((with_reducible refine gate_dst (N := 8) rfl ?_); refine Kd.R_make (Kd.int .u8) _ 5 rfl (N := 8) rfl 51 _ _ rfl a1 rfl rfl Try.underlying51 (.int .u8 0) 1 info5 rfl (by decide) (by omega) 0 (ok := fun _ => True) (okp := fun _ => True) rfl (fun _ hk => hk) trivial (oa_) (Nat.le_trans (Nat.mul_le_mul_right _ (oa_ : a1.toNat ≤ 281474976710656)) (by omega)) (Below.refl _ _) (Nat.le_refl _) ?_; intro uA w5 kA hb hg_ hnew_; clear hg_ hnew_; (first | rw [← gA.out] at kA | (simp only [Int.reduceToNat] at kA; rw [← gA.out] at kA)); have lA := Aside0.mk (Kd.R_lower kA (below_size (hb_))); replace HB := nb_ hb; clear hb kA))
 go_loopg [0, 6] k (fun kq v0 v6 w' => ∃ (cA : Int) (eA : List Int) (aA : Int), v0 = .int .i64 cA ∧ v6 = .int .i64 aA ∧ Aside0 (impl_put.l0 kq cA eA aA = some r) ∧ Aside0 (kq ≤ k) ∧ Aside0 (Kd.R (Kd.int .u8) 5 w' w.heap.size (fun _ => True) uA eA) ∧ Aside0 (Below w.heap.size w w'))
 case atStart => exact ⟨(a0), (jA), (wrap64 (a1 - 1)), sr_, sr_, H', ⟨Nat.le_refl _⟩, ⟨kr_ lA.out⟩, ⟨hb_⟩⟩
 case round =>
  clear H'
  try clear c3
  try clear qA
  try clear rA
  try clear c4
  try clear sA
  try clear tA
  obtain ⟨cA, eA, aA, rfl, rfl, HA, bB, fA, HB⟩ := hrel
  cases gk with
  | zero => exact absurd HA.out (by simp [impl_put.l0])
  | succ k1 =>
   have H := HA.out
   clear HA
   simp only [impl_put.l0] at H
   replace H := ite_ H
   obtain ⟨c7, H⟩ | ⟨c7, H⟩ := H
   rotate_left
   ·have vA := dne_ c7
    clear c7
    obtain rfl := Option.some.inj H
    have hcv13 := own_string (P := Try.prog) Try.underlying51 Try.underlying5 Try.underlying9 (Kd.own_of_R fA.out)
    go_wp2
    go_ret
    exact ⟨er_, hb_⟩
   have vA := dge_ c7
   clear c7
   replace H := ifs_ H
   obtain ⟨c8, H⟩ := H
   have cB := decide_eq_true c8
   clear c8
   replace H := ifs_ H
   obtain ⟨c9, H⟩ := H
   have dB := decide_eq_true c9
   clear c9
   obtain ⟨hA, dA⟩ : ∃ y_ : List Int, y_ = (eA.set (aA : Int).toNat ((cA) % 256)) := ⟨_, rfl⟩
   replace H : (impl_put.l0 k1 (cA / 256) hA (wrap64 (aA - 1))) = some r := by first | (rw [dA]; with_reducible exact H) | (have H2_ := (Option.bind_some _ _).symm.trans H; rw [dA]; with_reducible exact H2_) | (have H2_ := (Option.bind_some _ _).symm.trans H; with_reducible exact H2_) | with_reducible exact H | (rw [dA]; exact H) | exact H
   have mA := Aside0.mk dA
   clear dA
   have H' := Aside0.mk H
   clear H
   have wA : 0 ≤ (aA : Int) := oa_
   have xA : (aA : Int) < ((eA.length : Int) : Int) := oa_
   obtain ⟨go10, yA, nA, oA, gl10, cl10, pA⟩ := Kd.R_form fA.out (by omega)
   (first | cases nA | (injection nA with ea_ en_ ec_; (first | subst ea_ | (injection ea_ with ea_; subst ea_)); subst ec_; clear en_))
   have GB10 := Aside0.mk oA
   have GG10 := Aside0.mk pA
   clear oA gl10 pA
   obtain ⟨zA, hf10_0⟩ := Kd.R_celln 0 fA.out (aA : Int) wA xA
   replace wA := eq_true wA
   replace xA := eq_true xA
   have iA := Kd.R_putg fA.out (aA : Int) ((cA) % 256)
   go_wp2_with (first | ((with_reducible refine gate_store (t := 5) (p := 19) rfl ?_); refine store_event (t := 5) (p := 19) (v := ?vo_w12) (w1 := (wr.setCell ⟨go10, (aA : Int).toNat, none⟩ (.int .u8 ((cA) % 256)))) ?hg ?ho ?hn ?hr ?_; (case ho => rfl); (case hg => rfl); (case hn => rfl); (case hr => first | (go_simp; done) | (go_simp; rfl)); intro aB hw; have hg : wr.grownBy aB (some go10) := (by rw [hw]; exact iA.2); have hp_ : Kd.R (Kd.int .u8) 5 aB w.heap.size (fun _ => True) (.slice (some ⟨go10, 0, none⟩) eA.length yA) hA := (by rw [hw, mA.out]; exact iA.1); clear iA; replace fA := Aside0.mk (hp_); replace HB := Aside0.mk ((by rw [hw]; exact below_set (HB.out) GB10.out : Below w.heap.size w aB)); clear hg hw hp_))
   go_roundg k1
   case measure => have := bB.out; omega
   case rel => exact ⟨(cA / 256), (hA), (wrap64 (aA - 1)), sr_, sr_, H', ⟨by have := bB.out; omega⟩, ⟨kr_ fA.out⟩, ⟨hb_⟩⟩

/-! ### impl_sumOf: function 90 -/
mutual
def impl_sumOf.l0 : Nat → ByteArray → Int → Int → Int → Option (Int)
 | 0, _, _, _, _ => none
 | k + 1, x0, x3, x7, x8 => if x8 < x7 then (if 0 ≤ x8 then (if x8 < (x0.size : Int) then (impl_sumOf.l1 k x0 (Go.bits .xor .i64 x3 (wrap64 ((wrap64 (bt x0 x8)) * 256))) x7 x8 0) else (none)) else (none)) else (some x3)
def impl_sumOf.l1 : Nat → ByteArray → Int → Int → Int → Int → Option (Int)
 | 0, _, _, _, _, _ => none
 | k + 1, x0, x3, x7, x8, x18 => if x18 < 8 then (if (Go.bits .and .i64 x3 32768) = 0 then (impl_sumOf.l1 k x0 (Go.bits .and .i64 (wrap64 (x3 * 2)) 65535) x7 x8 (wrap64 (x18 + 1))) else (impl_sumOf.l1 k x0 (Go.bits .xor .i64 (Go.bits .and .i64 (wrap64 (x3 * 2)) 65535) 4129) x7 x8 (wrap64 (x18 + 1)))) else (impl_sumOf.l0 k x0 x3 x7 (wrap64 (x8 + 1)))
end
def impl_sumOf.f (k : Nat) (a0 : ByteArray) : Option (Int) := impl_sumOf.l0 k a0 65535 (a0.size : Int) 0
theorem impl_sumOf.mono_l : ∀ k, (∀ y0 y1 y2 y3, LeO (impl_sumOf.l0 k y0 y1 y2 y3) (impl_sumOf.l0 (k + 1) y0 y1 y2 y3)) ∧ (∀ y0 y1 y2 y3 y4, LeO (impl_sumOf.l1 k y0 y1 y2 y3 y4) (impl_sumOf.l1 (k + 1) y0 y1 y2 y3 y4))
 | 0 => ⟨fun _ _ _ _ r h => by simp [impl_sumOf.l0] at h, fun _ _ _ _ _ r h => by simp [impl_sumOf.l1] at h⟩
 | k + 1 => by
  obtain ⟨ih0, ih1⟩ := impl_sumOf.mono_l k
  refine ⟨?_, ?_⟩
  all_goals intros; first | unfold impl_sumOf.l0 | unfold impl_sumOf.l1
  all_goals repeat' first | (with_reducible first | apply ih0 | apply ih1 | exact LeO.refl _ | exact LeO.none _ | refine LeO.ite ?_ ?_ | refine LeO.bind ?_ (fun _ => ?_))
theorem impl_sumOf.mono : ∀ a0 k, LeO (impl_sumOf.f k a0) (impl_sumOf.f (k + 1) a0) := by
 intro a0 k
 obtain ⟨ih0, ih1⟩ := impl_sumOf.mono_l k
 unfold impl_sumOf.f
 repeat' first
   | (with_reducible first | apply ih0 | apply ih1 | exact LeO.refl _ | exact LeO.none _ | refine LeO.ite ?_ ?_ | refine LeO.bind ?_ (fun _ => ?_))
set_option maxHeartbeats 8000000 in
set_option maxRecDepth 100000 in
theorem impl_sumOf.calls (k : Nat) (a0 : ByteArray) (r : Int) (w : World) (h : impl_sumOf.f k a0 = some r) :
  Calls Try.prog 90 #[.string a0] w fun e w' => e = .returned (.int .i64 r) ∧ Drawn0 w w' := by
 have H : (impl_sumOf.l0 k a0 65535 (a0.size : Int) 0) = some r := h
 clear h
 have H' := Aside0.mk H
 clear H
 go_enter Try.func90, Try.ntmps90
 go_wp2
 go_loopg [3, 8] k (fun kq v3 v8 w' => ∃ (dA : Int) (bA : Int), v3 = .int .i64 dA ∧ v8 = .int .i64 bA ∧ Aside0 (impl_sumOf.l0 kq a0 dA (a0.size : Int) bA = some r) ∧ Aside0 (kq ≤ k) ∧ Drawn0 w w')
 case atStart => exact ⟨(65535), (0), sr_, sr_, H', ⟨Nat.le_refl _⟩, dr_⟩
 case round =>
  clear H'
  obtain ⟨dA, bA, rfl, rfl, HA, eA, ⟨m1, rfl⟩⟩ := hrel
  cases gk with
  | zero => exact absurd HA.out (by simp [impl_sumOf.l0])
  | succ k1 =>
   have H := HA.out
   clear HA
   simp only [impl_sumOf.l0] at H
   replace H := ite_ H
   obtain ⟨c2, H⟩ | ⟨c2, H⟩ := H
   rotate_left
   ·have gA := decide_eq_false c2
    clear c2
    obtain rfl := Option.some.inj H
    go_wp2
    go_ret
    exact ⟨by first | rfl | (simp; done) | (simp [*]; done), dr_⟩
   have gA := decide_eq_true c2
   clear c2
   replace H := ifs_ H
   obtain ⟨c3, H⟩ := H
   have hA := decide_eq_true c3
   clear c3
   replace H := ifs_ H
   obtain ⟨c4, H⟩ := H
   have iA := decide_eq_true c4
   clear c4
   have H' := Aside0.mk H
   clear H
   have p5 : 0 ≤ (bA : Int) := oa_
   have q5 : bA < (a0.size : Int) := oa_
   have mA := bt_at a0 bA
   replace p5 := eq_true p5
   replace q5 := eq_true q5
   go_wp2
   go_loopg [3, 18] k1 (fun kq v3 nA w' => ∃ (aA : Int) (cA : Int), v3 = .int .i64 aA ∧ nA = .int .i64 cA ∧ Aside0 (impl_sumOf.l1 kq a0 aA (a0.size : Int) bA cA = some r) ∧ Aside0 (kq ≤ k1) ∧ Drawn0 w w')
   case atStart => exact ⟨(Go.bits .xor .i64 dA (wrap64 ((wrap64 (bt a0 bA)) * 256))), (0), sr_, sr_, H', ⟨Nat.le_refl _⟩, dr_⟩
   case round =>
    clear H'
    try clear c2
    try clear gA
    try clear c3
    try clear hA
    try clear c4
    try clear iA
    try clear p5
    try clear q5
    try clear mA
    try clear p5
    try clear q5
    obtain ⟨aA, cA, rfl, rfl, HA, fA, ⟨m2, rfl⟩⟩ := hrel
    cases gk with
    | zero => exact absurd HA.out (by simp [impl_sumOf.l1])
    | succ k2 =>
     have H := HA.out
     clear HA
     simp only [impl_sumOf.l1] at H
     replace H := ite_ H
     obtain ⟨c6, H⟩ | ⟨c6, H⟩ := H
     rotate_left
     ·have jA := decide_eq_false c6
      clear c6
      have H' := Aside0.mk H
      clear H
      go_wp2
      go_roundg k2
      case measure => have := eA.out; have := fA.out; omega
      case rel => exact ⟨(aA), (wrap64 (bA + 1)), sr_, sr_, H', ⟨by have := eA.out; have := fA.out; omega⟩, dr_⟩
     have jA := decide_eq_true c6
     clear c6
     replace H := ite_ H
     obtain ⟨c7, H⟩ | ⟨c7, H⟩ := H
     ·have kA : ((Go.bits .and .i64 aA 32768) == 0) = true := beq_iff_eq.mpr c7
      have lA : ((Go.bits .and .i64 aA 32768) != 0) = false := bne_eq_false_iff_eq.mpr c7
      clear c7
      have H' := Aside0.mk H
      clear H
      go_wp2
      go_roundg k2
      case measure => have := eA.out; have := fA.out; omega
      case rel => exact ⟨(Go.bits .and .i64 (wrap64 (aA * 2)) 65535), (wrap64 (cA + 1)), sr_, sr_, H', ⟨by have := eA.out; have := fA.out; omega⟩, dr_⟩
     have kA : ((Go.bits .and .i64 aA 32768) == 0) = false := beq_eq_false_iff_ne.mpr c7
     have lA : ((Go.bits .and .i64 aA 32768) != 0) = true := bne_iff_ne.mpr c7
     have H' := Aside0.mk H
     clear H
     go_wp2
     go_roundg k2
     case measure => have := eA.out; have := fA.out; omega
     case rel => exact ⟨(Go.bits .xor .i64 (Go.bits .and .i64 (wrap64 (aA * 2)) 65535) 4129), (wrap64 (cA + 1)), sr_, sr_, H', ⟨by have := eA.out; have := fA.out; omega⟩, dr_⟩
end Go.Proofs.Ytpdpipfkllfhmaa.QFnDisks
