/-
  No cell of these rows narrows 'for every input' (looked for: loops, veiled, ifaces, maps, wideKeys, modest, calm, conditions, laid).
  DERIVED. THE GIVEN ROWS OF THIS SEAT. 10 by the template 'for every input the law returns true; each argument reads behind the call as it read before'; 0 by the template 'total and deterministic' (their statements: YtopddfiiglookaaTotals.lean).
  GIVEN WITH THE SEED: the statements are not yours to turn. If you find one false, say at which input.
  Laid BY PROGRAM, IN A SANDBOX (cutbox-rows.mjs): the forced cells as the released guide's own fill.sh prints them over the translation f360a6b387f26211… (all of the seat's roots in one cut). By AI agents, Wed Nov 11 2026. No macro, syntax, notation, axiom, sorry.
-/
import Derived.Test.YtopddfiiglookaaChecked
import GoSem.Claim
import GoSem.ClaimJoined
import GoSem.ClaimMapViews
import Derived.JoinedTies
import Derived.KernelRfl
namespace Go.Proofs.Ytopddfiiglookaa
/- THE CELL 'sum', in the pinned program and in every row, IS THE sha256 OF THE DUMP (.gsa) THAT YtopddfiiglookaaProg.lean LOADS. Nothing in Lean hashes anything: it is a label: what it is worth is what the hold of that sum in a sandbox is worth. -/
noncomputable def Try.pinned : Pinned := { name := "ytopddfiiglookaa", sum := "f360a6b387f262119298f68e6b415e0fa156f52613558992dd8464b15a478786", checked := Try.checked }
namespace Rows
def none {H : Type} : Left H := { results := [], args := [] }

/-- 'laws.FnExactGoodEntries': WHATEVER THE INPUT: true; the input reads as it did. -/
def fnExactGoodEntriesSpec : ChangeSpec := { name := "fnExactGoodEntries", fn := fun _ => fun
  | [d] => { results := [.lit (.bool true)], args := [d] }
  | _ => none }
def fnExactGoodEntriesRow : OpenClaim := { program := "ytopddfiiglookaa", sum := "f360a6b387f262119298f68e6b415e0fa156f52613558992dd8464b15a478786", func := "loop.example/g00361/laws.FnExactGoodEntries", spec := "fnExactGoodEntries", apart := false }
def FnExactGoodEntriesSaid : Prop := fnExactGoodEntriesRow.holds Try.pinned (OpenSpec.ofChange fnExactGoodEntriesSpec)

/-- ITS FALSE NEIGHBOUR: 'it returns false'. Refute it at one input. -/
def fnExactGoodEntriesWrong : ChangeSpec := { name := "fnExactGoodEntries", fn := fun _ => fun
  | [d] => { results := [.lit (.bool false)], args := [d] }
  | _ => none }
def FnExactGoodEntriesWrongFalsely : Prop := fnExactGoodEntriesRow.holds Try.pinned (OpenSpec.ofChange fnExactGoodEntriesWrong)

/-- 'laws.FnExactPartAt': WHATEVER THE INPUT: true; the input reads as it did. -/
def fnExactPartAtSpec : ChangeSpec := { name := "fnExactPartAt", fn := fun _ => fun
  | [d1, d2] => { results := [.lit (.bool true)], args := [d1, d2] }
  | _ => none }
def fnExactPartAtRow : OpenClaim := { program := "ytopddfiiglookaa", sum := "f360a6b387f262119298f68e6b415e0fa156f52613558992dd8464b15a478786", func := "loop.example/g00361/laws.FnExactPartAt", spec := "fnExactPartAt", apart := false }
def FnExactPartAtSaid : Prop := fnExactPartAtRow.holds Try.pinned (OpenSpec.ofChange fnExactPartAtSpec)

/-- ITS FALSE NEIGHBOUR: 'it returns false'. Refute it at one input. -/
def fnExactPartAtWrong : ChangeSpec := { name := "fnExactPartAt", fn := fun _ => fun
  | [d1, d2] => { results := [.lit (.bool false)], args := [d1, d2] }
  | _ => none }
def FnExactPartAtWrongFalsely : Prop := fnExactPartAtRow.holds Try.pinned (OpenSpec.ofChange fnExactPartAtWrong)

/-- 'laws.FnExactGoodMarks': WHATEVER THE INPUT: true; the input reads as it did. -/
def fnExactGoodMarksSpec : ChangeSpec := { name := "fnExactGoodMarks", fn := fun _ => fun
  | [d] => { results := [.lit (.bool true)], args := [d] }
  | _ => none }
def fnExactGoodMarksRow : OpenClaim := { program := "ytopddfiiglookaa", sum := "f360a6b387f262119298f68e6b415e0fa156f52613558992dd8464b15a478786", func := "loop.example/g00361/laws.FnExactGoodMarks", spec := "fnExactGoodMarks", apart := false }
def FnExactGoodMarksSaid : Prop := fnExactGoodMarksRow.holds Try.pinned (OpenSpec.ofChange fnExactGoodMarksSpec)

/-- ITS FALSE NEIGHBOUR: 'it returns false'. Refute it at one input. -/
def fnExactGoodMarksWrong : ChangeSpec := { name := "fnExactGoodMarks", fn := fun _ => fun
  | [d] => { results := [.lit (.bool false)], args := [d] }
  | _ => none }
def FnExactGoodMarksWrongFalsely : Prop := fnExactGoodMarksRow.holds Try.pinned (OpenSpec.ofChange fnExactGoodMarksWrong)

/-- 'laws.FnExactEndOfEpoch': WHATEVER THE INPUT: true; the input reads as it did. -/
def fnExactEndOfEpochSpec : ChangeSpec := { name := "fnExactEndOfEpoch", fn := fun _ => fun
  | [d1, d2, d3] => { results := [.lit (.bool true)], args := [d1, d2, d3] }
  | _ => none }
def fnExactEndOfEpochRow : OpenClaim := { program := "ytopddfiiglookaa", sum := "f360a6b387f262119298f68e6b415e0fa156f52613558992dd8464b15a478786", func := "loop.example/g00361/laws.FnExactEndOfEpoch", spec := "fnExactEndOfEpoch", apart := false }
def FnExactEndOfEpochSaid : Prop := fnExactEndOfEpochRow.holds Try.pinned (OpenSpec.ofChange fnExactEndOfEpochSpec)

/-- ITS FALSE NEIGHBOUR: 'it returns false'. Refute it at one input. -/
def fnExactEndOfEpochWrong : ChangeSpec := { name := "fnExactEndOfEpoch", fn := fun _ => fun
  | [d1, d2, d3] => { results := [.lit (.bool false)], args := [d1, d2, d3] }
  | _ => none }
def FnExactEndOfEpochWrongFalsely : Prop := fnExactEndOfEpochRow.holds Try.pinned (OpenSpec.ofChange fnExactEndOfEpochWrong)

/-- 'laws.FnExactMarksOf': WHATEVER THE INPUT: true; the input reads as it did. -/
def fnExactMarksOfSpec : ChangeSpec := { name := "fnExactMarksOf", fn := fun _ => fun
  | [d] => { results := [.lit (.bool true)], args := [d] }
  | _ => none }
def fnExactMarksOfRow : OpenClaim := { program := "ytopddfiiglookaa", sum := "f360a6b387f262119298f68e6b415e0fa156f52613558992dd8464b15a478786", func := "loop.example/g00361/laws.FnExactMarksOf", spec := "fnExactMarksOf", apart := false }
def FnExactMarksOfSaid : Prop := fnExactMarksOfRow.holds Try.pinned (OpenSpec.ofChange fnExactMarksOfSpec)

/-- ITS FALSE NEIGHBOUR: 'it returns false'. Refute it at one input. -/
def fnExactMarksOfWrong : ChangeSpec := { name := "fnExactMarksOf", fn := fun _ => fun
  | [d] => { results := [.lit (.bool false)], args := [d] }
  | _ => none }
def FnExactMarksOfWrongFalsely : Prop := fnExactMarksOfRow.holds Try.pinned (OpenSpec.ofChange fnExactMarksOfWrong)

/-- 'laws.FnExactCutMarks': WHATEVER THE INPUT: true; the input reads as it did. -/
def fnExactCutMarksSpec : ChangeSpec := { name := "fnExactCutMarks", fn := fun _ => fun
  | [d1, d2] => { results := [.lit (.bool true)], args := [d1, d2] }
  | _ => none }
def fnExactCutMarksRow : OpenClaim := { program := "ytopddfiiglookaa", sum := "f360a6b387f262119298f68e6b415e0fa156f52613558992dd8464b15a478786", func := "loop.example/g00361/laws.FnExactCutMarks", spec := "fnExactCutMarks", unfollowed := true, recurses := true, apart := false }
def FnExactCutMarksSaid : Prop := fnExactCutMarksRow.holds Try.pinned (OpenSpec.ofChange fnExactCutMarksSpec)

/-- ITS FALSE NEIGHBOUR: 'it returns false'. Refute it at one input. -/
def fnExactCutMarksWrong : ChangeSpec := { name := "fnExactCutMarks", fn := fun _ => fun
  | [d1, d2] => { results := [.lit (.bool false)], args := [d1, d2] }
  | _ => none }
def FnExactCutMarksWrongFalsely : Prop := fnExactCutMarksRow.holds Try.pinned (OpenSpec.ofChange fnExactCutMarksWrong)

/-- 'laws.FnExactMatchBy': WHATEVER THE INPUT: true; the input reads as it did. -/
def fnExactMatchBySpec : ChangeSpec := { name := "fnExactMatchBy", fn := fun _ => fun
  | [d1, d2] => { results := [.lit (.bool true)], args := [d1, d2] }
  | _ => none }
def fnExactMatchByRow : OpenClaim := { program := "ytopddfiiglookaa", sum := "f360a6b387f262119298f68e6b415e0fa156f52613558992dd8464b15a478786", func := "loop.example/g00361/laws.FnExactMatchBy", spec := "fnExactMatchBy", apart := false }
def FnExactMatchBySaid : Prop := fnExactMatchByRow.holds Try.pinned (OpenSpec.ofChange fnExactMatchBySpec)

/-- ITS FALSE NEIGHBOUR: 'it returns false'. Refute it at one input. -/
def fnExactMatchByWrong : ChangeSpec := { name := "fnExactMatchBy", fn := fun _ => fun
  | [d1, d2] => { results := [.lit (.bool false)], args := [d1, d2] }
  | _ => none }
def FnExactMatchByWrongFalsely : Prop := fnExactMatchByRow.holds Try.pinned (OpenSpec.ofChange fnExactMatchByWrong)

/-- 'laws.FnExactFollowBy': WHATEVER THE INPUT: true; the input reads as it did. -/
def fnExactFollowBySpec : ChangeSpec := { name := "fnExactFollowBy", fn := fun _ => fun
  | [d1, d2] => { results := [.lit (.bool true)], args := [d1, d2] }
  | _ => none }
def fnExactFollowByRow : OpenClaim := { program := "ytopddfiiglookaa", sum := "f360a6b387f262119298f68e6b415e0fa156f52613558992dd8464b15a478786", func := "loop.example/g00361/laws.FnExactFollowBy", spec := "fnExactFollowBy", apart := false }
def FnExactFollowBySaid : Prop := fnExactFollowByRow.holds Try.pinned (OpenSpec.ofChange fnExactFollowBySpec)

/-- ITS FALSE NEIGHBOUR: 'it returns false'. Refute it at one input. -/
def fnExactFollowByWrong : ChangeSpec := { name := "fnExactFollowBy", fn := fun _ => fun
  | [d1, d2] => { results := [.lit (.bool false)], args := [d1, d2] }
  | _ => none }
def FnExactFollowByWrongFalsely : Prop := fnExactFollowByRow.holds Try.pinned (OpenSpec.ofChange fnExactFollowByWrong)

/-- 'laws.FnMarks': WHATEVER THE INPUT: true; the input reads as it did. -/
def fnMarksSpec : ChangeSpec := { name := "fnMarks", fn := fun _ => fun
  | [d1, d2] => { results := [.lit (.bool true)], args := [d1, d2] }
  | _ => none }
def fnMarksRow : OpenClaim := { program := "ytopddfiiglookaa", sum := "f360a6b387f262119298f68e6b415e0fa156f52613558992dd8464b15a478786", func := "loop.example/g00361/laws.FnMarks", spec := "fnMarks", unfollowed := true, recurses := true, apart := false }
def FnMarksSaid : Prop := fnMarksRow.holds Try.pinned (OpenSpec.ofChange fnMarksSpec)

/-- ITS FALSE NEIGHBOUR: 'it returns false'. Refute it at one input. -/
def fnMarksWrong : ChangeSpec := { name := "fnMarks", fn := fun _ => fun
  | [d1, d2] => { results := [.lit (.bool false)], args := [d1, d2] }
  | _ => none }
def FnMarksWrongFalsely : Prop := fnMarksRow.holds Try.pinned (OpenSpec.ofChange fnMarksWrong)

/-- 'laws.FnParted': WHATEVER THE INPUT: true; the input reads as it did. -/
def fnPartedSpec : ChangeSpec := { name := "fnParted", fn := fun _ => fun
  | [d] => { results := [.lit (.bool true)], args := [d] }
  | _ => none }
def fnPartedRow : OpenClaim := { program := "ytopddfiiglookaa", sum := "f360a6b387f262119298f68e6b415e0fa156f52613558992dd8464b15a478786", func := "loop.example/g00361/laws.FnParted", spec := "fnParted", apart := false }
def FnPartedSaid : Prop := fnPartedRow.holds Try.pinned (OpenSpec.ofChange fnPartedSpec)

/-- ITS FALSE NEIGHBOUR: 'it returns false'. Refute it at one input. -/
def fnPartedWrong : ChangeSpec := { name := "fnParted", fn := fun _ => fun
  | [d] => { results := [.lit (.bool false)], args := [d] }
  | _ => none }
def FnPartedWrongFalsely : Prop := fnPartedRow.holds Try.pinned (OpenSpec.ofChange fnPartedWrong)

/- THE SECOND FORM. 'bulk': how many values and letters a reading holds, each counted each time it is reached (what is shared counts as often as it is met; a slice's spare places count too). A statement '..UptoSaid' is the law's where the arguments, and the package variables that the reading takes, are together of bulk at most 1048576: NARROWER than '..Said'. Prove '..Said' where nothing that the law and all that it calls make is longer than what came in: it says more and counts as full. Else prove '..UptoSaid'. A law counts once. -/
mutual
def uptoBulk {H : Type} : DataW H → Nat
  | .lit (.string bytes) => bytes.length + 1
  | .lit _ => 1
  | .nil => 1
  | .ptr d => uptoBulk d + 1
  | .slice elems spare => uptoBulkAll elems + uptoBulkAll spare + 1
  | .agg parts => uptoBulkAll parts + 1
  | .iface _ d => uptoBulk d + 1
  | .map entries => uptoBulkEntries entries + 1
  | .held _ => 1
def uptoBulkAll {H : Type} : List (DataW H) → Nat
  | [] => 0
  | d :: r => uptoBulk d + uptoBulkAll r
def uptoBulkEntries {H : Type} : List (Lit × DataW H) → Nat
  | [] => 0
  | x :: r => uptoBulkEntry x + uptoBulkEntries r
def uptoBulkEntry {H : Type} : Lit × DataW H → Nat
  | (.string bytes, d) => bytes.length + uptoBulk d + 1
  | (_, d) => uptoBulk d + 1
 end
def uptoSmall : (H : Type) → List (DataW H) → Bool := fun _ ds => decide (uptoBulkAll ds ≤ 1048576)
def OpenSpec.upto (s : _root_.Go.ChangeSpec) : _root_.Go.OpenSpec := { _root_.Go.OpenSpec.ofChange s with cond := some uptoSmall }

/-- 'laws.FnExactGoodEntries', WHERE WHAT IT READS IS OF BULK AT MOST 1048576: true; the input reads as it did. -/
def fnExactGoodEntriesUptoRow : OpenClaim := { program := "ytopddfiiglookaa", sum := "f360a6b387f262119298f68e6b415e0fa156f52613558992dd8464b15a478786", func := "loop.example/g00361/laws.FnExactGoodEntries", spec := "fnExactGoodEntries", apart := false, narrowed := true }
def FnExactGoodEntriesUptoSaid : Prop := fnExactGoodEntriesUptoRow.holds Try.pinned (OpenSpec.upto fnExactGoodEntriesSpec)

/-- 'laws.FnExactPartAt', WHERE WHAT IT READS IS OF BULK AT MOST 1048576: true; the input reads as it did. -/
def fnExactPartAtUptoRow : OpenClaim := { program := "ytopddfiiglookaa", sum := "f360a6b387f262119298f68e6b415e0fa156f52613558992dd8464b15a478786", func := "loop.example/g00361/laws.FnExactPartAt", spec := "fnExactPartAt", apart := false, narrowed := true }
def FnExactPartAtUptoSaid : Prop := fnExactPartAtUptoRow.holds Try.pinned (OpenSpec.upto fnExactPartAtSpec)

/-- 'laws.FnExactGoodMarks', WHERE WHAT IT READS IS OF BULK AT MOST 1048576: true; the input reads as it did. -/
def fnExactGoodMarksUptoRow : OpenClaim := { program := "ytopddfiiglookaa", sum := "f360a6b387f262119298f68e6b415e0fa156f52613558992dd8464b15a478786", func := "loop.example/g00361/laws.FnExactGoodMarks", spec := "fnExactGoodMarks", apart := false, narrowed := true }
def FnExactGoodMarksUptoSaid : Prop := fnExactGoodMarksUptoRow.holds Try.pinned (OpenSpec.upto fnExactGoodMarksSpec)

/-- 'laws.FnExactEndOfEpoch', WHERE WHAT IT READS IS OF BULK AT MOST 1048576: true; the input reads as it did. -/
def fnExactEndOfEpochUptoRow : OpenClaim := { program := "ytopddfiiglookaa", sum := "f360a6b387f262119298f68e6b415e0fa156f52613558992dd8464b15a478786", func := "loop.example/g00361/laws.FnExactEndOfEpoch", spec := "fnExactEndOfEpoch", apart := false, narrowed := true }
def FnExactEndOfEpochUptoSaid : Prop := fnExactEndOfEpochUptoRow.holds Try.pinned (OpenSpec.upto fnExactEndOfEpochSpec)

/-- 'laws.FnExactMarksOf', WHERE WHAT IT READS IS OF BULK AT MOST 1048576: true; the input reads as it did. -/
def fnExactMarksOfUptoRow : OpenClaim := { program := "ytopddfiiglookaa", sum := "f360a6b387f262119298f68e6b415e0fa156f52613558992dd8464b15a478786", func := "loop.example/g00361/laws.FnExactMarksOf", spec := "fnExactMarksOf", apart := false, narrowed := true }
def FnExactMarksOfUptoSaid : Prop := fnExactMarksOfUptoRow.holds Try.pinned (OpenSpec.upto fnExactMarksOfSpec)

/-- 'laws.FnExactCutMarks', WHERE WHAT IT READS IS OF BULK AT MOST 1048576: true; the input reads as it did. -/
def fnExactCutMarksUptoRow : OpenClaim := { program := "ytopddfiiglookaa", sum := "f360a6b387f262119298f68e6b415e0fa156f52613558992dd8464b15a478786", func := "loop.example/g00361/laws.FnExactCutMarks", spec := "fnExactCutMarks", unfollowed := true, recurses := true, apart := false, narrowed := true }
def FnExactCutMarksUptoSaid : Prop := fnExactCutMarksUptoRow.holds Try.pinned (OpenSpec.upto fnExactCutMarksSpec)

/-- 'laws.FnExactMatchBy', WHERE WHAT IT READS IS OF BULK AT MOST 1048576: true; the input reads as it did. -/
def fnExactMatchByUptoRow : OpenClaim := { program := "ytopddfiiglookaa", sum := "f360a6b387f262119298f68e6b415e0fa156f52613558992dd8464b15a478786", func := "loop.example/g00361/laws.FnExactMatchBy", spec := "fnExactMatchBy", apart := false, narrowed := true }
def FnExactMatchByUptoSaid : Prop := fnExactMatchByUptoRow.holds Try.pinned (OpenSpec.upto fnExactMatchBySpec)

/-- 'laws.FnExactFollowBy', WHERE WHAT IT READS IS OF BULK AT MOST 1048576: true; the input reads as it did. -/
def fnExactFollowByUptoRow : OpenClaim := { program := "ytopddfiiglookaa", sum := "f360a6b387f262119298f68e6b415e0fa156f52613558992dd8464b15a478786", func := "loop.example/g00361/laws.FnExactFollowBy", spec := "fnExactFollowBy", apart := false, narrowed := true }
def FnExactFollowByUptoSaid : Prop := fnExactFollowByUptoRow.holds Try.pinned (OpenSpec.upto fnExactFollowBySpec)

/-- 'laws.FnMarks', WHERE WHAT IT READS IS OF BULK AT MOST 1048576: true; the input reads as it did. -/
def fnMarksUptoRow : OpenClaim := { program := "ytopddfiiglookaa", sum := "f360a6b387f262119298f68e6b415e0fa156f52613558992dd8464b15a478786", func := "loop.example/g00361/laws.FnMarks", spec := "fnMarks", unfollowed := true, recurses := true, apart := false, narrowed := true }
def FnMarksUptoSaid : Prop := fnMarksUptoRow.holds Try.pinned (OpenSpec.upto fnMarksSpec)

/-- 'laws.FnParted', WHERE WHAT IT READS IS OF BULK AT MOST 1048576: true; the input reads as it did. -/
def fnPartedUptoRow : OpenClaim := { program := "ytopddfiiglookaa", sum := "f360a6b387f262119298f68e6b415e0fa156f52613558992dd8464b15a478786", func := "loop.example/g00361/laws.FnParted", spec := "fnParted", apart := false, narrowed := true }
def FnPartedUptoSaid : Prop := fnPartedUptoRow.holds Try.pinned (OpenSpec.upto fnPartedSpec)

end Rows
end Go.Proofs.Ytopddfiiglookaa
