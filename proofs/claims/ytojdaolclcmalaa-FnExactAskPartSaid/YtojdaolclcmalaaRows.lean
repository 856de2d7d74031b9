/-
  No cell of these rows narrows 'for every input' (looked for: loops, veiled, ifaces, maps, wideKeys, modest, calm, conditions, laid).
  DERIVED. THE GIVEN ROWS OF THIS SEAT. 7 by the template 'for every input the law returns true; each argument reads behind the call as it read before'; 0 by the template 'total and deterministic' (their statements: YtojdaolclcmalaaTotals.lean).
  GIVEN WITH THE SEED: the statements are not yours to turn. If you find one false, say at which input.
  Laid BY PROGRAM, IN A SANDBOX (cutbox-rows.mjs): the forced cells as the released guide's own fill.sh prints them over the translation 1d1976fffe595e8e… (all of the seat's roots in one cut). By AI agents, Wed Nov 11 2026. No macro, syntax, notation, axiom, sorry.
-/
import Derived.Test.YtojdaolclcmalaaChecked
import GoSem.Claim
import GoSem.ClaimJoined
import GoSem.ClaimMapViews
import Derived.JoinedTies
import Derived.KernelRfl
namespace Go.Proofs.Ytojdaolclcmalaa
/- THE CELL 'sum', in the pinned program and in every row, IS THE sha256 OF THE DUMP (.gsa) THAT YtojdaolclcmalaaProg.lean LOADS. Nothing in Lean hashes anything: it is a label: what it is worth is what the hold of that sum in a sandbox is worth. -/
noncomputable def Try.pinned : Pinned := { name := "ytojdaolclcmalaa", sum := "1d1976fffe595e8e15bcda8bfb1385cc38e157adae37e491ed02298fd97b8c5d", checked := Try.checked }
namespace Rows
def none {H : Type} : Left H := { results := [], args := [] }

/-- 'laws.FnExactRecordsOf': WHATEVER THE INPUT: true; the input reads as it did. -/
def fnExactRecordsOfSpec : ChangeSpec := { name := "fnExactRecordsOf", fn := fun _ => fun
  | [d1, d2] => { results := [.lit (.bool true)], args := [d1, d2] }
  | _ => none }
def fnExactRecordsOfRow : OpenClaim := { program := "ytojdaolclcmalaa", sum := "1d1976fffe595e8e15bcda8bfb1385cc38e157adae37e491ed02298fd97b8c5d", func := "loop.example/g00361/laws.FnExactRecordsOf", spec := "fnExactRecordsOf", inPlace := ["slices.overlaps[loop.example/g00361/impl.Producer]"], unfollowed := true, recurses := true, apart := false }
def FnExactRecordsOfSaid : Prop := fnExactRecordsOfRow.holds Try.pinned (OpenSpec.ofChange fnExactRecordsOfSpec)

/-- ITS FALSE NEIGHBOUR: 'it returns false'. Refute it at one input. -/
def fnExactRecordsOfWrong : ChangeSpec := { name := "fnExactRecordsOf", fn := fun _ => fun
  | [d1, d2] => { results := [.lit (.bool false)], args := [d1, d2] }
  | _ => none }
def FnExactRecordsOfWrongFalsely : Prop := fnExactRecordsOfRow.holds Try.pinned (OpenSpec.ofChange fnExactRecordsOfWrong)

/-- 'laws.FnExactPlayAsks': WHATEVER THE INPUT: true; the input reads as it did. -/
def fnExactPlayAsksSpec : ChangeSpec := { name := "fnExactPlayAsks", fn := fun _ => fun
  | [d] => { results := [.lit (.bool true)], args := [d] }
  | _ => none }
def fnExactPlayAsksRow : OpenClaim := { program := "ytojdaolclcmalaa", sum := "1d1976fffe595e8e15bcda8bfb1385cc38e157adae37e491ed02298fd97b8c5d", func := "loop.example/g00361/laws.FnExactPlayAsks", spec := "fnExactPlayAsks", inPlace := ["slices.overlaps[loop.example/g00361/impl.Producer]"], unfollowed := true, recurses := true, apart := false }
def FnExactPlayAsksSaid : Prop := fnExactPlayAsksRow.holds Try.pinned (OpenSpec.ofChange fnExactPlayAsksSpec)

/-- ITS FALSE NEIGHBOUR: 'it returns false'. Refute it at one input. -/
def fnExactPlayAsksWrong : ChangeSpec := { name := "fnExactPlayAsks", fn := fun _ => fun
  | [d] => { results := [.lit (.bool false)], args := [d] }
  | _ => none }
def FnExactPlayAsksWrongFalsely : Prop := fnExactPlayAsksRow.holds Try.pinned (OpenSpec.ofChange fnExactPlayAsksWrong)

/-- 'laws.FnExactAskPart': WHATEVER THE INPUT: true; the input reads as it did. -/
def fnExactAskPartSpec : ChangeSpec := { name := "fnExactAskPart", fn := fun _ => fun
  | [d1, d2] => { results := [.lit (.bool true)], args := [d1, d2] }
  | _ => none }
def fnExactAskPartRow : OpenClaim := { program := "ytojdaolclcmalaa", sum := "1d1976fffe595e8e15bcda8bfb1385cc38e157adae37e491ed02298fd97b8c5d", func := "loop.example/g00361/laws.FnExactAskPart", spec := "fnExactAskPart", inPlace := ["slices.overlaps[loop.example/g00361/impl.Producer]"], unfollowed := true, recurses := true, apart := false }
def FnExactAskPartSaid : Prop := fnExactAskPartRow.holds Try.pinned (OpenSpec.ofChange fnExactAskPartSpec)

/-- ITS FALSE NEIGHBOUR: 'it returns false'. Refute it at one input. -/
def fnExactAskPartWrong : ChangeSpec := { name := "fnExactAskPart", fn := fun _ => fun
  | [d1, d2] => { results := [.lit (.bool false)], args := [d1, d2] }
  | _ => none }
def FnExactAskPartWrongFalsely : Prop := fnExactAskPartRow.holds Try.pinned (OpenSpec.ofChange fnExactAskPartWrong)

/-- 'laws.FnExactNewPart': WHATEVER THE INPUT: true; the input reads as it did. -/
def fnExactNewPartSpec : ChangeSpec := { name := "fnExactNewPart", fn := fun _ => fun
  | [] => { results := [.lit (.bool true)], args := [] }
  | _ => none }
def fnExactNewPartRow : OpenClaim := { program := "ytojdaolclcmalaa", sum := "1d1976fffe595e8e15bcda8bfb1385cc38e157adae37e491ed02298fd97b8c5d", func := "loop.example/g00361/laws.FnExactNewPart", spec := "fnExactNewPart", inPlace := ["slices.overlaps[loop.example/g00361/impl.Producer]"], unfollowed := true, recurses := true, apart := false }
def FnExactNewPartSaid : Prop := fnExactNewPartRow.holds Try.pinned (OpenSpec.ofChange fnExactNewPartSpec)

/-- ITS FALSE NEIGHBOUR: 'it returns false'. Refute it at one input. -/
def fnExactNewPartWrong : ChangeSpec := { name := "fnExactNewPart", fn := fun _ => fun
  | [] => { results := [.lit (.bool false)], args := [] }
  | _ => none }
def FnExactNewPartWrongFalsely : Prop := fnExactNewPartRow.holds Try.pinned (OpenSpec.ofChange fnExactNewPartWrong)

/-- 'laws.FnExactGoodPart': WHATEVER THE INPUT: true; the input reads as it did. -/
def fnExactGoodPartSpec : ChangeSpec := { name := "fnExactGoodPart", fn := fun _ => fun
  | [d] => { results := [.lit (.bool true)], args := [d] }
  | _ => none }
def fnExactGoodPartRow : OpenClaim := { program := "ytojdaolclcmalaa", sum := "1d1976fffe595e8e15bcda8bfb1385cc38e157adae37e491ed02298fd97b8c5d", func := "loop.example/g00361/laws.FnExactGoodPart", spec := "fnExactGoodPart", inPlace := ["slices.overlaps[loop.example/g00361/impl.Producer]"], unfollowed := true, recurses := true, apart := false }
def FnExactGoodPartSaid : Prop := fnExactGoodPartRow.holds Try.pinned (OpenSpec.ofChange fnExactGoodPartSpec)

/-- ITS FALSE NEIGHBOUR: 'it returns false'. Refute it at one input. -/
def fnExactGoodPartWrong : ChangeSpec := { name := "fnExactGoodPart", fn := fun _ => fun
  | [d] => { results := [.lit (.bool false)], args := [d] }
  | _ => none }
def FnExactGoodPartWrongFalsely : Prop := fnExactGoodPartRow.holds Try.pinned (OpenSpec.ofChange fnExactGoodPartWrong)

/-- 'laws.FnExactNextSeq': WHATEVER THE INPUT: true; the input reads as it did. -/
def fnExactNextSeqSpec : ChangeSpec := { name := "fnExactNextSeq", fn := fun _ => fun
  | [d1, d2] => { results := [.lit (.bool true)], args := [d1, d2] }
  | _ => none }
def fnExactNextSeqRow : OpenClaim := { program := "ytojdaolclcmalaa", sum := "1d1976fffe595e8e15bcda8bfb1385cc38e157adae37e491ed02298fd97b8c5d", func := "loop.example/g00361/laws.FnExactNextSeq", spec := "fnExactNextSeq", inPlace := ["slices.overlaps[loop.example/g00361/impl.Producer]"], unfollowed := true, recurses := true, apart := false }
def FnExactNextSeqSaid : Prop := fnExactNextSeqRow.holds Try.pinned (OpenSpec.ofChange fnExactNextSeqSpec)

/-- ITS FALSE NEIGHBOUR: 'it returns false'. Refute it at one input. -/
def fnExactNextSeqWrong : ChangeSpec := { name := "fnExactNextSeq", fn := fun _ => fun
  | [d1, d2] => { results := [.lit (.bool false)], args := [d1, d2] }
  | _ => none }
def FnExactNextSeqWrongFalsely : Prop := fnExactNextSeqRow.holds Try.pinned (OpenSpec.ofChange fnExactNextSeqWrong)

/-- 'laws.FnExactRebuildFrom': WHATEVER THE INPUT: true; the input reads as it did. -/
def fnExactRebuildFromSpec : ChangeSpec := { name := "fnExactRebuildFrom", fn := fun _ => fun
  | [d] => { results := [.lit (.bool true)], args := [d] }
  | _ => none }
def fnExactRebuildFromRow : OpenClaim := { program := "ytojdaolclcmalaa", sum := "1d1976fffe595e8e15bcda8bfb1385cc38e157adae37e491ed02298fd97b8c5d", func := "loop.example/g00361/laws.FnExactRebuildFrom", spec := "fnExactRebuildFrom", inPlace := ["slices.overlaps[loop.example/g00361/impl.Producer]"], unfollowed := true, recurses := true, apart := false }
def FnExactRebuildFromSaid : Prop := fnExactRebuildFromRow.holds Try.pinned (OpenSpec.ofChange fnExactRebuildFromSpec)

/-- ITS FALSE NEIGHBOUR: 'it returns false'. Refute it at one input. -/
def fnExactRebuildFromWrong : ChangeSpec := { name := "fnExactRebuildFrom", fn := fun _ => fun
  | [d] => { results := [.lit (.bool false)], args := [d] }
  | _ => none }
def FnExactRebuildFromWrongFalsely : Prop := fnExactRebuildFromRow.holds Try.pinned (OpenSpec.ofChange fnExactRebuildFromWrong)

/- THE SECOND FORM. 'bulk': how many values and letters a reading holds, each counted each time it is reached (what is shared counts as often as it is met; a slice's spare places count too). A statement '..UptoSaid' is the law's where the arguments, and the package variables that the reading takes, are together of bulk at most 1048576: NARROWER than '..Said'. Prove '..Said' where nothing that the law and all that it calls make is longer than what came in: it says more and counts as full. Else prove '..UptoSaid'. A law counts once. -/
mutual
def uptoBulk {H : Type} : DataW H → Nat
  | .lit (.string bytes) => bytes.length + 1
  | .lit _ => 1
  | .nil => 1
  | .ptr d => uptoBulk d + 1
  | .slice elems spare => uptoBulkAll elems + uptoBulkAll spare + 1
  | .agg parts => uptoBulkAll parts + 1
  | .iface _ d => uptoBulk d + 1
  | .map entries => uptoBulkEntries entries + 1
  | .held _ => 1
def uptoBulkAll {H : Type} : List (DataW H) → Nat
  | [] => 0
  | d :: r => uptoBulk d + uptoBulkAll r
def uptoBulkEntries {H : Type} : List (Lit × DataW H) → Nat
  | [] => 0
  | x :: r => uptoBulkEntry x + uptoBulkEntries r
def uptoBulkEntry {H : Type} : Lit × DataW H → Nat
  | (.string bytes, d) => bytes.length + uptoBulk d + 1
  | (_, d) => uptoBulk d + 1
 end
def uptoSmall : (H : Type) → List (DataW H) → Bool := fun _ ds => decide (uptoBulkAll ds ≤ 1048576)
def OpenSpec.upto (s : _root_.Go.ChangeSpec) : _root_.Go.OpenSpec := { _root_.Go.OpenSpec.ofChange s with cond := some uptoSmall }

/-- 'laws.FnExactRecordsOf', WHERE WHAT IT READS IS OF BULK AT MOST 1048576: true; the input reads as it did. -/
def fnExactRecordsOfUptoRow : OpenClaim := { program := "ytojdaolclcmalaa", sum := "1d1976fffe595e8e15bcda8bfb1385cc38e157adae37e491ed02298fd97b8c5d", func := "loop.example/g00361/laws.FnExactRecordsOf", spec := "fnExactRecordsOf", inPlace := ["slices.overlaps[loop.example/g00361/impl.Producer]"], unfollowed := true, recurses := true, apart := false, narrowed := true }
def FnExactRecordsOfUptoSaid : Prop := fnExactRecordsOfUptoRow.holds Try.pinned (OpenSpec.upto fnExactRecordsOfSpec)

/-- 'laws.FnExactPlayAsks', WHERE WHAT IT READS IS OF BULK AT MOST 1048576: true; the input reads as it did. -/
def fnExactPlayAsksUptoRow : OpenClaim := { program := "ytojdaolclcmalaa", sum := "1d1976fffe595e8e15bcda8bfb1385cc38e157adae37e491ed02298fd97b8c5d", func := "loop.example/g00361/laws.FnExactPlayAsks", spec := "fnExactPlayAsks", inPlace := ["slices.overlaps[loop.example/g00361/impl.Producer]"], unfollowed := true, recurses := true, apart := false, narrowed := true }
def FnExactPlayAsksUptoSaid : Prop := fnExactPlayAsksUptoRow.holds Try.pinned (OpenSpec.upto fnExactPlayAsksSpec)

/-- 'laws.FnExactAskPart', WHERE WHAT IT READS IS OF BULK AT MOST 1048576: true; the input reads as it did. -/
def fnExactAskPartUptoRow : OpenClaim := { program := "ytojdaolclcmalaa", sum := "1d1976fffe595e8e15bcda8bfb1385cc38e157adae37e491ed02298fd97b8c5d", func := "loop.example/g00361/laws.FnExactAskPart", spec := "fnExactAskPart", inPlace := ["slices.overlaps[loop.example/g00361/impl.Producer]"], unfollowed := true, recurses := true, apart := false, narrowed := true }
def FnExactAskPartUptoSaid : Prop := fnExactAskPartUptoRow.holds Try.pinned (OpenSpec.upto fnExactAskPartSpec)

/-- 'laws.FnExactNewPart', WHERE WHAT IT READS IS OF BULK AT MOST 1048576: true; the input reads as it did. -/
def fnExactNewPartUptoRow : OpenClaim := { program := "ytojdaolclcmalaa", sum := "1d1976fffe595e8e15bcda8bfb1385cc38e157adae37e491ed02298fd97b8c5d", func := "loop.example/g00361/laws.FnExactNewPart", spec := "fnExactNewPart", inPlace := ["slices.overlaps[loop.example/g00361/impl.Producer]"], unfollowed := true, recurses := true, apart := false, narrowed := true }
def FnExactNewPartUptoSaid : Prop := fnExactNewPartUptoRow.holds Try.pinned (OpenSpec.upto fnExactNewPartSpec)

/-- 'laws.FnExactGoodPart', WHERE WHAT IT READS IS OF BULK AT MOST 1048576: true; the input reads as it did. -/
def fnExactGoodPartUptoRow : OpenClaim := { program := "ytojdaolclcmalaa", sum := "1d1976fffe595e8e15bcda8bfb1385cc38e157adae37e491ed02298fd97b8c5d", func := "loop.example/g00361/laws.FnExactGoodPart", spec := "fnExactGoodPart", inPlace := ["slices.overlaps[loop.example/g00361/impl.Producer]"], unfollowed := true, recurses := true, apart := false, narrowed := true }
def FnExactGoodPartUptoSaid : Prop := fnExactGoodPartUptoRow.holds Try.pinned (OpenSpec.upto fnExactGoodPartSpec)

/-- 'laws.FnExactNextSeq', WHERE WHAT IT READS IS OF BULK AT MOST 1048576: true; the input reads as it did. -/
def fnExactNextSeqUptoRow : OpenClaim := { program := "ytojdaolclcmalaa", sum := "1d1976fffe595e8e15bcda8bfb1385cc38e157adae37e491ed02298fd97b8c5d", func := "loop.example/g00361/laws.FnExactNextSeq", spec := "fnExactNextSeq", inPlace := ["slices.overlaps[loop.example/g00361/impl.Producer]"], unfollowed := true, recurses := true, apart := false, narrowed := true }
def FnExactNextSeqUptoSaid : Prop := fnExactNextSeqUptoRow.holds Try.pinned (OpenSpec.upto fnExactNextSeqSpec)

/-- 'laws.FnExactRebuildFrom', WHERE WHAT IT READS IS OF BULK AT MOST 1048576: true; the input reads as it did. -/
def fnExactRebuildFromUptoRow : OpenClaim := { program := "ytojdaolclcmalaa", sum := "1d1976fffe595e8e15bcda8bfb1385cc38e157adae37e491ed02298fd97b8c5d", func := "loop.example/g00361/laws.FnExactRebuildFrom", spec := "fnExactRebuildFrom", inPlace := ["slices.overlaps[loop.example/g00361/impl.Producer]"], unfollowed := true, recurses := true, apart := false, narrowed := true }
def FnExactRebuildFromUptoSaid : Prop := fnExactRebuildFromUptoRow.holds Try.pinned (OpenSpec.upto fnExactRebuildFromSpec)

end Rows
end Go.Proofs.Ytojdaolclcmalaa
