/-
  No cell of these rows narrows 'for every input' (looked for: loops, veiled, ifaces, maps, wideKeys, modest, calm, conditions, laid).
  DERIVED. THE GIVEN ROWS OF THIS SEAT. 10 by the template 'for every input the law returns true; each argument reads behind the call as it read before'; 0 by the template 'total and deterministic' (their statements: YtpjbggfhdklnmaaTotals.lean).
  GIVEN WITH THE SEED: the statements are not yours to turn. If you find one false, say at which input.
  Laid BY PROGRAM, IN A SANDBOX (cutbox-rows.mjs): the forced cells as the released guide's own fill.sh prints them over the translation 94ebcde8750bb426… (all of the seat's roots in one cut). By AI agents, Wed Nov 11 2026. No macro, syntax, notation, axiom, sorry.
-/
import Derived.Test.YtpjbggfhdklnmaaChecked
import GoSem.Claim
import GoSem.ClaimJoined
import GoSem.ClaimMapViews
import Derived.JoinedTies
import Derived.KernelRfl
namespace Go.Proofs.Ytpjbggfhdklnmaa
/- THE CELL 'sum', in the pinned program and in every row, IS THE sha256 OF THE DUMP (.gsa) THAT YtpjbggfhdklnmaaProg.lean LOADS. Nothing in Lean hashes anything: it is a label: what it is worth is what the hold of that sum in a sandbox is worth. -/
noncomputable def Try.pinned : Pinned := { name := "ytpjbggfhdklnmaa", sum := "94ebcde8750bb4260f3f29f506da659be256ef3dc251a3602df5f553b59214fc", checked := Try.checked }
namespace Rows
def none {H : Type} : Left H := { results := [], args := [] }

/-- 'laws.FnExactSumOf': WHATEVER THE INPUT: true; the input reads as it did. -/
def fnExactSumOfSpec : ChangeSpec := { name := "fnExactSumOf", fn := fun _ => fun
  | [d] => { results := [.lit (.bool true)], args := [d] }
  | _ => none }
def fnExactSumOfRow : OpenClaim := { program := "ytpjbggfhdklnmaa", sum := "94ebcde8750bb4260f3f29f506da659be256ef3dc251a3602df5f553b59214fc", func := "loop.example/g00361/laws.FnExactSumOf", spec := "fnExactSumOf", apart := false }
def FnExactSumOfSaid : Prop := fnExactSumOfRow.holds Try.pinned (OpenSpec.ofChange fnExactSumOfSpec)

/-- ITS FALSE NEIGHBOUR: 'it returns false'. Refute it at one input. -/
def fnExactSumOfWrong : ChangeSpec := { name := "fnExactSumOf", fn := fun _ => fun
  | [d] => { results := [.lit (.bool false)], args := [d] }
  | _ => none }
def FnExactSumOfWrongFalsely : Prop := fnExactSumOfRow.holds Try.pinned (OpenSpec.ofChange fnExactSumOfWrong)

/-- 'laws.FnExactGoodBatch': WHATEVER THE INPUT: true; the input reads as it did. -/
def fnExactGoodBatchSpec : ChangeSpec := { name := "fnExactGoodBatch", fn := fun _ => fun
  | [d] => { results := [.lit (.bool true)], args := [d] }
  | _ => none }
def fnExactGoodBatchRow : OpenClaim := { program := "ytpjbggfhdklnmaa", sum := "94ebcde8750bb4260f3f29f506da659be256ef3dc251a3602df5f553b59214fc", func := "loop.example/g00361/laws.FnExactGoodBatch", spec := "fnExactGoodBatch", unfollowed := true, recurses := true, apart := false }
def FnExactGoodBatchSaid : Prop := fnExactGoodBatchRow.holds Try.pinned (OpenSpec.ofChange fnExactGoodBatchSpec)

/-- ITS FALSE NEIGHBOUR: 'it returns false'. Refute it at one input. -/
def fnExactGoodBatchWrong : ChangeSpec := { name := "fnExactGoodBatch", fn := fun _ => fun
  | [d] => { results := [.lit (.bool false)], args := [d] }
  | _ => none }
def FnExactGoodBatchWrongFalsely : Prop := fnExactGoodBatchRow.holds Try.pinned (OpenSpec.ofChange fnExactGoodBatchWrong)

/-- 'laws.FnExactEndOf': WHATEVER THE INPUT: true; the input reads as it did. -/
def fnExactEndOfSpec : ChangeSpec := { name := "fnExactEndOf", fn := fun _ => fun
  | [d] => { results := [.lit (.bool true)], args := [d] }
  | _ => none }
def fnExactEndOfRow : OpenClaim := { program := "ytpjbggfhdklnmaa", sum := "94ebcde8750bb4260f3f29f506da659be256ef3dc251a3602df5f553b59214fc", func := "loop.example/g00361/laws.FnExactEndOf", spec := "fnExactEndOf", unfollowed := true, recurses := true, apart := false }
def FnExactEndOfSaid : Prop := fnExactEndOfRow.holds Try.pinned (OpenSpec.ofChange fnExactEndOfSpec)

/-- ITS FALSE NEIGHBOUR: 'it returns false'. Refute it at one input. -/
def fnExactEndOfWrong : ChangeSpec := { name := "fnExactEndOf", fn := fun _ => fun
  | [d] => { results := [.lit (.bool false)], args := [d] }
  | _ => none }
def FnExactEndOfWrongFalsely : Prop := fnExactEndOfRow.holds Try.pinned (OpenSpec.ofChange fnExactEndOfWrong)

/-- 'laws.FnExactGoodLog': WHATEVER THE INPUT: true; the input reads as it did. -/
def fnExactGoodLogSpec : ChangeSpec := { name := "fnExactGoodLog", fn := fun _ => fun
  | [d] => { results := [.lit (.bool true)], args := [d] }
  | _ => none }
def fnExactGoodLogRow : OpenClaim := { program := "ytpjbggfhdklnmaa", sum := "94ebcde8750bb4260f3f29f506da659be256ef3dc251a3602df5f553b59214fc", func := "loop.example/g00361/laws.FnExactGoodLog", spec := "fnExactGoodLog", unfollowed := true, recurses := true, apart := false }
def FnExactGoodLogSaid : Prop := fnExactGoodLogRow.holds Try.pinned (OpenSpec.ofChange fnExactGoodLogSpec)

/-- ITS FALSE NEIGHBOUR: 'it returns false'. Refute it at one input. -/
def fnExactGoodLogWrong : ChangeSpec := { name := "fnExactGoodLog", fn := fun _ => fun
  | [d] => { results := [.lit (.bool false)], args := [d] }
  | _ => none }
def FnExactGoodLogWrongFalsely : Prop := fnExactGoodLogRow.holds Try.pinned (OpenSpec.ofChange fnExactGoodLogWrong)

/-- 'laws.FnExactBatchBytes': WHATEVER THE INPUT: true; the input reads as it did. -/
def fnExactBatchBytesSpec : ChangeSpec := { name := "fnExactBatchBytes", fn := fun _ => fun
  | [d] => { results := [.lit (.bool true)], args := [d] }
  | _ => none }
def fnExactBatchBytesRow : OpenClaim := { program := "ytpjbggfhdklnmaa", sum := "94ebcde8750bb4260f3f29f506da659be256ef3dc251a3602df5f553b59214fc", func := "loop.example/g00361/laws.FnExactBatchBytes", spec := "fnExactBatchBytes", unfollowed := true, recurses := true, apart := false }
def FnExactBatchBytesSaid : Prop := fnExactBatchBytesRow.holds Try.pinned (OpenSpec.ofChange fnExactBatchBytesSpec)

/-- ITS FALSE NEIGHBOUR: 'it returns false'. Refute it at one input. -/
def fnExactBatchBytesWrong : ChangeSpec := { name := "fnExactBatchBytes", fn := fun _ => fun
  | [d] => { results := [.lit (.bool false)], args := [d] }
  | _ => none }
def FnExactBatchBytesWrongFalsely : Prop := fnExactBatchBytesRow.holds Try.pinned (OpenSpec.ofChange fnExactBatchBytesWrong)

/-- 'laws.FnExactTakeBatch': WHATEVER THE INPUT: true; the input reads as it did. -/
def fnExactTakeBatchSpec : ChangeSpec := { name := "fnExactTakeBatch", fn := fun _ => fun
  | [d1, d2] => { results := [.lit (.bool true)], args := [d1, d2] }
  | _ => none }
def fnExactTakeBatchRow : OpenClaim := { program := "ytpjbggfhdklnmaa", sum := "94ebcde8750bb4260f3f29f506da659be256ef3dc251a3602df5f553b59214fc", func := "loop.example/g00361/laws.FnExactTakeBatch", spec := "fnExactTakeBatch", unfollowed := true, recurses := true, apart := false }
def FnExactTakeBatchSaid : Prop := fnExactTakeBatchRow.holds Try.pinned (OpenSpec.ofChange fnExactTakeBatchSpec)

/-- ITS FALSE NEIGHBOUR: 'it returns false'. Refute it at one input. -/
def fnExactTakeBatchWrong : ChangeSpec := { name := "fnExactTakeBatch", fn := fun _ => fun
  | [d1, d2] => { results := [.lit (.bool false)], args := [d1, d2] }
  | _ => none }
def FnExactTakeBatchWrongFalsely : Prop := fnExactTakeBatchRow.holds Try.pinned (OpenSpec.ofChange fnExactTakeBatchWrong)

/-- 'laws.FnExactLogBytes': WHATEVER THE INPUT: true; the input reads as it did. -/
def fnExactLogBytesSpec : ChangeSpec := { name := "fnExactLogBytes", fn := fun _ => fun
  | [d] => { results := [.lit (.bool true)], args := [d] }
  | _ => none }
def fnExactLogBytesRow : OpenClaim := { program := "ytpjbggfhdklnmaa", sum := "94ebcde8750bb4260f3f29f506da659be256ef3dc251a3602df5f553b59214fc", func := "loop.example/g00361/laws.FnExactLogBytes", spec := "fnExactLogBytes", unfollowed := true, recurses := true, apart := false }
def FnExactLogBytesSaid : Prop := fnExactLogBytesRow.holds Try.pinned (OpenSpec.ofChange fnExactLogBytesSpec)

/-- ITS FALSE NEIGHBOUR: 'it returns false'. Refute it at one input. -/
def fnExactLogBytesWrong : ChangeSpec := { name := "fnExactLogBytes", fn := fun _ => fun
  | [d] => { results := [.lit (.bool false)], args := [d] }
  | _ => none }
def FnExactLogBytesWrongFalsely : Prop := fnExactLogBytesRow.holds Try.pinned (OpenSpec.ofChange fnExactLogBytesWrong)

/-- 'laws.FnExactReadLog': WHATEVER THE INPUT: true; the input reads as it did. -/
def fnExactReadLogSpec : ChangeSpec := { name := "fnExactReadLog", fn := fun _ => fun
  | [d] => { results := [.lit (.bool true)], args := [d] }
  | _ => none }
def fnExactReadLogRow : OpenClaim := { program := "ytpjbggfhdklnmaa", sum := "94ebcde8750bb4260f3f29f506da659be256ef3dc251a3602df5f553b59214fc", func := "loop.example/g00361/laws.FnExactReadLog", spec := "fnExactReadLog", unfollowed := true, recurses := true, apart := false }
def FnExactReadLogSaid : Prop := fnExactReadLogRow.holds Try.pinned (OpenSpec.ofChange fnExactReadLogSpec)

/-- ITS FALSE NEIGHBOUR: 'it returns false'. Refute it at one input. -/
def fnExactReadLogWrong : ChangeSpec := { name := "fnExactReadLog", fn := fun _ => fun
  | [d] => { results := [.lit (.bool false)], args := [d] }
  | _ => none }
def FnExactReadLogWrongFalsely : Prop := fnExactReadLogRow.holds Try.pinned (OpenSpec.ofChange fnExactReadLogWrong)

/-- 'laws.FnBatches': WHATEVER THE INPUT: true; the input reads as it did. -/
def fnBatchesSpec : ChangeSpec := { name := "fnBatches", fn := fun _ => fun
  | [d1, d2] => { results := [.lit (.bool true)], args := [d1, d2] }
  | _ => none }
def fnBatchesRow : OpenClaim := { program := "ytpjbggfhdklnmaa", sum := "94ebcde8750bb4260f3f29f506da659be256ef3dc251a3602df5f553b59214fc", func := "loop.example/g00361/laws.FnBatches", spec := "fnBatches", unfollowed := true, recurses := true, apart := false }
def FnBatchesSaid : Prop := fnBatchesRow.holds Try.pinned (OpenSpec.ofChange fnBatchesSpec)

/-- ITS FALSE NEIGHBOUR: 'it returns false'. Refute it at one input. -/
def fnBatchesWrong : ChangeSpec := { name := "fnBatches", fn := fun _ => fun
  | [d1, d2] => { results := [.lit (.bool false)], args := [d1, d2] }
  | _ => none }
def FnBatchesWrongFalsely : Prop := fnBatchesRow.holds Try.pinned (OpenSpec.ofChange fnBatchesWrong)

/-- 'laws.FnLogs': WHATEVER THE INPUT: true; the input reads as it did. -/
def fnLogsSpec : ChangeSpec := { name := "fnLogs", fn := fun _ => fun
  | [d1, d2] => { results := [.lit (.bool true)], args := [d1, d2] }
  | _ => none }
def fnLogsRow : OpenClaim := { program := "ytpjbggfhdklnmaa", sum := "94ebcde8750bb4260f3f29f506da659be256ef3dc251a3602df5f553b59214fc", func := "loop.example/g00361/laws.FnLogs", spec := "fnLogs", unfollowed := true, recurses := true, apart := false }
def FnLogsSaid : Prop := fnLogsRow.holds Try.pinned (OpenSpec.ofChange fnLogsSpec)

/-- ITS FALSE NEIGHBOUR: 'it returns false'. Refute it at one input. -/
def fnLogsWrong : ChangeSpec := { name := "fnLogs", fn := fun _ => fun
  | [d1, d2] => { results := [.lit (.bool false)], args := [d1, d2] }
  | _ => none }
def FnLogsWrongFalsely : Prop := fnLogsRow.holds Try.pinned (OpenSpec.ofChange fnLogsWrong)

/- THE SECOND FORM. 'bulk': how many values and letters a reading holds, each counted each time it is reached (what is shared counts as often as it is met; a slice's spare places count too). A statement '..UptoSaid' is the law's where the arguments, and the package variables that the reading takes, are together of bulk at most 1048576: NARROWER than '..Said'. Prove '..Said' where nothing that the law and all that it calls make is longer than what came in: it says more and counts as full. Else prove '..UptoSaid'. A law counts once. -/
mutual
def uptoBulk {H : Type} : DataW H → Nat
  | .lit (.string bytes) => bytes.length + 1
  | .lit _ => 1
  | .nil => 1
  | .ptr d => uptoBulk d + 1
  | .slice elems spare => uptoBulkAll elems + uptoBulkAll spare + 1
  | .agg parts => uptoBulkAll parts + 1
  | .iface _ d => uptoBulk d + 1
  | .map entries => uptoBulkEntries entries + 1
  | .held _ => 1
def uptoBulkAll {H : Type} : List (DataW H) → Nat
  | [] => 0
  | d :: r => uptoBulk d + uptoBulkAll r
def uptoBulkEntries {H : Type} : List (Lit × DataW H) → Nat
  | [] => 0
  | x :: r => uptoBulkEntry x + uptoBulkEntries r
def uptoBulkEntry {H : Type} : Lit × DataW H → Nat
  | (.string bytes, d) => bytes.length + uptoBulk d + 1
  | (_, d) => uptoBulk d + 1
 end
def uptoSmall : (H : Type) → List (DataW H) → Bool := fun _ ds => decide (uptoBulkAll ds ≤ 1048576)
def OpenSpec.upto (s : _root_.Go.ChangeSpec) : _root_.Go.OpenSpec := { _root_.Go.OpenSpec.ofChange s with cond := some uptoSmall }

/-- 'laws.FnExactSumOf', WHERE WHAT IT READS IS OF BULK AT MOST 1048576: true; the input reads as it did. -/
def fnExactSumOfUptoRow : OpenClaim := { program := "ytpjbggfhdklnmaa", sum := "94ebcde8750bb4260f3f29f506da659be256ef3dc251a3602df5f553b59214fc", func := "loop.example/g00361/laws.FnExactSumOf", spec := "fnExactSumOf", apart := false, narrowed := true }
def FnExactSumOfUptoSaid : Prop := fnExactSumOfUptoRow.holds Try.pinned (OpenSpec.upto fnExactSumOfSpec)

/-- 'laws.FnExactGoodBatch', WHERE WHAT IT READS IS OF BULK AT MOST 1048576: true; the input reads as it did. -/
def fnExactGoodBatchUptoRow : OpenClaim := { program := "ytpjbggfhdklnmaa", sum := "94ebcde8750bb4260f3f29f506da659be256ef3dc251a3602df5f553b59214fc", func := "loop.example/g00361/laws.FnExactGoodBatch", spec := "fnExactGoodBatch", unfollowed := true, recurses := true, apart := false, narrowed := true }
def FnExactGoodBatchUptoSaid : Prop := fnExactGoodBatchUptoRow.holds Try.pinned (OpenSpec.upto fnExactGoodBatchSpec)

/-- 'laws.FnExactEndOf', WHERE WHAT IT READS IS OF BULK AT MOST 1048576: true; the input reads as it did. -/
def fnExactEndOfUptoRow : OpenClaim := { program := "ytpjbggfhdklnmaa", sum := "94ebcde8750bb4260f3f29f506da659be256ef3dc251a3602df5f553b59214fc", func := "loop.example/g00361/laws.FnExactEndOf", spec := "fnExactEndOf", unfollowed := true, recurses := true, apart := false, narrowed := true }
def FnExactEndOfUptoSaid : Prop := fnExactEndOfUptoRow.holds Try.pinned (OpenSpec.upto fnExactEndOfSpec)

/-- 'laws.FnExactGoodLog', WHERE WHAT IT READS IS OF BULK AT MOST 1048576: true; the input reads as it did. -/
def fnExactGoodLogUptoRow : OpenClaim := { program := "ytpjbggfhdklnmaa", sum := "94ebcde8750bb4260f3f29f506da659be256ef3dc251a3602df5f553b59214fc", func := "loop.example/g00361/laws.FnExactGoodLog", spec := "fnExactGoodLog", unfollowed := true, recurses := true, apart := false, narrowed := true }
def FnExactGoodLogUptoSaid : Prop := fnExactGoodLogUptoRow.holds Try.pinned (OpenSpec.upto fnExactGoodLogSpec)

/-- 'laws.FnExactBatchBytes', WHERE WHAT IT READS IS OF BULK AT MOST 1048576: true; the input reads as it did. -/
def fnExactBatchBytesUptoRow : OpenClaim := { program := "ytpjbggfhdklnmaa", sum := "94ebcde8750bb4260f3f29f506da659be256ef3dc251a3602df5f553b59214fc", func := "loop.example/g00361/laws.FnExactBatchBytes", spec := "fnExactBatchBytes", unfollowed := true, recurses := true, apart := false, narrowed := true }
def FnExactBatchBytesUptoSaid : Prop := fnExactBatchBytesUptoRow.holds Try.pinned (OpenSpec.upto fnExactBatchBytesSpec)

/-- 'laws.FnExactTakeBatch', WHERE WHAT IT READS IS OF BULK AT MOST 1048576: true; the input reads as it did. -/
def fnExactTakeBatchUptoRow : OpenClaim := { program := "ytpjbggfhdklnmaa", sum := "94ebcde8750bb4260f3f29f506da659be256ef3dc251a3602df5f553b59214fc", func := "loop.example/g00361/laws.FnExactTakeBatch", spec := "fnExactTakeBatch", unfollowed := true, recurses := true, apart := false, narrowed := true }
def FnExactTakeBatchUptoSaid : Prop := fnExactTakeBatchUptoRow.holds Try.pinned (OpenSpec.upto fnExactTakeBatchSpec)

/-- 'laws.FnExactLogBytes', WHERE WHAT IT READS IS OF BULK AT MOST 1048576: true; the input reads as it did. -/
def fnExactLogBytesUptoRow : OpenClaim := { program := "ytpjbggfhdklnmaa", sum := "94ebcde8750bb4260f3f29f506da659be256ef3dc251a3602df5f553b59214fc", func := "loop.example/g00361/laws.FnExactLogBytes", spec := "fnExactLogBytes", unfollowed := true, recurses := true, apart := false, narrowed := true }
def FnExactLogBytesUptoSaid : Prop := fnExactLogBytesUptoRow.holds Try.pinned (OpenSpec.upto fnExactLogBytesSpec)

/-- 'laws.FnExactReadLog', WHERE WHAT IT READS IS OF BULK AT MOST 1048576: true; the input reads as it did. -/
def fnExactReadLogUptoRow : OpenClaim := { program := "ytpjbggfhdklnmaa", sum := "94ebcde8750bb4260f3f29f506da659be256ef3dc251a3602df5f553b59214fc", func := "loop.example/g00361/laws.FnExactReadLog", spec := "fnExactReadLog", unfollowed := true, recurses := true, apart := false, narrowed := true }
def FnExactReadLogUptoSaid : Prop := fnExactReadLogUptoRow.holds Try.pinned (OpenSpec.upto fnExactReadLogSpec)

/-- 'laws.FnBatches', WHERE WHAT IT READS IS OF BULK AT MOST 1048576: true; the input reads as it did. -/
def fnBatchesUptoRow : OpenClaim := { program := "ytpjbggfhdklnmaa", sum := "94ebcde8750bb4260f3f29f506da659be256ef3dc251a3602df5f553b59214fc", func := "loop.example/g00361/laws.FnBatches", spec := "fnBatches", unfollowed := true, recurses := true, apart := false, narrowed := true }
def FnBatchesUptoSaid : Prop := fnBatchesUptoRow.holds Try.pinned (OpenSpec.upto fnBatchesSpec)

/-- 'laws.FnLogs', WHERE WHAT IT READS IS OF BULK AT MOST 1048576: true; the input reads as it did. -/
def fnLogsUptoRow : OpenClaim := { program := "ytpjbggfhdklnmaa", sum := "94ebcde8750bb4260f3f29f506da659be256ef3dc251a3602df5f553b59214fc", func := "loop.example/g00361/laws.FnLogs", spec := "fnLogs", unfollowed := true, recurses := true, apart := false, narrowed := true }
def FnLogsUptoSaid : Prop := fnLogsUptoRow.holds Try.pinned (OpenSpec.upto fnLogsSpec)

end Rows
end Go.Proofs.Ytpjbggfhdklnmaa
