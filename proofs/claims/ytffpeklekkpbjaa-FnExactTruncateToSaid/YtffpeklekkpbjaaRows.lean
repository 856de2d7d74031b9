/-
  No cell of these rows narrows 'for every input' (looked for: loops, veiled, ifaces, maps, wideKeys, modest, calm, conditions, laid).
  DERIVED. THE GIVEN ROWS OF THIS SEAT. 11 by the template 'for every input the law returns true; each argument reads behind the call as it read before'; 0 by the template 'total and deterministic' (their statements: YtffpeklekkpbjaaTotals.lean).
  GIVEN WITH THE SEED: the statements are not yours to turn. If you find one false, say at which input.
  Laid BY PROGRAM, IN A SANDBOX (cutbox-rows.mjs): the forced cells as the released guide's own fill.sh prints them over the translation 5b50289f2af56450… (all of the seat's roots in one cut). By AI agents, Wed Nov 11 2026. No macro, syntax, notation, axiom, sorry.
-/
import Derived.Test.YtffpeklekkpbjaaChecked
import GoSem.Claim
import GoSem.ClaimJoined
import GoSem.ClaimMapViews
import Derived.JoinedTies
import Derived.KernelRfl
namespace Go.Proofs.Ytffpeklekkpbjaa
/- THE CELL 'sum', in the pinned program and in every row, IS THE sha256 OF THE DUMP (.gsa) THAT YtffpeklekkpbjaaProg.lean LOADS. Nothing in Lean hashes anything: it is a label: what it is worth is what the hold of that sum in a sandbox is worth. -/
noncomputable def Try.pinned : Pinned := { name := "ytffpeklekkpbjaa", sum := "5b50289f2af56450ef6cea4f0465ff22f182f6b8656943a2d988a2c6e6f4be11", checked := Try.checked }
namespace Rows
def none {H : Type} : Left H := { results := [], args := [] }

/-- 'laws.FnExactNewStore': WHATEVER THE INPUT: true; the input reads as it did. -/
def fnExactNewStoreSpec : ChangeSpec := { name := "fnExactNewStore", fn := fun _ => fun
  | [d] => { results := [.lit (.bool true)], args := [d] }
  | _ => none }
def fnExactNewStoreRow : OpenClaim := { program := "ytffpeklekkpbjaa", sum := "5b50289f2af56450ef6cea4f0465ff22f182f6b8656943a2d988a2c6e6f4be11", func := "loop.example/g00361/laws.FnExactNewStore", spec := "fnExactNewStore", apart := false }
def FnExactNewStoreSaid : Prop := fnExactNewStoreRow.holds Try.pinned (OpenSpec.ofChange fnExactNewStoreSpec)

/-- ITS FALSE NEIGHBOUR: 'it returns false'. Refute it at one input. -/
def fnExactNewStoreWrong : ChangeSpec := { name := "fnExactNewStore", fn := fun _ => fun
  | [d] => { results := [.lit (.bool false)], args := [d] }
  | _ => none }
def FnExactNewStoreWrongFalsely : Prop := fnExactNewStoreRow.holds Try.pinned (OpenSpec.ofChange fnExactNewStoreWrong)

/-- 'laws.FnExactGoodStore': WHATEVER THE INPUT: true; the input reads as it did. -/
def fnExactGoodStoreSpec : ChangeSpec := { name := "fnExactGoodStore", fn := fun _ => fun
  | [d] => { results := [.lit (.bool true)], args := [d] }
  | _ => none }
def fnExactGoodStoreRow : OpenClaim := { program := "ytffpeklekkpbjaa", sum := "5b50289f2af56450ef6cea4f0465ff22f182f6b8656943a2d988a2c6e6f4be11", func := "loop.example/g00361/laws.FnExactGoodStore", spec := "fnExactGoodStore", unfollowed := true, recurses := true, apart := false }
def FnExactGoodStoreSaid : Prop := fnExactGoodStoreRow.holds Try.pinned (OpenSpec.ofChange fnExactGoodStoreSpec)

/-- ITS FALSE NEIGHBOUR: 'it returns false'. Refute it at one input. -/
def fnExactGoodStoreWrong : ChangeSpec := { name := "fnExactGoodStore", fn := fun _ => fun
  | [d] => { results := [.lit (.bool false)], args := [d] }
  | _ => none }
def FnExactGoodStoreWrongFalsely : Prop := fnExactGoodStoreRow.holds Try.pinned (OpenSpec.ofChange fnExactGoodStoreWrong)

/-- 'laws.FnExactSeekIn': WHATEVER THE INPUT: true; the input reads as it did. -/
def fnExactSeekInSpec : ChangeSpec := { name := "fnExactSeekIn", fn := fun _ => fun
  | [d1, d2] => { results := [.lit (.bool true)], args := [d1, d2] }
  | _ => none }
def fnExactSeekInRow : OpenClaim := { program := "ytffpeklekkpbjaa", sum := "5b50289f2af56450ef6cea4f0465ff22f182f6b8656943a2d988a2c6e6f4be11", func := "loop.example/g00361/laws.FnExactSeekIn", spec := "fnExactSeekIn", unfollowed := true, recurses := true, apart := false }
def FnExactSeekInSaid : Prop := fnExactSeekInRow.holds Try.pinned (OpenSpec.ofChange fnExactSeekInSpec)

/-- ITS FALSE NEIGHBOUR: 'it returns false'. Refute it at one input. -/
def fnExactSeekInWrong : ChangeSpec := { name := "fnExactSeekIn", fn := fun _ => fun
  | [d1, d2] => { results := [.lit (.bool false)], args := [d1, d2] }
  | _ => none }
def FnExactSeekInWrongFalsely : Prop := fnExactSeekInRow.holds Try.pinned (OpenSpec.ofChange fnExactSeekInWrong)

/-- 'laws.FnExactDropBefore': WHATEVER THE INPUT: true; the input reads as it did. -/
def fnExactDropBeforeSpec : ChangeSpec := { name := "fnExactDropBefore", fn := fun _ => fun
  | [d1, d2] => { results := [.lit (.bool true)], args := [d1, d2] }
  | _ => none }
def fnExactDropBeforeRow : OpenClaim := { program := "ytffpeklekkpbjaa", sum := "5b50289f2af56450ef6cea4f0465ff22f182f6b8656943a2d988a2c6e6f4be11", func := "loop.example/g00361/laws.FnExactDropBefore", spec := "fnExactDropBefore", unfollowed := true, recurses := true, apart := false }
def FnExactDropBeforeSaid : Prop := fnExactDropBeforeRow.holds Try.pinned (OpenSpec.ofChange fnExactDropBeforeSpec)

/-- ITS FALSE NEIGHBOUR: 'it returns false'. Refute it at one input. -/
def fnExactDropBeforeWrong : ChangeSpec := { name := "fnExactDropBefore", fn := fun _ => fun
  | [d1, d2] => { results := [.lit (.bool false)], args := [d1, d2] }
  | _ => none }
def FnExactDropBeforeWrongFalsely : Prop := fnExactDropBeforeRow.holds Try.pinned (OpenSpec.ofChange fnExactDropBeforeWrong)

/-- 'laws.FnExactTruncateTo': WHATEVER THE INPUT: true; the input reads as it did. -/
def fnExactTruncateToSpec : ChangeSpec := { name := "fnExactTruncateTo", fn := fun _ => fun
  | [d1, d2] => { results := [.lit (.bool true)], args := [d1, d2] }
  | _ => none }
def fnExactTruncateToRow : OpenClaim := { program := "ytffpeklekkpbjaa", sum := "5b50289f2af56450ef6cea4f0465ff22f182f6b8656943a2d988a2c6e6f4be11", func := "loop.example/g00361/laws.FnExactTruncateTo", spec := "fnExactTruncateTo", unfollowed := true, recurses := true, apart := false }
def FnExactTruncateToSaid : Prop := fnExactTruncateToRow.holds Try.pinned (OpenSpec.ofChange fnExactTruncateToSpec)

/-- ITS FALSE NEIGHBOUR: 'it returns false'. Refute it at one input. -/
def fnExactTruncateToWrong : ChangeSpec := { name := "fnExactTruncateTo", fn := fun _ => fun
  | [d1, d2] => { results := [.lit (.bool false)], args := [d1, d2] }
  | _ => none }
def FnExactTruncateToWrongFalsely : Prop := fnExactTruncateToRow.holds Try.pinned (OpenSpec.ofChange fnExactTruncateToWrong)

/-- 'laws.FnExactFindBatch': WHATEVER THE INPUT: true; the input reads as it did. -/
def fnExactFindBatchSpec : ChangeSpec := { name := "fnExactFindBatch", fn := fun _ => fun
  | [d1, d2] => { results := [.lit (.bool true)], args := [d1, d2] }
  | _ => none }
def fnExactFindBatchRow : OpenClaim := { program := "ytffpeklekkpbjaa", sum := "5b50289f2af56450ef6cea4f0465ff22f182f6b8656943a2d988a2c6e6f4be11", func := "loop.example/g00361/laws.FnExactFindBatch", spec := "fnExactFindBatch", unfollowed := true, recurses := true, apart := false }
def FnExactFindBatchSaid : Prop := fnExactFindBatchRow.holds Try.pinned (OpenSpec.ofChange fnExactFindBatchSpec)

/-- ITS FALSE NEIGHBOUR: 'it returns false'. Refute it at one input. -/
def fnExactFindBatchWrong : ChangeSpec := { name := "fnExactFindBatch", fn := fun _ => fun
  | [d1, d2] => { results := [.lit (.bool false)], args := [d1, d2] }
  | _ => none }
def FnExactFindBatchWrongFalsely : Prop := fnExactFindBatchRow.holds Try.pinned (OpenSpec.ofChange fnExactFindBatchWrong)

/-- 'laws.FnExactAllBatches': WHATEVER THE INPUT: true; the input reads as it did. -/
def fnExactAllBatchesSpec : ChangeSpec := { name := "fnExactAllBatches", fn := fun _ => fun
  | [d] => { results := [.lit (.bool true)], args := [d] }
  | _ => none }
def fnExactAllBatchesRow : OpenClaim := { program := "ytffpeklekkpbjaa", sum := "5b50289f2af56450ef6cea4f0465ff22f182f6b8656943a2d988a2c6e6f4be11", func := "loop.example/g00361/laws.FnExactAllBatches", spec := "fnExactAllBatches", unfollowed := true, recurses := true, apart := false }
def FnExactAllBatchesSaid : Prop := fnExactAllBatchesRow.holds Try.pinned (OpenSpec.ofChange fnExactAllBatchesSpec)

/-- ITS FALSE NEIGHBOUR: 'it returns false'. Refute it at one input. -/
def fnExactAllBatchesWrong : ChangeSpec := { name := "fnExactAllBatches", fn := fun _ => fun
  | [d] => { results := [.lit (.bool false)], args := [d] }
  | _ => none }
def FnExactAllBatchesWrongFalsely : Prop := fnExactAllBatchesRow.holds Try.pinned (OpenSpec.ofChange fnExactAllBatchesWrong)

/-- 'laws.FnExactAppendBatch': WHATEVER THE INPUT: true; the input reads as it did. -/
def fnExactAppendBatchSpec : ChangeSpec := { name := "fnExactAppendBatch", fn := fun _ => fun
  | [d1, d2, d3, d4, d5] => { results := [.lit (.bool true)], args := [d1, d2, d3, d4, d5] }
  | _ => none }
def fnExactAppendBatchRow : OpenClaim := { program := "ytffpeklekkpbjaa", sum := "5b50289f2af56450ef6cea4f0465ff22f182f6b8656943a2d988a2c6e6f4be11", func := "loop.example/g00361/laws.FnExactAppendBatch", spec := "fnExactAppendBatch", unfollowed := true, recurses := true, apart := false }
def FnExactAppendBatchSaid : Prop := fnExactAppendBatchRow.holds Try.pinned (OpenSpec.ofChange fnExactAppendBatchSpec)

/-- ITS FALSE NEIGHBOUR: 'it returns false'. Refute it at one input. -/
def fnExactAppendBatchWrong : ChangeSpec := { name := "fnExactAppendBatch", fn := fun _ => fun
  | [d1, d2, d3, d4, d5] => { results := [.lit (.bool false)], args := [d1, d2, d3, d4, d5] }
  | _ => none }
def FnExactAppendBatchWrongFalsely : Prop := fnExactAppendBatchRow.holds Try.pinned (OpenSpec.ofChange fnExactAppendBatchWrong)

/-- 'laws.FnExactReadFrom': WHATEVER THE INPUT: true; the input reads as it did. -/
def fnExactReadFromSpec : ChangeSpec := { name := "fnExactReadFrom", fn := fun _ => fun
  | [d1, d2, d3] => { results := [.lit (.bool true)], args := [d1, d2, d3] }
  | _ => none }
def fnExactReadFromRow : OpenClaim := { program := "ytffpeklekkpbjaa", sum := "5b50289f2af56450ef6cea4f0465ff22f182f6b8656943a2d988a2c6e6f4be11", func := "loop.example/g00361/laws.FnExactReadFrom", spec := "fnExactReadFrom", unfollowed := true, recurses := true, apart := false }
def FnExactReadFromSaid : Prop := fnExactReadFromRow.holds Try.pinned (OpenSpec.ofChange fnExactReadFromSpec)

/-- ITS FALSE NEIGHBOUR: 'it returns false'. Refute it at one input. -/
def fnExactReadFromWrong : ChangeSpec := { name := "fnExactReadFrom", fn := fun _ => fun
  | [d1, d2, d3] => { results := [.lit (.bool false)], args := [d1, d2, d3] }
  | _ => none }
def FnExactReadFromWrongFalsely : Prop := fnExactReadFromRow.holds Try.pinned (OpenSpec.ofChange fnExactReadFromWrong)

/-- 'laws.FnSeeks': WHATEVER THE INPUT: true; the input reads as it did. -/
def fnSeeksSpec : ChangeSpec := { name := "fnSeeks", fn := fun _ => fun
  | [d] => { results := [.lit (.bool true)], args := [d] }
  | _ => none }
def fnSeeksRow : OpenClaim := { program := "ytffpeklekkpbjaa", sum := "5b50289f2af56450ef6cea4f0465ff22f182f6b8656943a2d988a2c6e6f4be11", func := "loop.example/g00361/laws.FnSeeks", spec := "fnSeeks", unfollowed := true, recurses := true, apart := false }
def FnSeeksSaid : Prop := fnSeeksRow.holds Try.pinned (OpenSpec.ofChange fnSeeksSpec)

/-- ITS FALSE NEIGHBOUR: 'it returns false'. Refute it at one input. -/
def fnSeeksWrong : ChangeSpec := { name := "fnSeeks", fn := fun _ => fun
  | [d] => { results := [.lit (.bool false)], args := [d] }
  | _ => none }
def FnSeeksWrongFalsely : Prop := fnSeeksRow.holds Try.pinned (OpenSpec.ofChange fnSeeksWrong)

/-- 'laws.FnStores': WHATEVER THE INPUT: true; the input reads as it did. -/
def fnStoresSpec : ChangeSpec := { name := "fnStores", fn := fun _ => fun
  | [d1, d2] => { results := [.lit (.bool true)], args := [d1, d2] }
  | _ => none }
def fnStoresRow : OpenClaim := { program := "ytffpeklekkpbjaa", sum := "5b50289f2af56450ef6cea4f0465ff22f182f6b8656943a2d988a2c6e6f4be11", func := "loop.example/g00361/laws.FnStores", spec := "fnStores", unfollowed := true, recurses := true, apart := false }
def FnStoresSaid : Prop := fnStoresRow.holds Try.pinned (OpenSpec.ofChange fnStoresSpec)

/-- ITS FALSE NEIGHBOUR: 'it returns false'. Refute it at one input. -/
def fnStoresWrong : ChangeSpec := { name := "fnStores", fn := fun _ => fun
  | [d1, d2] => { results := [.lit (.bool false)], args := [d1, d2] }
  | _ => none }
def FnStoresWrongFalsely : Prop := fnStoresRow.holds Try.pinned (OpenSpec.ofChange fnStoresWrong)

/- THE SECOND FORM. 'bulk': how many values and letters a reading holds, each counted each time it is reached (what is shared counts as often as it is met; a slice's spare places count too). A statement '..UptoSaid' is the law's where the arguments, and the package variables that the reading takes, are together of bulk at most 1048576: NARROWER than '..Said'. Prove '..Said' where nothing that the law and all that it calls make is longer than what came in: it says more and counts as full. Else prove '..UptoSaid'. A law counts once. -/
mutual
def uptoBulk {H : Type} : DataW H → Nat
  | .lit (.string bytes) => bytes.length + 1
  | .lit _ => 1
  | .nil => 1
  | .ptr d => uptoBulk d + 1
  | .slice elems spare => uptoBulkAll elems + uptoBulkAll spare + 1
  | .agg parts => uptoBulkAll parts + 1
  | .iface _ d => uptoBulk d + 1
  | .map entries => uptoBulkEntries entries + 1
  | .held _ => 1
def uptoBulkAll {H : Type} : List (DataW H) → Nat
  | [] => 0
  | d :: r => uptoBulk d + uptoBulkAll r
def uptoBulkEntries {H : Type} : List (Lit × DataW H) → Nat
  | [] => 0
  | x :: r => uptoBulkEntry x + uptoBulkEntries r
def uptoBulkEntry {H : Type} : Lit × DataW H → Nat
  | (.string bytes, d) => bytes.length + uptoBulk d + 1
  | (_, d) => uptoBulk d + 1
 end
def uptoSmall : (H : Type) → List (DataW H) → Bool := fun _ ds => decide (uptoBulkAll ds ≤ 1048576)
def OpenSpec.upto (s : _root_.Go.ChangeSpec) : _root_.Go.OpenSpec := { _root_.Go.OpenSpec.ofChange s with cond := some uptoSmall }

/-- 'laws.FnExactNewStore', WHERE WHAT IT READS IS OF BULK AT MOST 1048576: true; the input reads as it did. -/
def fnExactNewStoreUptoRow : OpenClaim := { program := "ytffpeklekkpbjaa", sum := "5b50289f2af56450ef6cea4f0465ff22f182f6b8656943a2d988a2c6e6f4be11", func := "loop.example/g00361/laws.FnExactNewStore", spec := "fnExactNewStore", apart := false, narrowed := true }
def FnExactNewStoreUptoSaid : Prop := fnExactNewStoreUptoRow.holds Try.pinned (OpenSpec.upto fnExactNewStoreSpec)

/-- 'laws.FnExactGoodStore', WHERE WHAT IT READS IS OF BULK AT MOST 1048576: true; the input reads as it did. -/
def fnExactGoodStoreUptoRow : OpenClaim := { program := "ytffpeklekkpbjaa", sum := "5b50289f2af56450ef6cea4f0465ff22f182f6b8656943a2d988a2c6e6f4be11", func := "loop.example/g00361/laws.FnExactGoodStore", spec := "fnExactGoodStore", unfollowed := true, recurses := true, apart := false, narrowed := true }
def FnExactGoodStoreUptoSaid : Prop := fnExactGoodStoreUptoRow.holds Try.pinned (OpenSpec.upto fnExactGoodStoreSpec)

/-- 'laws.FnExactSeekIn', WHERE WHAT IT READS IS OF BULK AT MOST 1048576: true; the input reads as it did. -/
def fnExactSeekInUptoRow : OpenClaim := { program := "ytffpeklekkpbjaa", sum := "5b50289f2af56450ef6cea4f0465ff22f182f6b8656943a2d988a2c6e6f4be11", func := "loop.example/g00361/laws.FnExactSeekIn", spec := "fnExactSeekIn", unfollowed := true, recurses := true, apart := false, narrowed := true }
def FnExactSeekInUptoSaid : Prop := fnExactSeekInUptoRow.holds Try.pinned (OpenSpec.upto fnExactSeekInSpec)

/-- 'laws.FnExactDropBefore', WHERE WHAT IT READS IS OF BULK AT MOST 1048576: true; the input reads as it did. -/
def fnExactDropBeforeUptoRow : OpenClaim := { program := "ytffpeklekkpbjaa", sum := "5b50289f2af56450ef6cea4f0465ff22f182f6b8656943a2d988a2c6e6f4be11", func := "loop.example/g00361/laws.FnExactDropBefore", spec := "fnExactDropBefore", unfollowed := true, recurses := true, apart := false, narrowed := true }
def FnExactDropBeforeUptoSaid : Prop := fnExactDropBeforeUptoRow.holds Try.pinned (OpenSpec.upto fnExactDropBeforeSpec)

/-- 'laws.FnExactTruncateTo', WHERE WHAT IT READS IS OF BULK AT MOST 1048576: true; the input reads as it did. -/
def fnExactTruncateToUptoRow : OpenClaim := { program := "ytffpeklekkpbjaa", sum := "5b50289f2af56450ef6cea4f0465ff22f182f6b8656943a2d988a2c6e6f4be11", func := "loop.example/g00361/laws.FnExactTruncateTo", spec := "fnExactTruncateTo", unfollowed := true, recurses := true, apart := false, narrowed := true }
def FnExactTruncateToUptoSaid : Prop := fnExactTruncateToUptoRow.holds Try.pinned (OpenSpec.upto fnExactTruncateToSpec)

/-- 'laws.FnExactFindBatch', WHERE WHAT IT READS IS OF BULK AT MOST 1048576: true; the input reads as it did. -/
def fnExactFindBatchUptoRow : OpenClaim := { program := "ytffpeklekkpbjaa", sum := "5b50289f2af56450ef6cea4f0465ff22f182f6b8656943a2d988a2c6e6f4be11", func := "loop.example/g00361/laws.FnExactFindBatch", spec := "fnExactFindBatch", unfollowed := true, recurses := true, apart := false, narrowed := true }
def FnExactFindBatchUptoSaid : Prop := fnExactFindBatchUptoRow.holds Try.pinned (OpenSpec.upto fnExactFindBatchSpec)

/-- 'laws.FnExactAllBatches', WHERE WHAT IT READS IS OF BULK AT MOST 1048576: true; the input reads as it did. -/
def fnExactAllBatchesUptoRow : OpenClaim := { program := "ytffpeklekkpbjaa", sum := "5b50289f2af56450ef6cea4f0465ff22f182f6b8656943a2d988a2c6e6f4be11", func := "loop.example/g00361/laws.FnExactAllBatches", spec := "fnExactAllBatches", unfollowed := true, recurses := true, apart := false, narrowed := true }
def FnExactAllBatchesUptoSaid : Prop := fnExactAllBatchesUptoRow.holds Try.pinned (OpenSpec.upto fnExactAllBatchesSpec)

/-- 'laws.FnExactAppendBatch', WHERE WHAT IT READS IS OF BULK AT MOST 1048576: true; the input reads as it did. -/
def fnExactAppendBatchUptoRow : OpenClaim := { program := "ytffpeklekkpbjaa", sum := "5b50289f2af56450ef6cea4f0465ff22f182f6b8656943a2d988a2c6e6f4be11", func := "loop.example/g00361/laws.FnExactAppendBatch", spec := "fnExactAppendBatch", unfollowed := true, recurses := true, apart := false, narrowed := true }
def FnExactAppendBatchUptoSaid : Prop := fnExactAppendBatchUptoRow.holds Try.pinned (OpenSpec.upto fnExactAppendBatchSpec)

/-- 'laws.FnExactReadFrom', WHERE WHAT IT READS IS OF BULK AT MOST 1048576: true; the input reads as it did. -/
def fnExactReadFromUptoRow : OpenClaim := { program := "ytffpeklekkpbjaa", sum := "5b50289f2af56450ef6cea4f0465ff22f182f6b8656943a2d988a2c6e6f4be11", func := "loop.example/g00361/laws.FnExactReadFrom", spec := "fnExactReadFrom", unfollowed := true, recurses := true, apart := false, narrowed := true }
def FnExactReadFromUptoSaid : Prop := fnExactReadFromUptoRow.holds Try.pinned (OpenSpec.upto fnExactReadFromSpec)

/-- 'laws.FnSeeks', WHERE WHAT IT READS IS OF BULK AT MOST 1048576: true; the input reads as it did. -/
def fnSeeksUptoRow : OpenClaim := { program := "ytffpeklekkpbjaa", sum := "5b50289f2af56450ef6cea4f0465ff22f182f6b8656943a2d988a2c6e6f4be11", func := "loop.example/g00361/laws.FnSeeks", spec := "fnSeeks", unfollowed := true, recurses := true, apart := false, narrowed := true }
def FnSeeksUptoSaid : Prop := fnSeeksUptoRow.holds Try.pinned (OpenSpec.upto fnSeeksSpec)

/-- 'laws.FnStores', WHERE WHAT IT READS IS OF BULK AT MOST 1048576: true; the input reads as it did. -/
def fnStoresUptoRow : OpenClaim := { program := "ytffpeklekkpbjaa", sum := "5b50289f2af56450ef6cea4f0465ff22f182f6b8656943a2d988a2c6e6f4be11", func := "loop.example/g00361/laws.FnStores", spec := "fnStores", unfollowed := true, recurses := true, apart := false, narrowed := true }
def FnStoresUptoSaid : Prop := fnStoresUptoRow.holds Try.pinned (OpenSpec.upto fnStoresSpec)

end Rows
end Go.Proofs.Ytffpeklekkpbjaa
