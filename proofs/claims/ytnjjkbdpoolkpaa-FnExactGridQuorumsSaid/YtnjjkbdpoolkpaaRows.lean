/-
  No cell of these rows narrows 'for every input' (looked for: loops, veiled, ifaces, maps, wideKeys, modest, calm, conditions, laid).
  DERIVED. THE GIVEN ROWS OF THIS SEAT. 8 by the template 'for every input the law returns true; each argument reads behind the call as it read before'; 0 by the template 'total and deterministic' (their statements: YtnjjkbdpoolkpaaTotals.lean).
  GIVEN WITH THE SEED: the statements are not yours to turn. If you find one false, say at which input.
  Laid BY PROGRAM, IN A SANDBOX (cutbox-rows.mjs): the forced cells as the released guide's own fill.sh prints them over the translation 44c2cf3cd3c95b9c… (all of the seat's roots in one cut). By AI agents, Wed Nov 11 2026. No macro, syntax, notation, axiom, sorry.
-/
import Derived.Test.YtnjjkbdpoolkpaaChecked
import GoSem.Claim
import GoSem.ClaimJoined
import GoSem.ClaimMapViews
import Derived.JoinedTies
import Derived.KernelRfl
namespace Go.Proofs.Ytnjjkbdpoolkpaa
/- THE CELL 'sum', in the pinned program and in every row, IS THE sha256 OF THE DUMP (.gsa) THAT YtnjjkbdpoolkpaaProg.lean LOADS. Nothing in Lean hashes anything: it is a label: what it is worth is what the hold of that sum in a sandbox is worth. -/
noncomputable def Try.pinned : Pinned := { name := "ytnjjkbdpoolkpaa", sum := "44c2cf3cd3c95b9c0e3c62769789aec8615f0f2ea6370bbc93743d0010767cd1", checked := Try.checked }
namespace Rows
def none {H : Type} : Left H := { results := [], args := [] }

/-- 'laws.FnExactConstants': WHATEVER THE INPUT: true; the input reads as it did. -/
def fnExactConstantsSpec : ChangeSpec := { name := "fnExactConstants", fn := fun _ => fun
  | [] => { results := [.lit (.bool true)], args := [] }
  | _ => none }
def fnExactConstantsRow : OpenClaim := { program := "ytnjjkbdpoolkpaa", sum := "44c2cf3cd3c95b9c0e3c62769789aec8615f0f2ea6370bbc93743d0010767cd1", func := "loop.example/g00361/laws.FnExactConstants", spec := "fnExactConstants", apart := false }
def FnExactConstantsSaid : Prop := fnExactConstantsRow.holds Try.pinned (OpenSpec.ofChange fnExactConstantsSpec)

/-- ITS FALSE NEIGHBOUR: 'it returns false'. Refute it at one input. -/
def fnExactConstantsWrong : ChangeSpec := { name := "fnExactConstants", fn := fun _ => fun
  | [] => { results := [.lit (.bool false)], args := [] }
  | _ => none }
def FnExactConstantsWrongFalsely : Prop := fnExactConstantsRow.holds Try.pinned (OpenSpec.ofChange fnExactConstantsWrong)

/-- 'laws.FnExactGoodVotes': WHATEVER THE INPUT: true; the input reads as it did. -/
def fnExactGoodVotesSpec : ChangeSpec := { name := "fnExactGoodVotes", fn := fun _ => fun
  | [d] => { results := [.lit (.bool true)], args := [d] }
  | _ => none }
def fnExactGoodVotesRow : OpenClaim := { program := "ytnjjkbdpoolkpaa", sum := "44c2cf3cd3c95b9c0e3c62769789aec8615f0f2ea6370bbc93743d0010767cd1", func := "loop.example/g00361/laws.FnExactGoodVotes", spec := "fnExactGoodVotes", unfollowed := true, recurses := true, apart := false }
def FnExactGoodVotesSaid : Prop := fnExactGoodVotesRow.holds Try.pinned (OpenSpec.ofChange fnExactGoodVotesSpec)

/-- ITS FALSE NEIGHBOUR: 'it returns false'. Refute it at one input. -/
def fnExactGoodVotesWrong : ChangeSpec := { name := "fnExactGoodVotes", fn := fun _ => fun
  | [d] => { results := [.lit (.bool false)], args := [d] }
  | _ => none }
def FnExactGoodVotesWrongFalsely : Prop := fnExactGoodVotesRow.holds Try.pinned (OpenSpec.ofChange fnExactGoodVotesWrong)

/-- 'laws.FnExactReadWrite': WHATEVER THE INPUT: true; the input reads as it did. -/
def fnExactReadWriteSpec : ChangeSpec := { name := "fnExactReadWrite", fn := fun _ => fun
  | [d1, d2, d3] => { results := [.lit (.bool true)], args := [d1, d2, d3] }
  | _ => none }
def fnExactReadWriteRow : OpenClaim := { program := "ytnjjkbdpoolkpaa", sum := "44c2cf3cd3c95b9c0e3c62769789aec8615f0f2ea6370bbc93743d0010767cd1", func := "loop.example/g00361/laws.FnExactReadWrite", spec := "fnExactReadWrite", unfollowed := true, recurses := true, apart := false }
def FnExactReadWriteSaid : Prop := fnExactReadWriteRow.holds Try.pinned (OpenSpec.ofChange fnExactReadWriteSpec)

/-- ITS FALSE NEIGHBOUR: 'it returns false'. Refute it at one input. -/
def fnExactReadWriteWrong : ChangeSpec := { name := "fnExactReadWrite", fn := fun _ => fun
  | [d1, d2, d3] => { results := [.lit (.bool false)], args := [d1, d2, d3] }
  | _ => none }
def FnExactReadWriteWrongFalsely : Prop := fnExactReadWriteRow.holds Try.pinned (OpenSpec.ofChange fnExactReadWriteWrong)

/-- 'laws.FnExactGridQuorums': WHATEVER THE INPUT: true; the input reads as it did. -/
def fnExactGridQuorumsSpec : ChangeSpec := { name := "fnExactGridQuorums", fn := fun _ => fun
  | [d1, d2] => { results := [.lit (.bool true)], args := [d1, d2] }
  | _ => none }
def fnExactGridQuorumsRow : OpenClaim := { program := "ytnjjkbdpoolkpaa", sum := "44c2cf3cd3c95b9c0e3c62769789aec8615f0f2ea6370bbc93743d0010767cd1", func := "loop.example/g00361/laws.FnExactGridQuorums", spec := "fnExactGridQuorums", apart := false }
def FnExactGridQuorumsSaid : Prop := fnExactGridQuorumsRow.holds Try.pinned (OpenSpec.ofChange fnExactGridQuorumsSpec)

/-- ITS FALSE NEIGHBOUR: 'it returns false'. Refute it at one input. -/
def fnExactGridQuorumsWrong : ChangeSpec := { name := "fnExactGridQuorums", fn := fun _ => fun
  | [d1, d2] => { results := [.lit (.bool false)], args := [d1, d2] }
  | _ => none }
def FnExactGridQuorumsWrongFalsely : Prop := fnExactGridQuorumsRow.holds Try.pinned (OpenSpec.ofChange fnExactGridQuorumsWrong)

/-- 'laws.FnExactIsQuorum': WHATEVER THE INPUT: true; the input reads as it did. -/
def fnExactIsQuorumSpec : ChangeSpec := { name := "fnExactIsQuorum", fn := fun _ => fun
  | [d1, d2] => { results := [.lit (.bool true)], args := [d1, d2] }
  | _ => none }
def fnExactIsQuorumRow : OpenClaim := { program := "ytnjjkbdpoolkpaa", sum := "44c2cf3cd3c95b9c0e3c62769789aec8615f0f2ea6370bbc93743d0010767cd1", func := "loop.example/g00361/laws.FnExactIsQuorum", spec := "fnExactIsQuorum", unfollowed := true, recurses := true, apart := false }
def FnExactIsQuorumSaid : Prop := fnExactIsQuorumRow.holds Try.pinned (OpenSpec.ofChange fnExactIsQuorumSpec)

/-- ITS FALSE NEIGHBOUR: 'it returns false'. Refute it at one input. -/
def fnExactIsQuorumWrong : ChangeSpec := { name := "fnExactIsQuorum", fn := fun _ => fun
  | [d1, d2] => { results := [.lit (.bool false)], args := [d1, d2] }
  | _ => none }
def FnExactIsQuorumWrongFalsely : Prop := fnExactIsQuorumRow.holds Try.pinned (OpenSpec.ofChange fnExactIsQuorumWrong)

/-- 'laws.FnExactSurvives': WHATEVER THE INPUT: true; the input reads as it did. -/
def fnExactSurvivesSpec : ChangeSpec := { name := "fnExactSurvives", fn := fun _ => fun
  | [d1, d2] => { results := [.lit (.bool true)], args := [d1, d2] }
  | _ => none }
def fnExactSurvivesRow : OpenClaim := { program := "ytnjjkbdpoolkpaa", sum := "44c2cf3cd3c95b9c0e3c62769789aec8615f0f2ea6370bbc93743d0010767cd1", func := "loop.example/g00361/laws.FnExactSurvives", spec := "fnExactSurvives", unfollowed := true, recurses := true, apart := false }
def FnExactSurvivesSaid : Prop := fnExactSurvivesRow.holds Try.pinned (OpenSpec.ofChange fnExactSurvivesSpec)

/-- ITS FALSE NEIGHBOUR: 'it returns false'. Refute it at one input. -/
def fnExactSurvivesWrong : ChangeSpec := { name := "fnExactSurvives", fn := fun _ => fun
  | [d1, d2] => { results := [.lit (.bool false)], args := [d1, d2] }
  | _ => none }
def FnExactSurvivesWrongFalsely : Prop := fnExactSurvivesRow.holds Try.pinned (OpenSpec.ofChange fnExactSurvivesWrong)

/-- 'laws.FnExactAllMeet': WHATEVER THE INPUT: true; the input reads as it did. -/
def fnExactAllMeetSpec : ChangeSpec := { name := "fnExactAllMeet", fn := fun _ => fun
  | [d] => { results := [.lit (.bool true)], args := [d] }
  | _ => none }
def fnExactAllMeetRow : OpenClaim := { program := "ytnjjkbdpoolkpaa", sum := "44c2cf3cd3c95b9c0e3c62769789aec8615f0f2ea6370bbc93743d0010767cd1", func := "loop.example/g00361/laws.FnExactAllMeet", spec := "fnExactAllMeet", unfollowed := true, recurses := true, apart := false }
def FnExactAllMeetSaid : Prop := fnExactAllMeetRow.holds Try.pinned (OpenSpec.ofChange fnExactAllMeetSpec)

/-- ITS FALSE NEIGHBOUR: 'it returns false'. Refute it at one input. -/
def fnExactAllMeetWrong : ChangeSpec := { name := "fnExactAllMeet", fn := fun _ => fun
  | [d] => { results := [.lit (.bool false)], args := [d] }
  | _ => none }
def FnExactAllMeetWrongFalsely : Prop := fnExactAllMeetRow.holds Try.pinned (OpenSpec.ofChange fnExactAllMeetWrong)

/-- 'laws.FnExactIsCoterie': WHATEVER THE INPUT: true; the input reads as it did. -/
def fnExactIsCoterieSpec : ChangeSpec := { name := "fnExactIsCoterie", fn := fun _ => fun
  | [d] => { results := [.lit (.bool true)], args := [d] }
  | _ => none }
def fnExactIsCoterieRow : OpenClaim := { program := "ytnjjkbdpoolkpaa", sum := "44c2cf3cd3c95b9c0e3c62769789aec8615f0f2ea6370bbc93743d0010767cd1", func := "loop.example/g00361/laws.FnExactIsCoterie", spec := "fnExactIsCoterie", unfollowed := true, recurses := true, apart := false }
def FnExactIsCoterieSaid : Prop := fnExactIsCoterieRow.holds Try.pinned (OpenSpec.ofChange fnExactIsCoterieSpec)

/-- ITS FALSE NEIGHBOUR: 'it returns false'. Refute it at one input. -/
def fnExactIsCoterieWrong : ChangeSpec := { name := "fnExactIsCoterie", fn := fun _ => fun
  | [d] => { results := [.lit (.bool false)], args := [d] }
  | _ => none }
def FnExactIsCoterieWrongFalsely : Prop := fnExactIsCoterieRow.holds Try.pinned (OpenSpec.ofChange fnExactIsCoterieWrong)

/- THE SECOND FORM. 'bulk': how many values and letters a reading holds, each counted each time it is reached (what is shared counts as often as it is met; a slice's spare places count too). A statement '..UptoSaid' is the law's where the arguments, and the package variables that the reading takes, are together of bulk at most 1048576: NARROWER than '..Said'. Prove '..Said' where nothing that the law and all that it calls make is longer than what came in: it says more and counts as full. Else prove '..UptoSaid'. A law counts once. -/
mutual
def uptoBulk {H : Type} : DataW H → Nat
  | .lit (.string bytes) => bytes.length + 1
  | .lit _ => 1
  | .nil => 1
  | .ptr d => uptoBulk d + 1
  | .slice elems spare => uptoBulkAll elems + uptoBulkAll spare + 1
  | .agg parts => uptoBulkAll parts + 1
  | .iface _ d => uptoBulk d + 1
  | .map entries => uptoBulkEntries entries + 1
  | .held _ => 1
def uptoBulkAll {H : Type} : List (DataW H) → Nat
  | [] => 0
  | d :: r => uptoBulk d + uptoBulkAll r
def uptoBulkEntries {H : Type} : List (Lit × DataW H) → Nat
  | [] => 0
  | x :: r => uptoBulkEntry x + uptoBulkEntries r
def uptoBulkEntry {H : Type} : Lit × DataW H → Nat
  | (.string bytes, d) => bytes.length + uptoBulk d + 1
  | (_, d) => uptoBulk d + 1
 end
def uptoSmall : (H : Type) → List (DataW H) → Bool := fun _ ds => decide (uptoBulkAll ds ≤ 1048576)
def OpenSpec.upto (s : _root_.Go.ChangeSpec) : _root_.Go.OpenSpec := { _root_.Go.OpenSpec.ofChange s with cond := some uptoSmall }

/-- 'laws.FnExactConstants', WHERE WHAT IT READS IS OF BULK AT MOST 1048576: true; the input reads as it did. -/
def fnExactConstantsUptoRow : OpenClaim := { program := "ytnjjkbdpoolkpaa", sum := "44c2cf3cd3c95b9c0e3c62769789aec8615f0f2ea6370bbc93743d0010767cd1", func := "loop.example/g00361/laws.FnExactConstants", spec := "fnExactConstants", apart := false, narrowed := true }
def FnExactConstantsUptoSaid : Prop := fnExactConstantsUptoRow.holds Try.pinned (OpenSpec.upto fnExactConstantsSpec)

/-- 'laws.FnExactGoodVotes', WHERE WHAT IT READS IS OF BULK AT MOST 1048576: true; the input reads as it did. -/
def fnExactGoodVotesUptoRow : OpenClaim := { program := "ytnjjkbdpoolkpaa", sum := "44c2cf3cd3c95b9c0e3c62769789aec8615f0f2ea6370bbc93743d0010767cd1", func := "loop.example/g00361/laws.FnExactGoodVotes", spec := "fnExactGoodVotes", unfollowed := true, recurses := true, apart := false, narrowed := true }
def FnExactGoodVotesUptoSaid : Prop := fnExactGoodVotesUptoRow.holds Try.pinned (OpenSpec.upto fnExactGoodVotesSpec)

/-- 'laws.FnExactReadWrite', WHERE WHAT IT READS IS OF BULK AT MOST 1048576: true; the input reads as it did. -/
def fnExactReadWriteUptoRow : OpenClaim := { program := "ytnjjkbdpoolkpaa", sum := "44c2cf3cd3c95b9c0e3c62769789aec8615f0f2ea6370bbc93743d0010767cd1", func := "loop.example/g00361/laws.FnExactReadWrite", spec := "fnExactReadWrite", unfollowed := true, recurses := true, apart := false, narrowed := true }
def FnExactReadWriteUptoSaid : Prop := fnExactReadWriteUptoRow.holds Try.pinned (OpenSpec.upto fnExactReadWriteSpec)

/-- 'laws.FnExactGridQuorums', WHERE WHAT IT READS IS OF BULK AT MOST 1048576: true; the input reads as it did. -/
def fnExactGridQuorumsUptoRow : OpenClaim := { program := "ytnjjkbdpoolkpaa", sum := "44c2cf3cd3c95b9c0e3c62769789aec8615f0f2ea6370bbc93743d0010767cd1", func := "loop.example/g00361/laws.FnExactGridQuorums", spec := "fnExactGridQuorums", apart := false, narrowed := true }
def FnExactGridQuorumsUptoSaid : Prop := fnExactGridQuorumsUptoRow.holds Try.pinned (OpenSpec.upto fnExactGridQuorumsSpec)

/-- 'laws.FnExactIsQuorum', WHERE WHAT IT READS IS OF BULK AT MOST 1048576: true; the input reads as it did. -/
def fnExactIsQuorumUptoRow : OpenClaim := { program := "ytnjjkbdpoolkpaa", sum := "44c2cf3cd3c95b9c0e3c62769789aec8615f0f2ea6370bbc93743d0010767cd1", func := "loop.example/g00361/laws.FnExactIsQuorum", spec := "fnExactIsQuorum", unfollowed := true, recurses := true, apart := false, narrowed := true }
def FnExactIsQuorumUptoSaid : Prop := fnExactIsQuorumUptoRow.holds Try.pinned (OpenSpec.upto fnExactIsQuorumSpec)

/-- 'laws.FnExactSurvives', WHERE WHAT IT READS IS OF BULK AT MOST 1048576: true; the input reads as it did. -/
def fnExactSurvivesUptoRow : OpenClaim := { program := "ytnjjkbdpoolkpaa", sum := "44c2cf3cd3c95b9c0e3c62769789aec8615f0f2ea6370bbc93743d0010767cd1", func := "loop.example/g00361/laws.FnExactSurvives", spec := "fnExactSurvives", unfollowed := true, recurses := true, apart := false, narrowed := true }
def FnExactSurvivesUptoSaid : Prop := fnExactSurvivesUptoRow.holds Try.pinned (OpenSpec.upto fnExactSurvivesSpec)

/-- 'laws.FnExactAllMeet', WHERE WHAT IT READS IS OF BULK AT MOST 1048576: true; the input reads as it did. -/
def fnExactAllMeetUptoRow : OpenClaim := { program := "ytnjjkbdpoolkpaa", sum := "44c2cf3cd3c95b9c0e3c62769789aec8615f0f2ea6370bbc93743d0010767cd1", func := "loop.example/g00361/laws.FnExactAllMeet", spec := "fnExactAllMeet", unfollowed := true, recurses := true, apart := false, narrowed := true }
def FnExactAllMeetUptoSaid : Prop := fnExactAllMeetUptoRow.holds Try.pinned (OpenSpec.upto fnExactAllMeetSpec)

/-- 'laws.FnExactIsCoterie', WHERE WHAT IT READS IS OF BULK AT MOST 1048576: true; the input reads as it did. -/
def fnExactIsCoterieUptoRow : OpenClaim := { program := "ytnjjkbdpoolkpaa", sum := "44c2cf3cd3c95b9c0e3c62769789aec8615f0f2ea6370bbc93743d0010767cd1", func := "loop.example/g00361/laws.FnExactIsCoterie", spec := "fnExactIsCoterie", unfollowed := true, recurses := true, apart := false, narrowed := true }
def FnExactIsCoterieUptoSaid : Prop := fnExactIsCoterieUptoRow.holds Try.pinned (OpenSpec.upto fnExactIsCoterieSpec)

end Rows
end Go.Proofs.Ytnjjkbdpoolkpaa
