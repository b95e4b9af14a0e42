/-
  No cell of these rows narrows 'for every input' (looked for: loops, veiled, ifaces, maps, wideKeys, modest, calm, conditions, laid).
  DERIVED. THE GIVEN ROWS OF THIS SEAT. 10 by the template 'for every input the law returns true; each argument reads behind the call as it read before'; 0 by the template 'total and deterministic' (their statements: YtfbghibgjfegpaaTotals.lean).
  GIVEN WITH THE SEED: the statements are not yours to turn. If you find one false, say at which input.
  Laid BY PROGRAM, IN A SANDBOX (cutbox-rows.mjs): the forced cells as the released guide's own fill.sh prints them over the translation aa9baba3dc40a9ce… (all of the seat's roots in one cut). By AI agents, Wed Nov 11 2026. No macro, syntax, notation, axiom, sorry.
-/
import Derived.Test.YtfbghibgjfegpaaChecked
import GoSem.Claim
import GoSem.ClaimJoined
import GoSem.ClaimMapViews
import Derived.JoinedTies
import Derived.KernelRfl
namespace Go.Proofs.Ytfbghibgjfegpaa
/- THE CELL 'sum', in the pinned program and in every row, IS THE sha256 OF THE DUMP (.gsa) THAT YtfbghibgjfegpaaProg.lean LOADS. Nothing in Lean hashes anything: it is a label: what it is worth is what the hold of that sum in a sandbox is worth. -/
noncomputable def Try.pinned : Pinned := { name := "ytfbghibgjfegpaa", sum := "aa9baba3dc40a9ce842889ca3f189dd040107abff86bc4f34ed847f7621efe7f", checked := Try.checked }
namespace Rows
def none {H : Type} : Left H := { results := [], args := [] }

/-- 'laws.FnExactAlwaysMeet': WHATEVER THE INPUT: true; the input reads as it did. -/
def fnExactAlwaysMeetSpec : ChangeSpec := { name := "fnExactAlwaysMeet", fn := fun _ => fun
  | [d1, d2, d3] => { results := [.lit (.bool true)], args := [d1, d2, d3] }
  | _ => none }
def fnExactAlwaysMeetRow : OpenClaim := { program := "ytfbghibgjfegpaa", sum := "aa9baba3dc40a9ce842889ca3f189dd040107abff86bc4f34ed847f7621efe7f", func := "loop.example/g00274/laws.FnExactAlwaysMeet", spec := "fnExactAlwaysMeet", unfollowed := true, recurses := true, apart := false }
def FnExactAlwaysMeetSaid : Prop := fnExactAlwaysMeetRow.holds Try.pinned (OpenSpec.ofChange fnExactAlwaysMeetSpec)

/-- ITS FALSE NEIGHBOUR: 'it returns false'. Refute it at one input. -/
def fnExactAlwaysMeetWrong : ChangeSpec := { name := "fnExactAlwaysMeet", fn := fun _ => fun
  | [d1, d2, d3] => { results := [.lit (.bool false)], args := [d1, d2, d3] }
  | _ => none }
def FnExactAlwaysMeetWrongFalsely : Prop := fnExactAlwaysMeetRow.holds Try.pinned (OpenSpec.ofChange fnExactAlwaysMeetWrong)

/-- 'laws.FnExactGoodVoting': WHATEVER THE INPUT: true; the input reads as it did. -/
def fnExactGoodVotingSpec : ChangeSpec := { name := "fnExactGoodVoting", fn := fun _ => fun
  | [d] => { results := [.lit (.bool true)], args := [d] }
  | _ => none }
def fnExactGoodVotingRow : OpenClaim := { program := "ytfbghibgjfegpaa", sum := "aa9baba3dc40a9ce842889ca3f189dd040107abff86bc4f34ed847f7621efe7f", func := "loop.example/g00274/laws.FnExactGoodVoting", spec := "fnExactGoodVoting", unfollowed := true, recurses := true, apart := false }
def FnExactGoodVotingSaid : Prop := fnExactGoodVotingRow.holds Try.pinned (OpenSpec.ofChange fnExactGoodVotingSpec)

/-- ITS FALSE NEIGHBOUR: 'it returns false'. Refute it at one input. -/
def fnExactGoodVotingWrong : ChangeSpec := { name := "fnExactGoodVoting", fn := fun _ => fun
  | [d] => { results := [.lit (.bool false)], args := [d] }
  | _ => none }
def FnExactGoodVotingWrongFalsely : Prop := fnExactGoodVotingRow.holds Try.pinned (OpenSpec.ofChange fnExactGoodVotingWrong)

/-- 'laws.FnExactNewestOf': WHATEVER THE INPUT: true; the input reads as it did. -/
def fnExactNewestOfSpec : ChangeSpec := { name := "fnExactNewestOf", fn := fun _ => fun
  | [d] => { results := [.lit (.bool true)], args := [d] }
  | _ => none }
def fnExactNewestOfRow : OpenClaim := { program := "ytfbghibgjfegpaa", sum := "aa9baba3dc40a9ce842889ca3f189dd040107abff86bc4f34ed847f7621efe7f", func := "loop.example/g00274/laws.FnExactNewestOf", spec := "fnExactNewestOf", unfollowed := true, recurses := true, apart := false }
def FnExactNewestOfSaid : Prop := fnExactNewestOfRow.holds Try.pinned (OpenSpec.ofChange fnExactNewestOfSpec)

/-- ITS FALSE NEIGHBOUR: 'it returns false'. Refute it at one input. -/
def fnExactNewestOfWrong : ChangeSpec := { name := "fnExactNewestOf", fn := fun _ => fun
  | [d] => { results := [.lit (.bool false)], args := [d] }
  | _ => none }
def FnExactNewestOfWrongFalsely : Prop := fnExactNewestOfRow.holds Try.pinned (OpenSpec.ofChange fnExactNewestOfWrong)

/-- 'laws.FnExactNewVoting': WHATEVER THE INPUT: true; the input reads as it did. -/
def fnExactNewVotingSpec : ChangeSpec := { name := "fnExactNewVoting", fn := fun _ => fun
  | [d1, d2, d3] => { results := [.lit (.bool true)], args := [d1, d2, d3] }
  | _ => none }
def fnExactNewVotingRow : OpenClaim := { program := "ytfbghibgjfegpaa", sum := "aa9baba3dc40a9ce842889ca3f189dd040107abff86bc4f34ed847f7621efe7f", func := "loop.example/g00274/laws.FnExactNewVoting", spec := "fnExactNewVoting", unfollowed := true, recurses := true, apart := false }
def FnExactNewVotingSaid : Prop := fnExactNewVotingRow.holds Try.pinned (OpenSpec.ofChange fnExactNewVotingSpec)

/-- ITS FALSE NEIGHBOUR: 'it returns false'. Refute it at one input. -/
def fnExactNewVotingWrong : ChangeSpec := { name := "fnExactNewVoting", fn := fun _ => fun
  | [d1, d2, d3] => { results := [.lit (.bool false)], args := [d1, d2, d3] }
  | _ => none }
def FnExactNewVotingWrongFalsely : Prop := fnExactNewVotingRow.holds Try.pinned (OpenSpec.ofChange fnExactNewVotingWrong)

/-- 'laws.FnExactWeightIn': WHATEVER THE INPUT: true; the input reads as it did. -/
def fnExactWeightInSpec : ChangeSpec := { name := "fnExactWeightIn", fn := fun _ => fun
  | [d1, d2] => { results := [.lit (.bool true)], args := [d1, d2] }
  | _ => none }
def fnExactWeightInRow : OpenClaim := { program := "ytfbghibgjfegpaa", sum := "aa9baba3dc40a9ce842889ca3f189dd040107abff86bc4f34ed847f7621efe7f", func := "loop.example/g00274/laws.FnExactWeightIn", spec := "fnExactWeightIn", unfollowed := true, recurses := true, apart := false }
def FnExactWeightInSaid : Prop := fnExactWeightInRow.holds Try.pinned (OpenSpec.ofChange fnExactWeightInSpec)

/-- ITS FALSE NEIGHBOUR: 'it returns false'. Refute it at one input. -/
def fnExactWeightInWrong : ChangeSpec := { name := "fnExactWeightIn", fn := fun _ => fun
  | [d1, d2] => { results := [.lit (.bool false)], args := [d1, d2] }
  | _ => none }
def FnExactWeightInWrongFalsely : Prop := fnExactWeightInRow.holds Try.pinned (OpenSpec.ofChange fnExactWeightInWrong)

/-- 'laws.FnExactReadText': WHATEVER THE INPUT: true; the input reads as it did. -/
def fnExactReadTextSpec : ChangeSpec := { name := "fnExactReadText", fn := fun _ => fun
  | [d1, d2] => { results := [.lit (.bool true)], args := [d1, d2] }
  | _ => none }
def fnExactReadTextRow : OpenClaim := { program := "ytfbghibgjfegpaa", sum := "aa9baba3dc40a9ce842889ca3f189dd040107abff86bc4f34ed847f7621efe7f", func := "loop.example/g00274/laws.FnExactReadText", spec := "fnExactReadText", unfollowed := true, recurses := true, apart := false }
def FnExactReadTextSaid : Prop := fnExactReadTextRow.holds Try.pinned (OpenSpec.ofChange fnExactReadTextSpec)

/-- ITS FALSE NEIGHBOUR: 'it returns false'. Refute it at one input. -/
def fnExactReadTextWrong : ChangeSpec := { name := "fnExactReadText", fn := fun _ => fun
  | [d1, d2] => { results := [.lit (.bool false)], args := [d1, d2] }
  | _ => none }
def FnExactReadTextWrongFalsely : Prop := fnExactReadTextRow.holds Try.pinned (OpenSpec.ofChange fnExactReadTextWrong)

/-- 'laws.FnRepaired': WHATEVER THE INPUT: true; the input reads as it did. -/
def fnRepairedSpec : ChangeSpec := { name := "fnRepaired", fn := fun _ => fun
  | [d1, d2] => { results := [.lit (.bool true)], args := [d1, d2] }
  | _ => none }
def fnRepairedRow : OpenClaim := { program := "ytfbghibgjfegpaa", sum := "aa9baba3dc40a9ce842889ca3f189dd040107abff86bc4f34ed847f7621efe7f", func := "loop.example/g00274/laws.FnRepaired", spec := "fnRepaired", unfollowed := true, recurses := true, apart := false }
def FnRepairedSaid : Prop := fnRepairedRow.holds Try.pinned (OpenSpec.ofChange fnRepairedSpec)

/-- ITS FALSE NEIGHBOUR: 'it returns false'. Refute it at one input. -/
def fnRepairedWrong : ChangeSpec := { name := "fnRepaired", fn := fun _ => fun
  | [d1, d2] => { results := [.lit (.bool false)], args := [d1, d2] }
  | _ => none }
def FnRepairedWrongFalsely : Prop := fnRepairedRow.holds Try.pinned (OpenSpec.ofChange fnRepairedWrong)

/-- 'laws.FnExactRepairCopies': WHATEVER THE INPUT: true; the input reads as it did. -/
def fnExactRepairCopiesSpec : ChangeSpec := { name := "fnExactRepairCopies", fn := fun _ => fun
  | [d1, d2] => { results := [.lit (.bool true)], args := [d1, d2] }
  | _ => none }
def fnExactRepairCopiesRow : OpenClaim := { program := "ytfbghibgjfegpaa", sum := "aa9baba3dc40a9ce842889ca3f189dd040107abff86bc4f34ed847f7621efe7f", func := "loop.example/g00274/laws.FnExactRepairCopies", spec := "fnExactRepairCopies", unfollowed := true, recurses := true, apart := false }
def FnExactRepairCopiesSaid : Prop := fnExactRepairCopiesRow.holds Try.pinned (OpenSpec.ofChange fnExactRepairCopiesSpec)

/-- ITS FALSE NEIGHBOUR: 'it returns false'. Refute it at one input. -/
def fnExactRepairCopiesWrong : ChangeSpec := { name := "fnExactRepairCopies", fn := fun _ => fun
  | [d1, d2] => { results := [.lit (.bool false)], args := [d1, d2] }
  | _ => none }
def FnExactRepairCopiesWrongFalsely : Prop := fnExactRepairCopiesRow.holds Try.pinned (OpenSpec.ofChange fnExactRepairCopiesWrong)

/-- 'laws.FnExactWriteText': WHATEVER THE INPUT: true; the input reads as it did. -/
def fnExactWriteTextSpec : ChangeSpec := { name := "fnExactWriteText", fn := fun _ => fun
  | [d1, d2, d3] => { results := [.lit (.bool true)], args := [d1, d2, d3] }
  | _ => none }
def fnExactWriteTextRow : OpenClaim := { program := "ytfbghibgjfegpaa", sum := "aa9baba3dc40a9ce842889ca3f189dd040107abff86bc4f34ed847f7621efe7f", func := "loop.example/g00274/laws.FnExactWriteText", spec := "fnExactWriteText", unfollowed := true, recurses := true, apart := false }
def FnExactWriteTextSaid : Prop := fnExactWriteTextRow.holds Try.pinned (OpenSpec.ofChange fnExactWriteTextSpec)

/-- ITS FALSE NEIGHBOUR: 'it returns false'. Refute it at one input. -/
def fnExactWriteTextWrong : ChangeSpec := { name := "fnExactWriteText", fn := fun _ => fun
  | [d1, d2, d3] => { results := [.lit (.bool false)], args := [d1, d2, d3] }
  | _ => none }
def FnExactWriteTextWrongFalsely : Prop := fnExactWriteTextRow.holds Try.pinned (OpenSpec.ofChange fnExactWriteTextWrong)

/-- 'laws.FnQuorum': WHATEVER THE INPUT: true; the input reads as it did. -/
def fnQuorumSpec : ChangeSpec := { name := "fnQuorum", fn := fun _ => fun
  | [d1, d2] => { results := [.lit (.bool true)], args := [d1, d2] }
  | _ => none }
def fnQuorumRow : OpenClaim := { program := "ytfbghibgjfegpaa", sum := "aa9baba3dc40a9ce842889ca3f189dd040107abff86bc4f34ed847f7621efe7f", func := "loop.example/g00274/laws.FnQuorum", spec := "fnQuorum", unfollowed := true, recurses := true, apart := false }
def FnQuorumSaid : Prop := fnQuorumRow.holds Try.pinned (OpenSpec.ofChange fnQuorumSpec)

/-- ITS FALSE NEIGHBOUR: 'it returns false'. Refute it at one input. -/
def fnQuorumWrong : ChangeSpec := { name := "fnQuorum", fn := fun _ => fun
  | [d1, d2] => { results := [.lit (.bool false)], args := [d1, d2] }
  | _ => none }
def FnQuorumWrongFalsely : Prop := fnQuorumRow.holds Try.pinned (OpenSpec.ofChange fnQuorumWrong)

/- THE SECOND FORM. 'bulk': how many values and letters a reading holds, each counted each time it is reached (what is shared counts as often as it is met; a slice's spare places count too). A statement '..UptoSaid' is the law's where the arguments, and the package variables that the reading takes, are together of bulk at most 1048576: NARROWER than '..Said'. Prove '..Said' where nothing that the law and all that it calls make is longer than what came in: it says more and counts as full. Else prove '..UptoSaid'. A law counts once. -/
mutual
def uptoBulk {H : Type} : DataW H → Nat
  | .lit (.string bytes) => bytes.length + 1
  | .lit _ => 1
  | .nil => 1
  | .ptr d => uptoBulk d + 1
  | .slice elems spare => uptoBulkAll elems + uptoBulkAll spare + 1
  | .agg parts => uptoBulkAll parts + 1
  | .iface _ d => uptoBulk d + 1
  | .map entries => uptoBulkEntries entries + 1
  | .held _ => 1
def uptoBulkAll {H : Type} : List (DataW H) → Nat
  | [] => 0
  | d :: r => uptoBulk d + uptoBulkAll r
def uptoBulkEntries {H : Type} : List (Lit × DataW H) → Nat
  | [] => 0
  | x :: r => uptoBulkEntry x + uptoBulkEntries r
def uptoBulkEntry {H : Type} : Lit × DataW H → Nat
  | (.string bytes, d) => bytes.length + uptoBulk d + 1
  | (_, d) => uptoBulk d + 1
 end
def uptoSmall : (H : Type) → List (DataW H) → Bool := fun _ ds => decide (uptoBulkAll ds ≤ 1048576)
def OpenSpec.upto (s : _root_.Go.ChangeSpec) : _root_.Go.OpenSpec := { _root_.Go.OpenSpec.ofChange s with cond := some uptoSmall }

/-- 'laws.FnExactAlwaysMeet', WHERE WHAT IT READS IS OF BULK AT MOST 1048576: true; the input reads as it did. -/
def fnExactAlwaysMeetUptoRow : OpenClaim := { program := "ytfbghibgjfegpaa", sum := "aa9baba3dc40a9ce842889ca3f189dd040107abff86bc4f34ed847f7621efe7f", func := "loop.example/g00274/laws.FnExactAlwaysMeet", spec := "fnExactAlwaysMeet", unfollowed := true, recurses := true, apart := false, narrowed := true }
def FnExactAlwaysMeetUptoSaid : Prop := fnExactAlwaysMeetUptoRow.holds Try.pinned (OpenSpec.upto fnExactAlwaysMeetSpec)

/-- 'laws.FnExactGoodVoting', WHERE WHAT IT READS IS OF BULK AT MOST 1048576: true; the input reads as it did. -/
def fnExactGoodVotingUptoRow : OpenClaim := { program := "ytfbghibgjfegpaa", sum := "aa9baba3dc40a9ce842889ca3f189dd040107abff86bc4f34ed847f7621efe7f", func := "loop.example/g00274/laws.FnExactGoodVoting", spec := "fnExactGoodVoting", unfollowed := true, recurses := true, apart := false, narrowed := true }
def FnExactGoodVotingUptoSaid : Prop := fnExactGoodVotingUptoRow.holds Try.pinned (OpenSpec.upto fnExactGoodVotingSpec)

/-- 'laws.FnExactNewestOf', WHERE WHAT IT READS IS OF BULK AT MOST 1048576: true; the input reads as it did. -/
def fnExactNewestOfUptoRow : OpenClaim := { program := "ytfbghibgjfegpaa", sum := "aa9baba3dc40a9ce842889ca3f189dd040107abff86bc4f34ed847f7621efe7f", func := "loop.example/g00274/laws.FnExactNewestOf", spec := "fnExactNewestOf", unfollowed := true, recurses := true, apart := false, narrowed := true }
def FnExactNewestOfUptoSaid : Prop := fnExactNewestOfUptoRow.holds Try.pinned (OpenSpec.upto fnExactNewestOfSpec)

/-- 'laws.FnExactNewVoting', WHERE WHAT IT READS IS OF BULK AT MOST 1048576: true; the input reads as it did. -/
def fnExactNewVotingUptoRow : OpenClaim := { program := "ytfbghibgjfegpaa", sum := "aa9baba3dc40a9ce842889ca3f189dd040107abff86bc4f34ed847f7621efe7f", func := "loop.example/g00274/laws.FnExactNewVoting", spec := "fnExactNewVoting", unfollowed := true, recurses := true, apart := false, narrowed := true }
def FnExactNewVotingUptoSaid : Prop := fnExactNewVotingUptoRow.holds Try.pinned (OpenSpec.upto fnExactNewVotingSpec)

/-- 'laws.FnExactWeightIn', WHERE WHAT IT READS IS OF BULK AT MOST 1048576: true; the input reads as it did. -/
def fnExactWeightInUptoRow : OpenClaim := { program := "ytfbghibgjfegpaa", sum := "aa9baba3dc40a9ce842889ca3f189dd040107abff86bc4f34ed847f7621efe7f", func := "loop.example/g00274/laws.FnExactWeightIn", spec := "fnExactWeightIn", unfollowed := true, recurses := true, apart := false, narrowed := true }
def FnExactWeightInUptoSaid : Prop := fnExactWeightInUptoRow.holds Try.pinned (OpenSpec.upto fnExactWeightInSpec)

/-- 'laws.FnExactReadText', WHERE WHAT IT READS IS OF BULK AT MOST 1048576: true; the input reads as it did. -/
def fnExactReadTextUptoRow : OpenClaim := { program := "ytfbghibgjfegpaa", sum := "aa9baba3dc40a9ce842889ca3f189dd040107abff86bc4f34ed847f7621efe7f", func := "loop.example/g00274/laws.FnExactReadText", spec := "fnExactReadText", unfollowed := true, recurses := true, apart := false, narrowed := true }
def FnExactReadTextUptoSaid : Prop := fnExactReadTextUptoRow.holds Try.pinned (OpenSpec.upto fnExactReadTextSpec)

/-- 'laws.FnRepaired', WHERE WHAT IT READS IS OF BULK AT MOST 1048576: true; the input reads as it did. -/
def fnRepairedUptoRow : OpenClaim := { program := "ytfbghibgjfegpaa", sum := "aa9baba3dc40a9ce842889ca3f189dd040107abff86bc4f34ed847f7621efe7f", func := "loop.example/g00274/laws.FnRepaired", spec := "fnRepaired", unfollowed := true, recurses := true, apart := false, narrowed := true }
def FnRepairedUptoSaid : Prop := fnRepairedUptoRow.holds Try.pinned (OpenSpec.upto fnRepairedSpec)

/-- 'laws.FnExactRepairCopies', WHERE WHAT IT READS IS OF BULK AT MOST 1048576: true; the input reads as it did. -/
def fnExactRepairCopiesUptoRow : OpenClaim := { program := "ytfbghibgjfegpaa", sum := "aa9baba3dc40a9ce842889ca3f189dd040107abff86bc4f34ed847f7621efe7f", func := "loop.example/g00274/laws.FnExactRepairCopies", spec := "fnExactRepairCopies", unfollowed := true, recurses := true, apart := false, narrowed := true }
def FnExactRepairCopiesUptoSaid : Prop := fnExactRepairCopiesUptoRow.holds Try.pinned (OpenSpec.upto fnExactRepairCopiesSpec)

/-- 'laws.FnExactWriteText', WHERE WHAT IT READS IS OF BULK AT MOST 1048576: true; the input reads as it did. -/
def fnExactWriteTextUptoRow : OpenClaim := { program := "ytfbghibgjfegpaa", sum := "aa9baba3dc40a9ce842889ca3f189dd040107abff86bc4f34ed847f7621efe7f", func := "loop.example/g00274/laws.FnExactWriteText", spec := "fnExactWriteText", unfollowed := true, recurses := true, apart := false, narrowed := true }
def FnExactWriteTextUptoSaid : Prop := fnExactWriteTextUptoRow.holds Try.pinned (OpenSpec.upto fnExactWriteTextSpec)

/-- 'laws.FnQuorum', WHERE WHAT IT READS IS OF BULK AT MOST 1048576: true; the input reads as it did. -/
def fnQuorumUptoRow : OpenClaim := { program := "ytfbghibgjfegpaa", sum := "aa9baba3dc40a9ce842889ca3f189dd040107abff86bc4f34ed847f7621efe7f", func := "loop.example/g00274/laws.FnQuorum", spec := "fnQuorum", unfollowed := true, recurses := true, apart := false, narrowed := true }
def FnQuorumUptoSaid : Prop := fnQuorumUptoRow.holds Try.pinned (OpenSpec.upto fnQuorumSpec)

end Rows
end Go.Proofs.Ytfbghibgjfegpaa
