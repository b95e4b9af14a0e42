/-
  No cell of these rows narrows 'for every input' (looked for: loops, veiled, ifaces, maps, wideKeys, modest, calm, conditions, laid).
  DERIVED. THE GIVEN ROWS OF THIS SEAT. 6 by the template 'for every input the law returns true; each argument reads behind the call as it read before'; 0 by the template 'total and deterministic' (their statements: YtagifcjcomeedaaTotals.lean).
  GIVEN WITH THE SEED: the statements are not yours to turn. If you find one false, say at which input.
  Laid BY PROGRAM, IN A SANDBOX (cutbox-rows.mjs): the forced cells as the released guide's own fill.sh prints them over the translation 28e87480a4b72211… (all of the seat's roots in one cut). By AI agents, Wed Nov 11 2026. No macro, syntax, notation, axiom, sorry.
-/
import Derived.Test.YtagifcjcomeedaaChecked
import GoSem.Claim
import GoSem.ClaimJoined
import GoSem.ClaimMapViews
import Derived.JoinedTies
import Derived.KernelRfl
namespace Go.Proofs.Ytagifcjcomeedaa
/- THE CELL 'sum', in the pinned program and in every row, IS THE sha256 OF THE DUMP (.gsa) THAT YtagifcjcomeedaaProg.lean LOADS. Nothing in Lean hashes anything: it is a label: what it is worth is what the hold of that sum in a sandbox is worth. -/
noncomputable def Try.pinned : Pinned := { name := "ytagifcjcomeedaa", sum := "28e87480a4b722115d345241dc0b305ad8ae950388b808297a8f5845fb354676", checked := Try.checked }
namespace Rows
def none {H : Type} : Left H := { results := [], args := [] }

/-- 'laws.FnExactBallotFor': WHATEVER THE INPUT: true; the input reads as it did. -/
def fnExactBallotForSpec : ChangeSpec := { name := "fnExactBallotFor", fn := fun _ => fun
  | [d1, d2] => { results := [.lit (.bool true)], args := [d1, d2] }
  | _ => none }
def fnExactBallotForRow : OpenClaim := { program := "ytagifcjcomeedaa", sum := "28e87480a4b722115d345241dc0b305ad8ae950388b808297a8f5845fb354676", func := "loop.example/g00274/laws.FnExactBallotFor", spec := "fnExactBallotFor", apart := false }
def FnExactBallotForSaid : Prop := fnExactBallotForRow.holds Try.pinned (OpenSpec.ofChange fnExactBallotForSpec)

/-- ITS FALSE NEIGHBOUR: 'it returns false'. Refute it at one input. -/
def fnExactBallotForWrong : ChangeSpec := { name := "fnExactBallotFor", fn := fun _ => fun
  | [d1, d2] => { results := [.lit (.bool false)], args := [d1, d2] }
  | _ => none }
def FnExactBallotForWrongFalsely : Prop := fnExactBallotForRow.holds Try.pinned (OpenSpec.ofChange fnExactBallotForWrong)

/-- 'laws.FnExactMajorityOf': WHATEVER THE INPUT: true; the input reads as it did. -/
def fnExactMajorityOfSpec : ChangeSpec := { name := "fnExactMajorityOf", fn := fun _ => fun
  | [d] => { results := [.lit (.bool true)], args := [d] }
  | _ => none }
def fnExactMajorityOfRow : OpenClaim := { program := "ytagifcjcomeedaa", sum := "28e87480a4b722115d345241dc0b305ad8ae950388b808297a8f5845fb354676", func := "loop.example/g00274/laws.FnExactMajorityOf", spec := "fnExactMajorityOf", apart := false }
def FnExactMajorityOfSaid : Prop := fnExactMajorityOfRow.holds Try.pinned (OpenSpec.ofChange fnExactMajorityOfSpec)

/-- ITS FALSE NEIGHBOUR: 'it returns false'. Refute it at one input. -/
def fnExactMajorityOfWrong : ChangeSpec := { name := "fnExactMajorityOf", fn := fun _ => fun
  | [d] => { results := [.lit (.bool false)], args := [d] }
  | _ => none }
def FnExactMajorityOfWrongFalsely : Prop := fnExactMajorityOfRow.holds Try.pinned (OpenSpec.ofChange fnExactMajorityOfWrong)

/-- 'laws.FnExactAlwaysMeet': WHATEVER THE INPUT: true; the input reads as it did. -/
def fnExactAlwaysMeetSpec : ChangeSpec := { name := "fnExactAlwaysMeet", fn := fun _ => fun
  | [d1, d2, d3] => { results := [.lit (.bool true)], args := [d1, d2, d3] }
  | _ => none }
def fnExactAlwaysMeetRow : OpenClaim := { program := "ytagifcjcomeedaa", sum := "28e87480a4b722115d345241dc0b305ad8ae950388b808297a8f5845fb354676", func := "loop.example/g00274/laws.FnExactAlwaysMeet", spec := "fnExactAlwaysMeet", unfollowed := true, recurses := true, apart := false }
def FnExactAlwaysMeetSaid : Prop := fnExactAlwaysMeetRow.holds Try.pinned (OpenSpec.ofChange fnExactAlwaysMeetSpec)

/-- ITS FALSE NEIGHBOUR: 'it returns false'. Refute it at one input. -/
def fnExactAlwaysMeetWrong : ChangeSpec := { name := "fnExactAlwaysMeet", fn := fun _ => fun
  | [d1, d2, d3] => { results := [.lit (.bool false)], args := [d1, d2, d3] }
  | _ => none }
def FnExactAlwaysMeetWrongFalsely : Prop := fnExactAlwaysMeetRow.holds Try.pinned (OpenSpec.ofChange fnExactAlwaysMeetWrong)

/-- 'laws.FnExactGoodVoting': WHATEVER THE INPUT: true; the input reads as it did. -/
def fnExactGoodVotingSpec : ChangeSpec := { name := "fnExactGoodVoting", fn := fun _ => fun
  | [d] => { results := [.lit (.bool true)], args := [d] }
  | _ => none }
def fnExactGoodVotingRow : OpenClaim := { program := "ytagifcjcomeedaa", sum := "28e87480a4b722115d345241dc0b305ad8ae950388b808297a8f5845fb354676", func := "loop.example/g00274/laws.FnExactGoodVoting", spec := "fnExactGoodVoting", unfollowed := true, recurses := true, apart := false }
def FnExactGoodVotingSaid : Prop := fnExactGoodVotingRow.holds Try.pinned (OpenSpec.ofChange fnExactGoodVotingSpec)

/-- ITS FALSE NEIGHBOUR: 'it returns false'. Refute it at one input. -/
def fnExactGoodVotingWrong : ChangeSpec := { name := "fnExactGoodVoting", fn := fun _ => fun
  | [d] => { results := [.lit (.bool false)], args := [d] }
  | _ => none }
def FnExactGoodVotingWrongFalsely : Prop := fnExactGoodVotingRow.holds Try.pinned (OpenSpec.ofChange fnExactGoodVotingWrong)

/-- 'laws.FnExactNewestOf': WHATEVER THE INPUT: true; the input reads as it did. -/
def fnExactNewestOfSpec : ChangeSpec := { name := "fnExactNewestOf", fn := fun _ => fun
  | [d] => { results := [.lit (.bool true)], args := [d] }
  | _ => none }
def fnExactNewestOfRow : OpenClaim := { program := "ytagifcjcomeedaa", sum := "28e87480a4b722115d345241dc0b305ad8ae950388b808297a8f5845fb354676", func := "loop.example/g00274/laws.FnExactNewestOf", spec := "fnExactNewestOf", unfollowed := true, recurses := true, apart := false }
def FnExactNewestOfSaid : Prop := fnExactNewestOfRow.holds Try.pinned (OpenSpec.ofChange fnExactNewestOfSpec)

/-- ITS FALSE NEIGHBOUR: 'it returns false'. Refute it at one input. -/
def fnExactNewestOfWrong : ChangeSpec := { name := "fnExactNewestOf", fn := fun _ => fun
  | [d] => { results := [.lit (.bool false)], args := [d] }
  | _ => none }
def FnExactNewestOfWrongFalsely : Prop := fnExactNewestOfRow.holds Try.pinned (OpenSpec.ofChange fnExactNewestOfWrong)

/-- 'laws.FnExactNewVoting': WHATEVER THE INPUT: true; the input reads as it did. -/
def fnExactNewVotingSpec : ChangeSpec := { name := "fnExactNewVoting", fn := fun _ => fun
  | [d1, d2, d3] => { results := [.lit (.bool true)], args := [d1, d2, d3] }
  | _ => none }
def fnExactNewVotingRow : OpenClaim := { program := "ytagifcjcomeedaa", sum := "28e87480a4b722115d345241dc0b305ad8ae950388b808297a8f5845fb354676", func := "loop.example/g00274/laws.FnExactNewVoting", spec := "fnExactNewVoting", unfollowed := true, recurses := true, apart := false }
def FnExactNewVotingSaid : Prop := fnExactNewVotingRow.holds Try.pinned (OpenSpec.ofChange fnExactNewVotingSpec)

/-- ITS FALSE NEIGHBOUR: 'it returns false'. Refute it at one input. -/
def fnExactNewVotingWrong : ChangeSpec := { name := "fnExactNewVoting", fn := fun _ => fun
  | [d1, d2, d3] => { results := [.lit (.bool false)], args := [d1, d2, d3] }
  | _ => none }
def FnExactNewVotingWrongFalsely : Prop := fnExactNewVotingRow.holds Try.pinned (OpenSpec.ofChange fnExactNewVotingWrong)

/- THE SECOND FORM. 'bulk': how many values and letters a reading holds, each counted each time it is reached (what is shared counts as often as it is met; a slice's spare places count too). A statement '..UptoSaid' is the law's where the arguments, and the package variables that the reading takes, are together of bulk at most 1048576: NARROWER than '..Said'. Prove '..Said' where nothing that the law and all that it calls make is longer than what came in: it says more and counts as full. Else prove '..UptoSaid'. A law counts once. -/
mutual
def uptoBulk {H : Type} : DataW H → Nat
  | .lit (.string bytes) => bytes.length + 1
  | .lit _ => 1
  | .nil => 1
  | .ptr d => uptoBulk d + 1
  | .slice elems spare => uptoBulkAll elems + uptoBulkAll spare + 1
  | .agg parts => uptoBulkAll parts + 1
  | .iface _ d => uptoBulk d + 1
  | .map entries => uptoBulkEntries entries + 1
  | .held _ => 1
def uptoBulkAll {H : Type} : List (DataW H) → Nat
  | [] => 0
  | d :: r => uptoBulk d + uptoBulkAll r
def uptoBulkEntries {H : Type} : List (Lit × DataW H) → Nat
  | [] => 0
  | x :: r => uptoBulkEntry x + uptoBulkEntries r
def uptoBulkEntry {H : Type} : Lit × DataW H → Nat
  | (.string bytes, d) => bytes.length + uptoBulk d + 1
  | (_, d) => uptoBulk d + 1
 end
def uptoSmall : (H : Type) → List (DataW H) → Bool := fun _ ds => decide (uptoBulkAll ds ≤ 1048576)
def OpenSpec.upto (s : _root_.Go.ChangeSpec) : _root_.Go.OpenSpec := { _root_.Go.OpenSpec.ofChange s with cond := some uptoSmall }

/-- 'laws.FnExactBallotFor', WHERE WHAT IT READS IS OF BULK AT MOST 1048576: true; the input reads as it did. -/
def fnExactBallotForUptoRow : OpenClaim := { program := "ytagifcjcomeedaa", sum := "28e87480a4b722115d345241dc0b305ad8ae950388b808297a8f5845fb354676", func := "loop.example/g00274/laws.FnExactBallotFor", spec := "fnExactBallotFor", apart := false, narrowed := true }
def FnExactBallotForUptoSaid : Prop := fnExactBallotForUptoRow.holds Try.pinned (OpenSpec.upto fnExactBallotForSpec)

/-- 'laws.FnExactMajorityOf', WHERE WHAT IT READS IS OF BULK AT MOST 1048576: true; the input reads as it did. -/
def fnExactMajorityOfUptoRow : OpenClaim := { program := "ytagifcjcomeedaa", sum := "28e87480a4b722115d345241dc0b305ad8ae950388b808297a8f5845fb354676", func := "loop.example/g00274/laws.FnExactMajorityOf", spec := "fnExactMajorityOf", apart := false, narrowed := true }
def FnExactMajorityOfUptoSaid : Prop := fnExactMajorityOfUptoRow.holds Try.pinned (OpenSpec.upto fnExactMajorityOfSpec)

/-- 'laws.FnExactAlwaysMeet', WHERE WHAT IT READS IS OF BULK AT MOST 1048576: true; the input reads as it did. -/
def fnExactAlwaysMeetUptoRow : OpenClaim := { program := "ytagifcjcomeedaa", sum := "28e87480a4b722115d345241dc0b305ad8ae950388b808297a8f5845fb354676", func := "loop.example/g00274/laws.FnExactAlwaysMeet", spec := "fnExactAlwaysMeet", unfollowed := true, recurses := true, apart := false, narrowed := true }
def FnExactAlwaysMeetUptoSaid : Prop := fnExactAlwaysMeetUptoRow.holds Try.pinned (OpenSpec.upto fnExactAlwaysMeetSpec)

/-- 'laws.FnExactGoodVoting', WHERE WHAT IT READS IS OF BULK AT MOST 1048576: true; the input reads as it did. -/
def fnExactGoodVotingUptoRow : OpenClaim := { program := "ytagifcjcomeedaa", sum := "28e87480a4b722115d345241dc0b305ad8ae950388b808297a8f5845fb354676", func := "loop.example/g00274/laws.FnExactGoodVoting", spec := "fnExactGoodVoting", unfollowed := true, recurses := true, apart := false, narrowed := true }
def FnExactGoodVotingUptoSaid : Prop := fnExactGoodVotingUptoRow.holds Try.pinned (OpenSpec.upto fnExactGoodVotingSpec)

/-- 'laws.FnExactNewestOf', WHERE WHAT IT READS IS OF BULK AT MOST 1048576: true; the input reads as it did. -/
def fnExactNewestOfUptoRow : OpenClaim := { program := "ytagifcjcomeedaa", sum := "28e87480a4b722115d345241dc0b305ad8ae950388b808297a8f5845fb354676", func := "loop.example/g00274/laws.FnExactNewestOf", spec := "fnExactNewestOf", unfollowed := true, recurses := true, apart := false, narrowed := true }
def FnExactNewestOfUptoSaid : Prop := fnExactNewestOfUptoRow.holds Try.pinned (OpenSpec.upto fnExactNewestOfSpec)

/-- 'laws.FnExactNewVoting', WHERE WHAT IT READS IS OF BULK AT MOST 1048576: true; the input reads as it did. -/
def fnExactNewVotingUptoRow : OpenClaim := { program := "ytagifcjcomeedaa", sum := "28e87480a4b722115d345241dc0b305ad8ae950388b808297a8f5845fb354676", func := "loop.example/g00274/laws.FnExactNewVoting", spec := "fnExactNewVoting", unfollowed := true, recurses := true, apart := false, narrowed := true }
def FnExactNewVotingUptoSaid : Prop := fnExactNewVotingUptoRow.holds Try.pinned (OpenSpec.upto fnExactNewVotingSpec)

end Rows
end Go.Proofs.Ytagifcjcomeedaa
