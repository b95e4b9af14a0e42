/-
  No cell of these rows narrows 'for every input' (looked for: loops, veiled, ifaces, maps, wideKeys, modest, calm, conditions, laid).
  DERIVED. THE GIVEN ROWS OF THIS SEAT. 4 by the template 'for every input the law returns true; each argument reads behind the call as it read before'; 0 by the template 'total and deterministic' (their statements: YtieddpilcpdncaaTotals.lean).
  GIVEN WITH THE SEED: the statements are not yours to turn. If you find one false, say at which input.
  Laid BY PROGRAM, IN A SANDBOX (cutbox-rows.mjs): the forced cells as the released guide's own fill.sh prints them over the translation 27ff4c64771b30e6… (all of the seat's roots in one cut). By AI agents, Wed Nov 11 2026. No macro, syntax, notation, axiom, sorry.
-/
import Derived.Test.YtieddpilcpdncaaChecked
import GoSem.Claim
import GoSem.ClaimJoined
import GoSem.ClaimMapViews
import Derived.JoinedTies
import Derived.KernelRfl
namespace Go.Proofs.Ytieddpilcpdncaa
/- THE CELL 'sum', in the pinned program and in every row, IS THE sha256 OF THE DUMP (.gsa) THAT YtieddpilcpdncaaProg.lean LOADS. Nothing in Lean hashes anything: it is a label: what it is worth is what the hold of that sum in a sandbox is worth. -/
noncomputable def Try.pinned : Pinned := { name := "ytieddpilcpdncaa", sum := "27ff4c64771b30e62dd753b28f28936b095847720c041b3fc44d7063ece1adbc", checked := Try.checked }
namespace Rows
def none {H : Type} : Left H := { results := [], args := [] }

/-- 'laws.FnExactNewPaxos': WHATEVER THE INPUT: true; the input reads as it did. -/
def fnExactNewPaxosSpec : ChangeSpec := { name := "fnExactNewPaxos", fn := fun _ => fun
  | [d1, d2] => { results := [.lit (.bool true)], args := [d1, d2] }
  | _ => none }
def fnExactNewPaxosRow : OpenClaim := { program := "ytieddpilcpdncaa", sum := "27ff4c64771b30e62dd753b28f28936b095847720c041b3fc44d7063ece1adbc", func := "loop.example/g00274/laws.FnExactNewPaxos", spec := "fnExactNewPaxos", apart := false }
def FnExactNewPaxosSaid : Prop := fnExactNewPaxosRow.holds Try.pinned (OpenSpec.ofChange fnExactNewPaxosSpec)

/-- ITS FALSE NEIGHBOUR: 'it returns false'. Refute it at one input. -/
def fnExactNewPaxosWrong : ChangeSpec := { name := "fnExactNewPaxos", fn := fun _ => fun
  | [d1, d2] => { results := [.lit (.bool false)], args := [d1, d2] }
  | _ => none }
def FnExactNewPaxosWrongFalsely : Prop := fnExactNewPaxosRow.holds Try.pinned (OpenSpec.ofChange fnExactNewPaxosWrong)

/-- 'laws.FnExactWithPrefix': WHATEVER THE INPUT: true; the input reads as it did. -/
def fnExactWithPrefixSpec : ChangeSpec := { name := "fnExactWithPrefix", fn := fun _ => fun
  | [d1, d2] => { results := [.lit (.bool true)], args := [d1, d2] }
  | _ => none }
def fnExactWithPrefixRow : OpenClaim := { program := "ytieddpilcpdncaa", sum := "27ff4c64771b30e62dd753b28f28936b095847720c041b3fc44d7063ece1adbc", func := "loop.example/g00274/laws.FnExactWithPrefix", spec := "fnExactWithPrefix", unfollowed := true, recurses := true, apart := false }
def FnExactWithPrefixSaid : Prop := fnExactWithPrefixRow.holds Try.pinned (OpenSpec.ofChange fnExactWithPrefixSpec)

/-- ITS FALSE NEIGHBOUR: 'it returns false'. Refute it at one input. -/
def fnExactWithPrefixWrong : ChangeSpec := { name := "fnExactWithPrefix", fn := fun _ => fun
  | [d1, d2] => { results := [.lit (.bool false)], args := [d1, d2] }
  | _ => none }
def FnExactWithPrefixWrongFalsely : Prop := fnExactWithPrefixRow.holds Try.pinned (OpenSpec.ofChange fnExactWithPrefixWrong)

/-- 'laws.FnRadix': WHATEVER THE INPUT: true; the input reads as it did. -/
def fnRadixSpec : ChangeSpec := { name := "fnRadix", fn := fun _ => fun
  | [d1, d2] => { results := [.lit (.bool true)], args := [d1, d2] }
  | _ => none }
def fnRadixRow : OpenClaim := { program := "ytieddpilcpdncaa", sum := "27ff4c64771b30e62dd753b28f28936b095847720c041b3fc44d7063ece1adbc", func := "loop.example/g00274/laws.FnRadix", spec := "fnRadix", unfollowed := true, recurses := true, apart := false }
def FnRadixSaid : Prop := fnRadixRow.holds Try.pinned (OpenSpec.ofChange fnRadixSpec)

/-- ITS FALSE NEIGHBOUR: 'it returns false'. Refute it at one input. -/
def fnRadixWrong : ChangeSpec := { name := "fnRadix", fn := fun _ => fun
  | [d1, d2] => { results := [.lit (.bool false)], args := [d1, d2] }
  | _ => none }
def FnRadixWrongFalsely : Prop := fnRadixRow.holds Try.pinned (OpenSpec.ofChange fnRadixWrong)

/-- 'laws.FnPrefixes': WHATEVER THE INPUT: true; the input reads as it did. -/
def fnPrefixesSpec : ChangeSpec := { name := "fnPrefixes", fn := fun _ => fun
  | [d1, d2] => { results := [.lit (.bool true)], args := [d1, d2] }
  | _ => none }
def fnPrefixesRow : OpenClaim := { program := "ytieddpilcpdncaa", sum := "27ff4c64771b30e62dd753b28f28936b095847720c041b3fc44d7063ece1adbc", func := "loop.example/g00274/laws.FnPrefixes", spec := "fnPrefixes", unfollowed := true, recurses := true, apart := false }
def FnPrefixesSaid : Prop := fnPrefixesRow.holds Try.pinned (OpenSpec.ofChange fnPrefixesSpec)

/-- ITS FALSE NEIGHBOUR: 'it returns false'. Refute it at one input. -/
def fnPrefixesWrong : ChangeSpec := { name := "fnPrefixes", fn := fun _ => fun
  | [d1, d2] => { results := [.lit (.bool false)], args := [d1, d2] }
  | _ => none }
def FnPrefixesWrongFalsely : Prop := fnPrefixesRow.holds Try.pinned (OpenSpec.ofChange fnPrefixesWrong)

/- THE SECOND FORM. 'bulk': how many values and letters a reading holds, each counted each time it is reached (what is shared counts as often as it is met; a slice's spare places count too). A statement '..UptoSaid' is the law's where the arguments, and the package variables that the reading takes, are together of bulk at most 1048576: NARROWER than '..Said'. Prove '..Said' where nothing that the law and all that it calls make is longer than what came in: it says more and counts as full. Else prove '..UptoSaid'. A law counts once. -/
mutual
def uptoBulk {H : Type} : DataW H → Nat
  | .lit (.string bytes) => bytes.length + 1
  | .lit _ => 1
  | .nil => 1
  | .ptr d => uptoBulk d + 1
  | .slice elems spare => uptoBulkAll elems + uptoBulkAll spare + 1
  | .agg parts => uptoBulkAll parts + 1
  | .iface _ d => uptoBulk d + 1
  | .map entries => uptoBulkEntries entries + 1
  | .held _ => 1
def uptoBulkAll {H : Type} : List (DataW H) → Nat
  | [] => 0
  | d :: r => uptoBulk d + uptoBulkAll r
def uptoBulkEntries {H : Type} : List (Lit × DataW H) → Nat
  | [] => 0
  | x :: r => uptoBulkEntry x + uptoBulkEntries r
def uptoBulkEntry {H : Type} : Lit × DataW H → Nat
  | (.string bytes, d) => bytes.length + uptoBulk d + 1
  | (_, d) => uptoBulk d + 1
 end
def uptoSmall : (H : Type) → List (DataW H) → Bool := fun _ ds => decide (uptoBulkAll ds ≤ 1048576)
def OpenSpec.upto (s : _root_.Go.ChangeSpec) : _root_.Go.OpenSpec := { _root_.Go.OpenSpec.ofChange s with cond := some uptoSmall }

/-- 'laws.FnExactNewPaxos', WHERE WHAT IT READS IS OF BULK AT MOST 1048576: true; the input reads as it did. -/
def fnExactNewPaxosUptoRow : OpenClaim := { program := "ytieddpilcpdncaa", sum := "27ff4c64771b30e62dd753b28f28936b095847720c041b3fc44d7063ece1adbc", func := "loop.example/g00274/laws.FnExactNewPaxos", spec := "fnExactNewPaxos", apart := false, narrowed := true }
def FnExactNewPaxosUptoSaid : Prop := fnExactNewPaxosUptoRow.holds Try.pinned (OpenSpec.upto fnExactNewPaxosSpec)

/-- 'laws.FnExactWithPrefix', WHERE WHAT IT READS IS OF BULK AT MOST 1048576: true; the input reads as it did. -/
def fnExactWithPrefixUptoRow : OpenClaim := { program := "ytieddpilcpdncaa", sum := "27ff4c64771b30e62dd753b28f28936b095847720c041b3fc44d7063ece1adbc", func := "loop.example/g00274/laws.FnExactWithPrefix", spec := "fnExactWithPrefix", unfollowed := true, recurses := true, apart := false, narrowed := true }
def FnExactWithPrefixUptoSaid : Prop := fnExactWithPrefixUptoRow.holds Try.pinned (OpenSpec.upto fnExactWithPrefixSpec)

/-- 'laws.FnRadix', WHERE WHAT IT READS IS OF BULK AT MOST 1048576: true; the input reads as it did. -/
def fnRadixUptoRow : OpenClaim := { program := "ytieddpilcpdncaa", sum := "27ff4c64771b30e62dd753b28f28936b095847720c041b3fc44d7063ece1adbc", func := "loop.example/g00274/laws.FnRadix", spec := "fnRadix", unfollowed := true, recurses := true, apart := false, narrowed := true }
def FnRadixUptoSaid : Prop := fnRadixUptoRow.holds Try.pinned (OpenSpec.upto fnRadixSpec)

/-- 'laws.FnPrefixes', WHERE WHAT IT READS IS OF BULK AT MOST 1048576: true; the input reads as it did. -/
def fnPrefixesUptoRow : OpenClaim := { program := "ytieddpilcpdncaa", sum := "27ff4c64771b30e62dd753b28f28936b095847720c041b3fc44d7063ece1adbc", func := "loop.example/g00274/laws.FnPrefixes", spec := "fnPrefixes", unfollowed := true, recurses := true, apart := false, narrowed := true }
def FnPrefixesUptoSaid : Prop := fnPrefixesUptoRow.holds Try.pinned (OpenSpec.upto fnPrefixesSpec)

end Rows
end Go.Proofs.Ytieddpilcpdncaa
