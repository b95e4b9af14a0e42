import Derived.Test.YtemamcbdjfabnaaGreatDoorTOVTG
import Derived.Test.YtemamcbdjfabnaaGreatDoorTOVTH
import Derived.Test.YtemamcbdjfabnaaGreatDoorTOPVGx8
/- The reference's tree of a right list of nodes, its depth. Conditions: none. -/
namespace Go.Proofs.YtemamcbdjfabnaaGreatDoor.VT
open Go.RowKit Go.Proofs.YtemamcbdjfabnaaGreatDoor.PVG Go.Proofs.YtemamcbdjfabnaaGreatDoorW.PrintWords
set_option linter.unusedVariables false
set_option linter.unusedSimpArgs false
mutual
/-- A tree as the reference's own record. -/
def toS : Tr → S71
  | .mk kd nu tx ns ks => ⟨kd, nu, tx, ns, toSL ks⟩
def toSL : List Tr → List S71
  | [] => []
  | t :: ts => toS t :: toSL ts
end
theorem toSL_map : ∀ ts : List Tr, toSL ts = ts.map toS
  | [] => rfl
  | t :: ts => by rw [toSL, toSL_map ts]; rfl
theorem toSL_len (ts : List Tr) : (toSL ts).length = ts.length := by rw [toSL_map, List.length_map]
theorem toS_eq (t : Tr) : toS t = ⟨t.kd, t.nu, t.tx, t.ns, toSL t.ks⟩ := by cases t; rw [toS]; rfl
end Go.Proofs.YtemamcbdjfabnaaGreatDoor.VT
