import Derived.Test.YtemamcbdjfabnaaGreatDoorTOVSF
/- The reference's tree as a value: l1Of, walked. Conditions: right trees. -/
namespace Go.Proofs.YtemamcbdjfabnaaGreatDoor.VT
open Go.RowKit Go.Proofs.YtemamcbdjfabnaaGreatDoor.PVG Go.Proofs.YtemamcbdjfabnaaGreatDoorW.PrintWords Go.Proofs.YtemamcbdjfabnaaGreatDoorW.PrintLast Go.Proofs.YtemamcbdjfabnaaGreatDoorW.PrintMore
set_option linter.unusedVariables false
set_option linter.unusedSimpArgs false
mutual
/-- The reference's own record as a tree. -/
def ofS : S71 → Tr
  | ⟨kd, nu, tx, ns, ks⟩ => .mk kd nu tx ns (ofSL ks)
def ofSL : List S71 → List Tr
  | [] => []
  | x :: xs => ofS x :: ofSL xs
end
mutual
theorem toS_ofS : ∀ x : S71, toS (ofS x) = x
  | ⟨kd, nu, tx, ns, ks⟩ => by rw [ofS, toS, toSL_ofSL ks]
theorem toSL_ofSL : ∀ xs : List S71, toSL (ofSL xs) = xs
  | [] => rfl
  | x :: xs => by rw [ofSL, toSL, toS_ofS x, toSL_ofSL xs]
end
mutual
theorem ofS_toS : ∀ t : Tr, ofS (toS t) = t
  | .mk kd nu tx ns ks => by rw [toS, ofS, ofSL_toSL ks]
theorem ofSL_toSL : ∀ ts : List Tr, ofSL (toSL ts) = ts
  | [] => rfl
  | t :: ts => by rw [toSL, ofSL, ofS_toS t, ofSL_toSL ts]
end
end Go.Proofs.YtemamcbdjfabnaaGreatDoor.VT
