import Derived.Test.YtemamcbdjfabnaaGreatDoorKOPVGx0
import Derived.Test.YtemamcbdjfabnaaGreatDoorKOPVGx14
-- Laid by this session's wip/pr.py over the kit's printer and the session's own contracts.
namespace Go.Proofs.YtemamcbdjfabnaaGreatDoor.PVG
open Go.RowKit Go.Proofs.YtemamcbdjfabnaaGreatDoorW.PrintWords Go.Proofs.YtemamcbdjfabnaaGreatDoorW.PrintLast Go.Proofs.YtemamcbdjfabnaaGreatDoorW.PrintMore
attribute [local go_sem] max2_int min2_int max_two min_two max_three min_three max_four min_four   -- for this text's walks alone
set_option linter.unusedVariables false
set_option linter.unusedSimpArgs false

/-! ### laws_heldValue: function 17 -/
def laws_heldValue.f (k : Nat) (l0_0 : List (S54)) (a1 : Int) : Option (Int) := (laws_heldNodeS.f k l0_0 a1).bind fun t329 => (if t329 < 0 then (some (-1)) else (some t329))
end Go.Proofs.YtemamcbdjfabnaaGreatDoor.PVG
