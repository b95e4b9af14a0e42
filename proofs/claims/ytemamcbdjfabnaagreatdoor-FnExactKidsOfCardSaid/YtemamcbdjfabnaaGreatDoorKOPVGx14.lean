import Derived.Test.YtemamcbdjfabnaaGreatDoorKOPVGx0
import Derived.Test.YtemamcbdjfabnaaGreatDoorKOPVGx13
-- Laid by this session's wip/pr.py over the kit's printer and the session's own contracts.
namespace Go.Proofs.YtemamcbdjfabnaaGreatDoor.PVG
open Go.RowKit Go.Proofs.YtemamcbdjfabnaaGreatDoorW.PrintWords Go.Proofs.YtemamcbdjfabnaaGreatDoorW.PrintLast Go.Proofs.YtemamcbdjfabnaaGreatDoorW.PrintMore
attribute [local go_sem] max2_int min2_int max_two min_two max_three min_three max_four min_four   -- for this text's walks alone
set_option linter.unusedVariables false
set_option linter.unusedSimpArgs false

/-! ### laws_heldNodeS: function 45 -/
def laws_heldNodeS.l0 : Nat → List (S54) → Int → Int → Option (Int)
 | 0, _, _, _ => none
 | k + 1, x0, x1, x5 => if x5 < (x0.length : Int) then (if 0 ≤ x5 then (if ((rd_T54 x0 x5).f0) = x1 then (if ((rd_T54 x0 x5).f1) = (wrap64 (x1 + 1)) then ((laws_markText.f k (wrap64 ((wrap64 (x1 + 1)) + 1))).bind fun t324 => (if ((rd_T54 x0 x5).f2).toList = t324.toList then ((laws_markText.f k (wrap64 ((wrap64 ((wrap64 (x1 + 1)) + 1)) + 1))).bind fun t326 => (if ((rd_T54 x0 x5).f3).toList = t326.toList then (if ((rd_T54 x0 x5).f4) = (wrap64 ((wrap64 ((wrap64 ((wrap64 (x1 + 1)) + 1)) + 1)) + 1)) then (laws_heldNodeS.l0 k x0 (wrap64 ((wrap64 ((wrap64 ((wrap64 ((wrap64 (x1 + 1)) + 1)) + 1)) + 1)) + 1)) (wrap64 (x5 + 1))) else (some (-1))) else (some (-1)))) else (some (-1)))) else (some (-1))) else (some (-1))) else (none)) else (some x1)
def laws_heldNodeS.f (k : Nat) (l0 : List (S54)) (a1 : Int) : Option (Int) := laws_heldNodeS.l0 k l0 a1 0
end Go.Proofs.YtemamcbdjfabnaaGreatDoor.PVG
