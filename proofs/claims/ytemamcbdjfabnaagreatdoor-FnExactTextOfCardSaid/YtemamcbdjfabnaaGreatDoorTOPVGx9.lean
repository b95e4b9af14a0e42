import Derived.Test.YtemamcbdjfabnaaGreatDoorTOPVGx0
import Derived.Test.YtemamcbdjfabnaaGreatDoorTOPVGx1
import Derived.Test.YtemamcbdjfabnaaGreatDoorTOPVGx2
import Derived.Test.YtemamcbdjfabnaaGreatDoorTOPVGx6
import Derived.Test.YtemamcbdjfabnaaGreatDoorTOPVGx8
-- Laid by this session's wip/pr.py over the kit's printer and the session's own contracts.
namespace Go.Proofs.YtemamcbdjfabnaaGreatDoor.PVG
open Go.RowKit Go.Proofs.YtemamcbdjfabnaaGreatDoorW.PrintWords Go.Proofs.YtemamcbdjfabnaaGreatDoorW.PrintLast Go.Proofs.YtemamcbdjfabnaaGreatDoorW.PrintMore
attribute [local go_sem] max2_int min2_int max_two min_two max_three min_three max_four min_four   -- for this text's walks alone
set_option linter.unusedVariables false
set_option linter.unusedSimpArgs false

/-! ### spec_KeyOf: function 26 -/
/-! ### spec_PairKey: function 28 -/
/-! ### laws_eqIntS: function 32 -/
/-! ### laws_markIntS: function 33 -/
/-! ### laws_heldIntS: function 34 -/
/-! ### spec_KidsOf: function 30 -/
/-! ### spec_l4Clean: function 60 -/
/-! ### spec_IsClean: function 35 -/
end Go.Proofs.YtemamcbdjfabnaaGreatDoor.PVG
