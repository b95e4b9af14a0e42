import Derived.Test.YtemamcbdjfabnaaGreatDoorKOVGA
import Derived.Test.YtemamcbdjfabnaaGreatDoorKOPVGx0
-- Laid by this session's wip/pr.py over the kit's printer and the session's own contracts.
namespace Go.Proofs.YtemamcbdjfabnaaGreatDoor.PVG
open Go.RowKit Go.Proofs.YtemamcbdjfabnaaGreatDoorW.PrintWords Go.Proofs.YtemamcbdjfabnaaGreatDoorW.PrintLast Go.Proofs.YtemamcbdjfabnaaGreatDoorW.PrintMore
attribute [local go_sem] max2_int min2_int max_two min_two max_three min_three max_four min_four   -- for this text's walks alone
set_option linter.unusedVariables false
set_option linter.unusedSimpArgs false

/-! ### impl_GoodValue: function 21, a contract by hand -/
def impl_GoodValue.f (l0_0 : List (S54)) : Option Bool := some (Go.Proofs.YtemamcbdjfabnaaGreatDoor.VT.valT l0_0).isSome
theorem impl_GoodValue.calls (A0_0 : Option Addr) (c0_0 : Nat) (l0_0 : List (S54)) (r : Bool) (w : World) (htt : Go.Proofs.YtemamcbdjfabnaaGreatDoor.VT.HT w) (hr0_0 : Kd.C k54 w A0_0 l0_0.length l0_0) (hc0_0 : l0_0.length ≤ c0_0) (h : impl_GoodValue.f l0_0 = some r) :
  Calls Tryz.prog 21 #[.agg #[.slice A0_0 l0_0.length c0_0]] w fun e w' => e = .returned (.bool r) ∧ Below w.heap.size w w' := by
 have e := Option.some.inj h
 rw [← e]
 exact Go.Proofs.YtemamcbdjfabnaaGreatDoor.VT.goodValue_c l0_0 A0_0 c0_0 w htt hr0_0 hc0_0

end Go.Proofs.YtemamcbdjfabnaaGreatDoor.PVG
