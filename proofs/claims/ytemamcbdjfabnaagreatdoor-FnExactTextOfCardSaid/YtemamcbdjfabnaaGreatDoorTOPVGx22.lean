import Derived.Test.YtemamcbdjfabnaaGreatDoorTOVTO
import Derived.Test.YtemamcbdjfabnaaGreatDoorTOPVGx0
-- Laid by this session's wip/pr.py over the kit's printer and the session's own contracts.
namespace Go.Proofs.YtemamcbdjfabnaaGreatDoor.PVG
open Go.RowKit Go.Proofs.YtemamcbdjfabnaaGreatDoorW.PrintWords Go.Proofs.YtemamcbdjfabnaaGreatDoorW.PrintLast Go.Proofs.YtemamcbdjfabnaaGreatDoorW.PrintMore
attribute [local go_sem] max2_int min2_int max_two min_two max_three min_three max_four min_four   -- for this text's walks alone
set_option linter.unusedVariables false
set_option linter.unusedSimpArgs false

/-! ### impl_TextOf: function 14, a contract by hand -/
def impl_TextOf.f (a0 : ByteArray) : Option ((List (S54)) × Bool) := some (if Go.Proofs.YtemamcbdjfabnaaGreatDoor.VT.prt a0 = true then [⟨5, 0, a0, Go.Proofs.YtemamcbdjfabnaaGreatDoor.VT.nil_, -1⟩] else [], Go.Proofs.YtemamcbdjfabnaaGreatDoor.VT.prt a0)
theorem impl_TextOf.calls (a0 : ByteArray) (r1 : List (S54)) (r2 : Bool) (w : World) (htt : Go.Proofs.YtemamcbdjfabnaaGreatDoor.VT.HT w) (h : impl_TextOf.f a0 = some (r1, r2)) :
  Calls Tryz.prog 14 #[.string a0] w fun e w' => ∃ v0_ : Value, e = .returned (.tuple #[.agg #[v0_], .bool r2]) ∧ Kd.R k54 54 w' w.heap.size (fun _ => True) v0_ r1 ∧ Below w.heap.size w w' := by
 have e := Option.some.inj h
 have hh := Go.Proofs.YtemamcbdjfabnaaGreatDoor.VT.textOf_c a0 w htt
 obtain ⟨e1, e2⟩ := Prod.mk.inj e
 rw [e1, e2] at hh
 exact hh

end Go.Proofs.YtemamcbdjfabnaaGreatDoor.PVG
