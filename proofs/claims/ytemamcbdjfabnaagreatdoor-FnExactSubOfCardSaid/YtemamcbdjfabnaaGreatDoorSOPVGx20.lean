import Derived.Test.YtemamcbdjfabnaaGreatDoorSOVSO
import Derived.Test.YtemamcbdjfabnaaGreatDoorSOPVGx0
-- Laid by this session's wip/pr.py over the kit's printer and the session's own contracts.
namespace Go.Proofs.YtemamcbdjfabnaaGreatDoor.PVG
open Go.RowKit Go.Proofs.YtemamcbdjfabnaaGreatDoorW.PrintWords Go.Proofs.YtemamcbdjfabnaaGreatDoorW.PrintLast Go.Proofs.YtemamcbdjfabnaaGreatDoorW.PrintMore
attribute [local go_sem] max2_int min2_int max_two min_two max_three min_three max_four min_four   -- for this text's walks alone
set_option linter.unusedVariables false
set_option linter.unusedSimpArgs false

/-! ### impl_SubOf: function 40, a contract by hand -/
def impl_SubOf.f (l0_0 : List (S54)) (a1 : Int) : Option ((List (S54)) × Bool) := if l0_0.length ≤ 1073741824 then some (Go.Proofs.YtemamcbdjfabnaaGreatDoor.VT.subP l0_0 a1) else none
theorem impl_SubOf.calls (A0_0 : Option Addr) (c0_0 : Nat) (l0_0 : List (S54)) (a1 : Int) (r1 : List (S54)) (r2 : Bool) (w : World) (htt : Go.Proofs.YtemamcbdjfabnaaGreatDoor.VT.HT w) (hr0_0 : Kd.C k54 w A0_0 l0_0.length l0_0) (hc0_0 : l0_0.length ≤ c0_0) (h : impl_SubOf.f l0_0 a1 = some (r1, r2)) :
  Calls Tryz.prog 40 #[.agg #[.slice A0_0 l0_0.length c0_0], .int .i64 a1] w fun e w' => ∃ v0_ : Value, e = .returned (.tuple #[.agg #[v0_], .bool r2]) ∧ Kd.R k54 54 w' w.heap.size (fun _ => True) v0_ r1 ∧ Below w.heap.size w w' := by
 unfold impl_SubOf.f at h
 by_cases hl : l0_0.length ≤ 1073741824
 ·rw [if_pos hl] at h
  have e := Option.some.inj h
  have hh := Go.Proofs.YtemamcbdjfabnaaGreatDoor.VT.subOf_c l0_0 a1 A0_0 c0_0 w htt hr0_0 hc0_0 hl
  rw [e] at hh
  exact hh
 ·rw [if_neg hl] at h
  exact absurd h (by simp)

end Go.Proofs.YtemamcbdjfabnaaGreatDoor.PVG
