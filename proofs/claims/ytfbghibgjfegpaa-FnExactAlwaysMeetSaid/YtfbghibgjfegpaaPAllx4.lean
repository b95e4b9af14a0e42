-- Laid by this session's wip/pr.py over the kit's printer and the session's own contracts.
import Derived.Test.YtfbghibgjfegpaaPAllx0
import Derived.Test.YtfbghibgjfegpaaPAllx3
namespace Go.Proofs.Ytfbghibgjfegpaa.PAll
open Go.RowKit Go.Proofs.YtfbghibgjfegpaaW.PrintWords Go.Proofs.YtfbghibgjfegpaaW.PrintLast Go.Proofs.YtfbghibgjfegpaaW.PrintMore
attribute [local go_sem] max2_int min2_int max_two min_two max_three min_three max_four min_four   -- for this text's walks alone
set_option linter.unusedVariables false
set_option linter.unusedSimpArgs false

/-! ### impl_AlwaysMeet: function 15, a contract by hand -/
def impl_AlwaysMeet.f (l0 : List Int) (l1 : List Int) (l2 : List Int) : Option (Bool × Bool) := some (meetV l0 l1 l2.length)
theorem impl_AlwaysMeet.calls (A0 : Option Addr) (c0 : Nat) (l0 : List Int) (A1 : Option Addr) (c1 : Nat) (l1 : List Int) (A2 : Option Addr) (c2 : Nat) (l2 : List Int) (r1 : Bool) (r2 : Bool) (w : World) (hr0 : Kd.C (Kd.int .i64) w A0 l0.length l0) (hc0 : l0.length ≤ c0) (hr1 : Kd.C (Kd.int .i64) w A1 l1.length l1) (hc1 : l1.length ≤ c1) (hr2 : Kd.C (Kd.int .i64) w A2 l2.length l2) (hc2 : l2.length ≤ c2) (h : impl_AlwaysMeet.f l0 l1 l2 = some (r1, r2)) :
    Calls Try.prog 15 #[.slice A0 l0.length c0, .slice A1 l1.length c1, .slice A2 l2.length c2] w fun e w' => e = .returned (.tuple #[.bool r1, .bool r2]) ∧ Below w.heap.size w w' := by
  have e := Option.some.inj h
  have hh := meetV_c A0 A1 A2 c0 c1 c2 l0 l1 l2 w hr0 hr1
  rw [e] at hh
  exact hh

end Go.Proofs.Ytfbghibgjfegpaa.PAll
