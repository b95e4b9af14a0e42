-- Laid by this session's wip/pr.py over the kit's printer and the session's own contracts.
import Derived.Test.YtfbghibgjfegpaaPRQx0
import Derived.Test.YtfbghibgjfegpaaPRQx3
namespace Go.Proofs.Ytfbghibgjfegpaa.PRQ
open Go.RowKit Go.Proofs.YtfbghibgjfegpaaW.PrintWords Go.Proofs.YtfbghibgjfegpaaW.PrintLast Go.Proofs.YtfbghibgjfegpaaW.PrintMore
attribute [local go_sem] max2_int min2_int max_two min_two max_three min_three max_four min_four   -- for this text's walks alone
set_option linter.unusedVariables false
set_option linter.unusedSimpArgs false

/-! ### impl_NewestOf: function 23, a contract by hand -/
def impl_NewestOf.f (l0_0 : List (S57)) (a0_1 : Int) (a0_2 : Int) : Option (Int × Int × Bool) := some (newestV l0_0 a0_1 a0_2)
theorem impl_NewestOf.calls (A0_0 : Option Addr) (c0_0 : Nat) (l0_0 : List (S57)) (a0_1 : Int) (a0_2 : Int) (r1 : Int) (r2 : Int) (r3 : Bool) (w : World) (hr0_0 : Kd.C k57 w A0_0 l0_0.length l0_0) (hc0_0 : l0_0.length ≤ c0_0) (h : impl_NewestOf.f l0_0 a0_1 a0_2 = some (r1, r2, r3)) :
  Calls Try.prog 23 #[.agg #[.slice A0_0 l0_0.length c0_0, .int .i64 a0_1, .int .i64 a0_2]] w fun e w' => e = .returned (.tuple #[.int .i64 r1, .int .i64 r2, .bool r3]) ∧ Below w.heap.size w w' := by
 have e := Option.some.inj h
 have hh := newestV_c A0_0 c0_0 l0_0 a0_1 a0_2 w hr0_0 hc0_0
 rw [e] at hh
 exact hh

end Go.Proofs.Ytfbghibgjfegpaa.PRQ
