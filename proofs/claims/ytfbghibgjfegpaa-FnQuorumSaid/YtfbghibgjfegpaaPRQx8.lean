-- Laid by this session's wip/pr.py over the kit's printer and the session's own contracts.
import Derived.Test.YtfbghibgjfegpaaPRQx0
import Derived.Test.YtfbghibgjfegpaaPRQx3
namespace Go.Proofs.Ytfbghibgjfegpaa.PRQ
open Go.RowKit Go.Proofs.YtfbghibgjfegpaaW.PrintWords Go.Proofs.YtfbghibgjfegpaaW.PrintLast Go.Proofs.YtfbghibgjfegpaaW.PrintMore
attribute [local go_sem] max2_int min2_int max_two min_two max_three min_three max_four min_four   -- for this text's walks alone
set_option linter.unusedVariables false
set_option linter.unusedSimpArgs false

/-! ### impl_RepairCopies: function 34, a contract by hand -/
def impl_RepairCopies.f (l0_0 : List (S57)) (a0_1 : Int) (a0_2 : Int) (l1 : List Int) : Option ((List (S57)) × Int × Int × Int × Bool) := some (repairV l0_0 a0_1 a0_2 l1)
theorem impl_RepairCopies.calls (A0_0 : Option Addr) (c0_0 : Nat) (l0_0 : List (S57)) (a0_1 : Int) (a0_2 : Int) (A1 : Option Addr) (c1 : Nat) (l1 : List Int) (r1 : List (S57)) (r2 : Int) (r3 : Int) (r4 : Int) (r5 : Bool) (w : World) (hr0_0 : Kd.C k57 w A0_0 l0_0.length l0_0) (hc0_0 : l0_0.length ≤ c0_0) (hr1 : Kd.C (Kd.int .i64) w A1 l1.length l1) (hc1 : l1.length ≤ c1) (h : impl_RepairCopies.f l0_0 a0_1 a0_2 l1 = some (r1, r2, r3, r4, r5)) :
  Calls Try.prog 34 #[.agg #[.slice A0_0 l0_0.length c0_0, .int .i64 a0_1, .int .i64 a0_2], .slice A1 l1.length c1] w fun e w' => ∃ v0_ : Value, e = .returned (.tuple #[.agg #[v0_, .int .i64 r2, .int .i64 r3], .int .i64 r4, .bool r5]) ∧ Kd.R k57 57 w' w.heap.size (fun _ => True) v0_ r1 ∧ Below w.heap.size w w' := by
 have e := Option.some.inj h
 have hh := repairV_c A0_0 c0_0 l0_0 a0_1 a0_2 A1 c1 l1 w hr0_0 hc0_0 hr1
 rw [e] at hh
 exact hh

end Go.Proofs.Ytfbghibgjfegpaa.PRQ
