import Derived.Test.YtoaafohpmhdjnaaGreatDoorPIVSH
import Derived.Test.YtoaafohpmhdjnaaGreatDoorPIPVGx0
namespace Go.Proofs.YtoaafohpmhdjnaaGreatDoor.PVG
open Go.RowKit Go.Proofs.YtoaafohpmhdjnaaGreatDoorW.PrintWords Go.Proofs.YtoaafohpmhdjnaaGreatDoorW.PrintLast Go.Proofs.YtoaafohpmhdjnaaGreatDoorW.PrintMore
attribute [local go_sem] max2_int min2_int max_two min_two max_three min_three max_four min_four
set_option linter.unusedVariables false
set_option linter.unusedSimpArgs false
/-! ### spec_l1Shape: function 106, a contract by hand -/
def spec_l1Shape.f (l0_0:List (S107)):Option (Bool):=if l0_0.length≤1073741824∧∀ x,x∈l0_0→x.f2.size≤1073741824∧x.f3.size≤1073741824 then some (Go.Proofs.YtoaafohpmhdjnaaGreatDoor.VT.shapeB l0_0) else none
theorem spec_l1Shape.calls (A0_0:Option Addr) (c0_0:Nat) (l0_0:List (S107)) (r:Bool) (w:World) (hr0_0:Kd.C k107 w A0_0 l0_0.length l0_0) (hc0_0:l0_0.length≤c0_0) (h:spec_l1Shape.f l0_0=some r) :
  Calls Tryz.prog 106 #[.agg #[.slice A0_0 l0_0.length c0_0]] w fun e w'=>e=.returned (.bool r)∧Below w.heap.size w w':=by
 unfold spec_l1Shape.f at h
 by_cases hl:l0_0.length≤1073741824∧∀ x,x∈l0_0→x.f2.size≤1073741824∧x.f3.size≤1073741824
 ·rw [if_pos hl] at h
  have e:=Option.some.inj h
  have hh:=Go.Proofs.YtoaafohpmhdjnaaGreatDoor.VT.shape_c A0_0 c0_0 l0_0 w hr0_0 hc0_0 hl.1 hl.2
  rw [e] at hh
  exact hh
 ·rw [if_neg hl] at h
  exact absurd h (by simp)
end Go.Proofs.YtoaafohpmhdjnaaGreatDoor.PVG
