import Derived.Test.YtemamcbdjfabnaaGreatDoorTOVK
import Derived.Test.YtemamcbdjfabnaaGreatDoorTOVWA
import Derived.WalkLawsBesides
import Derived.Test.YtemamcbdjfabnaaGreatDoorTOPVGx12
/- The package cmp's helpers, walked. Conditions: none. -/
namespace Go.Proofs.YtemamcbdjfabnaaGreatDoor.VT
open Go.RowKit Go.Proofs.YtemamcbdjfabnaaGreatDoor.PVG Go.Proofs.YtemamcbdjfabnaaGreatDoorW.PrintWords Go.Proofs.YtemamcbdjfabnaaGreatDoorW.PrintLast Go.Proofs.YtemamcbdjfabnaaGreatDoorW.PrintMore
set_option linter.unusedVariables false
set_option linter.unusedSimpArgs false
def ci (a b : Int) : Int := if a < b then -1 else if b < a then 1 else 0
def cs (a b : ByteArray) : Int := if Op.bytesLess a.toList b.toList = true then -1 else if Op.bytesLess b.toList a.toList = true then 1 else 0
/-- The first that is not nought. -/
def orL : List Int → Int
  | [] => 0
  | x :: r => if x = 0 then orL r else x
mutual
/-- How two trees stand to each other. -/
def cmpT : Tr → Tr → Int
  | .mk kd nu tx ns ks, u => if orL [ci kd u.kd, ci nu u.nu, cs tx u.tx] = 0 then cmpL ks (kd == 7) ns u.ns u.ks else orL [ci kd u.kd, ci nu u.nu, cs tx u.tx]
def cmpL : List Tr → Bool → List ByteArray → List ByteArray → List Tr → Int
  | [], _, _, _, us => if us.length = 0 then 0 else -1
  | _ :: _, _, _, _, [] => 1
  | t :: ts, m, ns, ms, u :: us => if m = true ∧ cs (ns.headD nil_) (ms.headD nil_) ≠ 0 then cs (ns.headD nil_) (ms.headD nil_) else if cmpT t u = 0 then cmpL ts m ns.tail ms.tail us else cmpT t u
end
end Go.Proofs.YtemamcbdjfabnaaGreatDoor.VT
