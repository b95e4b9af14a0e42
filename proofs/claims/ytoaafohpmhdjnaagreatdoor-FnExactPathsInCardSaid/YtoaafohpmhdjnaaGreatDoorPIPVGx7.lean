import Derived.Test.YtoaafohpmhdjnaaGreatDoorPIPVGx0
import Derived.Test.YtoaafohpmhdjnaaGreatDoorPIPVGx6
namespace Go.Proofs.YtoaafohpmhdjnaaGreatDoor.PVG
open Go.RowKit Go.Proofs.YtoaafohpmhdjnaaGreatDoorW.PrintWords Go.Proofs.YtoaafohpmhdjnaaGreatDoorW.PrintLast Go.Proofs.YtoaafohpmhdjnaaGreatDoorW.PrintMore
attribute [local go_sem] max2_int min2_int max_two min_two max_three min_three max_four min_four
set_option linter.unusedVariables false
set_option linter.unusedSimpArgs false
/-! ### laws_heldNodeS: function 80 -/
def laws_heldNodeS.l0:Nat→List (S107)→Int→Int→Option (Int)
 | 0,_,_,_=>none
 | k+1,x0,x1,x5=>if x5 < (x0.length:Int) then (if 0≤x5 then (if ((rd_T107 x0 x5).f0)=x1 then (if ((rd_T107 x0 x5).f1)=(wrap64 (x1+1)) then ((laws_markText.f k (wrap64 ((wrap64 (x1+1))+1))).bind fun t180=>(if ((rd_T107 x0 x5).f2).toList=t180.toList then ((laws_markText.f k (wrap64 ((wrap64 ((wrap64 (x1+1))+1))+1))).bind fun t182=>(if ((rd_T107 x0 x5).f3).toList=t182.toList then (if ((rd_T107 x0 x5).f4)=(wrap64 ((wrap64 ((wrap64 ((wrap64 (x1+1))+1))+1))+1)) then (laws_heldNodeS.l0 k x0 (wrap64 ((wrap64 ((wrap64 ((wrap64 ((wrap64 (x1+1))+1))+1))+1))+1)) (wrap64 (x5+1))) else (some (-1))) else (some (-1)))) else (some (-1)))) else (some (-1))) else (some (-1))) else (none)) else (some x1)
def laws_heldNodeS.f (k:Nat) (l0:List (S107)) (a1:Int):Option (Int):=laws_heldNodeS.l0 k l0 a1 0
end Go.Proofs.YtoaafohpmhdjnaaGreatDoor.PVG
