import Derived.Test.YtoaafohpmhdjnaaGreatDoorTAVLA
import Derived.Test.YtoaafohpmhdjnaaGreatDoorTAPVGx0
import Derived.Test.YtoaafohpmhdjnaaGreatDoorTAPVGx2
import Derived.Test.YtoaafohpmhdjnaaGreatDoorTAPVGx6
import Derived.Test.YtoaafohpmhdjnaaGreatDoorTAVPB
import Derived.Test.YtoaafohpmhdjnaaGreatDoorTAVWA
import Derived.Test.YtoaafohpmhdjnaaGreatDoorTAYPB
/- A value's size, behind others. Conditions: none. -/
namespace Go.Proofs.YtoaafohpmhdjnaaGreatDoor.VT
open Go.RowKit Go.Proofs.YtoaafohpmhdjnaaGreatDoor.RX Go.Proofs.YtoaafohpmhdjnaaGreatDoor.RY Go.Proofs.YtoaafohpmhdjnaaGreatDoor.PVG Go.Proofs.YtoaafohpmhdjnaaGreatDoorW.PrintWords Go.Proofs.YtoaafohpmhdjnaaGreatDoorW.PrintLast Go.Proofs.YtoaafohpmhdjnaaGreatDoorW.PrintMore
set_option linter.unusedVariables false
set_option linter.unusedSimpArgs false
theorem sz_evn {l:List S136} (hl:Fits l) (n:Int) (hn:0≤n∧n≤1048576):∃ r,Ev (fun f=>laws_szValue.f f l n) r∧r≤n∧(0≤r→Small (tov l)∧l.length≤1048576):=by
 have hL:=hl.1
 have hw:wrap64 (n - (l.length:Int))=n - l.length:=by unfold maxLen at hL;unfold wrap64;omega
 by_cases h1:n - (l.length:Int) < 0
 ·refine ⟨-1,Ev.congr (f:=fun _=>some (-1)) (fun f=>?_) (Ev.now _),by omega,fun h=>by omega⟩
  unfold laws_szValue.f laws_szNodeS.f
  rw [hw,if_pos h1]
  rfl
 ·obtain ⟨r,e1,e2,e3⟩:=sz_go hl l.length 0 (n - l.length) (by omega) (by omega)
  refine ⟨if r < 0 then -1 else r,Ev.congr (f:=fun f=>(laws_szNodeS.l0 f l (n - l.length) 0).bind fun t114=>if t114 < 0 then some (-1) else some t114) (fun f=>?_) (Ev.bind e1 ?_),by split <;> omega,fun hr=>?_⟩
  ·unfold laws_szValue.f laws_szNodeS.f
   rw [hw,if_neg h1]
  ·by_cases hr:r < 0
   ·simp only [if_pos hr];exact Ev.now _
   ·simp only [if_neg hr];exact Ev.now _
  ·have hr0:0≤r:=by
    by_cases hh:r < 0
    ·rw [if_pos hh] at hr;omega
    ·omega
   refine ⟨⟨by rw [tov_len];omega,fun x hx=>?_⟩,by omega⟩
   obtain ⟨y,hy,rfl⟩:=List.mem_map.1 hx
   obtain ⟨j,hj,rfl⟩:=List.getElem_of_mem hy
   obtain ⟨g1,g2⟩:=e3 hr0 j hj (by omega)
   exact ⟨by show l[j].f2.size≤_;omega,by show l[j].f3.size≤_;omega⟩
end Go.Proofs.YtoaafohpmhdjnaaGreatDoor.VT
namespace Go.Proofs.YtoaafohpmhdjnaaGreatDoor.PVG
open Go.RowKit Go.Proofs.YtoaafohpmhdjnaaGreatDoorW.PrintWords Go.Proofs.YtoaafohpmhdjnaaGreatDoorW.PrintLast Go.Proofs.YtoaafohpmhdjnaaGreatDoorW.PrintMore
attribute [local go_sem] max2_int min2_int max_two min_two max_three min_three max_four min_four
set_option linter.unusedVariables false
set_option linter.unusedSimpArgs false
structure S24 where
 f0:(List S136)
structure S168 where
 f0:Int
 f1:ByteArray
 f2:S24
 f3:(List Int)
structure S119 where
 f0:Int
 f1:ByteArray
 f2:S31
 f3:(List Int)
def z119:S119:=⟨(0:Int),(⟨#[]⟩:ByteArray),z31,([]:List Int)⟩
end Go.Proofs.YtoaafohpmhdjnaaGreatDoor.PVG
