import Derived.Test.YtoaafohpmhdjnaaGreatDoorPIYSA
import Derived.Test.YtoaafohpmhdjnaaGreatDoorPIPVGx8
import Derived.Test.YtoaafohpmhdjnaaGreatDoorPIVTF
import Derived.WalkLawsBesides
import Derived.Test.YtoaafohpmhdjnaaGreatDoorPIPVGx0
import Derived.Test.YtoaafohpmhdjnaaGreatDoorPIVK
import Derived.Test.YtoaafohpmhdjnaaGreatDoorPIVWA
/- A path's text, the reference's: what l3Text computes. Conditions: names and paths are not too long. -/
namespace Go.Proofs.YtoaafohpmhdjnaaGreatDoor.VT
open Go.RowKit Go.Proofs.YtoaafohpmhdjnaaGreatDoor.RX Go.Proofs.YtoaafohpmhdjnaaGreatDoor.RY Go.Proofs.YtoaafohpmhdjnaaGreatDoor.PVG Go.Proofs.YtoaafohpmhdjnaaGreatDoorW.PrintWords Go.Proofs.YtoaafohpmhdjnaaGreatDoorW.PrintLast Go.Proofs.YtoaafohpmhdjnaaGreatDoorW.PrintMore
set_option linter.unusedVariables false
set_option linter.unusedSimpArgs false
def restL:List ByteArray→List UInt8
 | []=>[]
 | n :: r=>47 :: escL n.data.toList++restL r
theorem textP_rest (L:List ByteArray):textP L=ofL (restL L):=by
 have:∀ (L:List ByteArray) (acc:List UInt8),L.foldl (fun p n=>p++(⟨#[47]⟩:ByteArray)++escB n) (ofL acc)=ofL (acc++restL L):=by
  intro L
  induction L with
  | nil=>intro acc;simp [restL]
  | cons n r ih =>
   intro acc
   rw [List.foldl_cons,show ofL acc++(⟨#[47]⟩:ByteArray)++escB n=ofL (acc++[47]++escL n.data.toList) by rw [show (⟨#[47]⟩:ByteArray)=ofL [47] from rfl,show escB n=ofL (escL n.data.toList) from rfl,ofL_app,ofL_app],ih,restL]
   simp
 exact (this L []).trans (by simp)
theorem l3t_in (bs:List UInt8) (L:List ByteArray) (n j:Int) (r:ByteArray):∀ (m i:Nat) (acc:List UInt8),i+m=bs.length→acc.length+2 * m≤2000000000→bs.length≤1000000000→Ev (fun k=>spec_l3Text.l0 k (ofL (acc++escL (bs.drop i))) L n (wrap64 (j+1))) r→Ev (fun k=>spec_l3Text.l1 k (ofL acc) (ofL bs) i L n j) r
 | 0,i,acc,h1,h2,h3,h=>by
  refine Ev.step (f:=fun k=>spec_l3Text.l0 k (ofL acc) L n (wrap64 (j+1))) (fun k=>?_) ?_
  ·rw [spec_l3Text.l1,if_neg (by rw [ofL_size];omega)]
  ·have:bs.drop i=[]:=List.drop_eq_nil_of_le (by omega)
   rw [this,escL,List.append_nil] at h
   exact h
 | m+1,i,acc,h1,h2,h3,h=>by
  have hi:i < bs.length:=by omega
  have hw:wrap64 ((i:Int)+1)=((i+1:Nat):Int):=by unfold wrap64;omega
  have hx:((i:Int)).toNat=i:=Int.toNat_natCast i
  have hx1:(((i+1:Nat):Int)).toNat=i+1:=Int.toNat_natCast _
  have e1:(⟨#[126,48]⟩:ByteArray)=ofL [126,48]:=rfl
  have e2:(⟨#[126,49]⟩:ByteArray)=ofL [126,49]:=rfl
  rw [List.drop_eq_getElem_cons hi,escL] at h
  by_cases h126:bs[i]=126
  ·rw [if_pos h126] at h
   refine Ev.step (f:=fun k=>spec_l3Text.l1 k (ofL (acc++[126,48])) (ofL bs) ((i+1:Nat):Int) L n j) (fun k=>?_) (l3t_in bs L n j r m (i+1) (acc++[126,48]) (by omega) (by simp;omega) h3 (by simpa using h))
   rw [spec_l3Text.l1,if_pos (by rw [ofL_size];omega),if_pos (by omega),bt_ofL bs i hi,if_pos (by rw [h126];rfl),if_pos (by rw [ofL_size];omega),hw,e1,ofL_app]
  ·rw [if_neg h126] at h
   by_cases h47:bs[i]=47
   ·rw [if_pos h47] at h
    refine Ev.step (f:=fun k=>spec_l3Text.l1 k (ofL (acc++[126,49])) (ofL bs) ((i+1:Nat):Int) L n j) (fun k=>?_) (l3t_in bs L n j r m (i+1) (acc++[126,49]) (by omega) (by simp;omega) h3 (by simpa using h))
    rw [spec_l3Text.l1,if_pos (by rw [ofL_size];omega),if_pos (by omega),bt_ofL bs i hi,if_neg (show ¬((bs[i].toNat:Int)=126) from u8ne h126),if_pos (by rw [h47];rfl),if_pos (by rw [ofL_size];omega),hw,e2,ofL_app]
   ·rw [if_neg h47] at h
    refine Ev.step (f:=fun k=>spec_l3Text.l1 k (ofL (acc++[bs[i]])) (ofL bs) ((i+1:Nat):Int) L n j) (fun k=>?_) (l3t_in bs L n j r m (i+1) (acc++[bs[i]]) (by omega) (by simp;omega) h3 (by simpa using h))
    rw [spec_l3Text.l1,if_pos (by rw [ofL_size];omega),if_pos (by omega),bt_ofL bs i hi,if_neg (show ¬((bs[i].toNat:Int)=126) from u8ne h126),if_neg (show ¬((bs[i].toNat:Int)=47) from u8ne h47),hw,hx,hx1,ext_ofL bs i hi,if_pos (by omega),if_pos (by rw [ofL_size];omega),if_pos (by rw [ofL_size,ofL_size];simp;omega),ofL_app]
theorem escL_le (l:List UInt8):(escL l).length≤2 * l.length:=by
 have h1:=escL_len l
 have h2:=spE_le l
 omega
theorem l3t_out (L:List ByteArray) (hs:∀ x,x∈L→x.size≤100) (hL:L.length≤1000000):∀ (m j:Nat) (acc:List UInt8),j+m=L.length→acc.length+300 * m≤1000000000→Ev (fun k=>spec_l3Text.l0 k (ofL acc) L (L.length:Int) j) (ofL (acc++restL (L.drop j)))
 | 0,j,acc,h1,h2=>by
  refine Ev.step (f:=fun _=>some (ofL acc)) (fun k=>?_) ?_
  ·rw [spec_l3Text.l0,if_neg (by omega)]
  ·have:L.drop j=[]:=List.drop_eq_nil_of_le (by omega)
   rw [this,restL,List.append_nil]
   exact Ev.now _
 | m+1,j,acc,h1,h2=>by
  have hj:j < L.length:=by omega
  have hw:wrap64 ((j:Int)+1)=((j+1:Nat):Int):=by unfold wrap64;omega
  have hx:=hs L[j] (List.getElem_mem hj)
  have hl:L[j].data.toList.length=L[j].size:=Array.length_toList
  have hr:rdOf ByteArray.empty L (j:Int)=L[j]:=by unfold rdOf;rw [Int.toNat_natCast,List.getD_eq_getElem?_getD,List.getElem?_eq_getElem hj];rfl
  have hl2:=escL_le L[j].data.toList
  refine Ev.step (f:=fun k=>spec_l3Text.l1 k (ofL (acc++[47])) (ofL L[j].data.toList) ((0:Nat):Int) L (L.length:Int) j) (fun k=>?_) (l3t_in L[j].data.toList L _ j _ L[j].data.toList.length 0 (acc++[47]) (by omega) (by simp;omega) (by omega) ?_)
  ·rw [spec_l3Text.l0,if_pos (by omega),if_pos (by omega),if_pos (by omega),if_pos (by rw [ofL_size];omega),hr,show (⟨#[47]⟩:ByteArray)=ofL [47] from rfl,ofL_app,ofL_of]
   rfl
  ·rw [hw,List.drop_zero,List.drop_eq_getElem_cons hj,restL]
   have:=l3t_out L hs hL m (j+1) (acc++[47]++escL L[j].data.toList) (by omega) (by simp;omega)
   simpa using this
theorem l3Text_ev (L:List ByteArray) (hs:∀ x,x∈L→x.size≤100) (hL:L.length≤1000000):Ev (fun k=>spec_l3Text.f k L) (textP L):=by
 rw [textP_rest]
 exact l3t_out L hs hL L.length 0 [] (by omega) (by simp;omega)
theorem l3Text_c (L:List ByteArray) (hs:∀ x,x∈L→x.size≤100) (hL:L.length≤1000000) (A:Option Addr) (c:Nat) (w:World) (hr:Kd.C Kd.string w A L.length L) (hc:L.length≤c) :
  Calls Tryz.prog 108 #[.slice A L.length c] w fun e w'=>e=.returned (.string (textP L))∧Below w.heap.size w w':=by
 obtain ⟨k,hk⟩:=(l3Text_ev L hs hL).rounds
 exact (spec_l3Text.calls k A c L _ w hr hc hk).mono fun e w' ⟨h,n,hn⟩=>⟨h,by rw [hn];exact below_drewN (Below.refl _ _) n⟩
end Go.Proofs.YtoaafohpmhdjnaaGreatDoor.VT
namespace Go.Proofs.YtoaafohpmhdjnaaGreatDoor.VT
open Go.RowKit Go.Proofs.YtoaafohpmhdjnaaGreatDoor.PVG Go.Proofs.YtoaafohpmhdjnaaGreatDoorW.PrintWords Go.Proofs.YtoaafohpmhdjnaaGreatDoorW.PrintLast Go.Proofs.YtoaafohpmhdjnaaGreatDoorW.PrintMore
set_option linter.unusedVariables false
set_option linter.unusedSimpArgs false
def ci (a b:Int):Int:=if a < b then -1 else if b < a then 1 else 0
def cs (a b:ByteArray):Int:=if Op.bytesLess a.toList b.toList=true then -1 else if Op.bytesLess b.toList a.toList=true then 1 else 0
def orL:List Int→Int
 | []=>0
 | x :: r=>if x=0 then orL r else x
mutual
def cmpT:Tr→Tr→Int
 | .mk kd nu tx ns ks,u=>if orL [ci kd u.kd,ci nu u.nu,cs tx u.tx]=0 then cmpL ks (kd==7) ns u.ns u.ks else orL [ci kd u.kd,ci nu u.nu,cs tx u.tx]
def cmpL:List Tr→Bool→List ByteArray→List ByteArray→List Tr→Int
 | [],_,_,_,us=>if us.length=0 then 0 else -1
 | _ :: _,_,_,_,[]=>1
 | t :: ts,m,ns,ms,u :: us=>if m=true∧cs (ns.headD nil_) (ms.headD nil_)≠0 then cs (ns.headD nil_) (ms.headD nil_) else if cmpT t u=0 then cmpL ts m ns.tail ms.tail us else cmpT t u
end
end Go.Proofs.YtoaafohpmhdjnaaGreatDoor.VT
namespace Go.Proofs.YtoaafohpmhdjnaaGreatDoor.VT
open Go.RowKit Go.Proofs.YtoaafohpmhdjnaaGreatDoor.PVG Go.Proofs.YtoaafohpmhdjnaaGreatDoorW.PrintWords Go.Proofs.YtoaafohpmhdjnaaGreatDoorW.PrintLast Go.Proofs.YtoaafohpmhdjnaaGreatDoorW.PrintMore
set_option linter.unusedVariables false
set_option linter.unusedSimpArgs false
def CmCall (t:Tr):Prop:=∀ (u:Tr) (w:World) (g h:Nat),IsV w g t→IsV w h u→fit t=true→fit u=true→cnt t≤1073741824→cnt u≤1073741824 →
 Calls Tryz.prog 149 #[.pointer (some ⟨g,0,none⟩),.pointer (some ⟨h,0,none⟩)] w fun e w'=>e=.returned (.int .i64 (cmpT t u))∧Below w.heap.size w w'
theorem CmCall.go {t:Tr} (hh:CmCall t) (u:Tr) (w:World) (g h:Nat) (h1:IsV w g t) (h2:IsV w h u) (h3:fit t=true) (h4:fit u=true) (h5:cnt t≤1073741824) (h6:cnt u≤1073741824) :
  Calls Tryz.prog 149 #[.pointer (some ⟨g,0,none⟩),.pointer (some ⟨h,0,none⟩)] w fun e w'=>e=.returned (.int .i64 (cmpT t u))∧Below w.heap.size w w':=hh u w g h h1 h2 h3 h4 h5 h6
end Go.Proofs.YtoaafohpmhdjnaaGreatDoor.VT
