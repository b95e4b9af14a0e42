import Derived.Test.YtoaafohpmhdjnaaGreatDoorTAVPB
import Derived.Test.YtoaafohpmhdjnaaGreatDoorTAVTR
import Derived.Test.YtoaafohpmhdjnaaGreatDoorTAVTG
import Derived.Test.YtoaafohpmhdjnaaGreatDoorTAPVGx0
import Derived.Test.YtoaafohpmhdjnaaGreatDoorTAPVGx6
import Derived.Test.YtoaafohpmhdjnaaGreatDoorTAPVGx2
import Derived.Test.YtoaafohpmhdjnaaGreatDoorTAVWB
/- The reference's comparing of two trees, walked. Conditions: right trees. -/
namespace Go.Proofs.YtoaafohpmhdjnaaGreatDoor.VT
open Go.RowKit Go.Proofs.YtoaafohpmhdjnaaGreatDoor.PVG Go.Proofs.YtoaafohpmhdjnaaGreatDoorW.PrintWords Go.Proofs.YtoaafohpmhdjnaaGreatDoorW.PrintLast Go.Proofs.YtoaafohpmhdjnaaGreatDoorW.PrintMore
set_option linter.unusedVariables false
set_option linter.unusedSimpArgs false
structure SAt (w:World) (t:Tr) (A3:Option Addr) (c3:Nat) (A4:Option Addr) (c4:Nat):Prop where
 l3:t.ns.length≤c3
 g3:Kd.string.C w A3 t.ns.length t.ns
 l4:t.ks.length≤c4
 g4:k89.C w A4 t.ks.length (toSL t.ks)
theorem SAt.below {w w':World} {t:Tr} {A3:Option Addr} {c3:Nat} {A4:Option Addr} {c4:Nat} (h:SAt w t A3 c3 A4 c4) (hb:Below w.heap.size w w'):SAt w' t A3 c3 A4 c4:=⟨h.l3,Kd.C_below h.g3 hb,h.l4,Kd.C_below h.g4 hb⟩
theorem SAt.name {w:World} {t:Tr} {A3:Option Addr} {c3:Nat} {A4:Option Addr} {c4:Nat} (h:SAt w t A3 c3 A4 c4) (i:Nat) (hi:i < t.ns.length):∃ ad,A3=some ad∧w.cell? (ad.add i)=some (.string (t.ns[i])):=by
 obtain ⟨ad,c,e,_,hK,hc⟩:=Kd.C_get h.g3 nil_ (i:Int) (by omega) (by omega)
 have hK:c=[.string (t.ns.getD (i:Int).toNat nil_)]:=hK
 rw [List.getD_eq_getElem?_getD,Int.toNat_natCast,List.getElem?_eq_getElem hi] at hK
 subst hK
 have h0:=hc 0 _ rfl
 have e1:(i:Int).toNat * Kd.string.sz+0=i:=by show (i:Int).toNat * 1+0=i;omega
 rw [e1] at h0
 exact ⟨ad,e,h0⟩
theorem SAt.kid {w:World} {t:Tr} {A3:Option Addr} {c3:Nat} {A4:Option Addr} {c4:Nat} (h:SAt w t A3 c3 A4 c4) (i:Nat) (hi:i < t.ks.length):∃ ad B3 d3 B4 d4,A4=some ad ∧
  w.cell? (ad.add (i * 5))=some (.int .i64 t.ks[i].kd)∧w.cell? ⟨(ad.add (i * 5)).block,(ad.add (i * 5)).off+1,none⟩=some (.int .i64 t.ks[i].nu)∧w.cell? ⟨(ad.add (i * 5)).block,(ad.add (i * 5)).off+2,none⟩=some (.string t.ks[i].tx) ∧
  w.cell? ⟨(ad.add (i * 5)).block,(ad.add (i * 5)).off+3,none⟩=some (.slice B3 t.ks[i].ns.length d3)∧w.cell? ⟨(ad.add (i * 5)).block,(ad.add (i * 5)).off+4,none⟩=some (.slice B4 t.ks[i].ks.length d4)∧SAt w t.ks[i] B3 d3 B4 d4:=by
 obtain ⟨ad,B3,d3,B4,d4,e,q0,q1,q2,q3,q4,l3,g3,l4,g4⟩:=at_T89 h.g4 (i:Int) (by omega) (by omega)
 have hr:rd_T89 (toSL t.ks) (i:Int)=toS t.ks[i]:=by
  unfold rd_T89
  rw [Int.toNat_natCast,toSL_map,List.getD_eq_getElem?_getD,List.getElem?_map,List.getElem?_eq_getElem hi]
  rfl
 rw [hr,toS_eq] at q0 q1 q2 q3 q4 l3 g3 l4 g4
 simp only [Int.toNat_natCast,toSL_len] at q0 q1 q2 q3 q4 l3 g3 l4 g4
 exact ⟨ad,B3,d3,B4,d4,e,q0,q1,q2,q3,q4,l3,g3,l4,g4⟩
structure Wf1 (kd nu:Int) (tx:ByteArray) (ns:List ByteArray) (ks:List Tr):Prop where
 nu0:kd≠4→nu=0
 tx0:kd≠5→tx=nil_
 hlen:kd=7→ns.length=ks.length
 ks0:kd≠6→kd≠7→ks=[]
 hks:wfL ks=true
theorem wf1 {kd nu:Int} {tx:ByteArray} {ns:List ByteArray} {ks:List Tr} (h:wf (.mk kd nu tx ns ks)=true):Wf1 kd nu tx ns ks:=by
 rw [wf] at h
 simp only [Bool.and_eq_true,nodeG,Bool.or_eq_true,beq_iff_eq] at h
 refine ⟨fun h4=>by rcases h.1.1.1.1.1.1.2 with e | e;exact absurd e h4;exact e,fun h5=>by rcases h.1.1.1.1.2 with e | e;exact absurd e h5;exact emp_iff.1 e,fun h7=>?_,fun h6 h7=>?_,h.2⟩
 ·have h8:=h.1.1.2
  rw [if_pos h7] at h8
  simp at h8
  exact h8.1.1
 ·rcases h.1.2 with e | e
  ·simp [holdsB,h6,h7] at e
  ·simpa using e
theorem ci_self (a:Int):ci a a=0:=by unfold ci;rw [if_neg (by omega),if_neg (by omega)]
theorem cs_self (a:ByteArray):cs a a=0:=by
 have h:=bytesLess_tri a.toList a.toList
 have h2:Op.bytesLess a.toList a.toList=false:=by
  cases e:Op.bytesLess a.toList a.toList with
  | false=>rfl
  | true=>rw [e] at h;simp at h
 unfold cs
 rw [h2];rfl
end Go.Proofs.YtoaafohpmhdjnaaGreatDoor.VT
namespace Go.Proofs.YtoaafohpmhdjnaaGreatDoor.VT
open Go.RowKit Go.Proofs.YtoaafohpmhdjnaaGreatDoor.PVG Go.Proofs.YtoaafohpmhdjnaaGreatDoorW.PrintWords Go.Proofs.YtoaafohpmhdjnaaGreatDoorW.PrintLast Go.Proofs.YtoaafohpmhdjnaaGreatDoorW.PrintMore
set_option linter.unusedVariables false
set_option linter.unusedSimpArgs false
def NdCall (t:Tr):Prop:=∀ (w0 w:World) (g:Nat) (v:Value) (l:List S107) (nm:ByteArray) (up:Int),IsV w0 g t→fit t=true→Below w0.heap.size w0 w→Kd.R k107 107 w w0.heap.size (fun _=>True) v l→l.length+cnt t≤1073741824 →
 Calls Tryz.prog 126 #[.pointer (some ⟨g,0,none⟩),v,.string nm,.int .i64 up] w fun e w'=>∃ v',e=.returned v'∧Kd.R k107 107 w' w0.heap.size (fun _=>True) v' (l++flat t nm up l.length)∧Below w0.heap.size w0 w'
theorem NdCall.go {t:Tr} (h:NdCall t) (w0 w:World) (g:Nat) (v:Value) (l:List S107) (nm:ByteArray) (up:Int) (h1:IsV w0 g t) (h2:fit t=true) (h3:Below w0.heap.size w0 w) (h4:Kd.R k107 107 w w0.heap.size (fun _=>True) v l) (h5:l.length+cnt t≤1073741824) :
 Calls Tryz.prog 126 #[.pointer (some ⟨g,0,none⟩),v,.string nm,.int .i64 up] w fun e w'=>∃ v',e=.returned v'∧Kd.R k107 107 w' w0.heap.size (fun _=>True) v' (l++flat t nm up l.length)∧Below w0.heap.size w0 w':=h w0 w g v l nm up h1 h2 h3 h4 h5
end Go.Proofs.YtoaafohpmhdjnaaGreatDoor.VT
namespace Go.Proofs.YtoaafohpmhdjnaaGreatDoor.VT
open Go.RowKit Go.Proofs.YtoaafohpmhdjnaaGreatDoor.PVG Go.Proofs.YtoaafohpmhdjnaaGreatDoorW.PrintWords Go.Proofs.YtoaafohpmhdjnaaGreatDoorW.PrintLast Go.Proofs.YtoaafohpmhdjnaaGreatDoorW.PrintMore
set_option linter.unusedVariables false
set_option linter.unusedSimpArgs false
def NfCall (t:Tr):Prop:=∀ (w0 w:World) (A3:Option Addr) (c3:Nat) (A4:Option Addr) (c4:Nat) (v:Value) (l:List S107) (nm:ByteArray) (up:Int),SAt w0 t A3 c3 A4 c4→fit t=true→Below w0.heap.size w0 w→Kd.R k107 107 w w0.heap.size (fun _=>True) v l→l.length+cnt t≤1073741824 →
 Calls Tryz.prog 125 #[.agg #[.int .i64 t.kd,.int .i64 t.nu,.string t.tx,.slice A3 t.ns.length c3,.slice A4 t.ks.length c4],.string nm,.int .i64 up,v] w fun e w'=>∃ v',e=.returned v'∧Kd.R k107 107 w' w0.heap.size (fun _=>True) v' (l++flat t nm up l.length)∧Below w0.heap.size w0 w'∧Kept w w' (fun k=>some k=v.ownBlock)∧(v'.ownBlock=v.ownBlock∨∃ b,v'.ownBlock=some b∧w.heap.size≤b)
theorem NfCall.go {t:Tr} (h:NfCall t) (w0 w:World) (A3:Option Addr) (c3:Nat) (A4:Option Addr) (c4:Nat) (v:Value) (l:List S107) (nm:ByteArray) (up:Int) (h1:SAt w0 t A3 c3 A4 c4) (h2:fit t=true) (h3:Below w0.heap.size w0 w) (h4:Kd.R k107 107 w w0.heap.size (fun _=>True) v l) (h5:l.length+cnt t≤1073741824) :
 Calls Tryz.prog 125 #[.agg #[.int .i64 t.kd,.int .i64 t.nu,.string t.tx,.slice A3 t.ns.length c3,.slice A4 t.ks.length c4],.string nm,.int .i64 up,v] w fun e w'=>∃ v',e=.returned v'∧Kd.R k107 107 w' w0.heap.size (fun _=>True) v' (l++flat t nm up l.length)∧Below w0.heap.size w0 w'∧Kept w w' (fun k=>some k=v.ownBlock)∧(v'.ownBlock=v.ownBlock∨∃ b,v'.ownBlock=some b∧w.heap.size≤b):=h w0 w A3 c3 A4 c4 v l nm up h1 h2 h3 h4 h5
end Go.Proofs.YtoaafohpmhdjnaaGreatDoor.VT
namespace Go.Proofs.YtoaafohpmhdjnaaGreatDoor.VT
open Go.RowKit Go.Proofs.YtoaafohpmhdjnaaGreatDoor.PVG Go.Proofs.YtoaafohpmhdjnaaGreatDoorW.PrintWords Go.Proofs.YtoaafohpmhdjnaaGreatDoorW.PrintLast Go.Proofs.YtoaafohpmhdjnaaGreatDoorW.PrintMore
set_option linter.unusedVariables false
set_option linter.unusedSimpArgs false
mutual
def ofS:S89→Tr
 | ⟨kd,nu,tx,ns,ks⟩=>.mk kd nu tx ns (ofSL ks)
def ofSL:List S89→List Tr
 | []=>[]
 | x :: xs=>ofS x :: ofSL xs
end
mutual
theorem toS_ofS:∀ x:S89,toS (ofS x)=x
 | ⟨kd,nu,tx,ns,ks⟩=>by rw [ofS,toS,toSL_ofSL ks]
theorem toSL_ofSL:∀ xs:List S89,toSL (ofSL xs)=xs
 | []=>rfl
 | x :: xs=>by rw [ofSL,toSL,toS_ofS x,toSL_ofSL xs]
end
mutual
theorem ofS_toS:∀ t:Tr,ofS (toS t)=t
 | .mk kd nu tx ns ks=>by rw [toS,ofS,ofSL_toSL ks]
theorem ofSL_toSL:∀ ts:List Tr,ofSL (toSL ts)=ts
 | []=>rfl
 | t :: ts=>by rw [toSL,ofSL,ofS_toS t,ofSL_toSL ts]
end
end Go.Proofs.YtoaafohpmhdjnaaGreatDoor.VT
namespace Go.Proofs.YtoaafohpmhdjnaaGreatDoor.VT
open Go.RowKit Go.Proofs.YtoaafohpmhdjnaaGreatDoor.PVG Go.Proofs.YtoaafohpmhdjnaaGreatDoorW.PrintWords
set_option linter.unusedVariables false
set_option linter.unusedSimpArgs false
mutual
def cleanT:Tr→Tr
 | .mk kd nu tx ns ks=>if kd=7 then .mk 7 0 nil_ (cleanN ks ns) (cleanK ks) else .mk kd nu tx ns ks
def cleanK:List Tr→List Tr
 | []=>[]
 | t :: ts=>if t.kd=1 then cleanK ts else cleanT t :: cleanK ts
def cleanN:List Tr→List ByteArray→List ByteArray
 | [],_=>[]
 | t :: ts,ns=>if t.kd=1 then cleanN ts ns.tail else ns.headD nil_ :: cleanN ts ns.tail
end
mutual
def isClean:Tr→Bool
 | .mk kd _ _ _ ks=>if kd=7 then isCleanL ks else true
def isCleanL:List Tr→Bool
 | []=>true
 | t :: ts=>!(t.kd==1)&&isClean t&&isCleanL ts
end
mutual
theorem cmpT_self:∀ t:Tr,cmpT t t=0
 | .mk kd nu tx ns ks=>by
  rw [cmpT_mk rfl,ci_self,ci_self,cs_self]
  simp only [orL,if_true]
  exact cmpL_self ks _ ns
theorem cmpL_self:∀ (ks:List Tr) (m:Bool) (ns:List ByteArray),cmpL ks m ns ns ks=0
 | [],_,_=>by simp [cmpL]
 | t :: ts,m,ns=>by
  rw [cmpL,cs_self,if_neg (by simp),cmpT_self t,if_pos rfl,cmpL_self ts]
end
end Go.Proofs.YtoaafohpmhdjnaaGreatDoor.VT
