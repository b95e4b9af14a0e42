import Derived.Test.YtoaafohpmhdjnaaGreatDoorPIVPB
import Derived.Test.YtoaafohpmhdjnaaGreatDoorPIVTR
import Derived.Test.YtoaafohpmhdjnaaGreatDoorPIVTG
import Derived.Test.YtoaafohpmhdjnaaGreatDoorPIVLA
import Derived.Test.YtoaafohpmhdjnaaGreatDoorPIPVGx0
import Derived.Test.YtoaafohpmhdjnaaGreatDoorPIPVGx6
import Derived.Test.YtoaafohpmhdjnaaGreatDoorPIPVGx7
import Derived.Test.YtoaafohpmhdjnaaGreatDoorPIPVGx8
import Derived.Test.YtoaafohpmhdjnaaGreatDoorPIPVGx2
import Derived.Test.YtoaafohpmhdjnaaGreatDoorPIYSB
/- The reference's comparing of two trees, walked. Conditions: right trees. -/
namespace Go.Proofs.YtoaafohpmhdjnaaGreatDoor.VT
open Go.RowKit Go.Proofs.YtoaafohpmhdjnaaGreatDoor.PVG Go.Proofs.YtoaafohpmhdjnaaGreatDoorW.PrintWords Go.Proofs.YtoaafohpmhdjnaaGreatDoorW.PrintLast Go.Proofs.YtoaafohpmhdjnaaGreatDoorW.PrintMore
set_option linter.unusedVariables false
set_option linter.unusedSimpArgs false
structure SAt (w:World) (t:Tr) (A3:Option Addr) (c3:Nat) (A4:Option Addr) (c4:Nat):Prop where
 l3:t.ns.length≤c3
 g3:Kd.string.C w A3 t.ns.length t.ns
 l4:t.ks.length≤c4
 g4:k89.C w A4 t.ks.length (toSL t.ks)
theorem SAt.below {w w':World} {t:Tr} {A3:Option Addr} {c3:Nat} {A4:Option Addr} {c4:Nat} (h:SAt w t A3 c3 A4 c4) (hb:Below w.heap.size w w'):SAt w' t A3 c3 A4 c4:=⟨h.l3,Kd.C_below h.g3 hb,h.l4,Kd.C_below h.g4 hb⟩
theorem SAt.name {w:World} {t:Tr} {A3:Option Addr} {c3:Nat} {A4:Option Addr} {c4:Nat} (h:SAt w t A3 c3 A4 c4) (i:Nat) (hi:i < t.ns.length):∃ ad,A3=some ad∧w.cell? (ad.add i)=some (.string (t.ns[i])):=by
 obtain ⟨ad,c,e,_,hK,hc⟩:=Kd.C_get h.g3 nil_ (i:Int) (by omega) (by omega)
 have hK:c=[.string (t.ns.getD (i:Int).toNat nil_)]:=hK
 rw [List.getD_eq_getElem?_getD,Int.toNat_natCast,List.getElem?_eq_getElem hi] at hK
 subst hK
 have h0:=hc 0 _ rfl
 have e1:(i:Int).toNat * Kd.string.sz+0=i:=by show (i:Int).toNat * 1+0=i;omega
 rw [e1] at h0
 exact ⟨ad,e,h0⟩
theorem SAt.kid {w:World} {t:Tr} {A3:Option Addr} {c3:Nat} {A4:Option Addr} {c4:Nat} (h:SAt w t A3 c3 A4 c4) (i:Nat) (hi:i < t.ks.length):∃ ad B3 d3 B4 d4,A4=some ad ∧
  w.cell? (ad.add (i * 5))=some (.int .i64 t.ks[i].kd)∧w.cell? ⟨(ad.add (i * 5)).block,(ad.add (i * 5)).off+1,none⟩=some (.int .i64 t.ks[i].nu)∧w.cell? ⟨(ad.add (i * 5)).block,(ad.add (i * 5)).off+2,none⟩=some (.string t.ks[i].tx) ∧
  w.cell? ⟨(ad.add (i * 5)).block,(ad.add (i * 5)).off+3,none⟩=some (.slice B3 t.ks[i].ns.length d3)∧w.cell? ⟨(ad.add (i * 5)).block,(ad.add (i * 5)).off+4,none⟩=some (.slice B4 t.ks[i].ks.length d4)∧SAt w t.ks[i] B3 d3 B4 d4:=by
 obtain ⟨ad,B3,d3,B4,d4,e,q0,q1,q2,q3,q4,l3,g3,l4,g4⟩:=at_T89 h.g4 (i:Int) (by omega) (by omega)
 have hr:rd_T89 (toSL t.ks) (i:Int)=toS t.ks[i]:=by
  unfold rd_T89
  rw [Int.toNat_natCast,toSL_map,List.getD_eq_getElem?_getD,List.getElem?_map,List.getElem?_eq_getElem hi]
  rfl
 rw [hr,toS_eq] at q0 q1 q2 q3 q4 l3 g3 l4 g4
 simp only [Int.toNat_natCast,toSL_len] at q0 q1 q2 q3 q4 l3 g3 l4 g4
 exact ⟨ad,B3,d3,B4,d4,e,q0,q1,q2,q3,q4,l3,g3,l4,g4⟩
structure Wf1 (kd nu:Int) (tx:ByteArray) (ns:List ByteArray) (ks:List Tr):Prop where
 nu0:kd≠4→nu=0
 tx0:kd≠5→tx=nil_
 hlen:kd=7→ns.length=ks.length
 ks0:kd≠6→kd≠7→ks=[]
 hks:wfL ks=true
end Go.Proofs.YtoaafohpmhdjnaaGreatDoor.VT
namespace Go.Proofs.YtoaafohpmhdjnaaGreatDoor.VT
open Go.RowKit Go.Proofs.YtoaafohpmhdjnaaGreatDoor.PVG Go.Proofs.YtoaafohpmhdjnaaGreatDoorW.PrintWords Go.Proofs.YtoaafohpmhdjnaaGreatDoorW.PrintLast Go.Proofs.YtoaafohpmhdjnaaGreatDoorW.PrintMore
set_option linter.unusedVariables false
set_option linter.unusedSimpArgs false
def NfCall (t:Tr):Prop:=∀ (w0 w:World) (A3:Option Addr) (c3:Nat) (A4:Option Addr) (c4:Nat) (v:Value) (l:List S107) (nm:ByteArray) (up:Int),SAt w0 t A3 c3 A4 c4→fit t=true→Below w0.heap.size w0 w→Kd.R k107 107 w w0.heap.size (fun _=>True) v l→l.length+cnt t≤1073741824 →
 Calls Tryz.prog 125 #[.agg #[.int .i64 t.kd,.int .i64 t.nu,.string t.tx,.slice A3 t.ns.length c3,.slice A4 t.ks.length c4],.string nm,.int .i64 up,v] w fun e w'=>∃ v',e=.returned v'∧Kd.R k107 107 w' w0.heap.size (fun _=>True) v' (l++flat t nm up l.length)∧Below w0.heap.size w0 w'∧Kept w w' (fun k=>some k=v.ownBlock)∧(v'.ownBlock=v.ownBlock∨∃ b,v'.ownBlock=some b∧w.heap.size≤b)
theorem NfCall.go {t:Tr} (h:NfCall t) (w0 w:World) (A3:Option Addr) (c3:Nat) (A4:Option Addr) (c4:Nat) (v:Value) (l:List S107) (nm:ByteArray) (up:Int) (h1:SAt w0 t A3 c3 A4 c4) (h2:fit t=true) (h3:Below w0.heap.size w0 w) (h4:Kd.R k107 107 w w0.heap.size (fun _=>True) v l) (h5:l.length+cnt t≤1073741824) :
 Calls Tryz.prog 125 #[.agg #[.int .i64 t.kd,.int .i64 t.nu,.string t.tx,.slice A3 t.ns.length c3,.slice A4 t.ks.length c4],.string nm,.int .i64 up,v] w fun e w'=>∃ v',e=.returned v'∧Kd.R k107 107 w' w0.heap.size (fun _=>True) v' (l++flat t nm up l.length)∧Below w0.heap.size w0 w'∧Kept w w' (fun k=>some k=v.ownBlock)∧(v'.ownBlock=v.ownBlock∨∃ b,v'.ownBlock=some b∧w.heap.size≤b):=h w0 w A3 c3 A4 c4 v l nm up h1 h2 h3 h4 h5
theorem kept_via {w W W2:World} {v v1 v2:Value} (h:Kept w W (fun k=>some k=v.ownBlock)) (hat:v1.ownBlock=v.ownBlock∨∃ b,v1.ownBlock=some b∧w.heap.size≤b) (k:Kept W W2 (fun k=>some k=v1.ownBlock)) (hat2:v2.ownBlock=v1.ownBlock∨∃ b,v2.ownBlock=some b∧W.heap.size≤b) :
  Kept w W2 (fun k=>some k=v.ownBlock)∧(v2.ownBlock=v.ownBlock∨∃ b,v2.ownBlock=some b∧w.heap.size≤b):=by
 refine ⟨h.then_ k (fun k hk=>?_),?_⟩
 ·rcases hat with e | ⟨b,e,hb⟩
  ·rw [e] at hk;exact .inl hk
  ·rw [e] at hk;cases hk;exact .inr hb
 ·rcases hat2 with e | ⟨b,e,hb⟩
  ·rw [e];exact hat
  ·exact .inr ⟨b,e,Nat.le_trans h.1 hb⟩
end Go.Proofs.YtoaafohpmhdjnaaGreatDoor.VT
namespace Go.Proofs.YtoaafohpmhdjnaaGreatDoor.VT
open Go.RowKit Go.Proofs.YtoaafohpmhdjnaaGreatDoor.PVG Go.Proofs.YtoaafohpmhdjnaaGreatDoorW.PrintWords Go.Proofs.YtoaafohpmhdjnaaGreatDoorW.PrintLast Go.Proofs.YtoaafohpmhdjnaaGreatDoorW.PrintMore
set_option linter.unusedVariables false
set_option linter.unusedSimpArgs false
mutual
def ofS:S89→Tr
 | ⟨kd,nu,tx,ns,ks⟩=>.mk kd nu tx ns (ofSL ks)
def ofSL:List S89→List Tr
 | []=>[]
 | x :: xs=>ofS x :: ofSL xs
end
mutual
theorem toS_ofS:∀ x:S89,toS (ofS x)=x
 | ⟨kd,nu,tx,ns,ks⟩=>by rw [ofS,toS,toSL_ofSL ks]
theorem toSL_ofSL:∀ xs:List S89,toSL (ofSL xs)=xs
 | []=>rfl
 | x :: xs=>by rw [ofSL,toSL,toS_ofS x,toSL_ofSL xs]
end
mutual
theorem ofS_toS:∀ t:Tr,ofS (toS t)=t
 | .mk kd nu tx ns ks=>by rw [toS,ofS,ofSL_toSL ks]
theorem ofSL_toSL:∀ ts:List Tr,ofSL (toSL ts)=ts
 | []=>rfl
 | t :: ts=>by rw [toSL,ofSL,ofS_toS t,ofSL_toSL ts]
end
end Go.Proofs.YtoaafohpmhdjnaaGreatDoor.VT
