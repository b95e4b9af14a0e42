import Derived.Test.YtoaafohpmhdjnaaGreatDoorTAVPB
import Derived.Test.YtoaafohpmhdjnaaGreatDoorTAPVGx0
import Derived.Test.YtoaafohpmhdjnaaGreatDoorTAPVGx1
import Derived.Test.YtoaafohpmhdjnaaGreatDoorTAPVGx2
/- What the laws' own helpers answer: the weight, the turning, the same. Conditions: texts of no more than the longest. -/
namespace Go.Proofs.YtoaafohpmhdjnaaGreatDoor.VT
open Go.RowKit Go.Proofs.YtoaafohpmhdjnaaGreatDoor.PVG Go.Proofs.YtoaafohpmhdjnaaGreatDoorW.PrintWords
set_option linter.unusedVariables false
set_option linter.unusedSimpArgs false
def tov (l:List S136):List S107:=l.map fun x=>⟨x.f0,x.f1,x.f2,x.f3,x.f4⟩
theorem tov_len (l:List S136):(tov l).length=l.length:=by simp [tov]
theorem rd136 {l:List S136} {i:Nat} (h:i < l.length):rd_T136 l (i:Int)=l[i]:=by
 unfold rd_T136
 rw [Int.toNat_natCast,List.getD_eq_getElem?_getD,List.getElem?_eq_getElem h]
 rfl
def Fits (l:List S136):Prop:=l.length≤maxLen∧∀ x,x∈l→x.f2.size≤maxLen∧x.f3.size≤maxLen
theorem szNode_f {c d:ByteArray} {n:Int} (a b e:Int) (hn:0≤n∧n≤1048576) (hc:c.size≤maxLen) (hd:d.size≤maxLen) :
  laws_szNode.f a b c d e n=some (if n - c.size < 0 then -1 else if n - c.size - d.size < 0 then -1 else n - c.size - d.size):=by
 unfold maxLen at hc hd
 have w1:wrap64 (n - (c.size:Int))=n - c.size:=by unfold wrap64;omega
 unfold laws_szNode.f
 rw [w1]
 by_cases h1:n - (c.size:Int) < 0
 ·rw [if_pos h1,if_pos h1]
 ·have w2:wrap64 (n - (c.size:Int) - (d.size:Int))=n - c.size - d.size:=by unfold wrap64;omega
  rw [if_neg h1,if_neg h1,w2]
  by_cases h2:n - (c.size:Int) - (d.size:Int) < 0
  ·rw [if_pos h2,if_pos h2]
  ·rw [if_neg h2,if_neg h2]
theorem sz_go {l:List S136} (hl:Fits l):∀ (m i:Nat) (n:Int),i+m=l.length→0≤n∧n≤1048576→∃ r,Ev (fun f=>laws_szNodeS.l0 f l n (i:Int)) r∧r≤n∧(0≤r→∀ j (h:j < l.length),i≤j→l[j].f2.size≤1048576∧l[j].f3.size≤1048576):=by
 intro m
 induction m with
 | zero =>
  intro i n hi hn
  refine ⟨n,Ev.step (f:=fun _=>some n) (fun f=>?_) (Ev.now _),by omega,fun _ j h1 h2=>by omega⟩
  rw [laws_szNodeS.l0,if_neg (by omega)]
 | succ m ih =>
  intro i n hi hn
  have hil:i < l.length:=by omega
  obtain ⟨hL,hx⟩:=hl
  obtain ⟨hc,hd⟩:=hx _ (List.getElem_mem hil)
  have hs:=szNode_f l[i].f0 l[i].f1 l[i].f4 hn hc hd
  have hw:wrap64 ((i:Int)+1)=((i+1:Nat):Int):=by unfold maxLen at hL;unfold wrap64;omega
  by_cases h1:n - (l[i].f2.size:Int) < 0
  ·rw [if_pos h1] at hs
   refine ⟨-1,Ev.step (f:=fun _=>some (-1)) (fun f=>?_) (Ev.now _),by omega,fun h=>by omega⟩
   rw [laws_szNodeS.l0,if_pos (by omega),if_pos (by omega),rd136 hil,hs]
   rfl
  ·rw [if_neg h1] at hs
   by_cases h2:n - (l[i].f2.size:Int) - (l[i].f3.size:Int) < 0
   ·rw [if_pos h2] at hs
    refine ⟨-1,Ev.step (f:=fun _=>some (-1)) (fun f=>?_) (Ev.now _),by omega,fun h=>by omega⟩
    rw [laws_szNodeS.l0,if_pos (by omega),if_pos (by omega),rd136 hil,hs]
    rfl
   ·rw [if_neg h2] at hs
    obtain ⟨r,e1,e2,e3⟩:=ih (i+1) (n - (l[i].f2.size:Int) - (l[i].f3.size:Int)) (by omega) (by omega)
    refine ⟨r,Ev.step (fun f=>?_) e1,by omega,fun hr j hj hij=>?_⟩
    ·rw [laws_szNodeS.l0,if_pos (by omega),if_pos (by omega),rd136 hil,hs]
     show (if _ then _ else _)=_
     rw [if_neg h2,hw]
    ·by_cases hji:j=i
     ·subst hji;constructor <;> omega
     ·exact e3 hr j hj (by omega)
theorem to_go {l:List S136} (hl:l.length≤1048576):∀ (m i:Nat),i+m=l.length→Ev (fun f=>laws_toNodeS.l0 f l (tov (l.take i)++List.replicate m z107) (i:Int)) (tov l):=by
 intro m
 induction m with
 | zero =>
  intro i hi
  refine Ev.step (f:=fun _=>some (tov l)) (fun f=>?_) (Ev.now _)
  rw [laws_toNodeS.l0,if_neg (by omega)]
  rw [List.take_of_length_le (by omega)]
  simp
 | succ m ih =>
  intro i hi
  have hil:i < l.length:=by omega
  have hw:wrap64 ((i:Int)+1)=((i+1:Nat):Int):=by unfold wrap64;omega
  refine Ev.step (fun f=>?_) (ih (i+1) (by omega))
  rw [laws_toNodeS.l0,if_pos (by omega),if_pos (by omega),rd136 hil]
  show (if _ then _ else _)=_
  rw [if_pos (by simp [tov];omega),hw]
  congr 1
  have hlen:(tov (l.take i)).length=i:=by simp [tov];omega
  rw [Int.toNat_natCast,List.set_append_right _ _ (by omega),hlen,Nat.sub_self,List.replicate_succ,List.set_cons_zero]
  have ht:tov (l.take (i+1))=tov (l.take i)++[⟨l[i].f0,l[i].f1,l[i].f2,l[i].f3,l[i].f4⟩]:=by
   rw [List.take_succ_eq_append_getElem hil]
   simp only [tov,List.map_append,List.map_cons,List.map_nil]
  rw [ht,List.append_assoc]
  rfl
theorem to_ev {l:List S136} (hl:l.length≤1048576):Ev (fun f=>laws_toValue.f f l) (tov l):=by
 refine Ev.congr (f:=fun f=>(laws_toNodeS.l0 f l (tov (l.take 0)++List.replicate l.length z107) (0:Nat)).bind fun t=>some t) (fun f=>?_) (Ev.bind (to_go hl l.length 0 (by omega)) (Ev.now _))
 unfold laws_toValue.f laws_toNodeS.f
 rw [if_pos (by omega),Int.toNat_natCast,if_pos (by omega)]
 simp [tov]
theorem eq_go {l:List S107} (hl:l.length≤1048576):∀ (m i:Nat),i+m=l.length→Ev (fun f=>laws_eqNodeS.l0 f l l (i:Int)) true:=by
 intro m
 induction m with
 | zero =>
  intro i hi
  refine Ev.step (f:=fun _=>some true) (fun f=>?_) (Ev.now _)
  rw [laws_eqNodeS.l0,if_neg (by omega)]
 | succ m ih =>
  intro i hi
  have hw:wrap64 ((i:Int)+1)=((i+1:Nat):Int):=by unfold wrap64;omega
  refine Ev.step (fun f=>?_) (ih (i+1) (by omega))
  rw [laws_eqNodeS.l0,if_pos (by omega),if_pos (by omega),if_pos (by omega),hw]
  unfold laws_eqNode.f
  simp
theorem eq_ev {l:List S107} (hl:l.length≤1048576):Ev (fun f=>laws_eqValue.f f l l) true:=by
 refine Ev.congr (f:=fun f=>(laws_eqNodeS.l0 f l l (0:Nat)).bind fun t109=>if t109=true then some true else some false) (fun f=>?_) (Ev.bind (eq_go hl l.length 0 (by omega)) (by simp only [if_true];exact Ev.now _))
 unfold laws_eqValue.f laws_eqNodeS.f
 rw [if_pos rfl]
 rfl
end Go.Proofs.YtoaafohpmhdjnaaGreatDoor.VT
