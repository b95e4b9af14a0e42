import Derived.Test.YtoaafohpmhdjnaaGreatDoorPIPVGx0
/- Values as trees: what they are, how they lie as nodes, how nodes are read as a tree. Conditions: none. -/
namespace Go.Proofs.YtoaafohpmhdjnaaGreatDoor.VT
open Go.Proofs.YtoaafohpmhdjnaaGreatDoor.PVG
set_option linter.unusedVariables false
set_option linter.unusedSimpArgs false
inductive Tr where
 | mk (kind num:Int) (text:ByteArray) (names:List ByteArray) (kids:List Tr)
def Tr.kd:Tr→Int | .mk k _ _ _ _=>k
def Tr.nu:Tr→Int | .mk _ n _ _ _=>n
def Tr.tx:Tr→ByteArray | .mk _ _ t _ _=>t
def Tr.ns:Tr→List ByteArray | .mk _ _ _ n _=>n
def Tr.ks:Tr→List Tr | .mk _ _ _ _ k=>k
theorem Tr.ind {P:Tr→Prop} (h:∀ k n tx ns ks,(∀ t,t∈ks→P t)→P (.mk k n tx ns ks)):∀ t,P t:=by
 intro t
 refine Tr.rec (motive_1:=P) (motive_2:=fun ks=>∀ t,t∈ks→P t) ?_ ?_ ?_ t
 ·intro k n tx ns ks ih
  exact h k n tx ns ks ih
 ·intro t ht
  simp at ht
 ·intro a as_ ha has t ht
  rcases List.mem_cons.1 ht with rfl | ht
  ·exact ha
  ·exact has t ht
mutual
def cnt:Tr→Nat
 | .mk _ _ _ _ ks=>1+cntL ks
def cntL:List Tr→Nat
 | []=>0
 | t :: ts=>cnt t+cntL ts
end
def lt (a b:ByteArray):Bool:=Op.bytesLess a.toList b.toList
def emp (s:ByteArray):Bool:=decide (s.size=0)
def prt (s:ByteArray):Bool:=s.data.toList.all (fun c=>decide (32≤c.toNat)&&decide (c.toNat≤126))&&decide (s.size≤24)
def inB (n a b:Int):Bool:=decide (a≤n)&&decide (n≤b)
def holdsB (k:Int):Bool:=k==6 || k==7
def hN (k:Int):Nat:=if holdsB k=true then 1 else 0
theorem hN_t {k:Int} (h:holdsB k=true):hN k=1:=by simp [hN,h]
theorem hN_f {k:Int} (h:holdsB k=false):hN k=0:=by simp [hN,h]
mutual
def deep:Tr→Nat
 | .mk k _ _ _ ks=>deepL ks+hN k
def deepL:List Tr→Nat
 | []=>0
 | t :: ts=>max (deep t) (deepL ts)
end
def nil_:ByteArray:=⟨#[]⟩
mutual
def flat:Tr→ByteArray→Int→Nat→List S107
 | .mk kd nu tx ns ks,nm,up,k=>⟨kd,nu,tx,nm,up⟩ :: flatL ks (kd==7) ns k (k+1)
def flatL:List Tr→Bool→List ByteArray→Nat→Nat→List S107
 | [],_,_,_,_=>[]
 | t :: ts,m,ns,self,k=>flat t (if m then ns.headD nil_ else nil_) self k++flatL ts m ns.tail self (k+cnt t)
end
def nodeG (kd nu:Int) (tx:ByteArray):Bool:=inB kd 1 7&&(kd==4 || nu==0)&&inB nu (-1000000000) 1000000000&&(kd==5 || emp tx)&&prt tx
def rising:List ByteArray→Bool
 | a :: b :: r=>lt a b&&rising (b :: r)
 | _=>true
mutual
def wf:Tr→Bool
 | .mk kd nu tx ns ks=>nodeG kd nu tx&&(if kd==7 then decide (ns.length=ks.length)&&rising ns&&ns.all prt else ns.isEmpty)&&(holdsB kd || ks.isEmpty)&&wfL ks
def wfL:List Tr→Bool
 | []=>true
 | t :: ts=>wf t&&wfL ts
end
def nodeOK (x:S107) (up:Int):Bool:=nodeG x.f0 x.f1 x.f2&&(if up==7 then prt x.f3 else emp x.f3)
def lastLt (ns:List ByteArray) (s:ByteArray):Bool:=match ns.getLast? with
 | none=>true
 | some a=>lt a s
mutual
def par (l:List S107) (k:Nat) (up:Int):Option (Tr×Nat) :=
 if h:k < l.length then
  if nodeOK l[k] up then
   match parL l k l[k].f0 (k+1) [] [] with
   | none=>none
   | some (ns,ks,e)=>some (.mk l[k].f0 l[k].f1 l[k].f2 ns ks,e)
  else none
 else none
termination_by (l.length - k,0)
def parL (l:List S107) (k:Nat) (kd:Int) (e:Nat) (ns:List ByteArray) (ks:List Tr):Option (List ByteArray×List Tr×Nat) :=
 if h:e < l.length then
  if holdsB kd&&l[e].f4==(k:Int) then
   if kd==7&&!(lastLt ns l[e].f3) then none else
   match par l e kd with
   | none=>none
   | some (t,e')=>if h2:e < e' then parL l k kd e' (if kd==7 then ns++[l[e].f3] else ns) (ks++[t]) else none
  else some (ns,ks,e)
 else some (ns,ks,e)
termination_by (l.length - e,1)
end
def At (l:List S107) (k:Nat) (seg:List S107):Prop:=∀ j,j < seg.length→l[k+j]? = seg[j]?
theorem At.nil (l:List S107) (k:Nat):At l k []:=fun j h=>by simp at h
theorem At.app {l:List S107} {k:Nat} {a b:List S107}:At l k (a++b)↔At l k a∧At l (k+a.length) b:=by
 constructor
 ·intro h
  refine ⟨fun j hj=>?_,fun j hj=>?_⟩
  ·rw [h j (by simp;omega),List.getElem?_append_left hj]
  ·have:=h (a.length+j) (by simp;omega)
   rw [←Nat.add_assoc] at this
   rw [this,List.getElem?_append_right (by omega)]
   congr 1
   omega
 ·rintro ⟨h1,h2⟩ j hj
  by_cases hja:j < a.length
  ·rw [h1 j hja,List.getElem?_append_left hja]
  ·have:=h2 (j - a.length) (by simp at hj;omega)
   rw [List.getElem?_append_right (by omega),←this]
   congr 1
   omega
theorem At.one {l:List S107} {k:Nat} {x:S107}:At l k [x]↔l[k]? = some x:=by
 constructor
 ·intro h
  have:=h 0 (by simp)
  simpa using this
 ·intro h j hj
  have:j=0:=by simp at hj;omega
  subst this
  simpa using h
theorem At.cons {l:List S107} {k:Nat} {x:S107} {a:List S107}:At l k (x :: a)↔l[k]? = some x∧At l (k+1) a:=by
 have:=At.app (l:=l) (k:=k) (a:=[x]) (b:=a)
 rw [At.one] at this
 simpa using this
theorem At.self (l:List S107):At l 0 l:=fun j _=>by simp
theorem At.le {l:List S107} {k:Nat} {seg:List S107} (h:At l k seg) (h0:0 < seg.length):k+seg.length≤l.length:=by
 have:=h (seg.length - 1) (by omega)
 rw [List.getElem?_eq_getElem (by omega:seg.length - 1 < seg.length)] at this
 have:=(List.getElem?_eq_some_iff.1 this).1
 omega
theorem At.eq_of {l seg:List S107} (h:At l 0 seg) (he:seg.length=l.length):l=seg:=by
 apply List.ext_getElem?
 intro i
 by_cases hi:i < seg.length
 ·have:=h i hi
  simpa using this
 ·rw [List.getElem?_eq_none (by omega),List.getElem?_eq_none (by omega)]
mutual
theorem flat_len:∀ (t:Tr) (nm:ByteArray) (up:Int) (k:Nat),(flat t nm up k).length=cnt t
 | .mk kd nu tx ns ks,nm,up,k=>by
  simp only [flat,cnt,List.length_cons,flatL_len ks]
  omega
theorem flatL_len:∀ (ts:List Tr) (m:Bool) (ns:List ByteArray) (self k:Nat),(flatL ts m ns self k).length=cntL ts
 | [],_,_,_,_=>by simp [flatL,cntL]
 | t :: ts,m,ns,self,k=>by
  simp only [flatL,cntL,List.length_append,flat_len t,flatL_len ts]
end
theorem cnt_pos (t:Tr):0 < cnt t:=by
 cases t
 simp [cnt]
 omega
theorem cntL_append (a b:List Tr):cntL (a++b)=cntL a+cntL b:=by
 induction a with
 | nil=>simp [cntL]
 | cons t ts ih=>simp [cntL,ih];omega
theorem flatL_append:∀ (a b:List Tr) (m:Bool) (ns:List ByteArray) (self k:Nat),flatL (a++b) m ns self k=flatL a m ns self k++flatL b m (ns.drop a.length) self (k+cntL a)
 | [],b,m,ns,self,k=>by simp [flatL,cntL]
 | t :: ts,b,m,ns,self,k=>by
  simp only [List.cons_append,flatL,flatL_append ts,List.append_assoc,cntL,List.length_cons]
  have:ns.tail.drop ts.length=ns.drop (ts.length+1):=by rw [←List.drop_one,List.drop_drop];congr 1;omega
  rw [this,Nat.add_assoc]
theorem ups:∀ (t:Tr) (nm:ByteArray) (up:Int) (k j:Nat),0 < j→j < cnt t→∃ x,(flat t nm up k)[j]? = some x∧(k:Int)≤x.f4∧x.f4 < (k+j:Nat):=by
 intro t
 refine Tr.rec (motive_1:=fun t=>∀ (nm:ByteArray) (up:Int) (k j:Nat),0 < j→j < cnt t→∃ x,(flat t nm up k)[j]? = some x∧(k:Int)≤x.f4∧x.f4 < (k+j:Nat))
  (motive_2:=fun ts=>∀ (m:Bool) (ns:List ByteArray) (self k j:Nat),self < k→j < cntL ts→∃ x,(flatL ts m ns self k)[j]? = some x∧(x.f4=(self:Int)∨(k:Int)≤x.f4)∧x.f4 < (k+j:Nat)) ?_ ?_ ?_ t
 ·intro kd nu tx ns ks ih nm up k j hj hc
  simp only [cnt] at hc
  obtain ⟨x,h1,h2,h3⟩:=ih (kd==7) ns k (k+1) (j - 1) (by omega) (by omega)
  refine ⟨x,?_,by rcases h2 with h2 | h2 <;> omega,by omega⟩
  rw [flat,List.getElem?_cons,if_neg (by omega)]
  exact h1
 ·intro m ns self k j hs hc
  simp [cntL] at hc
 ·intro t ts iht ihts m ns self k j hs hc
  rw [flatL]
  by_cases hj:j < cnt t
  ·rw [List.getElem?_append_left (by rw [flat_len];exact hj)]
   by_cases h0:j=0
   ·subst h0
    cases t
    exact ⟨_,by rw [flat];rfl,.inl rfl,by simp;omega⟩
   ·obtain ⟨x,h1,h2,h3⟩:=iht (if m then ns.headD nil_ else nil_) self k j (by omega) hj
    exact ⟨x,h1,.inr h2,h3⟩
  ·rw [List.getElem?_append_right (by rw [flat_len];omega),flat_len]
   simp only [cntL] at hc
   obtain ⟨x,h1,h2,h3⟩:=ihts m ns.tail self (k+cnt t) (j - cnt t) (by omega) (by omega)
   exact ⟨x,h1,by rcases h2 with h2 | h2 <;> omega,by omega⟩
end Go.Proofs.YtoaafohpmhdjnaaGreatDoor.VT
