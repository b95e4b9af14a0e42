import Derived.Test.YtoaafohpmhdjnaaGreatDoorTARYE
import Derived.Lib.Split
import Derived.Test.YtoaafohpmhdjnaaGreatDoorTAPVGx0
/- Paths, plain: a text cut at its strokes, names and how they stand in paths. Conditions: none. -/
namespace Go.Proofs.YtoaafohpmhdjnaaGreatDoor.VT
open Go.Proofs.YtoaafohpmhdjnaaGreatDoor.RY
set_option linter.unusedVariables false
set_option linter.unusedSimpArgs false
def cutL:List UInt8→List (List UInt8)
 | []=>[[]]
 | c :: r=>if c=47 then [] :: cutL r else (c :: (cutL r).headD []) :: (cutL r).tail
theorem cutL_ne:∀ l,cutL l≠[]
 | []=>by simp [cutL]
 | c :: r=>by unfold cutL;split <;> simp
theorem index47 (b:UInt8) (l:List UInt8):Lib.index (b :: l) [47]=if b=47 then 0 else if Lib.index l [47]==-1 then -1 else Lib.index l [47]+1:=by
 rw [Lib.index]
 have e:([47]:List UInt8).isPrefixOf (b :: l)=(47==b):=by simp [List.isPrefixOf]
 rw [e]
 by_cases h:b=47
 ·subst h;simp
 ·have:((47:UInt8)==b)=false:=by simpa using fun e=>h e.symm
  rw [this,if_neg (by simp),if_neg h]
theorem cutL_idx:∀ l:List UInt8,(Lib.index l [47] = -1∧cutL l=[l]∧∀ c,c∈l→c≠47)∨∃ i:Nat,Lib.index l [47]=(i:Int)∧i < l.length∧cutL l=l.take i :: cutL (l.drop (i+1))∧l[i]? = some 47∧∀ c,c∈l.take i→c≠47
 | []=>.inl ⟨rfl,rfl,by simp⟩
 | b :: r=>by
  rw [index47]
  by_cases h:b=47
  ·subst h
   exact .inr ⟨0,by simp,by simp,by simp [cutL],rfl,by simp⟩
  ·rw [if_neg h]
   rcases cutL_idx r with ⟨h1,h2,h3⟩ | ⟨i,h1,h2,h3,h4,h5⟩
   ·refine .inl ⟨by rw [h1];rfl,by rw [cutL,if_neg h,h2];rfl,fun c hc=>?_⟩
    rcases List.mem_cons.1 hc with rfl | hc
    ·exact h
    ·exact h3 c hc
   ·refine .inr ⟨i+1,?_,by simpa using h2,by rw [cutL,if_neg h,h3];rfl,by simpa using h4,fun c hc=>?_⟩
    ·rw [h1]
     have:((i:Int)==-1)=false:=by rw [beq_eq_false_iff_ne];omega
     rw [this];simp
    ·rw [List.take_succ_cons] at hc
     rcases List.mem_cons.1 hc with rfl | hc
     ·exact h
     ·exact h5 c hc
theorem cutL_split:∀ (n:Nat) (l:List UInt8),l.length≤n→Lib.split l [47]=cutL l
 | n,l,hn=>by
  unfold Lib.split
  rcases cutL_idx l with ⟨h1,h2,h3⟩ | ⟨i,h1,h2,h3,h4,h5⟩
  ·rw [Lib.count_miss h1,h2];rfl
  ·rw [Lib.count_hit (by simp) h1,Nat.add_comm 1,Lib.splitK,if_neg (by rw [h1];simp),h3]
   have e:(Lib.index l [47]).toNat=i:=by omega
   rw [e]
   cases n with
   | zero=>omega
   | succ n =>
    have:=cutL_split n (l.drop (i+1)) (by rw [List.length_drop];omega)
    unfold Lib.split at this
    simp only [Nat.add_zero,List.length_cons,List.length_nil,Nat.zero_add]
    rw [this]
theorem cutL_free:∀ (l p:List UInt8),p∈cutL l→∀ c,c∈p→c≠47
 | [],p,h,c,hc=>by simp [cutL] at h;subst h;simp at hc
 | b :: r,p,h,c,hc=>by
  rw [cutL] at h
  by_cases hb:b=47
  ·rw [if_pos hb] at h
   rcases List.mem_cons.1 h with rfl | h
   ·simp at hc
   ·exact cutL_free r p h c hc
  ·rw [if_neg hb] at h
   have ih:=cutL_free r
   have hne:=cutL_ne r
   cases hr:cutL r with
   | nil=>exact absurd hr hne
   | cons q qs =>
    rw [hr] at h ih
    simp only [List.headD_cons,List.tail_cons,List.mem_cons] at h ih
    rcases h with rfl | h
    ·rcases List.mem_cons.1 hc with rfl | hc
     ·exact hb
     ·exact ih q (.inl rfl) c hc
    ·exact ih p (.inr h) c hc
theorem cutL_len (l:List UInt8):(cutL l).length≤l.length+1:=by
 induction l with
 | nil=>simp [cutL]
 | cons b r ih =>
  rw [cutL]
  split
  ·simpa using ih
  ·have:=List.length_tail (l:=cutL r);simp;omega
theorem cutL_size:∀ (l p:List UInt8),p∈cutL l→p.length≤l.length
 | [],p,h=>by simp [cutL] at h;subst h;simp
 | b :: r,p,h=>by
  rw [cutL] at h
  by_cases hb:b=47
  ·rw [if_pos hb] at h
   rcases List.mem_cons.1 h with rfl | h
   ·simp
   ·have:=cutL_size r p h;simp;omega
  ·rw [if_neg hb] at h
   have ih:=cutL_size r
   cases hr:cutL r with
   | nil=>exact absurd hr (cutL_ne r)
   | cons q qs =>
    rw [hr] at h ih
    simp only [List.headD_cons,List.tail_cons,List.mem_cons] at h ih
    rcases h with rfl | h
    ·have:=ih q (.inl rfl);simp;omega
    ·have:=ih p (.inr h);simp;omega
def unescL:List UInt8→List UInt8
 | []=>[]
 | [c]=>[c]
 | c :: d :: r=>if c=126∧d=48 then 126 :: unescL r else if c=126∧d=49 then 47 :: unescL r else c :: unescL (d :: r)
def okP:List UInt8→Bool
 | []=>true
 | [c]=>c != 126
 | c :: d :: r=>if c=126 then (d==48 || d==49)&&okP r else okP (d :: r)
theorem esc_unesc:∀ (n:Nat) (p:List UInt8),p.length≤n→(∀ c,c∈p→c≠47)→(escL (unescL p)=p↔okP p=true)
 | _,[],_,_=>by simp [escL,unescL,okP]
 | _,[c],_,h=>by
  have hc:c≠47:=h c (by simp)
  by_cases h1:c=126
  ·subst h1;simp [escL,unescL,okP]
  ·simp [escL,unescL,okP,h1,hc]
 | 0,c :: d :: r,hn,_=>by simp at hn
 | n+1,c :: d :: r,hn,h=>by
  have hc:c≠47:=h c (by simp)
  have i1:=esc_unesc n r (by simp at hn;omega) (fun x hx=>h x (by simp [hx]))
  have i2:=esc_unesc n (d :: r) (by simp at hn ⊢;omega) (fun x hx=>h x (by simp at hx ⊢;exact .inr hx))
  rw [unescL,okP]
  by_cases h1:c=126
  ·subst h1
   by_cases h2:d=48
   ·subst h2;simp [escL,i1]
   ·by_cases h3:d=49
    ·subst h3;simp [escL,i1]
    ·have e:((d==48 || d==49)&&okP r)=false:=by simp [h2,h3]
     simp only [h2,h3,and_false,if_false,if_true]
     rw [e]
     simp only [escL,if_true,Bool.false_eq_true,iff_false]
     intro hx
     simp at hx
     exact h2 hx.1.symm
  ·simp only [h1,false_and,if_false]
   rw [escL,if_neg h1,if_neg hc]
   simp only [List.cons_append,List.nil_append,List.cons.injEq,true_and]
   exact i2
theorem unesc_len:∀ (n:Nat) (p:List UInt8),p.length≤n→(unescL p).length≤p.length
 | _,[],_=>by simp [unescL]
 | _,[c],_=>by simp [unescL]
 | 0,c :: d :: r,hn=>by simp at hn
 | n+1,c :: d :: r,hn=>by
  have i1:=unesc_len n r (by simp at hn;omega)
  have i2:=unesc_len n (d :: r) (by simp at hn ⊢;omega)
  rw [unescL]
  split
  ·simp;omega
  ·split
   ·simp;omega
   ·simp at i2 ⊢;omega
end Go.Proofs.YtoaafohpmhdjnaaGreatDoor.VT
namespace Go.Proofs.YtoaafohpmhdjnaaGreatDoor.VT
open Go.Proofs.YtoaafohpmhdjnaaGreatDoor.PVG
set_option linter.unusedVariables false
set_option linter.unusedSimpArgs false
inductive Tr where
 | mk (kind num:Int) (text:ByteArray) (names:List ByteArray) (kids:List Tr)
def Tr.kd:Tr→Int | .mk k _ _ _ _=>k
def Tr.nu:Tr→Int | .mk _ n _ _ _=>n
def Tr.tx:Tr→ByteArray | .mk _ _ t _ _=>t
def Tr.ns:Tr→List ByteArray | .mk _ _ _ n _=>n
def Tr.ks:Tr→List Tr | .mk _ _ _ _ k=>k
theorem Tr.ind {P:Tr→Prop} (h:∀ k n tx ns ks,(∀ t,t∈ks→P t)→P (.mk k n tx ns ks)):∀ t,P t:=by
 intro t
 refine Tr.rec (motive_1:=P) (motive_2:=fun ks=>∀ t,t∈ks→P t) ?_ ?_ ?_ t
 ·intro k n tx ns ks ih
  exact h k n tx ns ks ih
 ·intro t ht
  simp at ht
 ·intro a as_ ha has t ht
  rcases List.mem_cons.1 ht with rfl | ht
  ·exact ha
  ·exact has t ht
mutual
def cnt:Tr→Nat
 | .mk _ _ _ _ ks=>1+cntL ks
def cntL:List Tr→Nat
 | []=>0
 | t :: ts=>cnt t+cntL ts
end
def lt (a b:ByteArray):Bool:=Op.bytesLess a.toList b.toList
def emp (s:ByteArray):Bool:=decide (s.size=0)
def prt (s:ByteArray):Bool:=s.data.toList.all (fun c=>decide (32≤c.toNat)&&decide (c.toNat≤126))&&decide (s.size≤24)
def inB (n a b:Int):Bool:=decide (a≤n)&&decide (n≤b)
def holdsB (k:Int):Bool:=k==6 || k==7
def hN (k:Int):Nat:=if holdsB k=true then 1 else 0
theorem hN_t {k:Int} (h:holdsB k=true):hN k=1:=by simp [hN,h]
theorem hN_f {k:Int} (h:holdsB k=false):hN k=0:=by simp [hN,h]
mutual
def deep:Tr→Nat
 | .mk k _ _ _ ks=>deepL ks+hN k
def deepL:List Tr→Nat
 | []=>0
 | t :: ts=>max (deep t) (deepL ts)
end
def nil_:ByteArray:=⟨#[]⟩
mutual
def flat:Tr→ByteArray→Int→Nat→List S107
 | .mk kd nu tx ns ks,nm,up,k=>⟨kd,nu,tx,nm,up⟩ :: flatL ks (kd==7) ns k (k+1)
def flatL:List Tr→Bool→List ByteArray→Nat→Nat→List S107
 | [],_,_,_,_=>[]
 | t :: ts,m,ns,self,k=>flat t (if m then ns.headD nil_ else nil_) self k++flatL ts m ns.tail self (k+cnt t)
end
def nodeG (kd nu:Int) (tx:ByteArray):Bool:=inB kd 1 7&&(kd==4 || nu==0)&&inB nu (-1000000000) 1000000000&&(kd==5 || emp tx)&&prt tx
def rising:List ByteArray→Bool
 | a :: b :: r=>lt a b&&rising (b :: r)
 | _=>true
mutual
def wf:Tr→Bool
 | .mk kd nu tx ns ks=>nodeG kd nu tx&&(if kd==7 then decide (ns.length=ks.length)&&rising ns&&ns.all prt else ns.isEmpty)&&(holdsB kd || ks.isEmpty)&&wfL ks
def wfL:List Tr→Bool
 | []=>true
 | t :: ts=>wf t&&wfL ts
end
def nodeOK (x:S107) (up:Int):Bool:=nodeG x.f0 x.f1 x.f2&&(if up==7 then prt x.f3 else emp x.f3)
def lastLt (ns:List ByteArray) (s:ByteArray):Bool:=match ns.getLast? with
 | none=>true
 | some a=>lt a s
mutual
def par (l:List S107) (k:Nat) (up:Int):Option (Tr×Nat) :=
 if h:k < l.length then
  if nodeOK l[k] up then
   match parL l k l[k].f0 (k+1) [] [] with
   | none=>none
   | some (ns,ks,e)=>some (.mk l[k].f0 l[k].f1 l[k].f2 ns ks,e)
  else none
 else none
termination_by (l.length - k,0)
def parL (l:List S107) (k:Nat) (kd:Int) (e:Nat) (ns:List ByteArray) (ks:List Tr):Option (List ByteArray×List Tr×Nat) :=
 if h:e < l.length then
  if holdsB kd&&l[e].f4==(k:Int) then
   if kd==7&&!(lastLt ns l[e].f3) then none else
   match par l e kd with
   | none=>none
   | some (t,e')=>if h2:e < e' then parL l k kd e' (if kd==7 then ns++[l[e].f3] else ns) (ks++[t]) else none
  else some (ns,ks,e)
 else some (ns,ks,e)
termination_by (l.length - e,1)
end
def At (l:List S107) (k:Nat) (seg:List S107):Prop:=∀ j,j < seg.length→l[k+j]? = seg[j]?
theorem At.nil (l:List S107) (k:Nat):At l k []:=fun j h=>by simp at h
theorem At.app {l:List S107} {k:Nat} {a b:List S107}:At l k (a++b)↔At l k a∧At l (k+a.length) b:=by
 constructor
 ·intro h
  refine ⟨fun j hj=>?_,fun j hj=>?_⟩
  ·rw [h j (by simp;omega),List.getElem?_append_left hj]
  ·have:=h (a.length+j) (by simp;omega)
   rw [←Nat.add_assoc] at this
   rw [this,List.getElem?_append_right (by omega)]
   congr 1
   omega
 ·rintro ⟨h1,h2⟩ j hj
  by_cases hja:j < a.length
  ·rw [h1 j hja,List.getElem?_append_left hja]
  ·have:=h2 (j - a.length) (by simp at hj;omega)
   rw [List.getElem?_append_right (by omega),←this]
   congr 1
   omega
theorem At.one {l:List S107} {k:Nat} {x:S107}:At l k [x]↔l[k]? = some x:=by
 constructor
 ·intro h
  have:=h 0 (by simp)
  simpa using this
 ·intro h j hj
  have:j=0:=by simp at hj;omega
  subst this
  simpa using h
theorem At.cons {l:List S107} {k:Nat} {x:S107} {a:List S107}:At l k (x :: a)↔l[k]? = some x∧At l (k+1) a:=by
 have:=At.app (l:=l) (k:=k) (a:=[x]) (b:=a)
 rw [At.one] at this
 simpa using this
theorem At.self (l:List S107):At l 0 l:=fun j _=>by simp
theorem At.le {l:List S107} {k:Nat} {seg:List S107} (h:At l k seg) (h0:0 < seg.length):k+seg.length≤l.length:=by
 have:=h (seg.length - 1) (by omega)
 rw [List.getElem?_eq_getElem (by omega:seg.length - 1 < seg.length)] at this
 have:=(List.getElem?_eq_some_iff.1 this).1
 omega
theorem At.eq_of {l seg:List S107} (h:At l 0 seg) (he:seg.length=l.length):l=seg:=by
 apply List.ext_getElem?
 intro i
 by_cases hi:i < seg.length
 ·have:=h i hi
  simpa using this
 ·rw [List.getElem?_eq_none (by omega),List.getElem?_eq_none (by omega)]
mutual
theorem flat_len:∀ (t:Tr) (nm:ByteArray) (up:Int) (k:Nat),(flat t nm up k).length=cnt t
 | .mk kd nu tx ns ks,nm,up,k=>by
  simp only [flat,cnt,List.length_cons,flatL_len ks]
  omega
theorem flatL_len:∀ (ts:List Tr) (m:Bool) (ns:List ByteArray) (self k:Nat),(flatL ts m ns self k).length=cntL ts
 | [],_,_,_,_=>by simp [flatL,cntL]
 | t :: ts,m,ns,self,k=>by
  simp only [flatL,cntL,List.length_append,flat_len t,flatL_len ts]
end
theorem cnt_pos (t:Tr):0 < cnt t:=by
 cases t
 simp [cnt]
 omega
theorem cntL_append (a b:List Tr):cntL (a++b)=cntL a+cntL b:=by
 induction a with
 | nil=>simp [cntL]
 | cons t ts ih=>simp [cntL,ih];omega
theorem flatL_append:∀ (a b:List Tr) (m:Bool) (ns:List ByteArray) (self k:Nat),flatL (a++b) m ns self k=flatL a m ns self k++flatL b m (ns.drop a.length) self (k+cntL a)
 | [],b,m,ns,self,k=>by simp [flatL,cntL]
 | t :: ts,b,m,ns,self,k=>by
  simp only [List.cons_append,flatL,flatL_append ts,List.append_assoc,cntL,List.length_cons]
  have:ns.tail.drop ts.length=ns.drop (ts.length+1):=by rw [←List.drop_one,List.drop_drop];congr 1;omega
  rw [this,Nat.add_assoc]
theorem ups:∀ (t:Tr) (nm:ByteArray) (up:Int) (k j:Nat),0 < j→j < cnt t→∃ x,(flat t nm up k)[j]? = some x∧(k:Int)≤x.f4∧x.f4 < (k+j:Nat):=by
 intro t
 refine Tr.rec (motive_1:=fun t=>∀ (nm:ByteArray) (up:Int) (k j:Nat),0 < j→j < cnt t→∃ x,(flat t nm up k)[j]? = some x∧(k:Int)≤x.f4∧x.f4 < (k+j:Nat))
  (motive_2:=fun ts=>∀ (m:Bool) (ns:List ByteArray) (self k j:Nat),self < k→j < cntL ts→∃ x,(flatL ts m ns self k)[j]? = some x∧(x.f4=(self:Int)∨(k:Int)≤x.f4)∧x.f4 < (k+j:Nat)) ?_ ?_ ?_ t
 ·intro kd nu tx ns ks ih nm up k j hj hc
  simp only [cnt] at hc
  obtain ⟨x,h1,h2,h3⟩:=ih (kd==7) ns k (k+1) (j - 1) (by omega) (by omega)
  refine ⟨x,?_,by rcases h2 with h2 | h2 <;> omega,by omega⟩
  rw [flat,List.getElem?_cons,if_neg (by omega)]
  exact h1
 ·intro m ns self k j hs hc
  simp [cntL] at hc
 ·intro t ts iht ihts m ns self k j hs hc
  rw [flatL]
  by_cases hj:j < cnt t
  ·rw [List.getElem?_append_left (by rw [flat_len];exact hj)]
   by_cases h0:j=0
   ·subst h0
    cases t
    exact ⟨_,by rw [flat];rfl,.inl rfl,by simp;omega⟩
   ·obtain ⟨x,h1,h2,h3⟩:=iht (if m then ns.headD nil_ else nil_) self k j (by omega) hj
    exact ⟨x,h1,.inr h2,h3⟩
  ·rw [List.getElem?_append_right (by rw [flat_len];omega),flat_len]
   simp only [cntL] at hc
   obtain ⟨x,h1,h2,h3⟩:=ihts m ns.tail self (k+cnt t) (j - cnt t) (by omega) (by omega)
   exact ⟨x,h1,by rcases h2 with h2 | h2 <;> omega,by omega⟩
end Go.Proofs.YtoaafohpmhdjnaaGreatDoor.VT
