import Derived.Test.YtoaafohpmhdjnaaGreatDoorPIYLA
import Derived.Test.YtoaafohpmhdjnaaGreatDoorPIVCA
import Derived.Test.YtoaafohpmhdjnaaGreatDoorPIVWA
/- Paths of all parts, plain. Conditions: none. -/
namespace Go.Proofs.YtoaafohpmhdjnaaGreatDoor.VT
open Go.RowKit Go.Proofs.YtoaafohpmhdjnaaGreatDoor.RX Go.Proofs.YtoaafohpmhdjnaaGreatDoor.RY Go.Proofs.YtoaafohpmhdjnaaGreatDoor.PVG Go.Proofs.YtoaafohpmhdjnaaGreatDoorW.PrintWords Go.Proofs.YtoaafohpmhdjnaaGreatDoorW.PrintLast Go.Proofs.YtoaafohpmhdjnaaGreatDoorW.PrintMore
set_option linter.unusedVariables false
set_option linter.unusedSimpArgs false
def nmP (m:Bool) (ns:List ByteArray) (i:Nat):ByteArray:=if m then escB (ns.headD nil_) else ofL (Lib.decDigits i)
mutual
def pathsT:Tr→ByteArray→List ByteArray
 | .mk kd _ _ ns ks,p=>p :: pathsL ks (kd==7) ns 0 p
def pathsL:List Tr→Bool→List ByteArray→Nat→ByteArray→List ByteArray
 | [],_,_,_,_=>[]
 | t :: ts,m,ns,i,p=>pathsT t (p++(⟨#[47]⟩:ByteArray)++nmP m ns i)++pathsL ts m ns.tail (i+1) p
end
theorem pathsL_append:∀ (a b:List Tr) (m:Bool) (ns:List ByteArray) (i:Nat) (p:ByteArray),pathsL (a++b) m ns i p=pathsL a m ns i p++pathsL b m (ns.drop a.length) (i+a.length) p
 | [],b,m,ns,i,p=>by simp [pathsL]
 | t :: ts,b,m,ns,i,p=>by
  simp only [List.cons_append,pathsL,pathsL_append ts,List.append_assoc,List.length_cons]
  have:ns.tail.drop ts.length=ns.drop (ts.length+1):=by rw [←List.drop_one,List.drop_drop];congr 1;omega
  rw [this,show i+1+ts.length=i+(ts.length+1) by omega]
theorem pathsL_take {ks:List Tr} {m:Bool} {ns:List ByteArray} {p:ByteArray} {i:Nat} (h:i < ks.length) :
  pathsL (ks.take (i+1)) m ns 0 p=pathsL (ks.take i) m ns 0 p++pathsT ks[i] (p++(⟨#[47]⟩:ByteArray)++nmP m (ns.drop i) i):=by
 rw [List.take_succ_eq_append_getElem h,pathsL_append,pathsL,pathsL,List.append_nil,List.length_take,Nat.min_eq_left (by omega),Nat.zero_add]
mutual
theorem pathsT_len:∀ (t:Tr) (p:ByteArray),(pathsT t p).length=cnt t
 | .mk kd nu tx ns ks,p=>by rw [pathsT,cnt,List.length_cons,pathsL_len ks];omega
theorem pathsL_len:∀ (ks:List Tr) (m:Bool) (ns:List ByteArray) (i:Nat) (p:ByteArray),(pathsL ks m ns i p).length=cntL ks
 | [],_,_,_,_=>rfl
 | t :: ts,m,ns,i,p=>by rw [pathsL,List.length_append,pathsT_len t,pathsL_len ts,cntL]
end
theorem spE_le:∀ l,spE l≤l.length
 | []=>by simp [spE]
 | c :: l=>by
  have:=spE_le l
  unfold spE
  simp only [List.length_cons]
  split <;> omega
theorem escB_size (x:ByteArray):(escB x).size≤2 * x.size:=by
 have h1:=escL_len x.data.toList
 have h2:=spE_le x.data.toList
 have h3:x.data.toList.length=x.size:=Array.length_toList
 have h4:(escB x).size=(escL x.data.toList).length:=by unfold escB;simp [ByteArray.size]
 omega
theorem dec_len:∀ (f u:Nat),u≤f→u < 1000000000000→(Lib.decDigits u).length≤12
 | f,u,_,hu=>by
  have h0:∀ u,u < 10→(Lib.decDigits u).length≤1:=fun u h=>by rw [Lib.decDigits,dif_pos h];simp
  have st:∀ (m n:Nat),(∀ u,u < n→(Lib.decDigits u).length≤m)→∀ u,u < 10 * n→(Lib.decDigits u).length≤m+1:=fun m n h u hu=>by
   rw [Lib.decDigits]
   by_cases h9:u < 10
   ·rw [dif_pos h9];simp
   ·rw [dif_neg h9,List.length_append]
    have:=h (u / 10) (by omega)
    simp;omega
  exact st _ _ (st _ _ (st _ _ (st _ _ (st _ _ (st _ _ (st _ _ (st _ _ (st _ _ (st _ _ (st _ _ h0)))))))))) u (by omega)
theorem nmP_size (m:Bool) (ns:List ByteArray) (i:Nat) (hn:∀ s,s∈ns→prt s=true) (hi:i < 1000000000000):(nmP m ns i).size≤48:=by
 unfold nmP
 cases m with
 | true =>
  rw [if_pos rfl]
  have h1:=escB_size (ns.headD nil_)
  have:(ns.headD nil_).size≤24:=by
   cases ns with
   | nil=>simp [nil_];decide
   | cons a r=>exact prt_size (hn a (List.mem_cons_self ..))
  omega
 | false =>
  rw [if_neg (by decide),ofL_size]
  have:=dec_len i i (Nat.le_refl _) hi
  omega
def textP (l:List ByteArray):ByteArray:=l.foldl (fun p n=>p++(⟨#[47]⟩:ByteArray)++escB n) nil_
theorem textP_snoc (l:List ByteArray) (n:ByteArray):textP (l++[n])=textP l++(⟨#[47]⟩:ByteArray)++escB n:=by
 unfold textP;rw [List.foldl_append];rfl
theorem esc_dig:∀ (f u:Nat),u≤f→escL (Lib.decDigits u)=Lib.decDigits u
 | f,u,hf=>by
  have app:∀ (l:List UInt8) (d:Nat),d < 10→escL (l++[UInt8.ofNat (48+d)])=escL l++[UInt8.ofNat (48+d)]:=by
   intro l d hd
   have hne:∀ k:Nat,(k=126∨k=47)→¬UInt8.ofNat (48+d)=UInt8.ofNat k:=fun k hk e=>by
    have h1:=digit_nat hd
    rw [e,UInt8.toNat_ofNat'] at h1
    omega
   have h126:¬UInt8.ofNat (48+d)=126:=hne 126 (.inl rfl)
   have h47:¬UInt8.ofNat (48+d)=47:=hne 47 (.inr rfl)
   induction l with
   | nil=>simp only [List.nil_append,escL];rw [if_neg h126,if_neg h47]
   | cons c l ih =>
    simp only [List.cons_append,escL]
    split
    ·rw [ih];rfl
    ·split <;> (rw [ih];rfl)
  have one:∀ d:Nat,d < 10→escL [UInt8.ofNat (48+d)]=[UInt8.ofNat (48+d)]:=fun d hd=>app [] d hd
  rw [Lib.decDigits]
  by_cases h:u < 10
  ·rw [dif_pos h];exact one u h
  ·rw [dif_neg h]
   cases f with
   | zero=>omega
   | succ f=>rw [app _ _ (by omega),esc_dig f (u / 10) (by omega)]
theorem esc_num (i:Nat):escB (ofL (Lib.decDigits i))=ofL (Lib.decDigits i):=by
 unfold escB ofL
 simp only []
 rw [esc_dig i i (Nat.le_refl _)]
theorem nmP_esc (m:Bool) (ns:List ByteArray) (i:Nat):nmP m ns i=escB (if m then ns.headD nil_ else ofL (Lib.decDigits i)):=by
 unfold nmP
 cases m with
 | true=>rfl
 | false=>exact (esc_num i).symm
end Go.Proofs.YtoaafohpmhdjnaaGreatDoor.VT
