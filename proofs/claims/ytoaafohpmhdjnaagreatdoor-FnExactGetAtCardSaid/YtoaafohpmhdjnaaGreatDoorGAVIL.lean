import Derived.Test.YtoaafohpmhdjnaaGreatDoorGAVTN
import Derived.Test.YtoaafohpmhdjnaaGreatDoorGAPVGx0
import Derived.Test.YtoaafohpmhdjnaaGreatDoorGAYLA
import Derived.Test.YtoaafohpmhdjnaaGreatDoorGAVTR
import Derived.Test.YtoaafohpmhdjnaaGreatDoorGAVTG
import Derived.Test.YtoaafohpmhdjnaaGreatDoorGAVPB
import Derived.Test.YtoaafohpmhdjnaaGreatDoorGAPVGx6
import Derived.Test.YtoaafohpmhdjnaaGreatDoorGAPVGx2
import Derived.Test.YtoaafohpmhdjnaaGreatDoorGAVIQ
/- What cleaning leaves of a right tree: a right tree, no deeper, no longer. Conditions: right trees. -/
namespace Go.Proofs.YtoaafohpmhdjnaaGreatDoor.VT
open Go.RowKit Go.Proofs.YtoaafohpmhdjnaaGreatDoor.PVG Go.Proofs.YtoaafohpmhdjnaaGreatDoorW.PrintWords
set_option linter.unusedVariables false
set_option linter.unusedSimpArgs false
theorem less_trans:∀ a b c:List UInt8,Op.bytesLess a b=true→Op.bytesLess b c=true→Op.bytesLess a c=true
 | _,[],c,h,_=>by cases ‹List UInt8› <;> simp [Op.bytesLess] at h
 | [],y :: b,[],_,k=>by simp [Op.bytesLess] at k
 | [],y :: b,z :: c,_,_=>by simp [Op.bytesLess]
 | x :: a,y :: b,[],_,k=>by simp [Op.bytesLess] at k
 | x :: a,y :: b,z :: c,h,k=>by
  simp only [Op.bytesLess,Bool.or_eq_true,Bool.and_eq_true,decide_eq_true_eq,beq_iff_eq] at h k ⊢
  rcases h with h | ⟨h1,h2⟩
  ·rcases k with k | ⟨k1,k2⟩
   ·exact .inl (UInt8.lt_trans h k)
   ·subst k1;exact .inl h
  ·subst h1
   rcases k with k | ⟨k1,k2⟩
   ·exact .inl k
   ·exact .inr ⟨k1,less_trans a b c h2 k2⟩
theorem lt_tr {a b c:ByteArray} (h:lt a b=true) (k:lt b c=true):lt a c=true:=less_trans _ _ _ h k
theorem rising_cons {a:ByteArray} {ns:List ByteArray}:rising (a :: ns)=true↔(∀ s,s∈ns→lt a s=true)∧rising ns=true:=by
 induction ns generalizing a with
 | nil=>simp [rising]
 | cons b r ih =>
  have e:rising (a :: b :: r)=(lt a b&&rising (b :: r)):=rfl
  rw [e,Bool.and_eq_true]
  constructor
  ·rintro ⟨h1,h2⟩
   refine ⟨fun s hs=>?_,h2⟩
   rcases List.mem_cons.1 hs with rfl | hs
   ·exact h1
   ·exact lt_tr h1 ((ih.1 h2).1 s hs)
  ·rintro ⟨h1,h2⟩
   exact ⟨h1 b (List.mem_cons_self ..),h2⟩
theorem cleanN_mem:∀ (ks:List Tr) (ns:List ByteArray),ns.length=ks.length→∀ s,s∈cleanN ks ns→s∈ns
 | [],ns,_,s,h=>by simp [cleanN] at h
 | t :: ts,[],h,_,_=>by simp at h
 | t :: ts,a :: r,h,s,hs=>by
  rw [cleanN,List.tail_cons,List.headD_cons] at hs
  by_cases h1:t.kd=1
  ·rw [if_pos h1] at hs
   exact List.mem_cons_of_mem _ (cleanN_mem ts r (by simpa using h) s hs)
  ·rw [if_neg h1] at hs
   rcases List.mem_cons.1 hs with rfl | hs
   ·exact List.mem_cons_self ..
   ·exact List.mem_cons_of_mem _ (cleanN_mem ts r (by simpa using h) s hs)
theorem cleanN_rising:∀ (ks:List Tr) (ns:List ByteArray),ns.length=ks.length→rising ns=true→rising (cleanN ks ns)=true
 | [],ns,_,_=>by simp [cleanN,rising]
 | t :: ts,[],h,_=>by simp at h
 | t :: ts,a :: r,h,hr=>by
  obtain ⟨h1,h2⟩:=rising_cons.1 hr
  have ih:=cleanN_rising ts r (by simpa using h) h2
  rw [cleanN,List.tail_cons,List.headD_cons]
  by_cases h7:t.kd=1
  ·rw [if_pos h7];exact ih
  ·rw [if_neg h7,rising_cons]
   exact ⟨fun s hs=>h1 s (cleanN_mem ts r (by simpa using h) s hs),ih⟩
theorem partsL_first (ts:List Tr) (m:Bool) (ns:List ByteArray):(partsL ts m true ns).length≤(partsL ts m false ns).length:=by
 cases ts with
 | nil=>simp [partsL]
 | cons t ts=>simp [partsL]
mutual
theorem clean_text:∀ t:Tr,wf t=true→(textL (cleanT t)).length≤(textL t).length
 | .mk kd nu tx ns ks,h=>by
  rw [cleanT]
  by_cases h7:kd=7
  ·subst h7
   have hw:=wf1 h
   have:=cleanK_text ks ns true (hw.hlen rfl) hw.hks
   rw [if_pos rfl]
   simp only [textL]
   simpa using this
  ·rw [if_neg h7];exact Nat.le_refl _
theorem cleanK_text:∀ (ks:List Tr) (ns:List ByteArray) (first:Bool),ns.length=ks.length→wfL ks=true→(partsL (cleanK ks) true first (cleanN ks ns)).length≤(partsL ks true first ns).length
 | [],ns,first,_,_=>by simp [cleanK,partsL]
 | t :: ts,[],first,h,_=>by simp at h
 | t :: ts,a :: r,first,h,hw=>by
  rw [wfL,Bool.and_eq_true] at hw
  have h1:=clean_text t hw.1
  have hl:r.length=ts.length:=by simpa using h
  rw [cleanK,cleanN,List.tail_cons,List.headD_cons]
  by_cases hk:t.kd=1
  ·rw [if_pos hk,if_pos hk]
   refine Nat.le_trans (cleanK_text ts r first hl hw.2) ?_
   have:=partsL_first ts true r
   rw [partsL.eq_2]
   simp only [List.length_append,List.tail_cons]
   cases first with
   | true=>omega
   | false=>omega
  ·rw [if_neg hk,if_neg hk]
   have h2:=cleanK_text ts r false hl hw.2
   simp only [partsL,List.length_append,List.headD_cons,List.tail_cons]
   omega
end
mutual
theorem clean_deep:∀ t:Tr,deep (cleanT t)≤deep t
 | .mk kd nu tx ns ks=>by
  rw [cleanT]
  by_cases h7:kd=7
  ·subst h7
   have:=cleanK_deep ks
   rw [if_pos rfl]
   simp only [deep]
   omega
  ·rw [if_neg h7];exact Nat.le_refl _
theorem cleanK_deep:∀ ks:List Tr,deepL (cleanK ks)≤deepL ks
 | []=>by simp [cleanK]
 | t :: ts=>by
  have h1:=clean_deep t
  have h2:=cleanK_deep ts
  rw [cleanK]
  by_cases hk:t.kd=1
  ·rw [if_pos hk];simp only [deepL];omega
  ·rw [if_neg hk];simp only [deepL];omega
end
mutual
theorem clean_wf:∀ t:Tr,wf t=true→wf (cleanT t)=true
 | .mk kd nu tx ns ks,h=>by
  rw [cleanT]
  by_cases h7:kd=7
  ·subst h7
   have hw:=wf1 h
   rw [wf] at h
   simp only [Bool.and_eq_true] at h
   have h2:=h.1.1.2
   rw [if_pos (by decide)] at h2
   simp only [Bool.and_eq_true,decide_eq_true_eq] at h2
   have hl:=h2.1.1
   rw [if_pos rfl,wf]
   have e1:nodeG 7 0 nil_=true:=by decide
   have e2:(holdsB 7 || (cleanK ks).isEmpty)=true:=by simp [holdsB]
   have e3:(cleanN ks ns).length=(cleanK ks).length:=cleanN_lenK ks ns hl
   have e4:(cleanN ks ns).all prt=true:=by
    rw [List.all_eq_true]
    intro s hs
    exact (List.all_eq_true.1 h2.2) s (cleanN_mem ks ns hl s hs)
   rw [e1,e2,cleanK_wf ks h.2,cleanN_rising ks ns hl h2.1.2,e4]
   simp [e3]
  ·rw [if_neg h7];exact h
theorem cleanK_wf:∀ ks:List Tr,wfL ks=true→wfL (cleanK ks)=true
 | [],_=>by simp [cleanK,wfL]
 | t :: ts,h=>by
  rw [wfL,Bool.and_eq_true] at h
  rw [cleanK]
  by_cases hk:t.kd=1
  ·rw [if_pos hk];exact cleanK_wf ts h.2
  ·rw [if_neg hk,wfL,clean_wf t h.1,cleanK_wf ts h.2];rfl
theorem cleanN_lenK:∀ (ks:List Tr) (ns:List ByteArray),ns.length=ks.length→(cleanN ks ns).length=(cleanK ks).length
 | [],ns,_=>by simp [cleanN,cleanK]
 | t :: ts,[],h=>by simp at h
 | t :: ts,a :: r,h=>by
  have:=cleanN_lenK ts r (by simpa using h)
  rw [cleanN,cleanK,List.tail_cons]
  by_cases hk:t.kd=1
  ·rw [if_pos hk,if_pos hk];exact this
  ·rw [if_neg hk,if_neg hk];simp [this]
end
mutual
theorem clean_cnt:∀ t:Tr,cnt (cleanT t)≤cnt t
 | .mk kd nu tx ns ks=>by
  rw [cleanT]
  by_cases h7:kd=7
  ·subst h7
   have:=cleanK_cnt ks
   rw [if_pos rfl]
   simp only [cnt]
   omega
  ·rw [if_neg h7];exact Nat.le_refl _
theorem cleanK_cnt:∀ ks:List Tr,cntL (cleanK ks)≤cntL ks
 | []=>by simp [cleanK]
 | t :: ts=>by
  have h1:=clean_cnt t
  have h2:=cleanK_cnt ts
  rw [cleanK]
  by_cases hk:t.kd=1
  ·rw [if_pos hk];simp only [cntL];omega
  ·rw [if_neg hk];simp only [cntL];omega
end
end Go.Proofs.YtoaafohpmhdjnaaGreatDoor.VT
namespace Go.Proofs.YtoaafohpmhdjnaaGreatDoor.VT
open Go.RowKit Go.Proofs.YtoaafohpmhdjnaaGreatDoor.PVG Go.Proofs.YtoaafohpmhdjnaaGreatDoorW.PrintWords
set_option linter.unusedVariables false
set_option linter.unusedSimpArgs false
theorem bsG_spec2 (less:Nat→Bool) (k n:Nat) (h1:∀ t,t < k→less t=true) (h2:∀ t,k≤t→t < n→less t=false):∀ (f lo hi:Nat),hi≤n→hi - lo≤f→lo≤k→k≤hi→bsG less f lo hi=k
 | 0,lo,hi,hn,hf,a,b=>by simp [bsG];omega
 | f+1,lo,hi,hn,hf,a,b=>by
  unfold bsG
  by_cases h:lo < hi
  ·rw [if_pos h]
   by_cases hm:(lo+hi) / 2 < k
   ·rw [h1 _ hm,if_pos rfl];exact bsG_spec2 less k n h1 h2 f _ _ hn (by omega) (by omega) b
   ·rw [h2 _ (by omega) (by omega),if_neg (by simp)];exact bsG_spec2 less k n h1 h2 f _ _ (by omega) (by omega) a (by omega)
  ·rw [if_neg h];omega
theorem less_irr:∀ a:List UInt8,Op.bytesLess a a=false
 | []=>rfl
 | x :: a=>by
  have:=less_irr a
  simp [Op.bytesLess,this]
theorem cut_ex (s:ByteArray):∀ ns:List ByteArray,rising ns=true→∃ k,k≤ns.length∧(∀ t,t < k→lessAt ns s t=true)∧(∀ t,k≤t→t < ns.length→lessAt ns s t=false)
 | [],_=>⟨0,Nat.le_refl _,fun t h=>by omega,fun t _ h=>by simp at h⟩
 | a :: ns,h=>by
  obtain ⟨h1,h2⟩:=rising_cons.1 h
  cases ha:lt a s with
  | true =>
   obtain ⟨k,hk,p1,p2⟩:=cut_ex s ns h2
   refine ⟨k+1,by simpa using hk,fun t ht=>?_,fun t h3 h4=>?_⟩
   ·cases t with
    | zero=>exact ha
    | succ t=>exact p1 t (by omega)
   ·cases t with
    | zero=>omega
    | succ t=>exact p2 t (by omega) (by simpa using h4)
  | false =>
   refine ⟨0,Nat.zero_le _,fun t h=>by omega,fun t _ h4=>?_⟩
   cases t with
   | zero=>exact ha
   | succ t =>
    have hm:ns.getD t nil_∈ns:=by
     have:t < ns.length:=by simpa using h4
     rw [List.getD_eq_getElem?_getD,List.getElem?_eq_getElem this]
     exact List.getElem_mem this
    cases hx:lessAt (a :: ns) s (t+1) with
    | false=>rfl
    | true =>
     have h5:lt (ns.getD t nil_) s=true:=hx
     rw [lt_tr (h1 _ hm) h5] at ha
     cases ha
theorem bs_cut {ns:List ByteArray} {s:ByteArray} (h:rising ns=true):bsI ns s≤ns.length∧(∀ t,t < bsI ns s→lt (ns.getD t nil_) s=true)∧(∀ t,bsI ns s≤t→t < ns.length→lt (ns.getD t nil_) s=false):=by
 obtain ⟨k,hk,p1,p2⟩:=cut_ex s ns h
 have e:bsI ns s=k:=bsG_spec2 _ k ns.length p1 p2 _ _ _ (Nat.le_refl _) (by omega) (Nat.zero_le _) hk
 rw [e]
 exact ⟨hk,p1,p2⟩
theorem rising_at:∀ {ns:List ByteArray},rising ns=true→∀ i j,i < j→j < ns.length→lt (ns.getD i nil_) (ns.getD j nil_)=true
 | [],_,i,j,_,hj=>by simp at hj
 | a :: ns,h,i,j,hij,hj=>by
  obtain ⟨h1,h2⟩:=rising_cons.1 h
  cases j with
  | zero=>omega
  | succ j =>
   have hl:j < ns.length:=by simpa using hj
   cases i with
   | zero =>
    refine h1 _ ?_
    show ns.getD j nil_∈ns
    rw [List.getD_eq_getElem?_getD,List.getElem?_eq_getElem hl]
    exact List.getElem_mem hl
   | succ i=>exact rising_at h2 i j (by omega) hl
theorem str_eq {a b:ByteArray} (h:a.toList=b.toList):lt a b=false:=by
 unfold lt
 rw [h]
 exact less_irr _
theorem str_ne {a b:ByteArray} (h:lt a b=true):a.toList≠b.toList:=fun e=>by rw [str_eq e] at h;cases h
theorem bs_yes {ns:List ByteArray} {s:ByteArray} (h:rising ns=true) (hb:bsB ns s=true):bsI ns s < ns.length∧(ns.getD (bsI ns s) nil_).toList=s.toList∧∀ t,t < bsI ns s→(ns.getD t nil_).toList≠s.toList:=by
 unfold bsB at hb
 simp only [Bool.and_eq_true,decide_eq_true_eq,beq_iff_eq] at hb
 exact ⟨hb.1,hb.2,fun t ht=>str_ne ((bs_cut h).2.1 t ht)⟩
theorem bs_no {ns:List ByteArray} {s:ByteArray} (h:rising ns=true) (hb:bsB ns s=false):∀ t,t < ns.length→(ns.getD t nil_).toList≠s.toList:=by
 intro t ht e
 obtain ⟨c1,c2,c3⟩:=bs_cut (s:=s) h
 rcases Nat.lt_trichotomy t (bsI ns s) with h1 | h1 | h1
 ·exact str_ne (c2 t h1) e
 ·unfold bsB at hb
  rw [←h1,e] at hb
  simp [ht] at hb
 ·have h2:=rising_at h (bsI ns s) t h1 ht
  have h3:=c3 (bsI ns s) (Nat.le_refl _) (by omega)
  have h4:lt (ns.getD (bsI ns s) nil_) s=true:=by
   unfold lt at h2 ⊢
   rw [←e]
   exact h2
  rw [h3] at h4
  cases h4
end Go.Proofs.YtoaafohpmhdjnaaGreatDoor.VT
namespace Go.Proofs.YtoaafohpmhdjnaaGreatDoor.VT
open Go.RowKit Go.Proofs.YtoaafohpmhdjnaaGreatDoor.PVG Go.Proofs.YtoaafohpmhdjnaaGreatDoorW.PrintWords
set_option linter.unusedVariables false
set_option linter.unusedSimpArgs false
theorem fstI_yes (s:ByteArray):∀ (ns:List ByteArray) (i j:Nat),j < ns.length→(ns.getD j nil_).toList=s.toList→(∀ t,t < j→(ns.getD t nil_).toList≠s.toList)→fstI s ns i=((i+j:Nat):Int)
 | [],i,j,h,_,_=>by simp at h
 | a :: ns,i,0,h,e,_=>by
  rw [fstI,if_pos (by simpa using e)];rfl
 | a :: ns,i,j+1,h,e,p=>by
  have h0:=p 0 (by omega)
  rw [fstI,if_neg (by simpa using h0),fstI_yes s ns (i+1) j (by simpa using h) e (fun t ht=>p (t+1) (by omega))]
  congr 1
  omega
theorem fstI_no (s:ByteArray):∀ (ns:List ByteArray) (i:Nat),(∀ t,t < ns.length→(ns.getD t nil_).toList≠s.toList)→fstI s ns i = -1
 | [],i,_=>rfl
 | a :: ns,i,p=>by
  have h0:=p 0 (by simp)
  rw [fstI,if_neg (by simpa using h0),fstI_no s ns (i+1) (fun t ht=>p (t+1) (by simpa using ht))]
theorem rd_toS {ks:List Tr} {i:Nat} {u:Tr} (h:ks[i]? = some u):rd_T89 (toSL ks) (i:Int)=toS u:=by
 unfold rd_T89
 rw [toSL_map,Int.toNat_natCast,List.getD_eq_getElem?_getD,List.getElem?_map,h]
 rfl
theorem wf_map {t:Tr} (hw:wf t=true) (h7:t.kd=7):t.ns.length=t.ks.length∧rising t.ns=true:=by
 cases t with
 | mk kd nu tx ns ks =>
  obtain rfl:kd=7:=h7
  rw [wf] at hw
  simp only [Bool.and_eq_true,beq_self_eq_true,if_true,decide_eq_true_eq] at hw
  exact ⟨hw.1.1.2.1.1,hw.1.1.2.1.2⟩
end Go.Proofs.YtoaafohpmhdjnaaGreatDoor.VT
