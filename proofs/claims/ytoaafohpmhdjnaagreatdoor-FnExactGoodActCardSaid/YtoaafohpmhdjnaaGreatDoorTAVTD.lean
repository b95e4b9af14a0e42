import Derived.Test.YtoaafohpmhdjnaaGreatDoorTAVTC
import Derived.Test.YtoaafohpmhdjnaaGreatDoorTAPVGx0
/- The reference's look and the reading as a tree say the same. Conditions: none. -/
namespace Go.Proofs.YtoaafohpmhdjnaaGreatDoor.VT
open Go.Proofs.YtoaafohpmhdjnaaGreatDoor.PVG
set_option linter.unusedVariables false
set_option linter.unusedSimpArgs false
theorem prt_nil:prt nil_=true:=by decide
theorem emp_nil:emp nil_=true:=by decide
theorem badN_iff (x:S107):badN x=false↔(nodeG x.f0 x.f1 x.f2=true∧prt x.f3=true):=by
 unfold badN nodeG
 cases inB x.f0 1 7 <;> cases inB x.f1 (-1000000000) 1000000000 <;> cases prt x.f2 <;> cases prt x.f3 <;> cases emp x.f2 <;> by_cases h4:x.f0=4 <;> by_cases h5:x.f0=5 <;> by_cases h1:x.f1=0 <;> simp [h4,h5,h1]
theorem Ch.le {l:List S107} {a u:Int} (h:Ch l a u) (hd:∀ j:Nat,(j:Int)≤a→(nd l j).f4 < j):u≤a:=by
 induction h with
 | here a=>exact Int.le_refl _
 | up a u h0 h ih =>
  have:=hd a.toNat (by omega)
  have:=ih (fun j hj=>hd j (by omega))
  omega
theorem Ch.out {l:List S107} {c e:Nat} {a u:Int} (h:Ch l a u) (h1:(c:Int)≤a) (h2:a < e) (hin:∀ j:Nat,c < j→j < e→(c:Int)≤(nd l j).f4∧(nd l j).f4 < j) (hu:u < c):Ch l (nd l c).f4 u:=by
 induction h with
 | here a=>omega
 | up a u h0 h ih =>
  by_cases e:a=c
  ·subst e
   simpa using h
  ·have:=hin a.toNat (by omega) (by omega)
   exact ih (by omega) (by omega) hu
theorem Ch.in_ {l:List S107} {k e:Nat} (hin:∀ j:Nat,k < j→j < e→(k:Int)≤(nd l j).f4∧(nd l j).f4 < j):∀ (n:Nat) (a:Int),a.toNat≤n→(k:Int)≤a→a < e→Ch l a k:=by
 intro n
 induction n with
 | zero =>
  intro a h1 h2 h3
  have:a=k:=by omega
  subst this
  exact .here _
 | succ n ih =>
  intro a h1 h2 h3
  by_cases e:a=k
  ·subst e;exact .here _
  ·have:=hin a.toNat (by omega) (by omega)
   exact .up a k (by omega) (ih _ (by omega) (by omega) (by omega))
def upk (l:List S107) (k:Nat):Int:=if k=0 then 0 else (nd l (nd l k).f4.toNat).f0
theorem Cond.nodeOK_ {l:List S107} {k:Nat} (h:Cond l k):nodeOK (nd l k) (upk l k)=true:=by
 obtain ⟨g1,g2⟩:=(badN_iff _).1 h.good
 unfold nodeOK upk
 rw [g1]
 by_cases h0:k=0
 ·have:=(h.root h0).2
  simp [h0] at this ⊢
  exact this
 ·rw [if_neg h0]
  by_cases h7:(nd l (nd l k).f4.toNat).f0=7
  ·simp [h7,g2]
  ·have:=h.none (by omega) h7
   simp [h7,this]
theorem par_of_cond {l:List S107} (hc:∀ j,j < l.length→Cond l j):∀ n,
  (∀ k,2 * (l.length - k)≤n→k < l.length→∃ t e,par l k (upk l k)=some (t,e)∧(∀ j,k < j→j < e→(k:Int)≤(nd l j).f4)∧(e < l.length→(nd l e).f4 < (k:Int))) ∧
  (∀ k e ns ks,2 * (l.length - e)+1≤n→k < e→e≤l.length→(∀ j,k < j→j < e→(k:Int)≤(nd l j).f4)→(e < l.length→(nd l e).f4≤(k:Int))→((nd l k).f0=7→∀ s,ns.getLast? = some s→∃ c,Prev l (k:Int) e c∧s=(nd l c).f3) →
   ∃ ns' ks' e',parL l k (nd l k).f0 e ns ks=some (ns',ks',e')∧(∀ j,k < j→j < e'→(k:Int)≤(nd l j).f4)∧(e' < l.length→(nd l e').f4 < (k:Int))):=by
 intro n
 have hlt:∀ j,0 < j→j < l.length→(nd l j).f4 < j:=fun j h0 hj=>(hc j hj).lt h0
 induction n with
 | zero=>exact ⟨fun k h1 h2=>by omega,fun k e ns ks h1=>by omega⟩
 | succ n ih =>
  obtain ⟨ih1,ih2⟩:=ih
  refine ⟨fun k hn hk=>?_,fun k e ns ks hn hke he hin hend hlast=>?_⟩
  ·obtain ⟨ns',ks',e',h1,h2,h3⟩:=ih2 k (k+1) [] [] (by omega) (by omega) (by omega) (fun j h1 h2=>by omega) (fun h=>by
    have hw:=(hc (k+1) h).way (by omega)
    have:=hw.le (fun j hj=>by
     by_cases e0:j=0
     ·subst e0;have:=((hc 0 (by omega)).root rfl).1;omega
     ·exact hlt j (by omega) (by omega))
    omega) (fun _ s h=>by simp at h)
   refine ⟨.mk (nd l k).f0 (nd l k).f1 (nd l k).f2 ns' ks',e',?_,h2,h3⟩
   rw [par,dif_pos hk,getD_at hk,if_pos (hc k hk).nodeOK_,h1]
  ·rw [parL]
   by_cases hel:e < l.length
   ·rw [dif_pos hel,getD_at hel]
    have hce:=hc e hel
    by_cases hu:(nd l e).f4=(k:Int)
    ·have hh:holdsB (nd l k).f0=true:=by
      have:=hce.holds (by omega)
      rw [hu] at this
      simpa using this
     rw [if_pos (by rw [hh,hu];simp)]
     have hll:((nd l k).f0==7&&!lastLt ns (nd l e).f3)=false:=by
      by_cases h7:(nd l k).f0=7
      ·simp only [h7,beq_self_eq_true,Bool.true_and,Bool.not_eq_false']
       unfold lastLt
       cases hg:ns.getLast? with
       | none=>rfl
       | some s =>
        obtain ⟨c,hp,rfl⟩:=hlast h7 s hg
        exact hce.rise (by omega) (by rw [hu];simpa using h7) c (by rw [hu];exact hp)
      ·have:((nd l k).f0==7)=false:=by simpa using h7
       rw [this];rfl
     rw [if_neg (by rw [hll];simp)]
     obtain ⟨t,e1,p1,p2,p3⟩:=ih1 e (by omega) hel
     have hupk:upk l e=(nd l k).f0:=by unfold upk;rw [if_neg (by omega),hu];simp
     rw [hupk] at p1
     have hee:=par_lt _ _ _ _ _ (Nat.le_refl _) p1
     have hle:=(par_read p1).le
     rw [p1]
     simp only
     rw [dif_pos hee]
     refine ih2 k e1 _ _ (by omega) (by omega) hle (fun j h1 h2=>?_) (fun h=>?_) (fun h7 s hs=>?_)
     ·by_cases c1:j < e
      ·exact hin j h1 c1
      ·by_cases c2:j=e
       ·subst c2;omega
       ·have:=p2 j (by omega) h2;omega
     ·have hw:=(hc e1 h).way (by omega)
      have:=p3 h
      have hw2:=hw.out (c:=e) (e:=e1) (by omega) (by omega) (fun j h1 h2=>⟨p2 j h1 h2,hlt j (by omega) (by omega)⟩) this
      rw [hu] at hw2
      exact hw2.le (fun j hj=>by
       by_cases e0:j=0
       ·subst e0;have:=((hc 0 (by omega)).root rfl).1;omega
       ·exact hlt j (by omega) (by omega))
     ·have b7:((nd l k).f0==7)=true:=by simpa using h7
      rw [if_pos b7] at hs
      simp at hs
      subst hs
      exact ⟨e,⟨hee,by omega,hu,fun j h1 h2=>by have:=p2 j h1 h2;omega⟩,rfl⟩
    ·rw [if_neg (by simp [hu])]
     exact ⟨ns,ks,e,rfl,hin,fun h=>by have:=hend h;omega⟩
   ·rw [dif_neg hel]
    exact ⟨ns,ks,e,rfl,hin,fun h=>absurd h hel⟩
theorem dep_at {l:List S107}:∀ (t:Tr) (nm:ByteArray) (up:Int) (k:Nat) (dp:Int),At l k (flat t nm up k)→Dep l k (hN t.kd+dp)→∃ j,k≤j∧j < k+cnt t∧Dep l j (dp+deep t):=by
 intro t
 refine Tr.rec (motive_1:=fun t=>∀ (nm:ByteArray) (up:Int) (k:Nat) (dp:Int),At l k (flat t nm up k)→Dep l k (hN t.kd+dp)→∃ j,k≤j∧j < k+cnt t∧Dep l j (dp+deep t))
  (motive_2:=fun ts=>∀ (m:Bool) (ns:List ByteArray) (self k:Nat) (dp:Int),self < k→At l k (flatL ts m ns self k)→Dep l self dp→deepL ts=0∨∃ j,k≤j∧j < k+cntL ts∧Dep l j (dp+deepL ts)) ?_ ?_ ?_ t
 ·intro kd nu tx ns ks ih nm up k dp hat hd
  rw [flat,At.cons] at hat
  simp only [Tr.kd] at hd
  rcases ih (kd==7) ns k (k+1) _ (by omega) hat.2 hd with h | ⟨j,h1,h2,h3⟩
  ·refine ⟨k,by omega,by simp [cnt];omega,?_⟩
   rw [deep,h,Nat.zero_add,Int.add_comm]
   exact hd
  ·refine ⟨j,by omega,by simp [cnt];omega,?_⟩
   rw [deep]
   have:dp+((deepL ks+hN kd:Nat):Int)=hN kd+dp+deepL ks:=by omega
   rw [this]
   exact h3
 ·intro m ns self k dp _ _ _
  exact .inl rfl
 ·intro t ts iht ihts m ns self k dp hs hat hd
  rw [flatL,At.app,flat_len] at hat
  have hx:(nd l k).f4=(self:Int)∧(nd l k).f0=t.kd:=by
   have h0:=hat.1 0 (by rw [flat_len];exact cnt_pos t)
   cases t
   rw [flat] at h0
   simp only [Nat.add_zero] at h0
   rw [nd,List.getD_eq_getElem?_getD,h0]
   exact ⟨rfl,rfl⟩
  have hk:Dep l k (hN t.kd+dp):=by
   rw [←hx.2]
   exact Dep.step k dp (by omega) (by rw [hx.1];simpa using hd)
  have h1:=iht _ _ _ _ hat.1 hk
  have h2:=ihts m ns.tail self (k+cnt t) dp (by omega) hat.2 hd
  rw [deepL,cntL]
  rcases Nat.le_total (deepL ts) (deep t) with hm | hm
  ·rw [Nat.max_eq_left hm]
   obtain ⟨j,q1,q2,q3⟩:=h1
   exact .inr ⟨j,q1,by omega,q3⟩
  ·rw [Nat.max_eq_right hm]
   rcases h2 with h2 | ⟨j,q1,q2,q3⟩
   ·exact .inl h2
   ·exact .inr ⟨j,by omega,by omega,q3⟩
theorem nd_flat {l:List S107} {t:Tr} {nm:ByteArray} {up:Int} {k:Nat} (h:At l k (flat t nm up k)):nd l k=⟨t.kd,t.nu,t.tx,nm,up⟩:=by
 have h0:=h 0 (by rw [flat_len];exact cnt_pos t)
 cases t
 rw [flat] at h0
 simp only [Nat.add_zero] at h0
 rw [nd,List.getD_eq_getElem?_getD,h0]
 rfl
theorem nd_ups {l:List S107} {t:Tr} {nm:ByteArray} {up:Int} {k:Nat} (h:At l k (flat t nm up k)) (j:Nat) (h1:k < j) (h2:j < k+cnt t):(k:Int)≤(nd l j).f4∧(nd l j).f4 < j:=by
 obtain ⟨x,a1,a2,a3⟩:=ups t nm up k (j - k) (by omega) (by omega)
 have h0:=h (j - k) (by rw [flat_len];omega)
 rw [a1] at h0
 have e:k+(j - k)=j:=by omega
 rw [e] at h0
 rw [nd,List.getD_eq_getElem?_getD,h0]
 simp only [Option.getD_some]
 exact ⟨a2,by omega⟩
theorem wf_node {t:Tr} (h:wf t=true):nodeG t.kd t.nu t.tx=true:=by
 cases t
 rw [wf] at h
 simp only [Bool.and_eq_true] at h
 exact h.1.1.1
theorem cond_of_flat {l:List S107} (hg:∀ j,j < l.length→(nd l j).f4 < j):∀ (t:Tr) (nm:ByteArray) (up:Int) (k:Nat) (dp:Int),At l k (flat t nm up k)→wf t=true→Dep l k (hN t.kd+dp)→dp+deep t≤6→∀ j,k < j→j < k+cnt t→Cond l j:=by
 intro t
 refine Tr.rec (motive_1:=fun t=>∀ (nm:ByteArray) (up:Int) (k:Nat) (dp:Int),At l k (flat t nm up k)→wf t=true→Dep l k (hN t.kd+dp)→dp+deep t≤6→∀ j,k < j→j < k+cnt t→Cond l j)
  (motive_2:=fun ts=>∀ (ns:List ByteArray) (k e:Nat) (dp:Int),k < e→At l e (flatL ts ((nd l k).f0==7) ns k e)→wfL ts=true→holdsB (nd l k).f0=true→(∀ j,k < j→j < e→(k:Int)≤(nd l j).f4∧(nd l j).f4 < j) →
   ((nd l k).f0=7→ns.length=ts.length∧ns.all prt=true∧rising ns=true∧∀ c a r,k < c→ns=a :: r→Prev l (k:Int) e c→lt (nd l c).f3 a=true)→Dep l k dp→dp+deepL ts≤6→∀ j,e≤j→j < e+cntL ts→Cond l j) ?_ ?_ ?_ t
 ·intro kd nu tx ns ks ih nm up k dp hat hwf hd h6 j hj1 hj2
  have hk:=nd_flat hat
  rw [flat,At.cons] at hat
  rw [wf] at hwf
  simp only [Bool.and_eq_true,Bool.or_eq_true] at hwf
  obtain ⟨⟨⟨w1,w2⟩,w3⟩,w4⟩:=hwf
  simp only [Tr.kd,Tr.nu,Tr.tx] at hk hd
  have hk0:(nd l k).f0=kd:=by rw [hk]
  have hks:ks≠[]:=by rintro rfl;simp [cnt,cntL] at hj2;omega
  have hh:holdsB kd=true:=by
   rcases w3 with h | h
   ·exact h
   ·cases ks
    ·exact absurd rfl hks
    ·simp at h
  rw [hN_t hh] at hd
  rw [deep,hN_t hh] at h6
  refine ih ns k (k+1) (1+dp) (by omega) (by rw [hk0];exact hat.2) w4 (by rw [hk0];exact hh) (fun j h1 h2=>by omega) (fun h7=>?_) (by simpa using hd) (by simp at h6;omega) j (by omega) (by simp [cnt] at hj2;omega)
  rw [hk0] at h7
  rw [h7] at w2
  simp at w2
  exact ⟨w2.1.1,by simpa using w2.2,w2.1.2,fun c a r h1 _ hp=>by have:=hp.lt;omega⟩
 ·intro ns k e dp _ _ _ _ _ _ _ _ j h1 h2
  simp [cntL] at h2
  omega
 ·intro t ts iht ihts ns k e dp hke hat hwf hh hin h7 hd h6 j hj1 hj2
  rw [flatL,At.app,flat_len] at hat
  simp only [wfL,Bool.and_eq_true] at hwf
  have he:=nd_flat hat.1
  have hue:(nd l e).f4=(k:Int):=by rw [he]
  rw [deepL] at h6
  have hde:Dep l e (hN t.kd+dp):=by
   have:=Dep.step e dp (by omega) (by rw [hue];simpa using hd)
   rw [he] at this
   exact this
  have hm1:deep t≤max (deep t) (deepL ts):=Nat.le_max_left _ _
  have hm2:deepL ts≤max (deep t) (deepL ts):=Nat.le_max_right _ _
  by_cases c1:j=e
  ·subst c1
   have hnm:prt (nd l j).f3=true∧((nd l k).f0≠7→(nd l j).f3=nil_)∧((nd l k).f0=7→∃ a r,ns=a :: r∧(nd l j).f3=a):=by
    rw [he]
    by_cases h:(nd l k).f0=7
    ·obtain ⟨g1,g2,_⟩:=h7 h
     cases ns with
     | nil=>simp at g1
     | cons a r =>
      simp only [List.all_cons,Bool.and_eq_true] at g2
      simp [h,g2.1]
    ·simp [h,prt_nil]
   refine ⟨(badN_iff _).2 ⟨by rw [he];exact wf_node hwf.1,hnm.1⟩,fun h=>by omega,fun _=>by omega,fun _=>by omega,fun _=>by rw [hue];simpa using hh,fun _=>?_,fun _ hq c hp=>?_,fun _ hq=>?_,_,hde,?_⟩
   ·rw [hue]
    exact Ch.in_ hin _ _ (Nat.le_refl _) (by omega) (by omega)
   ·rw [hue] at hq hp
    simp only [Int.toNat_natCast] at hq
    obtain ⟨a,r,rfl,e2⟩:=hnm.2.2 hq
    rw [e2]
    refine (h7 hq).2.2.2 c a r ?_ rfl hp
    have h1:=hg c (by have:=hp.lt;have:=(List.getElem?_eq_some_iff.1 (hat.1 0 (by rw [flat_len];exact cnt_pos t) |>.trans (List.getElem?_eq_getElem (by rw [flat_len];exact cnt_pos t)))).1;omega)
    have h2:=hp.up
    omega
   ·rw [hue] at hq
    rw [hnm.2.1 (by simpa using hq)]
    exact emp_nil
   ·have:hN t.kd≤deep t:=by
     cases t
     rw [deep]
     simp only [Tr.kd]
     omega
    omega
  ·by_cases c2:j < e+cnt t
   ·exact iht _ _ e dp hat.1 hwf.1 hde (by omega) j (by omega) c2
   ·have hups:=fun j h1 h2=>nd_ups hat.1 j h1 h2
    refine ihts ns.tail k (e+cnt t) dp (by omega) hat.2 hwf.2 hh (fun j h1 h2=>?_) (fun h=>?_) hd (by omega) j (by omega) (by rw [cntL] at hj2;omega)
    ·by_cases d1:j < e
     ·exact hin j h1 d1
     ·by_cases d2:j=e
      ·subst d2;omega
      ·have:=hups j (by omega) h2
       omega
    ·obtain ⟨g1,g2,g3,g4⟩:=h7 h
     cases ns with
     | nil=>simp at g1
     | cons a r =>
      simp only [List.all_cons,Bool.and_eq_true] at g2
      refine ⟨by simpa using g1,g2.2,by cases r with
       | nil=>rfl
       | cons b r=>simp [rising] at g3;exact g3.2,fun c b r' hc hb hp=>?_⟩
      simp only [List.tail_cons] at hb
      subst hb
      have pe:Prev l (k:Int) (e+cnt t) e:=⟨by have:=cnt_pos t;omega,by omega,hue,fun j h1 h2=>by have:=hups j h1 h2;omega⟩
      rw [hp.uniq pe,he]
      simp [rising] at g3
      simp [h,g3.1]
end Go.Proofs.YtoaafohpmhdjnaaGreatDoor.VT
