import Derived.Test.YtoaafohpmhdjnaaGreatDoorTAVTA
import Derived.Test.YtoaafohpmhdjnaaGreatDoorTAPVGx0
/- Reading nodes as a tree: what is read lies there, and what lies there is read. Conditions: none. -/
namespace Go.Proofs.YtoaafohpmhdjnaaGreatDoor.VT
open Go.Proofs.YtoaafohpmhdjnaaGreatDoor.PVG
set_option linter.unusedVariables false
set_option linter.unusedSimpArgs false
def nd (l:List S107) (k:Nat):S107:=l.getD k z107
theorem emp_iff {s:ByteArray}:emp s=true↔s=nil_:=by
 unfold emp nil_
 rw [decide_eq_true_iff]
 constructor
 ·intro h
  cases s with
  | mk d =>
   have:d.size=0:=h
   rw [Array.eq_empty_of_size_eq_zero this]
 ·rintro rfl
  rfl
theorem rising_snoc {ns:List ByteArray} {s:ByteArray}:rising (ns++[s])=(rising ns&&lastLt ns s):=by
 induction ns with
 | nil=>simp [rising,lastLt]
 | cons a r ih =>
  cases r with
  | nil=>simp [rising,lastLt]
  | cons b r =>
   simp only [List.cons_append,rising] at ih ⊢
   rw [ih]
   simp [lastLt,Bool.and_assoc]
theorem par_lt {l:List S107}:∀ n k up t e,l.length - k≤n→par l k up=some (t,e)→k < e:=by
 have hL:∀ n k kd e ns ks r,l.length - e≤n→parL l k kd e ns ks=some r→e≤r.2.2:=by
  intro n
  induction n with
  | zero =>
   intro k kd e ns ks r hn h
   rw [parL,dif_neg (by omega)] at h
   obtain rfl:=Option.some.inj h
   exact Nat.le_refl _
  | succ n ih =>
   intro k kd e ns ks r hn h
   rw [parL] at h
   split at h
   ·split at h
    ·split at h
     ·cases h
     ·split at h
      ·cases h
      ·split at h
       ·exact Nat.le_trans (by omega) (ih _ _ _ _ _ _ (by omega) h)
       ·cases h
    ·obtain rfl:=Option.some.inj h
     exact Nat.le_refl _
   ·obtain rfl:=Option.some.inj h
    exact Nat.le_refl _
 intro n k up t e hn h
 rw [par] at h
 split at h
 ·split at h
  ·split at h
   ·cases h
   ·rename_i heq
    obtain ⟨rfl,rfl⟩:=Prod.mk.inj (Option.some.inj h)
    have:=hL _ _ _ _ _ _ _ (Nat.le_refl _) heq
    exact this
  ·cases h
 ·cases h
theorem wfL_append (a b:List Tr):wfL (a++b)=(wfL a&&wfL b):=by
 induction a with
 | nil=>simp [wfL]
 | cons t ts ih=>simp [wfL,ih,Bool.and_assoc]
structure Read (l:List S107) (k:Nat) (up:Int) (t:Tr) (e:Nat):Prop where
 lt:k < l.length
 at_:At l k (flat t (nd l k).f3 (nd l k).f4 k)
 e_:e=k+cnt t
 le:e≤l.length
 wf_:wf t=true
 ok:nodeOK (nd l k) up=true
 end_:holdsB t.kd=true→e < l.length→(nd l e).f4≠(k:Int)
structure ReadL (l:List S107) (k:Nat) (kd:Int) (e:Nat) (ns:List ByteArray) (ms:List ByteArray) (ts:List Tr) (e':Nat):Prop where
 at_:At l e (flatL ts (kd==7) ms k e)
 e_:e'=e+cntL ts
 le:e'≤l.length
 wf_:wfL ts=true
 m7:kd=7→ms.length=ts.length∧ms.all prt=true∧(rising ns=true→rising (ns++ms)=true)
 m0:kd≠7→ms=[]
 h0:holdsB kd=false→ts=[]
 end_:holdsB kd=true→e' < l.length→(nd l e').f4≠(k:Int)
theorem getD_at {l:List S107} {k:Nat} (h:k < l.length):l[k]=nd l k:=by
 rw [nd,List.getD_eq_getElem?_getD,List.getElem?_eq_getElem h]
 rfl
theorem ReadL.nil {l:List S107} {k:Nat} {kd:Int} {e:Nat} {ns:List ByteArray} (he:e≤l.length) (hend:holdsB kd=true→e < l.length→(nd l e).f4≠(k:Int)):ReadL l k kd e ns [] [] e :=
 ⟨by rw [flatL];exact At.nil _ _,by simp [cntL],he,rfl,fun _=>⟨rfl,rfl,fun h=>by simpa using h⟩,fun _=>rfl,fun _=>rfl,hend⟩
theorem par_sound {l:List S107}:∀ n,
  (∀ k up t e,2 * (l.length - k)≤n→par l k up=some (t,e)→Read l k up t e) ∧
  (∀ k kd e ns ks ns' ks' e',2 * (l.length - e)+1≤n→e≤l.length→parL l k kd e ns ks=some (ns',ks',e')→∃ ms ts,ns'=ns++ms∧ks'=ks++ts∧ReadL l k kd e ns ms ts e'):=by
 intro n
 induction n with
 | zero =>
  refine ⟨fun k up t e hn h=>?_,fun k kd e ns ks ns' ks' e' hn he h=>by omega⟩
  rw [par,dif_neg (by omega)] at h
  cases h
 | succ n ih =>
  obtain ⟨ih1,ih2⟩:=ih
  refine ⟨fun k up t e hn h=>?_,fun k kd e ns ks ns' ks' e' hn he h=>?_⟩
  ·rw [par] at h
   split at h
   ·rename_i hk
    split at h
    ·rename_i hok
     split at h
     ·cases h
     ·rename_i ns ks e1 heq
      obtain ⟨rfl,rfl⟩:=Prod.mk.inj (Option.some.inj h)
      obtain ⟨ms,ts,rfl,rfl,hr⟩:=ih2 _ _ _ _ _ _ _ _ (by omega) (by omega) heq
      rw [getD_at hk] at hok heq hr ⊢
      refine ⟨hk,?_,?_,hr.le,?_,hok,?_⟩
      ·rw [flat,At.cons]
       refine ⟨?_,?_⟩
       ·rw [List.getElem?_eq_getElem hk,getD_at hk]
       ·simpa using hr.at_
      ·rw [cnt,hr.e_];omega
      ·have ho:=hok
       unfold nodeOK at ho
       rw [Bool.and_eq_true] at ho
       rw [wf]
       simp only [Bool.and_eq_true,List.nil_append]
       refine ⟨⟨⟨ho.1,?_⟩,?_⟩,hr.wf_⟩
       ·by_cases h7:(nd l k).f0=7
        ·obtain ⟨h1,h2,h3⟩:=hr.m7 h7
         have h3:=h3 rfl
         simp only [List.nil_append] at h3
         simp [h7,h1,h2,h3]
        ·have:=hr.m0 h7
         subst this
         simp [h7]
       ·cases hh:holdsB (nd l k).f0 with
        | true=>simp
        | false=>rw [hr.h0 hh];simp
      ·intro hh hlt
       exact hr.end_ (by simpa [Tr.kd] using hh) hlt
    ·cases h
   ·cases h
  ·rw [parL] at h
   split at h
   ·rename_i hlt
    split at h
    ·rename_i hhold
     split at h
     ·cases h
     ·rename_i hlast
      split at h
      ·cases h
      ·rename_i t e1 hpar
       split at h
       ·rename_i hee
        have hr:=ih1 _ _ _ _ (by omega) hpar
        obtain ⟨ms,ts,h1,h2,hq⟩:=ih2 _ _ _ _ _ _ _ _ (by have:=hr.le;omega) hr.le h
        rw [getD_at hlt] at hhold hlast h1 hq
        rw [Bool.and_eq_true] at hhold
        have hup:(nd l e).f4=(k:Int):=by simpa using hhold.2
        have hnd:=hr.ok
        unfold nodeOK at hnd
        rw [Bool.and_eq_true] at hnd
        by_cases h7:kd=7
        ·subst h7
         obtain ⟨q1,q2,q3⟩:=hq.m7 rfl
         refine ⟨(nd l e).f3 :: ms,t :: ts,by simpa using h1,by simpa using h2,?_,?_,hq.le,?_,?_,?_,?_,hq.end_⟩
         ·rw [flatL,At.app]
          refine ⟨?_,?_⟩
          ·have:=hr.at_
           rw [hup] at this
           simpa using this
          ·rw [flat_len,←hr.e_]
           exact hq.at_
         ·rw [hq.e_,hr.e_,cntL];omega
         ·rw [wfL,hr.wf_,hq.wf_];rfl
         ·intro _
          refine ⟨by simp [q1],by simp at hnd;simp [q2,hnd.2],fun hn=>?_⟩
          have h4:lastLt ns (nd l e).f3=true:=by simpa using hlast
          have:=q3 (by simp only [beq_self_eq_true,if_true];rw [rising_snoc,hn,h4];rfl)
          simpa using this
         ·intro hh;exact absurd rfl hh
         ·intro hh;exact absurd hh (by decide)
        ·have b7:(kd==7)=false:=by simpa using h7
         have hms:=hq.m0 h7
         subst hms
         rw [b7] at hnd
         have hem:=emp_iff.1 (by simpa using hnd.2)
         refine ⟨[],t :: ts,by simpa [b7] using h1,by simpa using h2,?_,?_,hq.le,?_,fun h=>absurd h h7,fun _=>rfl,?_,hq.end_⟩
         ·rw [flatL,At.app]
          refine ⟨?_,?_⟩
          ·have:=hr.at_
           rw [hup,hem] at this
           simpa [b7] using this
          ·rw [flat_len,←hr.e_]
           exact hq.at_
         ·rw [hq.e_,hr.e_,cntL];omega
         ·rw [wfL,hr.wf_,hq.wf_];rfl
         ·intro hh;rw [hh] at hhold;exact absurd hhold.1 (by simp)
       ·cases h
    ·rename_i hhold
     obtain ⟨rfl,hx⟩:=Prod.mk.inj (Option.some.inj h)
     obtain ⟨rfl,rfl⟩:=Prod.mk.inj hx
     refine ⟨[],[],by simp,by simp,ReadL.nil he fun hh _ hc=>hhold ?_⟩
     rw [getD_at hlt,hh,hc]
     simp
   ·rename_i hlt
    obtain ⟨rfl,hx⟩:=Prod.mk.inj (Option.some.inj h)
    obtain ⟨rfl,rfl⟩:=Prod.mk.inj hx
    exact ⟨[],[],by simp,by simp,ReadL.nil he fun hh hc _=>hlt hc⟩
theorem par_read {l:List S107} {k:Nat} {up:Int} {t:Tr} {e:Nat} (h:par l k up=some (t,e)):Read l k up t e:=(par_sound (2 * (l.length - k))).1 k up t e (Nat.le_refl _) h
theorem lastLt_app {ns:List ByteArray} {a:ByteArray} {r:List ByteArray} (h:rising (ns++a :: r)=true):lastLt ns a=true:=by
 induction ns with
 | nil=>rfl
 | cons b ns ih =>
  cases ns with
  | nil=>simp [rising] at h;simp [lastLt,h.1]
  | cons c ns =>
   simp only [List.cons_append,rising,Bool.and_eq_true] at h
   have:=ih h.2
   simpa [lastLt] using this
theorem par_all {l:List S107}:∀ n,
  (∀ t nm up k up0,2 * cnt t≤n→At l k (flat t nm up k)→wf t=true→nodeOK ⟨t.kd,t.nu,t.tx,nm,up⟩ up0=true→(k+cnt t < l.length→(nd l (k+cnt t)).f4 < (k:Int))→par l k up0=some (t,k+cnt t)) ∧
  (∀ ts k kd e ns ms ks,2 * cntL ts+1≤n→k < e→At l e (flatL ts (kd==7) ms k e)→wfL ts=true→(kd=7→ms.length=ts.length∧ms.all prt=true∧rising (ns++ms)=true)→(kd≠7→ms=[])→(holdsB kd=false→ts=[])→(e+cntL ts < l.length→(nd l (e+cntL ts)).f4 < (k:Int)) →
   parL l k kd e ns ks=some (ns++ms,ks++ts,e+cntL ts)):=by
 intro n
 induction n with
 | zero =>
  refine ⟨fun t nm up k up0 hn=>?_,fun ts k kd e ns ms ks hn=>by omega⟩
  have:=cnt_pos t
  omega
 | succ n ih =>
  obtain ⟨ih1,ih2⟩:=ih
  refine ⟨fun t nm up k up0 hn hat hwf hok hend=>?_,fun ts k kd e ns ms ks hn hke hat hwf h7 h0 hh hend=>?_⟩
  ·cases t with
   | mk kd nu tx ns ks =>
    rw [flat,At.cons] at hat
    obtain ⟨hx,hat⟩:=hat
    have hk:k < l.length:=(List.getElem?_eq_some_iff.1 hx).1
    have hx':l[k]=⟨kd,nu,tx,nm,up⟩:=(List.getElem?_eq_some_iff.1 hx).2
    rw [wf] at hwf
    simp only [Bool.and_eq_true,Bool.or_eq_true] at hwf
    obtain ⟨⟨⟨w1,w2⟩,w3⟩,w4⟩:=hwf
    have hok:nodeOK ⟨kd,nu,tx,nm,up⟩ up0=true:=hok
    rw [par,dif_pos hk,hx',if_pos hok]
    simp only [cnt] at hn hend ⊢
    have:=ih2 ks k kd (k+1) [] ns [] (by omega) (by omega) hat w4
     (by
      intro h
      subst h
      simp at w2
      exact ⟨w2.1.1,by simpa using w2.2,by simpa using w2.1.2⟩)
     (by intro h;have b:(kd==7)=false:=(by simpa using h);rw [b] at w2;simpa using w2)
     (by intro h;rw [h] at w3;simpa using w3)
     (by rw [Nat.add_assoc];exact hend)
    simp only [this,List.nil_append]
    rw [Nat.add_assoc]
  ·cases ts with
   | nil =>
    have hms:ms=[]:=by
     by_cases h:kd=7
     ·have:=(h7 h).1
      simpa using this
     ·exact h0 h
    subst hms
    simp only [cntL,Nat.add_zero,List.append_nil] at hend ⊢
    rw [parL]
    split
    ·rename_i hlt
     rw [getD_at hlt]
     cases hb:holdsB kd with
     | false=>simp
     | true =>
      have:=hend hlt
      have h3:¬(nd l e).f4=(k:Int):=by omega
      simp [h3]
    ·rfl
   | cons t ts =>
    have hb:holdsB kd=true:=by
     cases hb:holdsB kd with
     | true=>rfl
     | false=>exact absurd (hh hb) (by simp)
    rw [flatL,At.app,flat_len] at hat
    obtain ⟨hat1,hat2⟩:=hat
    simp only [wfL,Bool.and_eq_true] at hwf
    simp only [cntL] at hn hend ⊢
    have hp:=cnt_pos t
    have hx:l[e]? = some ⟨t.kd,t.nu,t.tx,(if (kd==7)=true then ms.headD nil_ else nil_),(k:Int)⟩:=by
     have:=hat1 0 (by rw [flat_len];exact hp)
     cases t
     rw [flat] at this
     simpa [Tr.kd,Tr.nu,Tr.tx] using this
    have hlt:e < l.length:=(List.getElem?_eq_some_iff.1 hx).1
    have hx':l[e]=⟨t.kd,t.nu,t.tx,(if (kd==7)=true then ms.headD nil_ else nil_),(k:Int)⟩:=(List.getElem?_eq_some_iff.1 hx).2
    have hg:nodeG t.kd t.nu t.tx=true:=by
     have:=hwf.1
     cases t
     rw [wf] at this
     simp only [Bool.and_eq_true] at this
     exact this.1.1.1
    have hnext:e+cnt t < l.length→(nd l (e+cnt t)).f4 < (e:Int):=by
     intro hlt2
     cases ts with
     | nil =>
      have:=hend (by simpa [cntL] using hlt2)
      simp only [cntL,Nat.add_zero] at this
      omega
     | cons t2 ts2 =>
      rw [flatL,At.app] at hat2
      have h2:=hat2.1 0 (by rw [flat_len];exact cnt_pos t2)
      cases t2
      rw [flat] at h2
      simp only [Nat.add_zero] at h2
      rw [nd,List.getD_eq_getElem?_getD,h2]
      simp
      omega
    have hup:(nd l e).f4=(k:Int):=by rw [←getD_at hlt,hx']
    have hnm:(nd l e).f3=if (kd==7)=true then ms.headD nil_ else nil_:=by rw [←getD_at hlt,hx']
    rw [parL,dif_pos hlt,getD_at hlt,hup,hb,hnm]
    simp only [Bool.true_and,beq_self_eq_true,if_true]
    by_cases h:kd=7
    ·subst h
     obtain ⟨g1,g2,g3⟩:=h7 rfl
     cases ms with
     | nil=>simp at g1
     | cons a ms =>
      have hla:=lastLt_app g3
      simp only [beq_self_eq_true,if_true,Bool.true_and,List.headD_cons,hla,Bool.not_true,Bool.false_eq_true,if_false]
      simp only [List.all_cons,Bool.and_eq_true] at g2
      have hp1:=ih1 t (List.headD (a :: ms) nil_) k e 7 (by omega) (by simpa using hat1) hwf.1 (by unfold nodeOK;simp [hg,g2.1]) hnext
      rw [hp1]
      simp only
      rw [dif_pos (by omega)]
      have:=ih2 ts k 7 (e+cnt t) (ns++[a]) ms (ks++[t]) (by omega) (by omega) (by simpa using hat2) hwf.2 (fun _=>⟨by simpa using g1,g2.2,by simpa using g3⟩) (fun h=>absurd rfl h) (fun h=>by rw [hb] at h;cases h) (by rw [Nat.add_assoc];exact hend)
      rw [this]
      simp [Nat.add_assoc]
    ·have b7:(kd==7)=false:=by simpa using h
     have:=h0 h
     subst this
     simp only [b7,Bool.false_and,Bool.false_eq_true,if_false]
     have hp1:=ih1 t nil_ k e kd (by omega) (by simpa [b7] using hat1) hwf.1 (by unfold nodeOK;simp [hg,b7,emp_iff.2]) hnext
     rw [hp1]
     simp only
     rw [dif_pos (by omega)]
     have:=ih2 ts k kd (e+cnt t) ns [] (ks++[t]) (by omega) (by omega) (by simpa [b7] using hat2) hwf.2 (fun hc=>absurd hc h) (fun _=>rfl) (fun h=>by rw [hb] at h;cases h) (by rw [Nat.add_assoc];exact hend)
     rw [this]
     simp [Nat.add_assoc]
end Go.Proofs.YtoaafohpmhdjnaaGreatDoor.VT
