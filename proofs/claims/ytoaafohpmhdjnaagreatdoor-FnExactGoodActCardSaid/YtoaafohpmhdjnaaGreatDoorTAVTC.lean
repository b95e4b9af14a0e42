import Derived.Test.YtoaafohpmhdjnaaGreatDoorTAVTB
import Derived.Test.YtoaafohpmhdjnaaGreatDoorTAPVGx0
/- The reference's look at nodes: what it says, node by node. Conditions: none. -/
namespace Go.Proofs.YtoaafohpmhdjnaaGreatDoor.VT
open Go.Proofs.YtoaafohpmhdjnaaGreatDoor.PVG Go.Proofs.YtoaafohpmhdjnaaGreatDoorW.PrintWords
set_option linter.unusedVariables false
set_option linter.unusedSimpArgs false
def badN (x:S107):Bool:=!(inB x.f0 1 7) || (x.f0 != 4&&x.f1 != 0) || !(inB x.f1 (-1000000000) 1000000000) || (x.f0 != 5&&!emp x.f2) || !prt x.f2 || !prt x.f3
def chn (l:List S107):Nat→Int→Int→Int
 | 0,a,_=>a
 | k+1,a,u=>if a=u then a else if 0≤a then chn l k (nd l a.toNat).f4 u else a
def shapeGo (l:List S107):Nat→Nat→List Int→List ByteArray→List Bool→Bool
 | 0,_,_,_,_=>inB l.length 1 80
 | m+1,i,d,la,so =>
  if badN (nd l i) then false else
  if i=0 then
   if (nd l i).f4 = -1∧emp (nd l i).f3=true then shapeGo l m (i+1) (if holdsB (nd l i).f0 then d.set i 1 else d) la so else false
  else if !(inB (nd l i).f4 0 ((i:Int) - 1)) || !(holdsB (nd l (nd l i).f4.toNat).f0) then false else
  if chn l (i+1) ((i:Int) - 1) (nd l i).f4 < 0 then false else
  let dd:Int:=hN (nd l i).f0+d.getD (nd l i).f4.toNat 0
  let d2:=d.set i dd
  if (nd l (nd l i).f4.toNat).f0=7 then
   if so.getD (nd l i).f4.toNat false&&!(lt (la.getD (nd l i).f4.toNat nil_) (nd l i).f3) then false else
   if dd > 6 then false else shapeGo l m (i+1) d2 (la.set (nd l i).f4.toNat (nd l i).f3) (so.set (nd l i).f4.toNat true)
  else if !emp (nd l i).f3 then false else
  if dd > 6 then false else shapeGo l m (i+1) d2 la so
def shapeB (l:List S107):Bool:=shapeGo l l.length 0 (List.replicate l.length 0) (List.replicate l.length nil_) (List.replicate l.length false)
inductive Ch (l:List S107):Int→Int→Prop where
 | here (a:Int):Ch l a a
 | up (a u:Int) (h0:0≤a) (h:Ch l (nd l a.toNat).f4 u):Ch l a u
inductive Dep (l:List S107):Nat→Int→Prop where
 | root:Dep l 0 (hN (nd l 0).f0)
 | step (i:Nat) (d:Int) (h0:0 < i) (h:Dep l (nd l i).f4.toNat d):Dep l i (hN (nd l i).f0+d)
structure Prev (l:List S107) (u:Int) (i c:Nat):Prop where
 lt:c < i
 pos:0 < c
 up:(nd l c).f4=u
 no:∀ j,c < j→j < i→(nd l j).f4≠u
structure Cond (l:List S107) (i:Nat):Prop where
 good:badN (nd l i)=false
 root:i=0→(nd l i).f4 = -1∧emp (nd l i).f3=true
 ge:0 < i→0≤(nd l i).f4
 lt:0 < i→(nd l i).f4 < i
 holds:0 < i→holdsB (nd l (nd l i).f4.toNat).f0=true
 way:0 < i→Ch l ((i:Int) - 1) (nd l i).f4
 rise:0 < i→(nd l (nd l i).f4.toNat).f0=7→∀ c,Prev l (nd l i).f4 i c→VT.lt (nd l c).f3 (nd l i).f3=true
 none:0 < i→(nd l (nd l i).f4.toNat).f0≠7→emp (nd l i).f3=true
 deep:∃ d,Dep l i d∧d≤6
theorem Dep.uniq {l:List S107} {i:Nat} {d e:Int} (h:Dep l i d) (k:Dep l i e):d=e:=by
 induction h generalizing e with
 | root =>
  cases k with
  | root=>rfl
  | step _ _ h0 _=>exact absurd h0 (by omega)
 | step i d h0 h ih =>
  cases k with
  | root=>exact absurd h0 (by omega)
  | step _ d2 _ h2=>rw [ih h2]
theorem Prev.uniq {l:List S107} {u:Int} {i c e:Nat} (h:Prev l u i c) (k:Prev l u i e):c=e:=by
 rcases Nat.lt_trichotomy c e with h1 | h1 | h1
 ·exact absurd k.up (h.no e h1 k.lt)
 ·exact h1
 ·exact absurd h.up (k.no c h1 h.lt)
theorem chn_iff {l:List S107}:∀ (k:Nat) (a u:Int),-1≤a→a+1 < k→0≤u→(∀ j:Nat,(j:Int)≤a→(nd l j).f4 < j∧-1≤(nd l j).f4)→(0≤chn l k a u↔Ch l a u)
 | 0,a,u,h1,h2,_,_=>by omega
 | k+1,a,u,h1,h2,h3,h4=>by
  rw [chn]
  by_cases e:a=u
  ·subst e
   simp only [if_true]
   exact ⟨fun _=>.here _,fun _=>h3⟩
  ·rw [if_neg e]
   by_cases h0:0≤a
   ·rw [if_pos h0]
    obtain ⟨q1,q2⟩:=h4 a.toNat (by omega)
    have:=chn_iff k (nd l a.toNat).f4 u q2 (by omega) h3 (fun j hj=>h4 j (by omega))
    rw [this]
    constructor
    ·exact fun h=>.up a u h0 h
    ·intro h
     cases h with
     | here=>exact absurd rfl e
     | up _ _ _ h=>exact h
   ·rw [if_neg h0]
    constructor
    ·intro h
     exact absurd h h0
    ·intro h
     cases h with
     | here=>exact absurd rfl e
     | up _ _ h _=>exact absurd h h0
structure St (l:List S107) (i:Nat) (d:List Int) (la:List ByteArray) (so:List Bool):Prop where
 ld:d.length=l.length
 ll:la.length=l.length
 ls:so.length=l.length
 dd:∀ j,j < i→Dep l j (d.getD j 0)
 d0:∀ j,i≤j→d.getD j 0=0
 no:∀ j,j < i→(nd l j).f0=7→so.getD j false=false→∀ c,¬Prev l j i c
 some_:∀ j,so.getD j false=true→∃ c,Prev l j i c∧la.getD j nil_=(nd l c).f3
 so7:∀ j,so.getD j false=true→(nd l j).f0=7
theorem getD_set {α:Type} (d:List α) (i j:Nat) (x z:α):(d.set i x).getD j z=if i=j∧i < d.length then x else d.getD j z:=by
 rw [List.getD_eq_getElem?_getD,List.getD_eq_getElem?_getD,List.getElem?_set]
 by_cases h:i=j
 ·subst h
  by_cases h2:i < d.length
  ·simp [h2]
  ·simp [h2]
 ·simp [h]
theorem Prev.next {l:List S107} {u:Int} {i c:Nat} (h:Prev l u i c) (hn:(nd l i).f4≠u):Prev l u (i+1) c :=
 ⟨by have:=h.lt;omega,h.pos,h.up,fun j h1 h2=>by
  by_cases e:j=i
  ·subst e;exact hn
  ·exact h.no j h1 (by omega)⟩
theorem Prev.back {l:List S107} {u:Int} {i c:Nat} (h:Prev l u (i+1) c) (hn:(nd l i).f4≠u):Prev l u i c :=
 ⟨by
  have:=h.lt
  by_cases e:c=i
  ·subst e;exact absurd h.up hn
  ·omega,h.pos,h.up,fun j h1 h2=>h.no j h1 (by omega)⟩
theorem Prev.me {l:List S107} {i:Nat} (h:0 < i):Prev l (nd l i).f4 (i+1) i:=⟨by omega,h,rfl,fun j h1 h2=>by omega⟩
theorem shapeGo_iff {l:List S107}:∀ (m i:Nat) (d:List Int) (la:List ByteArray) (so:List Bool),i+m=l.length→St l i d la so→(∀ j,j < i→Cond l j) →
  (shapeGo l m i d la so=true↔(inB l.length 1 80=true∧∀ j,i≤j→j < l.length→Cond l j))
 | 0,i,d,la,so,hm,hs,hc=>by
  rw [shapeGo]
  exact ⟨fun h=>⟨h,fun j h1 h2=>by omega⟩,fun h=>h.1⟩
 | m+1,i,d,la,so,hm,hs,hc=>by
  have hrest:∀ d' la' so',St l (i+1) d' la' so'→Cond l i→(shapeGo l m (i+1) d' la' so'=true↔(inB l.length 1 80=true∧∀ j,i≤j→j < l.length→Cond l j)):=by
   intro d' la' so' hs' hci
   rw [shapeGo_iff m (i+1) d' la' so' (by omega) hs' (fun j hj=>by
    by_cases e:j=i
    ·subst e;exact hci
    ·exact hc j (by omega))]
   constructor
   ·rintro ⟨h1,h2⟩
    refine ⟨h1,fun j hj1 hj2=>?_⟩
    by_cases e:j=i
    ·subst e;exact hci
    ·exact h2 j (by omega) hj2
   ·rintro ⟨h1,h2⟩
    exact ⟨h1,fun j hj1 hj2=>h2 j (by omega) hj2⟩
  have hbad:¬Cond l i→(false=true↔(inB l.length 1 80=true∧∀ j,i≤j→j < l.length→Cond l j)):=by
   intro hn
   constructor
   ·intro h;cases h
   ·rintro ⟨_,h⟩
    exact absurd (h i (by omega) (by omega)) hn
  rw [shapeGo]
  cases hb:badN (nd l i) with
  | true =>
   rw [if_pos rfl]
   exact hbad fun h=>by have:=h.good;rw [hb] at this;cases this
  | false =>
   rw [if_neg (by simp)]
   by_cases h0:i=0
   ·subst h0
    rw [if_pos rfl]
    by_cases h1:(nd l 0).f4 = -1∧emp (nd l 0).f3=true
    ·rw [if_pos h1]
     have hdep:Dep l 0 (hN (nd l 0).f0):=.root
     refine hrest _ _ _ ?_ ⟨hb,fun _=>h1,fun h=>by omega,fun h=>by omega,fun h=>by omega,fun h=>by omega,fun h=>by omega,fun h=>by omega,_,hdep,by unfold hN;split <;> simp⟩
     refine ⟨by split <;> simp [hs.ld],hs.ll,hs.ls,fun j hj=>?_,fun j hj=>?_,fun j hj h7 h2 c hp=>?_,fun j h2=>?_,hs.so7⟩
     ·obtain rfl:j=0:=by omega
      split
      ·rename_i hh
       rw [getD_set,if_pos ⟨rfl,by rw [hs.ld];omega⟩]
       rw [hN_t hh] at hdep
       exact hdep
      ·rename_i hh
       rw [hs.d0 0 (by omega)]
       rw [hN_f (by simpa using hh)] at hdep
       exact hdep
     ·split
      ·rw [getD_set,if_neg (by omega)]
       exact hs.d0 j (by omega)
      ·exact hs.d0 j (by omega)
     ·have:=hp.lt;have:=hp.pos;omega
     ·obtain ⟨c,hp,_⟩:=hs.some_ j h2
      have:=hp.lt;omega
    ·rw [if_neg h1]
     exact hbad fun h=>h1 (h.root rfl)
   ·rw [if_neg h0]
    have hi:0 < i:=by omega
    cases hr:(!(inB (nd l i).f4 0 ((i:Int) - 1)) || !(holdsB (nd l (nd l i).f4.toNat).f0)) with
    | true =>
     rw [if_pos rfl]
     refine hbad fun h=>?_
     have a1:=h.ge hi
     have a2:=h.lt hi
     have a3:=h.holds hi
     rw [a3] at hr
     simp [inB] at hr
     omega
    | false =>
     rw [if_neg (by simp)]
     simp only [Bool.or_eq_false_iff,Bool.not_eq_false'] at hr
     obtain ⟨r1,r2⟩:=hr
     have u0:0≤(nd l i).f4∧(nd l i).f4 < i:=by simp [inB] at r1;omega
     have hch:=chn_iff (l:=l) (i+1) ((i:Int) - 1) (nd l i).f4 (by omega) (by omega) u0.1 (fun j hj=>by
      by_cases ej:j=0
      ·subst ej
       have:=((hc 0 (by omega)).root rfl).1
       omega
      ·have c1:=(hc j (by omega)).ge (by omega)
       have c2:=(hc j (by omega)).lt (by omega)
       omega)
     by_cases hneg:chn l (i+1) ((i:Int) - 1) (nd l i).f4 < 0
     ·rw [if_pos hneg]
      exact hbad fun h=>by have:=hch.2 (h.way hi);omega
     ·rw [if_neg hneg]
      have hway:=hch.1 (by omega)
      have hu:(nd l i).f4.toNat < i:=by omega
      have hdep:=Dep.step i _ hi (hs.dd (nd l i).f4.toNat hu)
      simp only
      obtain ⟨dd,hdd⟩:∃ dd,dd=(hN (nd l i).f0:Int)+d.getD (nd l i).f4.toNat 0:=⟨_,rfl⟩
      rw [←hdd] at hdep ⊢
      have hcast:((nd l i).f4.toNat:Int)=(nd l i).f4:=by omega
      have hset:∀ j,j < i+1→Dep l j ((d.set i dd).getD j 0):=by
       intro j hj
       rw [getD_set]
       by_cases e:i=j
       ·subst e
        rw [if_pos ⟨rfl,by rw [hs.ld];omega⟩]
        exact hdep
       ·rw [if_neg (by omega)]
        exact hs.dd j (by omega)
      have hset0:∀ j,i+1≤j→(d.set i dd).getD j 0=0:=by
       intro j hj
       rw [getD_set,if_neg (by omega)]
       exact hs.d0 j (by omega)
      by_cases h7:(nd l (nd l i).f4.toNat).f0=7
      ·rw [if_pos h7]
       cases hl:(so.getD (nd l i).f4.toNat false&&!(lt (la.getD (nd l i).f4.toNat nil_) (nd l i).f3)) with
       | true =>
        rw [if_pos rfl]
        simp only [Bool.and_eq_true,Bool.not_eq_true'] at hl
        obtain ⟨c,hp,hq⟩:=hs.some_ _ hl.1
        refine hbad fun h=>?_
        have:=h.rise hi h7 c (by rw [hcast] at hp;exact hp)
        rw [hq] at hl
        rw [this] at hl
        exact absurd hl.2 (by simp)
       | false =>
        rw [if_neg (by simp)]
        by_cases h6:dd > 6
        ·rw [if_pos h6]
         refine hbad fun h=>?_
         obtain ⟨d',e1,e2⟩:=h.deep
         have:=e1.uniq hdep
         omega
        ·rw [if_neg h6]
         refine hrest _ _ _ ?_ ⟨hb,fun h=>absurd h h0,fun _=>u0.1,fun _=>u0.2,fun _=>r2,fun _=>hway,fun _ _ c hp=>?_,fun _ h=>absurd h7 h,_,hdep,by omega⟩
         ·refine ⟨by simp [hs.ld],by simp [hs.ll],by simp [hs.ls],hset,hset0,fun j hj hj7 h2 c hp=>?_,fun j h2=>?_,fun j h2=>?_⟩
          ·rw [getD_set] at h2
           by_cases e:(nd l i).f4.toNat=j
           ·rw [if_pos ⟨e,by rw [hs.ls];omega⟩] at h2
            cases h2
           ·rw [if_neg (by omega)] at h2
            have hne:(nd l i).f4≠(j:Int):=by omega
            by_cases ej:j=i
            ·subst ej
             have:=hp.back hne
             have c1:=(hc c this.lt).lt this.pos
             have:=this.up
             have:=hp.lt
             omega
            ·exact hs.no j (by omega) hj7 h2 c (hp.back hne)
          ·rw [getD_set] at h2
           by_cases e:(nd l i).f4.toNat=j
           ·subst e
            refine ⟨i,by rw [hcast];exact Prev.me hi,?_⟩
            rw [getD_set,if_pos ⟨rfl,by rw [hs.ll];omega⟩]
           ·rw [if_neg (by omega)] at h2
            obtain ⟨c,hp,hq⟩:=hs.some_ j h2
            refine ⟨c,hp.next (by omega),?_⟩
            rw [getD_set,if_neg (by omega)]
            exact hq
          ·rw [getD_set] at h2
           by_cases e:(nd l i).f4.toNat=j
           ·rw [←e];exact h7
           ·rw [if_neg (by omega)] at h2
            exact hs.so7 j h2
         ·cases hso:so.getD (nd l i).f4.toNat false with
          | false=>exact absurd (by rw [hcast];exact hp) (hs.no _ hu h7 hso c)
          | true =>
           obtain ⟨c',hp',hq⟩:=hs.some_ _ hso
           rw [hcast] at hp'
           have ec:=hp'.uniq hp
           subst ec
           rw [hso,hq] at hl
           simpa using hl
      ·rw [if_neg h7]
       cases he:emp (nd l i).f3 with
       | false =>
        rw [if_pos (by simp)]
        exact hbad fun h=>by have:=h.none hi h7;rw [he] at this;cases this
       | true =>
        rw [if_neg (by simp)]
        by_cases h6:dd > 6
        ·rw [if_pos h6]
         refine hbad fun h=>?_
         obtain ⟨d',e1,e2⟩:=h.deep
         have:=e1.uniq hdep
         omega
        ·rw [if_neg h6]
         refine hrest _ _ _ ?_ ⟨hb,fun h=>absurd h h0,fun _=>u0.1,fun _=>u0.2,fun _=>r2,fun _=>hway,fun _ h=>absurd h h7,fun _ _=>he,_,hdep,by omega⟩
         refine ⟨by simp [hs.ld],hs.ll,hs.ls,hset,hset0,fun j hj hj7 h2 c hp=>?_,fun j h2=>?_,hs.so7⟩
         ·by_cases e:(nd l i).f4=(j:Int)
          ·have:(nd l i).f4.toNat=j:=by omega
           rw [this] at h7
           exact h7 hj7
          ·by_cases ej:j=i
           ·subst ej
            have:=hp.back e
            have c1:=(hc c this.lt).lt this.pos
            have:=this.up
            have:=hp.lt
            omega
           ·exact hs.no j (by omega) hj7 h2 c (hp.back e)
         ·obtain ⟨c,hp,hq⟩:=hs.some_ j h2
          refine ⟨c,?_,hq⟩
          by_cases e:(nd l i).f4=(j:Int)
          ·have h8:=hs.so7 j h2
           have:(nd l i).f4.toNat=j:=by omega
           rw [this] at h7
           exact absurd h8 h7
          ·exact hp.next e
theorem shapeB_iff (l:List S107):shapeB l=true↔(inB l.length 1 80=true∧∀ j,j < l.length→Cond l j):=by
 have hr:∀ {α:Type} (n:Nat) (z:α) (j:Nat),(List.replicate n z).getD j z=z:=by
  intro α n z j
  rw [List.getD_eq_getElem?_getD,List.getElem?_replicate]
  split <;> rfl
 unfold shapeB
 rw [shapeGo_iff _ 0 _ _ _ (by omega) ⟨by simp,by simp,by simp,fun j h=>by omega,fun j _=>hr _ _ _,fun j h=>by omega,(fun j h=>by rw [hr] at h;cases h),fun j h=>by rw [hr] at h;cases h⟩ (fun j h=>by omega)]
 simp
end Go.Proofs.YtoaafohpmhdjnaaGreatDoor.VT
