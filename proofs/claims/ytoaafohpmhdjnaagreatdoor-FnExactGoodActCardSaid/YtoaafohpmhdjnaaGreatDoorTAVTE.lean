import Derived.Test.YtoaafohpmhdjnaaGreatDoorTAVTQ
import Derived.Test.YtoaafohpmhdjnaaGreatDoorTAPVGx0
import Derived.Test.YtoaafohpmhdjnaaGreatDoorTAPVGx2
/- The reference's list of parts, its texts: what the printed functions answer on the nodes of a right tree. Conditions: none. -/
namespace Go.Proofs.YtoaafohpmhdjnaaGreatDoor.VT
open Go.RowKit Go.Proofs.YtoaafohpmhdjnaaGreatDoor.PVG Go.Proofs.YtoaafohpmhdjnaaGreatDoorW.PrintWords
set_option linter.unusedVariables false
set_option linter.unusedSimpArgs false
theorem shape_tree {l:List S107}:shapeB l=true↔∃ t,l=flat t nil_ (-1) 0∧wf t=true∧deep t≤6∧cnt t≤80:=by
 rw [shapeB_iff]
 constructor
 ·rintro ⟨h1,hc⟩
  have hl:1≤l.length∧l.length≤80:=by simp [inB] at h1;omega
  obtain ⟨t,e,p1,p2,p3⟩:=(par_of_cond hc (2 * (l.length - 0))).1 0 (Nat.le_refl _) (by omega)
  have hr:=par_read p1
  have h0:=(hc 0 (by omega)).root rfl
  have hee:e=l.length:=by
   rcases Nat.lt_or_ge e l.length with h | h
   ·have a1:=p3 h
    have a2:=(hc e h).ge (by have:=hr.e_;have:=cnt_pos t;omega)
    omega
   ·have:=hr.le;omega
  have hat:=hr.at_
  rw [emp_iff.1 h0.2,h0.1] at hat
  have hcnt:=hr.e_
  refine ⟨t,At.eq_of hat (by rw [flat_len];omega),hr.wf_,?_,by omega⟩
  have hd:Dep l 0 (hN t.kd+0):=by
   have:=Dep.root (l:=l)
   rw [nd_flat hat] at this
   simpa using this
  obtain ⟨j,q1,q2,q3⟩:=dep_at t _ _ _ _ hat hd
  obtain ⟨d,e1,e2⟩:=(hc j (by omega)).deep
  have:=e1.uniq q3
  omega
 ·rintro ⟨t,rfl,hwf,hd,hc⟩
  have hat:=At.self (flat t nil_ (-1) 0)
  have hlen:=flat_len t nil_ (-1) 0
  have hpos:=cnt_pos t
  have hnd:=nd_flat hat
  have hdep:Dep (flat t nil_ (-1) 0) 0 (hN t.kd+0):=by
   have:=Dep.root (l:=flat t nil_ (-1) 0)
   rw [hnd] at this
   simpa using this
  have hup:∀ j,j < (flat t nil_ (-1) 0).length→(nd (flat t nil_ (-1) 0) j).f4 < j:=by
   intro j hj
   by_cases h0:j=0
   ·subst h0;rw [hnd];simp
   ·exact (nd_ups hat j (by omega) (by omega)).2
  refine ⟨by simp [inB];omega,fun j hj=>?_⟩
  by_cases h0:j=0
  ·subst h0
   refine ⟨(badN_iff _).2 ⟨by rw [hnd];exact wf_node hwf,by rw [hnd];exact prt_nil⟩,fun _=>⟨by rw [hnd],by rw [hnd];exact emp_nil⟩,fun h=>absurd h (by omega),fun h=>absurd h (by omega),fun h=>absurd h (by omega),fun h=>absurd h (by omega),fun h=>absurd h (by omega),fun h=>absurd h (by omega),_,hdep,?_⟩
   unfold hN
   split <;> omega
  ·exact cond_of_flat hup t _ _ _ 0 hat hwf hdep (by omega) j (by omega) (by omega)
def Out (l:List S107) (k e:Nat):Prop:=∀ j,e≤j→j < l.length→(nd l j).f4 < (k:Int)∨(e:Int)≤(nd l j).f4
def starts:List Tr→Nat→List Nat
 | [],_=>[]
 | t :: ts,e=>e :: starts ts (e+cnt t)
theorem starts_len (ts:List Tr):∀ e,(starts ts e).length=ts.length:=by
 induction ts with
 | nil=>intro e;rfl
 | cons t ts ih=>intro e;simp [starts,ih]
theorem cnt_ge_len (ts:List Tr):ts.length≤cntL ts:=by
 induction ts with
 | nil=>simp
 | cons t ts ih=>have:=cnt_pos t;simp [cntL];omega
theorem filter_kids {l:List S107} {m:Bool}:∀ (ts:List Tr) (ns:List ByteArray) (k e:Nat),k < e→At l e (flatL ts m ns k e)→(List.range' e (cntL ts)).filter (fun j=>decide ((nd l j).f4=(k:Int)))=starts ts e
 | [],_,_,_,_,_=>by simp [cntL,starts]
 | t :: ts,ns,k,e,hke,hat=>by
  rw [flatL,At.app,flat_len] at hat
  have hp:=cnt_pos t
  have ih:=filter_kids ts ns.tail k (e+cnt t) (by omega) hat.2
  rw [cntL,←List.range'_append_1,List.filter_append,ih,starts]
  have:(List.range' e (cnt t)).filter (fun j=>decide ((nd l j).f4=(k:Int)))=[e]:=by
   obtain ⟨c,hc⟩:∃ c,cnt t=c+1:=⟨cnt t - 1,by omega⟩
   rw [hc,List.range'_succ,List.filter_cons,if_pos (by rw [nd_flat hat.1];simp)]
   congr 1
   rw [List.filter_eq_nil_iff]
   intro j hj
   rw [List.mem_range'_1] at hj
   have:=nd_ups hat.1 j (by omega) (by omega)
   simp
   omega
  rw [this]
  rfl
theorem filter_out {l:List S107} {k e m:Nat} (ho:Out l k e) (hke:k < e) (hm:e+m=l.length):(List.range' e m).filter (fun j=>decide ((nd l j).f4=(k:Int)))=[]:=by
 rw [List.filter_eq_nil_iff]
 intro j hj
 rw [List.mem_range'_1] at hj
 have:=ho j (by omega) (by omega)
 simp
 omega
theorem kids_go {l:List S107} {u:Int}:∀ (m i:Nat) (acc:List Int) (f:Nat),i+m=l.length→acc.length+m < 17592186044416→l.length < 4611686018427387904→m < f →
  spec_l1Kids.l0 f u acc i l=some (acc++((List.range' i m).filter (fun j=>decide ((nd l j).f4=u))).map (fun (j:Nat)=>(j:Int)))
 | 0,i,acc,f,h1,h2,h3,hf=>by
  obtain ⟨f,rfl⟩:∃ g,f=g+1:=⟨f - 1,by omega⟩
  rw [spec_l1Kids.l0,if_neg (by omega)]
  simp
 | m+1,i,acc,f,h1,h2,h3,hf=>by
  obtain ⟨f,rfl⟩:∃ g,f=g+1:=⟨f - 1,by omega⟩
  have hw:wrap64 ((i:Int)+1)=((i+1:Nat):Int):=by unfold wrap64;omega
  rw [spec_l1Kids.l0,if_pos (by omega),if_pos (by omega),hw]
  have hr:rd_T107 l (i:Int)=nd l i:=rfl
  rw [hr,List.range'_succ,List.filter_cons]
  by_cases h:(nd l i).f4=u
  ·rw [if_pos h,if_pos (by omega),kids_go m (i+1) (acc++[(i:Int)]) f (by omega) (by simp;omega) h3 (by omega)]
   simp [h]
  ·rw [if_neg h,kids_go m (i+1) acc f (by omega) (by omega) h3 (by omega)]
   simp [h]
structure Pl (l:List S107) (k:Nat) (t:Tr) (nm:ByteArray) (up:Int):Prop where
 at_:At l k (flat t nm up k)
 out:Out l k (k+cnt t)
 wf_:wf t=true
 len:l.length≤80
theorem Pl.lt {l:List S107} {k:Nat} {t:Tr} {nm:ByteArray} {up:Int} (h:Pl l k t nm up):k+cnt t≤l.length:=by
 have:=h.at_.le (by rw [flat_len];exact cnt_pos t)
 rwa [flat_len] at this
theorem Pl.kids {l:List S107} {k:Nat} {t:Tr} {nm:ByteArray} {up:Int} (h:Pl l k t nm up):∀ f,100≤f→spec_l1Kids.f f l k=some ((starts t.ks (k+1)).map fun (j:Nat)=>(j:Int)):=by
 intro f hf
 have hlt:=h.lt
 have hp:=cnt_pos t
 have hlen:=h.len
 have hw:wrap64 ((k:Int)+1)=((k+1:Nat):Int):=by unfold wrap64;omega
 unfold spec_l1Kids.f
 rw [hw,kids_go (l.length - (k+1)) (k+1) [] f (by omega) (by simp;omega) (by omega) (by omega)]
 have hat:=h.at_
 have hout:=h.out
 cases t with
 | mk kd nu tx ns ks =>
  rw [flat,At.cons] at hat
  simp only [cnt] at hlt hout
  have e:l.length - (k+1)=cntL ks+(l.length - (k+1+cntL ks)):=by omega
  rw [e,←List.range'_append_1,List.filter_append,filter_kids ks ns k (k+1) (by omega) hat.2,filter_out (by rw [Nat.add_assoc];exact hout) (by omega) (by omega)]
  simp [Tr.ks]
theorem Pl.part {l:List S107} {k:Nat} {kd nu:Int} {tx:ByteArray} {ns:List ByteArray} {nm:ByteArray} {up:Int} {a:List Tr} {t:Tr} {b:List Tr} (h:Pl l k (.mk kd nu tx ns (a++t :: b)) nm up) :
  Pl l (k+1+cntL a) t (if kd=7 then (ns.drop a.length).headD nil_ else nil_) k:=by
 have hat:=h.at_
 have hout:=h.out
 rw [flat,At.cons,flatL_append,At.app,flatL_len,flatL,At.app,flat_len] at hat
 obtain ⟨_,h1,h2,h3⟩:=hat
 have hwf:=h.wf_
 rw [wf] at hwf
 simp only [Bool.and_eq_true,wfL_append,wfL] at hwf
 refine ⟨by simpa using h2,?_,hwf.2.2.1,h.len⟩
 intro j hj hl
 simp only [cnt,cntL_append,cntL] at hout
 by_cases hb:j < k+1+cntL a+cnt t+cntL b
 ·
  have:∀ (ts:List Tr) (ns:List ByteArray) (e:Nat),k < e→At l e (flatL ts (kd==7) ns k e)→∀ j,e≤j→j < e+cntL ts→(nd l j).f4=(k:Int)∨(e:Int)≤(nd l j).f4:=by
   intro ts
   induction ts with
   | nil=>intro ns e _ _ j h1 h2;simp [cntL] at h2;omega
   | cons t ts ih =>
    intro ns e he hat j h1 h2
    rw [flatL,At.app,flat_len] at hat
    simp only [cntL] at h2
    by_cases c1:j=e
    ·subst c1;left;rw [nd_flat hat.1]
    ·by_cases c2:j < e+cnt t
     ·right;exact (nd_ups hat.1 j (by omega) c2).1
     ·rcases ih ns.tail (e+cnt t) (by omega) hat.2 j (by omega) (by omega) with h | h
      ·exact .inl h
      ·right;omega
  rcases this b _ _ (by omega) h3 j (by omega) (by omega) with h | h
  ·left;omega
  ·right;exact h
 ·rcases hout j (by omega) hl with h | h
  ·left;omega
  ·right;omega
theorem Pl.node {l:List S107} {k:Nat} {t:Tr} {nm:ByteArray} {up:Int} (h:Pl l k t nm up):rd_T107 l (k:Int)=⟨t.kd,t.nu,t.tx,nm,up⟩:=nd_flat h.at_
theorem Pl.root {t:Tr} (h:wf t=true) (hc:cnt t≤80):Pl (flat t nil_ (-1) 0) 0 t nil_ (-1) :=
 ⟨At.self _,fun j h1 h2=>by rw [flat_len] at h2;omega,h,by rw [flat_len];exact hc⟩
end Go.Proofs.YtoaafohpmhdjnaaGreatDoor.VT
