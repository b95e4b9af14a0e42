import Derived.Test.YtoaafohpmhdjnaaGreatDoorTAYPA
import Derived.Test.YtoaafohpmhdjnaaGreatDoorTAPVGx0
import Derived.Test.YtoaafohpmhdjnaaGreatDoorTAPVGx2
import Derived.Test.YtoaafohpmhdjnaaGreatDoorTAPVGx3
import Derived.Test.YtoaafohpmhdjnaaGreatDoorTAPVGx4
/- The reference's text of a value. Conditions: none. -/
namespace Go.Proofs.YtoaafohpmhdjnaaGreatDoor.VT
open Go.RowKit Go.Proofs.YtoaafohpmhdjnaaGreatDoor.PVG Go.Proofs.YtoaafohpmhdjnaaGreatDoorW.PrintWords
set_option linter.unusedVariables false
set_option linter.unusedSimpArgs false
theorem partsL_append:∀ (a b:List Tr) (m first:Bool) (ns:List ByteArray),partsL (a++b) m first ns=partsL a m first ns++partsL b m (first&&a.isEmpty) (ns.drop a.length)
 | [],b,m,first,ns=>by simp [partsL]
 | t :: ts,b,m,first,ns=>by
  have:ns.tail.drop ts.length=ns.drop (ts.length+1):=by rw [←List.drop_one,List.drop_drop];congr 1;omega
  simp only [List.cons_append,partsL,partsL_append ts b,this,List.append_assoc,List.length_cons,List.isEmpty_cons,Bool.and_false]
  simp
theorem starts_get (a:List Tr) (t:Tr) (b:List Tr):∀ e,(starts (a++t :: b) e)[a.length]? = some (e+cntL a):=by
 induction a with
 | nil=>intro e;simp [starts,cntL]
 | cons x a ih =>
  intro e
  simp only [List.cons_append,starts,List.length_cons,List.getElem?_cons_succ,ih,cntL]
  rw [Nat.add_assoc]
theorem rd_starts (a:List Tr) (t:Tr) (b:List Tr) (e:Nat):rd ((starts (a++t :: b) e).map fun (j:Nat)=>(j:Int)) (a.length:Int)=((e+cntL a:Nat):Int):=by
 unfold rd
 rw [List.getD_eq_getElem?_getD,Int.toNat_natCast,List.getElem?_map,starts_get]
 rfl
theorem Ev.from {α:Type} {g:Nat→Option α} {r:α} (K:Nat) (h:∀ f,K≤f→g f=some r):Ev g r:=⟨K,h⟩
theorem text_ev:∀ (t:Tr) {l:List S107} {k:Nat} {nm:ByteArray} {up:Int},Pl l k t nm up→Ev (fun f=>spec_l1Text.f f l k) (ofL (textL t)):=by
 intro t
 refine Tr.ind (P:=fun t=>∀ {l:List S107} {k:Nat} {nm:ByteArray} {up:Int},Pl l k t nm up→Ev (fun f=>spec_l1Text.f f l k) (ofL (textL t))) ?_ t
 intro kd nu tx ns ks ih l k nm up h
 have hlt:=h.lt
 have hp:=cnt_pos (.mk kd nu tx ns ks)
 have hlen:=h.len
 have hg:=wf_node h.wf_
 simp only [Tr.kd,Tr.nu,Tr.tx,nodeG,Bool.and_eq_true] at hg
 have hnu:-1000000000≤nu∧nu≤1000000000:=by have:=hg.1.1.2;simp [inB] at this;exact this
 have htx:=prt_size hg.2
 have hwf:=h.wf_
 rw [wf] at hwf
 simp only [Bool.and_eq_true] at hwf
 have hnode:=h.node
 simp only [Tr.kd,Tr.nu,Tr.tx] at hnode
 have hk1:(k:Int) < (l.length:Int):=by omega
 refine Ev.step (f:=fun f=>if kd=1 then some (ofL [110,117,108,108]) else if kd=2 then some (ofL [102,97,108,115,101]) else if kd=3 then some (ofL [116,114,117,101]) else if kd=4 then (spec_l1Int.f f nu).bind (fun t=>some t) else if kd=5 then (spec_l1Quote.f f tx).bind (fun t=>some t) else (spec_l1Kids.f f l k).bind fun t153=>spec_l1Text.l0 f (ofL []) t153 (t153.length:Int) 0 l kd nu tx nm up) (fun f=>?_) ?_
 ·show spec_l1Text.f (f+1) l k=_
  rw [spec_l1Text.f,if_pos (by omega),if_pos hk1,hnode]
  rfl
 ·by_cases h1:kd=1
  ·simp only [if_pos h1,textL];exact Ev.now _
  ·by_cases h2:kd=2
   ·simp only [if_neg h1,if_pos h2,textL];exact Ev.now _
   ·by_cases h3:kd=3
    ·simp only [if_neg h1,if_neg h2,if_pos h3,textL];exact Ev.now _
    ·by_cases h4:kd=4
     ·simp only [if_neg h1,if_neg h2,if_neg h3,if_pos h4,textL]
      exact Ev.from 20 fun f hf=>by rw [int_eq hnu.1 hnu.2 f hf];rfl
     ·by_cases h5:kd=5
      ·simp only [if_neg h1,if_neg h2,if_neg h3,if_neg h4,if_pos h5,textL]
       exact Ev.from 1100 fun f hf=>by rw [quote_eq (by omega) f hf];rfl
      ·simp only [if_neg h1,if_neg h2,if_neg h3,if_neg h4,if_neg h5]
       refine Ev.bind (a:=(starts ks (k+1)).map fun (j:Nat)=>(j:Int)) (Ev.from 100 fun f hf=>h.kids f hf) ?_
       have hL:((starts ks (k+1)).map fun (j:Nat)=>(j:Int)).length=ks.length:=by rw [List.length_map,starts_len]
       have hpl:(partsL ks (kd==7) true ns).length≤120 * cntL ks:=by
        refine partsL_len ks hwf.2 _ _ ns fun h7=>?_
        have h7':kd=7:=by simpa using h7
        subst h7'
        have:=hwf.1.1.2
        simp at this
        exact ⟨by omega,this.2⟩
       have hc80:cntL ks≤80:=by simp only [cnt] at hlt;omega
       have loop:∀ (b a:List Tr),ks=a++b→Ev (fun f=>spec_l1Text.l0 f (ofL (partsL a (kd==7) true ns)) ((starts ks (k+1)).map fun (j:Nat)=>(j:Int)) (ks.length:Int) (a.length:Int) l kd nu tx nm up) (ofL (textL (.mk kd nu tx ns ks))):=by
        intro b
        induction b with
        | nil =>
         intro a he
         rw [List.append_nil] at he
         subst he
         refine Ev.step (f:=fun _=>some (ofL (textL (.mk kd nu tx ns ks)))) (fun f=>?_) (Ev.now _)
         show spec_l1Text.l0 (f+1) _ _ _ _ _ _ _ _ _ _=_
         rw [spec_l1Text.l0,if_neg (by omega),textL,if_neg h1,if_neg h2,if_neg h3,if_neg h4,if_neg h5]
         have e1:(⟨#[123]⟩:ByteArray)=ofL [123]:=rfl
         have e2:(⟨#[125]⟩:ByteArray)=ofL [125]:=rfl
         have e3:(⟨#[91]⟩:ByteArray)=ofL [91]:=rfl
         have e4:(⟨#[93]⟩:ByteArray)=ofL [93]:=rfl
         rw [e1,e2,e3,e4]
         by_cases h7:kd=7
         ·have b7:(kd==7)=true:=by simpa using h7
          rw [b7] at hpl ⊢
          rw [if_pos h7,if_pos h7,ofL_app,ofL_app,ofL_size,ofL_size,if_pos (by omega),if_pos (by simp;omega)]
          simp
         ·have b7:(kd==7)=false:=by simpa using h7
          rw [b7] at hpl ⊢
          rw [if_neg h7,if_neg h7,ofL_app,ofL_app,ofL_size,ofL_size,if_pos (by omega),if_pos (by simp;omega)]
          simp
        | cons t b ihb =>
         intro a he
         have hal:a.length < ks.length:=by rw [he];simp
         have hks:ks.length≤80:=by have:=cnt_ge_len ks;omega
         have hpart:Pl l (k+1+cntL a) t (if kd=7 then (ns.drop a.length).headD nil_ else nil_) k:=by
          have:=h
          rw [he] at this
          exact this.part
         have hrd:=rd_starts a t b (k+1)
         rw [←he] at hrd
         have iht:=ih t (by rw [he];simp) hpart
         have hnx:=ihb (a++[t]) (by rw [he];simp)
         have hw:wrap64 ((a.length:Int)+1)=((a++[t]).length:Int):=by simp;unfold wrap64;omega
         have hpa:(partsL (a++[t]) (kd==7) true ns).length≤120 * 80:=by
          have hh:=partsL_append (a++[t]) b (kd==7) true ns
          rw [show a++[t]++b=ks by rw [he];simp] at hh
          have:=congrArg List.length hh
          rw [List.length_append] at this
          omega
         have happ:=partsL_append a [t] (kd==7) true ns
         simp only [partsL,Bool.true_and,List.append_nil] at happ
         have hlt2:=hpart.lt
         have hkp:=hpart.node
         have hct:=cnt_pos t
         have hj:∀ acc:List UInt8,partsL (a++[t]) (kd==7) true ns=acc++((if (kd==7)=true then quotL ((ns.drop a.length).headD nil_)++[58] else [])++textL t) →
           Ev (fun f=>spec_l1Text.j1 f (ofL acc) ((k+1+cntL a:Nat):Int) ((starts ks (k+1)).map fun (j:Nat)=>(j:Int)) (ks.length:Int) (a.length:Int) l kd nu tx nm up) (ofL (textL (.mk kd nu tx ns ks))):=by
          intro acc hacc
          rw [hacc] at hpa
          simp only [List.length_append] at hpa
          by_cases h7:kd=7
          ·have b7:(kd==7)=true:=by simpa using h7
           rw [b7] at hacc hpa hnx
           simp only [if_true] at hacc hpa
           rw [if_pos h7] at hkp
           have hq:prt ((ns.drop a.length).headD nil_)=true:=by
            have h8:=hwf.1.1.2
            rw [b7] at h8
            simp at h8
            cases hd:ns.drop a.length with
            | nil=>exact prt_nil
            | cons x r=>exact h8.2 x (List.mem_of_mem_drop (by rw [hd];exact List.mem_cons_self ..))
           have hq2:=prt_size hq
           simp only [List.length_append] at hpa
           refine Ev.step (f:=fun f=>(spec_l1Quote.f f ((ns.drop a.length).headD nil_)).bind fun t158=>if t158.size+1≤9223372036854775807 then if (ofL acc).size+(t158++(⟨#[58]⟩:ByteArray)).size≤9223372036854775807 then (spec_l1Text.f f l ((k+1+cntL a:Nat):Int)).bind fun t159=>if (ofL acc++(t158++(⟨#[58]⟩:ByteArray))).size+t159.size≤9223372036854775807 then spec_l1Text.l0 f ((ofL acc++(t158++(⟨#[58]⟩:ByteArray)))++t159) ((starts ks (k+1)).map fun (j:Nat)=>(j:Int)) (ks.length:Int) ((a++[t]).length:Int) l kd nu tx nm up else none else none else none) (fun f=>?_) ?_
           ·show spec_l1Text.j1 (f+1) _ _ _ _ _ _ _ _ _ _ _=_
            rw [spec_l1Text.j1,if_pos h7,if_pos (by omega),if_pos (by omega),hkp,hw]
           ·refine Ev.bind (a:=ofL (quotL ((ns.drop a.length).headD nil_))) (Ev.from 1100 fun f hf=>quote_eq (by omega) f hf) ?_
            have e1:(⟨#[58]⟩:ByteArray)=ofL [58]:=rfl
            simp only [e1,ofL_app,ofL_size,List.length_append,List.length_singleton]
            simp only [if_pos (show (quotL ((ns.drop a.length).headD nil_)).length+1≤9223372036854775807 by omega),if_pos (show acc.length+((quotL ((ns.drop a.length).headD nil_)).length+1)≤9223372036854775807 by omega)]
            refine Ev.bind (a:=ofL (textL t)) iht ?_
            simp only [ofL_app,ofL_size]
            simp only [if_pos (show acc.length+((quotL ((ns.drop a.length).headD nil_)).length+1)+(textL t).length≤9223372036854775807 by have h9:=hpa;simp only [List.length_cons,List.length_nil] at h9;omega)]
            rw [hacc] at hnx
            simpa using hnx
          ·have b7:(kd==7)=false:=by simpa using h7
           rw [b7] at hacc hpa hnx
           simp only [Bool.false_eq_true,if_false,List.nil_append] at hacc hpa
           refine Ev.step (f:=fun f=>(spec_l1Text.f f l ((k+1+cntL a:Nat):Int)).bind fun t160=>if (ofL acc).size+t160.size≤9223372036854775807 then spec_l1Text.l0 f (ofL acc++t160) ((starts ks (k+1)).map fun (j:Nat)=>(j:Int)) (ks.length:Int) ((a++[t]).length:Int) l kd nu tx nm up else none) (fun f=>?_) ?_
           ·show spec_l1Text.j1 (f+1) _ _ _ _ _ _ _ _ _ _ _=_
            rw [spec_l1Text.j1,if_neg h7,hw]
           ·refine Ev.bind (a:=ofL (textL t)) iht ?_
            simp only [ofL_app,ofL_size]
            simp only [if_pos (show acc.length+(textL t).length≤9223372036854775807 by omega)]
            rw [hacc] at hnx
            exact hnx
         by_cases ha0:a=[]
         ·refine Ev.step (f:=fun f=>spec_l1Text.j1 f (ofL (partsL a (kd==7) true ns)) ((k+1+cntL a:Nat):Int) ((starts ks (k+1)).map fun (j:Nat)=>(j:Int)) (ks.length:Int) (a.length:Int) l kd nu tx nm up) (fun f=>?_) (hj _ ?_)
          ·show spec_l1Text.l0 (f+1) _ _ _ _ _ _ _ _ _ _=_
           rw [spec_l1Text.l0,if_pos (by omega),if_pos (by omega),hL,if_pos (by omega),if_neg (by rw [ha0];simp),hrd]
          ·rw [happ,ha0];simp
         ·have hpos:0 < a.length:=by
           cases a with
           | nil=>exact absurd rfl ha0
           | cons x r=>simp
          have hane:a.isEmpty=false:=by
           cases a with
           | nil=>exact absurd rfl ha0
           | cons x r=>rfl
          rw [hane] at happ
          simp only [Bool.false_eq_true,if_false] at happ
          have hsz:(partsL a (kd==7) true ns).length+1≤120 * 80:=by
           rw [happ] at hpa
           simp at hpa
           omega
          refine Ev.step (f:=fun f=>spec_l1Text.j1 f (ofL (partsL a (kd==7) true ns++[44])) ((k+1+cntL a:Nat):Int) ((starts ks (k+1)).map fun (j:Nat)=>(j:Int)) (ks.length:Int) (a.length:Int) l kd nu tx nm up) (fun f=>?_) (hj _ ?_)
          ·show spec_l1Text.l0 (f+1) _ _ _ _ _ _ _ _ _ _=_
           rw [spec_l1Text.l0,if_pos (by omega),if_pos (by omega),hL,if_pos (by omega),if_pos (by omega),ofL_size,if_pos (by omega),hrd,show (⟨#[44]⟩:ByteArray)=ofL [44] from rfl,ofL_app]
          ·rw [happ];simp
       have:=loop ks [] rfl
       simp only [hL]
       simpa [partsL] using this
end Go.Proofs.YtoaafohpmhdjnaaGreatDoor.VT
