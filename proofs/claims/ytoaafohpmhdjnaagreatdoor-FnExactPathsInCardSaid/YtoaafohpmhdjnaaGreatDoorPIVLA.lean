import Derived.Test.YtoaafohpmhdjnaaGreatDoorPIPVGx0
import Derived.Test.YtoaafohpmhdjnaaGreatDoorPIVGA
import Derived.Test.YtoaafohpmhdjnaaGreatDoorPIVTG
import Derived.Test.YtoaafohpmhdjnaaGreatDoorPIPVGx4
import Derived.Test.YtoaafohpmhdjnaaGreatDoorPIPVGx5
import Derived.Test.YtoaafohpmhdjnaaGreatDoorPIPVGx6
import Derived.Test.YtoaafohpmhdjnaaGreatDoorPIPVGx7
import Derived.Test.YtoaafohpmhdjnaaGreatDoorPIPVGx8
import Derived.Test.YtoaafohpmhdjnaaGreatDoorPIPVGx1
import Derived.Test.YtoaafohpmhdjnaaGreatDoorPIPVGx2
namespace Go.Proofs.YtoaafohpmhdjnaaGreatDoor.PVG
open Go.RowKit Go.Proofs.YtoaafohpmhdjnaaGreatDoorW.PrintWords Go.Proofs.YtoaafohpmhdjnaaGreatDoorW.PrintLast Go.Proofs.YtoaafohpmhdjnaaGreatDoorW.PrintMore
attribute [local go_sem] max2_int min2_int max_two min_two max_three min_three max_four min_four
set_option linter.unusedVariables false
set_option linter.unusedSimpArgs false
/-! ### laws_eqIntS: function 57 -/
end Go.Proofs.YtoaafohpmhdjnaaGreatDoor.PVG
namespace Go.Proofs.YtoaafohpmhdjnaaGreatDoor.VT
open Go.RowKit Go.Proofs.YtoaafohpmhdjnaaGreatDoor.PVG Go.Proofs.YtoaafohpmhdjnaaGreatDoorW.PrintWords
set_option linter.unusedVariables false
set_option linter.unusedSimpArgs false
mutual
theorem wf_bnd:∀ t:Tr,wf t=true→bnd t=true
 | .mk kd nu tx ns ks,h=>by
  rw [wf] at h
  simp only [Bool.and_eq_true,nodeG] at h
  rw [bnd,wfL_bnd ks h.2,h.1.1.1.2,h.1.1.1.1.1.2]
  by_cases h7:kd=7
  ·have h8:=h.1.1.2
   rw [if_pos (by simpa using h7)] at h8
   simp only [Bool.and_eq_true] at h8
   rw [h8.2];rfl
  ·have h8:=h.1.1.2
   rw [if_neg (by simpa using h7)] at h8
   cases ns with
   | nil=>rfl
   | cons a r=>simp at h8
theorem wfL_bnd:∀ ts:List Tr,wfL ts=true→bndL ts=true
 | [],_=>by rw [bndL]
 | t :: ts,h=>by
  rw [wfL] at h
  simp only [Bool.and_eq_true] at h
  rw [bndL,wf_bnd t h.1,wfL_bnd ts h.2];rfl
end
theorem par_flat {t:Tr} (hw:wf t=true):par (flat t nil_ (-1) 0) 0 0=some (t,cnt t):=by
 have hat:=At.self (flat t nil_ (-1) 0)
 have hlen:=flat_len t nil_ (-1) 0
 have hok:nodeOK ⟨t.kd,t.nu,t.tx,nil_,-1⟩ 0=true:=by
  have:=wf_node hw
  simp [nodeOK,this,emp_nil]
 have:=(par_all (l:=flat t nil_ (-1) 0) (2 * cnt t)).1 t nil_ (-1) 0 0 (Nat.le_refl _) hat hw hok (by intro h;omega)
 rwa [Nat.zero_add] at this
theorem valT_iff {l:List S107} {t:Tr}:valT l=some t↔(l=flat t nil_ (-1) 0∧wf t=true∧deep t≤6∧cnt t≤80∧(textL t).length≤300):=by
 constructor
 ·intro h
  unfold valT at h
  split at h
  ·rename_i h0
   split at h
   ·cases h
   ·rename_i t' e hp
    split at h
    ·rename_i hg
     cases h
     have hr:=par_read hp
     simp only [Bool.and_eq_true,beq_iff_eq,goodB,decide_eq_true_eq] at hg h0
     obtain ⟨he,⟨⟨hb,hc⟩,hd⟩,ht⟩:=hg
     have hok:=hr.ok
     have hem:(nd l 0).f3=nil_:=by
      unfold nodeOK at hok
      rw [if_neg (by decide),Bool.and_eq_true] at hok
      exact emp_iff.1 hok.2
     have hat:=hr.at_
     rw [hem,h0.2] at hat
     exact ⟨At.eq_of hat (by rw [flat_len];have:=hr.e_;omega),hr.wf_,hd,hc,ht⟩
    ·cases h
  ·cases h
 ·rintro ⟨rfl,hw,hd,hc,ht⟩
  have hn:=nd_flat (At.self (flat t nil_ (-1) 0))
  have hlen:=flat_len t nil_ (-1) 0
  have hp:=cnt_pos t
  unfold valT
  rw [hn,par_flat hw,hlen]
  rw [if_pos (by simp [inB];omega)]
  simp [goodB,wf_bnd t hw,hd,hc,ht]
theorem flat_inj {t u:Tr} (ht:wf t=true) (hu:wf u=true) (h:flat t nil_ (-1) 0=flat u nil_ (-1) 0):t=u:=by
 have h1:=par_flat ht
 rw [h,par_flat hu] at h1
 cases h1
 rfl
def Small (l:List S107):Prop:=l.length≤1073741824∧∀ x,x∈l→x.f2.size≤1073741824∧x.f3.size≤1073741824
theorem good_ev {l:List S107} (h:Small l):Ev (fun k=>spec_GoodValue.f k l) (valT l).isSome:=by
 refine Ev.congr (f:=fun k=>if shapeB l=true then ((spec_l1Text.f k l 0).bind fun t163=>(some (decide ((t163.size:Int)≤300)))) else some false) (fun k=>?_) ?_
 ·unfold spec_GoodValue.f spec_l1Shape.f
  rw [if_pos (show l.length≤1073741824∧∀ x,x∈l→x.f2.size≤1073741824∧x.f3.size≤1073741824 from h)]
  rfl
 ·by_cases hs:shapeB l=true
  ·obtain ⟨t,rfl,hw,hd,hc⟩:=shape_tree.1 hs
   simp only [if_pos hs]
   refine Ev.bind (a:=ofL (textL t)) (text_ev t (Pl.root hw hc)) ?_
   rw [ofL_size]
   by_cases hl:(textL t).length≤300
   ·rw [valT_iff.2 ⟨rfl,hw,hd,hc,hl⟩,decide_eq_true (by omega)]
    exact Ev.now _
   ·cases hv:valT (flat t nil_ (-1) 0) with
    | none =>
     rw [decide_eq_false (by omega)]
     exact Ev.now _
    | some u =>
     obtain ⟨h1,h2,h3,h4,h5⟩:=valT_iff.1 hv
     obtain rfl:=flat_inj hw h2 h1
     exact absurd h5 hl
  ·simp only [if_neg hs]
   cases hv:valT l with
   | none=>exact Ev.now _
   | some u =>
    obtain ⟨h1,h2,h3,h4,h5⟩:=valT_iff.1 hv
    exact absurd (shape_tree.2 ⟨u,h1,h2,h3,h4⟩) hs
end Go.Proofs.YtoaafohpmhdjnaaGreatDoor.VT
namespace Go.Proofs.YtoaafohpmhdjnaaGreatDoor.VT
open Go.RowKit Go.Proofs.YtoaafohpmhdjnaaGreatDoor.PVG Go.Proofs.YtoaafohpmhdjnaaGreatDoorW.PrintWords
set_option linter.unusedVariables false
set_option linter.unusedSimpArgs false
def tov (l:List S136):List S107:=l.map fun x=>⟨x.f0,x.f1,x.f2,x.f3,x.f4⟩
theorem tov_len (l:List S136):(tov l).length=l.length:=by simp [tov]
theorem rd136 {l:List S136} {i:Nat} (h:i < l.length):rd_T136 l (i:Int)=l[i]:=by
 unfold rd_T136
 rw [Int.toNat_natCast,List.getD_eq_getElem?_getD,List.getElem?_eq_getElem h]
 rfl
def Fits (l:List S136):Prop:=l.length≤maxLen∧∀ x,x∈l→x.f2.size≤maxLen∧x.f3.size≤maxLen
theorem szNode_f {c d:ByteArray} {n:Int} (a b e:Int) (hn:0≤n∧n≤1048576) (hc:c.size≤maxLen) (hd:d.size≤maxLen) :
  laws_szNode.f a b c d e n=some (if n - c.size < 0 then -1 else if n - c.size - d.size < 0 then -1 else n - c.size - d.size):=by
 unfold maxLen at hc hd
 have w1:wrap64 (n - (c.size:Int))=n - c.size:=by unfold wrap64;omega
 unfold laws_szNode.f
 rw [w1]
 by_cases h1:n - (c.size:Int) < 0
 ·rw [if_pos h1,if_pos h1]
 ·have w2:wrap64 (n - (c.size:Int) - (d.size:Int))=n - c.size - d.size:=by unfold wrap64;omega
  rw [if_neg h1,if_neg h1,w2]
  by_cases h2:n - (c.size:Int) - (d.size:Int) < 0
  ·rw [if_pos h2,if_pos h2]
  ·rw [if_neg h2,if_neg h2]
theorem sz_go {l:List S136} (hl:Fits l):∀ (m i:Nat) (n:Int),i+m=l.length→0≤n∧n≤1048576→∃ r,Ev (fun f=>laws_szNodeS.l0 f l n (i:Int)) r∧r≤n∧(0≤r→∀ j (h:j < l.length),i≤j→l[j].f2.size≤1048576∧l[j].f3.size≤1048576):=by
 intro m
 induction m with
 | zero =>
  intro i n hi hn
  refine ⟨n,Ev.step (f:=fun _=>some n) (fun f=>?_) (Ev.now _),by omega,fun _ j h1 h2=>by omega⟩
  rw [laws_szNodeS.l0,if_neg (by omega)]
 | succ m ih =>
  intro i n hi hn
  have hil:i < l.length:=by omega
  obtain ⟨hL,hx⟩:=hl
  obtain ⟨hc,hd⟩:=hx _ (List.getElem_mem hil)
  have hs:=szNode_f l[i].f0 l[i].f1 l[i].f4 hn hc hd
  have hw:wrap64 ((i:Int)+1)=((i+1:Nat):Int):=by unfold maxLen at hL;unfold wrap64;omega
  by_cases h1:n - (l[i].f2.size:Int) < 0
  ·rw [if_pos h1] at hs
   refine ⟨-1,Ev.step (f:=fun _=>some (-1)) (fun f=>?_) (Ev.now _),by omega,fun h=>by omega⟩
   rw [laws_szNodeS.l0,if_pos (by omega),if_pos (by omega),rd136 hil,hs]
   rfl
  ·rw [if_neg h1] at hs
   by_cases h2:n - (l[i].f2.size:Int) - (l[i].f3.size:Int) < 0
   ·rw [if_pos h2] at hs
    refine ⟨-1,Ev.step (f:=fun _=>some (-1)) (fun f=>?_) (Ev.now _),by omega,fun h=>by omega⟩
    rw [laws_szNodeS.l0,if_pos (by omega),if_pos (by omega),rd136 hil,hs]
    rfl
   ·rw [if_neg h2] at hs
    obtain ⟨r,e1,e2,e3⟩:=ih (i+1) (n - (l[i].f2.size:Int) - (l[i].f3.size:Int)) (by omega) (by omega)
    refine ⟨r,Ev.step (fun f=>?_) e1,by omega,fun hr j hj hij=>?_⟩
    ·rw [laws_szNodeS.l0,if_pos (by omega),if_pos (by omega),rd136 hil,hs]
     show (if _ then _ else _)=_
     rw [if_neg h2,hw]
    ·by_cases hji:j=i
     ·subst hji;constructor <;> omega
     ·exact e3 hr j hj (by omega)
theorem sz_ev {l:List S136} (hl:Fits l):∃ r,Ev (fun f=>laws_szValue.f f l 1048576) r∧(0≤r→Small (tov l)∧l.length≤1048576):=by
 have hL:=hl.1
 have hw:wrap64 (1048576 - (l.length:Int))=1048576 - l.length:=by unfold maxLen at hL;unfold wrap64;omega
 by_cases h1:1048576 - (l.length:Int) < 0
 ·refine ⟨-1,Ev.congr (f:=fun _=>some (-1)) (fun f=>?_) (Ev.now _),fun h=>by omega⟩
  unfold laws_szValue.f laws_szNodeS.f
  rw [hw,if_pos h1]
  rfl
 ·obtain ⟨r,e1,e2,e3⟩:=sz_go hl l.length 0 (1048576 - l.length) (by omega) (by omega)
  refine ⟨if r < 0 then -1 else r,Ev.congr (f:=fun f=>(laws_szNodeS.l0 f l (1048576 - l.length) 0).bind fun t114=>if t114 < 0 then some (-1) else some t114) (fun f=>?_) (Ev.bind e1 ?_),fun hr=>?_⟩
  ·unfold laws_szValue.f laws_szNodeS.f
   rw [hw,if_neg h1]
  ·by_cases hr:r < 0
   ·simp only [if_pos hr];exact Ev.now _
   ·simp only [if_neg hr];exact Ev.now _
  ·have hr0:0≤r:=by
    by_cases hh:r < 0
    ·rw [if_pos hh] at hr;omega
    ·omega
   refine ⟨⟨by rw [tov_len];omega,fun x hx=>?_⟩,by omega⟩
   obtain ⟨y,hy,rfl⟩:=List.mem_map.1 hx
   obtain ⟨j,hj,rfl⟩:=List.getElem_of_mem hy
   obtain ⟨g1,g2⟩:=e3 hr0 j hj (by omega)
   exact ⟨by show l[j].f2.size≤_;omega,by show l[j].f3.size≤_;omega⟩
theorem to_go {l:List S136} (hl:l.length≤1048576):∀ (m i:Nat),i+m=l.length→Ev (fun f=>laws_toNodeS.l0 f l (tov (l.take i)++List.replicate m z107) (i:Int)) (tov l):=by
 intro m
 induction m with
 | zero =>
  intro i hi
  refine Ev.step (f:=fun _=>some (tov l)) (fun f=>?_) (Ev.now _)
  rw [laws_toNodeS.l0,if_neg (by omega)]
  rw [List.take_of_length_le (by omega)]
  simp
 | succ m ih =>
  intro i hi
  have hil:i < l.length:=by omega
  have hw:wrap64 ((i:Int)+1)=((i+1:Nat):Int):=by unfold wrap64;omega
  refine Ev.step (fun f=>?_) (ih (i+1) (by omega))
  rw [laws_toNodeS.l0,if_pos (by omega),if_pos (by omega),rd136 hil]
  show (if _ then _ else _)=_
  rw [if_pos (by simp [tov];omega),hw]
  congr 1
  have hlen:(tov (l.take i)).length=i:=by simp [tov];omega
  rw [Int.toNat_natCast,List.set_append_right _ _ (by omega),hlen,Nat.sub_self,List.replicate_succ,List.set_cons_zero]
  have ht:tov (l.take (i+1))=tov (l.take i)++[⟨l[i].f0,l[i].f1,l[i].f2,l[i].f3,l[i].f4⟩]:=by
   rw [List.take_succ_eq_append_getElem hil]
   simp only [tov,List.map_append,List.map_cons,List.map_nil]
  rw [ht,List.append_assoc]
  rfl
theorem to_ev {l:List S136} (hl:l.length≤1048576):Ev (fun f=>laws_toValue.f f l) (tov l):=by
 refine Ev.congr (f:=fun f=>(laws_toNodeS.l0 f l (tov (l.take 0)++List.replicate l.length z107) (0:Nat)).bind fun t=>some t) (fun f=>?_) (Ev.bind (to_go hl l.length 0 (by omega)) (Ev.now _))
 unfold laws_toValue.f laws_toNodeS.f
 rw [if_pos (by omega),Int.toNat_natCast,if_pos (by omega)]
 simp [tov]
theorem eq_go {l:List S107} (hl:l.length≤1048576):∀ (m i:Nat),i+m=l.length→Ev (fun f=>laws_eqNodeS.l0 f l l (i:Int)) true:=by
 intro m
 induction m with
 | zero =>
  intro i hi
  refine Ev.step (f:=fun _=>some true) (fun f=>?_) (Ev.now _)
  rw [laws_eqNodeS.l0,if_neg (by omega)]
 | succ m ih =>
  intro i hi
  have hw:wrap64 ((i:Int)+1)=((i+1:Nat):Int):=by unfold wrap64;omega
  refine Ev.step (fun f=>?_) (ih (i+1) (by omega))
  rw [laws_eqNodeS.l0,if_pos (by omega),if_pos (by omega),if_pos (by omega),hw]
  unfold laws_eqNode.f
  simp
theorem eq_ev {l:List S107} (hl:l.length≤1048576):Ev (fun f=>laws_eqValue.f f l l) true:=by
 refine Ev.congr (f:=fun f=>(laws_eqNodeS.l0 f l l (0:Nat)).bind fun t109=>if t109=true then some true else some false) (fun f=>?_) (Ev.bind (eq_go hl l.length 0 (by omega)) (by simp only [if_true];exact Ev.now _))
 unfold laws_eqValue.f laws_eqNodeS.f
 rw [if_pos rfl]
 rfl
end Go.Proofs.YtoaafohpmhdjnaaGreatDoor.VT
