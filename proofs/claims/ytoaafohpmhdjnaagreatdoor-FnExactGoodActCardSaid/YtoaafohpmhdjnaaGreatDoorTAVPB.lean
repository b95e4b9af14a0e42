import Derived.Test.YtoaafohpmhdjnaaGreatDoorTAPVGx0
import Derived.Test.YtoaafohpmhdjnaaGreatDoorTAPVGx6
import Derived.Test.YtoaafohpmhdjnaaGreatDoorTAVGA
import Derived.Test.YtoaafohpmhdjnaaGreatDoorTAVTG
import Derived.Test.YtoaafohpmhdjnaaGreatDoorTAPVGx4
import Derived.Test.YtoaafohpmhdjnaaGreatDoorTAVBT
import Derived.Test.YtoaafohpmhdjnaaGreatDoorTAVK
import Derived.Test.YtoaafohpmhdjnaaGreatDoorTAVWA
import Derived.WalkLawsBesides
namespace Go.Proofs.YtoaafohpmhdjnaaGreatDoor.PVG
open Go.RowKit Go.Proofs.YtoaafohpmhdjnaaGreatDoorW.PrintWords Go.Proofs.YtoaafohpmhdjnaaGreatDoorW.PrintLast Go.Proofs.YtoaafohpmhdjnaaGreatDoorW.PrintMore
attribute [local go_sem] max2_int min2_int max_two min_two max_three min_three max_four min_four
set_option linter.unusedVariables false
set_option linter.unusedSimpArgs false
/-! ### laws_heldNodeS: function 80 -/
end Go.Proofs.YtoaafohpmhdjnaaGreatDoor.PVG
namespace Go.Proofs.YtoaafohpmhdjnaaGreatDoor.PVG
open Go.RowKit Go.Proofs.YtoaafohpmhdjnaaGreatDoorW.PrintWords Go.Proofs.YtoaafohpmhdjnaaGreatDoorW.PrintLast Go.Proofs.YtoaafohpmhdjnaaGreatDoorW.PrintMore
attribute [local go_sem] max2_int min2_int max_two min_two max_three min_three max_four min_four
set_option linter.unusedVariables false
set_option linter.unusedSimpArgs false
end Go.Proofs.YtoaafohpmhdjnaaGreatDoor.PVG
namespace Go.Proofs.YtoaafohpmhdjnaaGreatDoor.PVG
open Go.RowKit Go.Proofs.YtoaafohpmhdjnaaGreatDoorW.PrintWords Go.Proofs.YtoaafohpmhdjnaaGreatDoorW.PrintLast Go.Proofs.YtoaafohpmhdjnaaGreatDoorW.PrintMore
attribute [local go_sem] max2_int min2_int max_two min_two max_three min_three max_four min_four
set_option linter.unusedVariables false
set_option linter.unusedSimpArgs false
end Go.Proofs.YtoaafohpmhdjnaaGreatDoor.PVG
namespace Go.Proofs.YtoaafohpmhdjnaaGreatDoor.VT
open Go.RowKit Go.Proofs.YtoaafohpmhdjnaaGreatDoor.PVG Go.Proofs.YtoaafohpmhdjnaaGreatDoorW.PrintWords
set_option linter.unusedVariables false
set_option linter.unusedSimpArgs false
mutual
theorem wf_bnd:∀ t:Tr,wf t=true→bnd t=true
 | .mk kd nu tx ns ks,h=>by
  rw [wf] at h
  simp only [Bool.and_eq_true,nodeG] at h
  rw [bnd,wfL_bnd ks h.2,h.1.1.1.2,h.1.1.1.1.1.2]
  by_cases h7:kd=7
  ·have h8:=h.1.1.2
   rw [if_pos (by simpa using h7)] at h8
   simp only [Bool.and_eq_true] at h8
   rw [h8.2];rfl
  ·have h8:=h.1.1.2
   rw [if_neg (by simpa using h7)] at h8
   cases ns with
   | nil=>rfl
   | cons a r=>simp at h8
theorem wfL_bnd:∀ ts:List Tr,wfL ts=true→bndL ts=true
 | [],_=>by rw [bndL]
 | t :: ts,h=>by
  rw [wfL] at h
  simp only [Bool.and_eq_true] at h
  rw [bndL,wf_bnd t h.1,wfL_bnd ts h.2];rfl
end
theorem par_flat {t:Tr} (hw:wf t=true):par (flat t nil_ (-1) 0) 0 0=some (t,cnt t):=by
 have hat:=At.self (flat t nil_ (-1) 0)
 have hlen:=flat_len t nil_ (-1) 0
 have hok:nodeOK ⟨t.kd,t.nu,t.tx,nil_,-1⟩ 0=true:=by
  have:=wf_node hw
  simp [nodeOK,this,emp_nil]
 have:=(par_all (l:=flat t nil_ (-1) 0) (2 * cnt t)).1 t nil_ (-1) 0 0 (Nat.le_refl _) hat hw hok (by intro h;omega)
 rwa [Nat.zero_add] at this
theorem valT_iff {l:List S107} {t:Tr}:valT l=some t↔(l=flat t nil_ (-1) 0∧wf t=true∧deep t≤6∧cnt t≤80∧(textL t).length≤300):=by
 constructor
 ·intro h
  unfold valT at h
  split at h
  ·rename_i h0
   split at h
   ·cases h
   ·rename_i t' e hp
    split at h
    ·rename_i hg
     cases h
     have hr:=par_read hp
     simp only [Bool.and_eq_true,beq_iff_eq,goodB,decide_eq_true_eq] at hg h0
     obtain ⟨he,⟨⟨hb,hc⟩,hd⟩,ht⟩:=hg
     have hok:=hr.ok
     have hem:(nd l 0).f3=nil_:=by
      unfold nodeOK at hok
      rw [if_neg (by decide),Bool.and_eq_true] at hok
      exact emp_iff.1 hok.2
     have hat:=hr.at_
     rw [hem,h0.2] at hat
     exact ⟨At.eq_of hat (by rw [flat_len];have:=hr.e_;omega),hr.wf_,hd,hc,ht⟩
    ·cases h
  ·cases h
 ·rintro ⟨rfl,hw,hd,hc,ht⟩
  have hn:=nd_flat (At.self (flat t nil_ (-1) 0))
  have hlen:=flat_len t nil_ (-1) 0
  have hp:=cnt_pos t
  unfold valT
  rw [hn,par_flat hw,hlen]
  rw [if_pos (by simp [inB];omega)]
  simp [goodB,wf_bnd t hw,hd,hc,ht]
theorem flat_inj {t u:Tr} (ht:wf t=true) (hu:wf u=true) (h:flat t nil_ (-1) 0=flat u nil_ (-1) 0):t=u:=by
 have h1:=par_flat ht
 rw [h,par_flat hu] at h1
 cases h1
 rfl
def Small (l:List S107):Prop:=l.length≤1073741824∧∀ x,x∈l→x.f2.size≤1073741824∧x.f3.size≤1073741824
theorem good_ev {l:List S107} (h:Small l):Ev (fun k=>spec_GoodValue.f k l) (valT l).isSome:=by
 refine Ev.congr (f:=fun k=>if shapeB l=true then ((spec_l1Text.f k l 0).bind fun t163=>(some (decide ((t163.size:Int)≤300)))) else some false) (fun k=>?_) ?_
 ·unfold spec_GoodValue.f spec_l1Shape.f
  rw [if_pos (show l.length≤1073741824∧∀ x,x∈l→x.f2.size≤1073741824∧x.f3.size≤1073741824 from h)]
  rfl
 ·by_cases hs:shapeB l=true
  ·obtain ⟨t,rfl,hw,hd,hc⟩:=shape_tree.1 hs
   simp only [if_pos hs]
   refine Ev.bind (a:=ofL (textL t)) (text_ev t (Pl.root hw hc)) ?_
   rw [ofL_size]
   by_cases hl:(textL t).length≤300
   ·rw [valT_iff.2 ⟨rfl,hw,hd,hc,hl⟩,decide_eq_true (by omega)]
    exact Ev.now _
   ·cases hv:valT (flat t nil_ (-1) 0) with
    | none =>
     rw [decide_eq_false (by omega)]
     exact Ev.now _
    | some u =>
     obtain ⟨h1,h2,h3,h4,h5⟩:=valT_iff.1 hv
     obtain rfl:=flat_inj hw h2 h1
     exact absurd h5 hl
  ·simp only [if_neg hs]
   cases hv:valT l with
   | none=>exact Ev.now _
   | some u =>
    obtain ⟨h1,h2,h3,h4,h5⟩:=valT_iff.1 hv
    exact absurd (shape_tree.2 ⟨u,h1,h2,h3,h4⟩) hs
end Go.Proofs.YtoaafohpmhdjnaaGreatDoor.VT
namespace Go.Proofs.YtoaafohpmhdjnaaGreatDoor.VT
open Go.RowKit Go.Proofs.YtoaafohpmhdjnaaGreatDoor.PVG Go.Proofs.YtoaafohpmhdjnaaGreatDoorW.PrintWords Go.Proofs.YtoaafohpmhdjnaaGreatDoorW.PrintLast Go.Proofs.YtoaafohpmhdjnaaGreatDoorW.PrintMore
set_option linter.unusedVariables false
set_option linter.unusedSimpArgs false
def ci (a b:Int):Int:=if a < b then -1 else if b < a then 1 else 0
def cs (a b:ByteArray):Int:=if Op.bytesLess a.toList b.toList=true then -1 else if Op.bytesLess b.toList a.toList=true then 1 else 0
def orL:List Int→Int
 | []=>0
 | x :: r=>if x=0 then orL r else x
mutual
def cmpT:Tr→Tr→Int
 | .mk kd nu tx ns ks,u=>if orL [ci kd u.kd,ci nu u.nu,cs tx u.tx]=0 then cmpL ks (kd==7) ns u.ns u.ks else orL [ci kd u.kd,ci nu u.nu,cs tx u.tx]
def cmpL:List Tr→Bool→List ByteArray→List ByteArray→List Tr→Int
 | [],_,_,_,us=>if us.length=0 then 0 else -1
 | _ :: _,_,_,_,[]=>1
 | t :: ts,m,ns,ms,u :: us=>if m=true∧cs (ns.headD nil_) (ms.headD nil_)≠0 then cs (ns.headD nil_) (ms.headD nil_) else if cmpT t u=0 then cmpL ts m ns.tail ms.tail us else cmpT t u
end
end Go.Proofs.YtoaafohpmhdjnaaGreatDoor.VT
namespace Go.Proofs.YtoaafohpmhdjnaaGreatDoor.VT
open Go.RowKit Go.Proofs.YtoaafohpmhdjnaaGreatDoor.PVG Go.Proofs.YtoaafohpmhdjnaaGreatDoorW.PrintWords Go.Proofs.YtoaafohpmhdjnaaGreatDoorW.PrintLast Go.Proofs.YtoaafohpmhdjnaaGreatDoorW.PrintMore
set_option linter.unusedVariables false
set_option linter.unusedSimpArgs false
def CmCall (t:Tr):Prop:=∀ (u:Tr) (w:World) (g h:Nat),IsV w g t→IsV w h u→fit t=true→fit u=true→cnt t≤1073741824→cnt u≤1073741824 →
 Calls Tryz.prog 149 #[.pointer (some ⟨g,0,none⟩),.pointer (some ⟨h,0,none⟩)] w fun e w'=>e=.returned (.int .i64 (cmpT t u))∧Below w.heap.size w w'
theorem CmCall.go {t:Tr} (hh:CmCall t) (u:Tr) (w:World) (g h:Nat) (h1:IsV w g t) (h2:IsV w h u) (h3:fit t=true) (h4:fit u=true) (h5:cnt t≤1073741824) (h6:cnt u≤1073741824) :
  Calls Tryz.prog 149 #[.pointer (some ⟨g,0,none⟩),.pointer (some ⟨h,0,none⟩)] w fun e w'=>e=.returned (.int .i64 (cmpT t u))∧Below w.heap.size w w':=hh u w g h h1 h2 h3 h4 h5 h6
theorem cmpT_mk {kd nu:Int} {tx:ByteArray} {ns:List ByteArray} {ks:List Tr} {kd2 nu2:Int} {tx2:ByteArray} {ms:List ByteArray} {us:List Tr} {o:Int} (h:orL [ci kd kd2,ci nu nu2,cs tx tx2]=o) :
  cmpT (.mk kd nu tx ns ks) (.mk kd2 nu2 tx2 ms us)=if o=0 then cmpL ks (kd==7) ns ms us else o:=by
 subst h
 rw [cmpT]
 rfl
end Go.Proofs.YtoaafohpmhdjnaaGreatDoor.VT
