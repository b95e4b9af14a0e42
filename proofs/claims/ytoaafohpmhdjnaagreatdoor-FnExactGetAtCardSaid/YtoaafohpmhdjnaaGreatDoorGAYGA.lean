import Derived.Test.YtoaafohpmhdjnaaGreatDoorGAVPB
import Derived.Test.YtoaafohpmhdjnaaGreatDoorGAPVGx0
import Derived.Test.YtoaafohpmhdjnaaGreatDoorGAPVGx1
import Derived.Test.YtoaafohpmhdjnaaGreatDoorGAPVGx2
import Derived.Test.YtoaafohpmhdjnaaGreatDoorGAYPS
import Derived.Test.YtoaafohpmhdjnaaGreatDoorGAVND
import Derived.Test.YtoaafohpmhdjnaaGreatDoorGAVGA
/- What the laws' own helpers answer: the weight, the turning, the same. Conditions: texts of no more than the longest. -/
namespace Go.Proofs.YtoaafohpmhdjnaaGreatDoor.VT
open Go.RowKit Go.Proofs.YtoaafohpmhdjnaaGreatDoor.PVG Go.Proofs.YtoaafohpmhdjnaaGreatDoorW.PrintWords
set_option linter.unusedVariables false
set_option linter.unusedSimpArgs false
def tov (l:List S136):List S107:=l.map fun x=>⟨x.f0,x.f1,x.f2,x.f3,x.f4⟩
theorem tov_len (l:List S136):(tov l).length=l.length:=by simp [tov]
theorem rd136 {l:List S136} {i:Nat} (h:i < l.length):rd_T136 l (i:Int)=l[i]:=by
 unfold rd_T136
 rw [Int.toNat_natCast,List.getD_eq_getElem?_getD,List.getElem?_eq_getElem h]
 rfl
def Fits (l:List S136):Prop:=l.length≤maxLen∧∀ x,x∈l→x.f2.size≤maxLen∧x.f3.size≤maxLen
theorem szNode_f {c d:ByteArray} {n:Int} (a b e:Int) (hn:0≤n∧n≤1048576) (hc:c.size≤maxLen) (hd:d.size≤maxLen) :
  laws_szNode.f a b c d e n=some (if n - c.size < 0 then -1 else if n - c.size - d.size < 0 then -1 else n - c.size - d.size):=by
 unfold maxLen at hc hd
 have w1:wrap64 (n - (c.size:Int))=n - c.size:=by unfold wrap64;omega
 unfold laws_szNode.f
 rw [w1]
 by_cases h1:n - (c.size:Int) < 0
 ·rw [if_pos h1,if_pos h1]
 ·have w2:wrap64 (n - (c.size:Int) - (d.size:Int))=n - c.size - d.size:=by unfold wrap64;omega
  rw [if_neg h1,if_neg h1,w2]
  by_cases h2:n - (c.size:Int) - (d.size:Int) < 0
  ·rw [if_pos h2,if_pos h2]
  ·rw [if_neg h2,if_neg h2]
theorem sz_go {l:List S136} (hl:Fits l):∀ (m i:Nat) (n:Int),i+m=l.length→0≤n∧n≤1048576→∃ r,Ev (fun f=>laws_szNodeS.l0 f l n (i:Int)) r∧r≤n∧(0≤r→∀ j (h:j < l.length),i≤j→l[j].f2.size≤1048576∧l[j].f3.size≤1048576):=by
 intro m
 induction m with
 | zero =>
  intro i n hi hn
  refine ⟨n,Ev.step (f:=fun _=>some n) (fun f=>?_) (Ev.now _),by omega,fun _ j h1 h2=>by omega⟩
  rw [laws_szNodeS.l0,if_neg (by omega)]
 | succ m ih =>
  intro i n hi hn
  have hil:i < l.length:=by omega
  obtain ⟨hL,hx⟩:=hl
  obtain ⟨hc,hd⟩:=hx _ (List.getElem_mem hil)
  have hs:=szNode_f l[i].f0 l[i].f1 l[i].f4 hn hc hd
  have hw:wrap64 ((i:Int)+1)=((i+1:Nat):Int):=by unfold maxLen at hL;unfold wrap64;omega
  by_cases h1:n - (l[i].f2.size:Int) < 0
  ·rw [if_pos h1] at hs
   refine ⟨-1,Ev.step (f:=fun _=>some (-1)) (fun f=>?_) (Ev.now _),by omega,fun h=>by omega⟩
   rw [laws_szNodeS.l0,if_pos (by omega),if_pos (by omega),rd136 hil,hs]
   rfl
  ·rw [if_neg h1] at hs
   by_cases h2:n - (l[i].f2.size:Int) - (l[i].f3.size:Int) < 0
   ·rw [if_pos h2] at hs
    refine ⟨-1,Ev.step (f:=fun _=>some (-1)) (fun f=>?_) (Ev.now _),by omega,fun h=>by omega⟩
    rw [laws_szNodeS.l0,if_pos (by omega),if_pos (by omega),rd136 hil,hs]
    rfl
   ·rw [if_neg h2] at hs
    obtain ⟨r,e1,e2,e3⟩:=ih (i+1) (n - (l[i].f2.size:Int) - (l[i].f3.size:Int)) (by omega) (by omega)
    refine ⟨r,Ev.step (fun f=>?_) e1,by omega,fun hr j hj hij=>?_⟩
    ·rw [laws_szNodeS.l0,if_pos (by omega),if_pos (by omega),rd136 hil,hs]
     show (if _ then _ else _)=_
     rw [if_neg h2,hw]
    ·by_cases hji:j=i
     ·subst hji;constructor <;> omega
     ·exact e3 hr j hj (by omega)
theorem sz_ev {l:List S136} (hl:Fits l):∃ r,Ev (fun f=>laws_szValue.f f l 1048576) r∧(0≤r→Small (tov l)∧l.length≤1048576):=by
 have hL:=hl.1
 have hw:wrap64 (1048576 - (l.length:Int))=1048576 - l.length:=by unfold maxLen at hL;unfold wrap64;omega
 by_cases h1:1048576 - (l.length:Int) < 0
 ·refine ⟨-1,Ev.congr (f:=fun _=>some (-1)) (fun f=>?_) (Ev.now _),fun h=>by omega⟩
  unfold laws_szValue.f laws_szNodeS.f
  rw [hw,if_pos h1]
  rfl
 ·obtain ⟨r,e1,e2,e3⟩:=sz_go hl l.length 0 (1048576 - l.length) (by omega) (by omega)
  refine ⟨if r < 0 then -1 else r,Ev.congr (f:=fun f=>(laws_szNodeS.l0 f l (1048576 - l.length) 0).bind fun t114=>if t114 < 0 then some (-1) else some t114) (fun f=>?_) (Ev.bind e1 ?_),fun hr=>?_⟩
  ·unfold laws_szValue.f laws_szNodeS.f
   rw [hw,if_neg h1]
  ·by_cases hr:r < 0
   ·simp only [if_pos hr];exact Ev.now _
   ·simp only [if_neg hr];exact Ev.now _
  ·have hr0:0≤r:=by
    by_cases hh:r < 0
    ·rw [if_pos hh] at hr;omega
    ·omega
   refine ⟨⟨by rw [tov_len];omega,fun x hx=>?_⟩,by omega⟩
   obtain ⟨y,hy,rfl⟩:=List.mem_map.1 hx
   obtain ⟨j,hj,rfl⟩:=List.getElem_of_mem hy
   obtain ⟨g1,g2⟩:=e3 hr0 j hj (by omega)
   exact ⟨by show l[j].f2.size≤_;omega,by show l[j].f3.size≤_;omega⟩
theorem to_go {l:List S136} (hl:l.length≤1048576):∀ (m i:Nat),i+m=l.length→Ev (fun f=>laws_toNodeS.l0 f l (tov (l.take i)++List.replicate m z107) (i:Int)) (tov l):=by
 intro m
 induction m with
 | zero =>
  intro i hi
  refine Ev.step (f:=fun _=>some (tov l)) (fun f=>?_) (Ev.now _)
  rw [laws_toNodeS.l0,if_neg (by omega)]
  rw [List.take_of_length_le (by omega)]
  simp
 | succ m ih =>
  intro i hi
  have hil:i < l.length:=by omega
  have hw:wrap64 ((i:Int)+1)=((i+1:Nat):Int):=by unfold wrap64;omega
  refine Ev.step (fun f=>?_) (ih (i+1) (by omega))
  rw [laws_toNodeS.l0,if_pos (by omega),if_pos (by omega),rd136 hil]
  show (if _ then _ else _)=_
  rw [if_pos (by simp [tov];omega),hw]
  congr 1
  have hlen:(tov (l.take i)).length=i:=by simp [tov];omega
  rw [Int.toNat_natCast,List.set_append_right _ _ (by omega),hlen,Nat.sub_self,List.replicate_succ,List.set_cons_zero]
  have ht:tov (l.take (i+1))=tov (l.take i)++[⟨l[i].f0,l[i].f1,l[i].f2,l[i].f3,l[i].f4⟩]:=by
   rw [List.take_succ_eq_append_getElem hil]
   simp only [tov,List.map_append,List.map_cons,List.map_nil]
  rw [ht,List.append_assoc]
  rfl
theorem to_ev {l:List S136} (hl:l.length≤1048576):Ev (fun f=>laws_toValue.f f l) (tov l):=by
 refine Ev.congr (f:=fun f=>(laws_toNodeS.l0 f l (tov (l.take 0)++List.replicate l.length z107) (0:Nat)).bind fun t=>some t) (fun f=>?_) (Ev.bind (to_go hl l.length 0 (by omega)) (Ev.now _))
 unfold laws_toValue.f laws_toNodeS.f
 rw [if_pos (by omega),Int.toNat_natCast,if_pos (by omega)]
 simp [tov]
theorem eq_go {l:List S107} (hl:l.length≤1048576):∀ (m i:Nat),i+m=l.length→Ev (fun f=>laws_eqNodeS.l0 f l l (i:Int)) true:=by
 intro m
 induction m with
 | zero =>
  intro i hi
  refine Ev.step (f:=fun _=>some true) (fun f=>?_) (Ev.now _)
  rw [laws_eqNodeS.l0,if_neg (by omega)]
 | succ m ih =>
  intro i hi
  have hw:wrap64 ((i:Int)+1)=((i+1:Nat):Int):=by unfold wrap64;omega
  refine Ev.step (fun f=>?_) (ih (i+1) (by omega))
  rw [laws_eqNodeS.l0,if_pos (by omega),if_pos (by omega),if_pos (by omega),hw]
  unfold laws_eqNode.f
  simp
theorem eq_ev {l:List S107} (hl:l.length≤1048576):Ev (fun f=>laws_eqValue.f f l l) true:=by
 refine Ev.congr (f:=fun f=>(laws_eqNodeS.l0 f l l (0:Nat)).bind fun t109=>if t109=true then some true else some false) (fun f=>?_) (Ev.bind (eq_go hl l.length 0 (by omega)) (by simp only [if_true];exact Ev.now _))
 unfold laws_eqValue.f laws_eqNodeS.f
 rw [if_pos rfl]
 rfl
end Go.Proofs.YtoaafohpmhdjnaaGreatDoor.VT
namespace Go.Proofs.YtoaafohpmhdjnaaGreatDoor.VT
open Go.RowKit Go.Proofs.YtoaafohpmhdjnaaGreatDoor.RX Go.Proofs.YtoaafohpmhdjnaaGreatDoor.RY Go.Proofs.YtoaafohpmhdjnaaGreatDoor.PVG Go.Proofs.YtoaafohpmhdjnaaGreatDoorW.PrintWords Go.Proofs.YtoaafohpmhdjnaaGreatDoorW.PrintLast Go.Proofs.YtoaafohpmhdjnaaGreatDoorW.PrintMore
set_option linter.unusedVariables false
set_option linter.unusedSimpArgs false
def getV (l:List S107) (s:ByteArray):List S107×Bool:=match valT l,pathV s with
 | some t,some ns=>match getT t ns with
  | some u=>(flat u nil_ (-1) 0,true)
  | none=>([],false)
 | _,_=>([],false)
theorem getT_wf:∀ (ns:List ByteArray) (t u:Tr),wf t=true→getT t ns=some u→wf u=true∧cnt u≤cnt t
 | [],t,u,hw,h=>by rw [getT] at h;cases h;exact ⟨hw,Nat.le_refl _⟩
 | s :: r,t,u,hw,h=>by
  by_cases hn:plT t s < 0
  ·rw [getT_no hn] at h;cases h
  ·obtain ⟨k,hk⟩:∃ k:Nat,plT t s=(k:Int):=⟨(plT t s).toNat,by omega⟩
   have hkl:=plT_lt hw k hk
   rw [getT_yes k hk hkl] at h
   obtain ⟨h1,h2⟩:=getT_wf r _ u (wf_kid hw (List.getElem_mem hkl)) h
   exact ⟨h1,Nat.le_trans h2 (cnt_kid (List.getElem_mem hkl))⟩
set_option maxRecDepth 100000 in
set_option maxHeartbeats 4000000 in
theorem getAt_c (l:List S107) (A:Option Addr) (c:Nat) (s:ByteArray) (w:World) (ht:HT w) (hE:HE w) (hr:Kd.C k107 w A l.length l) (hc:l.length≤c) :
  Calls Tryz.prog 27 #[.agg #[.slice A l.length c],.string s] w fun e w'=>∃ v',e=.returned (.tuple #[.agg #[v'],.bool (getV l s).2])∧Kd.R k107 107 w' w.heap.size (fun _=>True) v' (getV l s).1∧Below w.heap.size w w':=by
 obtain ⟨W1,hW1⟩:∃ W1,W1=w.alloc (.cells #[.slice A l.length c] 31):=⟨_,rfl⟩
 obtain ⟨W2,hW2⟩:∃ W2,W2=W1.alloc (.cells #[.slice none 0 0] 31):=⟨_,rfl⟩
 obtain ⟨gb,hgb⟩:∃ g,g=w.heap.size:=⟨_,rfl⟩
 obtain ⟨g0,hg0⟩:∃ g,g=w.heap.size+1:=⟨_,rfl⟩
 have hs1:W1.heap.size=w.heap.size+1:=by rw [hW1];simp
 have HB1:=Aside0.mk (show Below w.heap.size w W1 by rw [hW1];exact below_alloc (Below.refl _ _) _)
 have HB2:=Aside0.mk (below_step HB1.out (show Below W1.heap.size W1 W2 by rw [hW2];exact below_alloc (Below.refl _ _) _))
 have KB:=Aside0.mk (blk_below (show W1.heap[gb]? = some (.cells #[.slice A l.length c] 31 (0,0)) by rw [hW1,hgb];exact blk_new w _) (show Below W1.heap.size W1 W2 by rw [hW2];exact below_alloc (Below.refl _ _) _))
 have K0:=Aside0.mk (show W2.heap[g0]? = some (.cells #[.slice none 0 0] 31 (0,0)) by rw [hW2,hg0,←hs1];exact blk_new W1 _)
 have GE:=Aside0.mk (show w.heap.size≤g0 by rw [hg0];omega)
 have VO:=Aside0.mk (valOf_c l A c W2 (ht.below HB2.out) (Kd.C_below hr HB2.out) hc)
 have t0:W2.cell? ⟨gb,0,none⟩=some (.slice A l.length c):=(blk_cell KB.out 0).trans rfl
 have HTT:=Aside0.mk ht
 have HEE:=Aside0.mk hE
 have PO:=Aside0.mk (fun W=>pathOf_c s W)
 clear ht hE hr hc
 cases hv:valT l with
 | none =>
  have HP:=Aside0.mk (show getV l s=([],false) by unfold getV;rw [hv])
  have VN:=Aside0.mk (VoPost.no VO.out hv)
  rw [HP.out]
  clear hv VO
  go_enter Tryz.func27,Tryz.ntmps27
  go_upto_region 1 with fail
  rw [←hW1,←hW2,←hg0,←hgb]
  clear hW1 hW2 hg0 hgb hs1
  go_wp2_with (first | (go_at_call 67;(with_reducible refine VN.out.mono ?_);rintro e w3 ⟨rfl,hb⟩;have B3:=Aside0.mk (below_step HB2.out hb);have K3:=Aside0.mk (blk_below K0.out hb);clear hb) | (go_at_call 76;(with_reducible refine (PO.out _).mono ?_);rintro e w4 ⟨v4,rfl,ho,hb⟩;obtain ⟨A4,c4,rfl⟩:=Kd.R_slice ho;have B4:=Aside0.mk (below_step B3.out hb);have K4:=Aside0.mk (blk_below K3.out hb);have p0:w4.cell? ⟨g0,0,none⟩=some (.slice none 0 0):=(blk_cell K4.out 0).trans rfl;have fz:w4.frozen? ⟨g0,0,none⟩=false:=blk_frozen K4.out 0;clear ho hb))
  refine bodyPost_ret (results_ct rfl _ _ g0 31 #[.slice none 0 0] (0,0) _ rfl (by simpa using blk_set K4.out 0 (.slice none 0 0)) Tryz.underlying31 rfl (by kernel_rfl)) rfl ?_
  exact ⟨_,rfl,Kd.R_nil _ _ _ _ _,below_set B4.out GE.out⟩
 | some t =>
  have VN:=Aside0.mk (VoPost.yes VO.out hv)
  cases hp:pathV s with
  | none =>
   have HP:=Aside0.mk (show getV l s=([],false) by unfold getV;rw [hv,hp])
   rw [hp] at PO
   rw [HP.out]
   clear hv VO hp
   go_enter Tryz.func27,Tryz.ntmps27
   go_upto_region 1 with fail
   rw [←hW1,←hW2,←hg0,←hgb]
   clear hW1 hW2 hg0 hgb hs1
   go_wp2_with (first | (go_at_call 67;(with_reducible refine VN.out.mono ?_);rintro e w3 ⟨g3,rfl,hb,hiv⟩;have B3:=Aside0.mk (below_step HB2.out hb);have K3:=Aside0.mk (blk_below K0.out hb);have V3:=Aside0.mk hiv;clear hb hiv) | (go_at_call 76;(with_reducible refine (PO.out _).mono ?_);rintro e w4 ⟨v4,rfl,ho,hb⟩;obtain ⟨A4,c4,rfl⟩:=Kd.R_slice ho;have B4:=Aside0.mk (below_step B3.out hb);have K4:=Aside0.mk (blk_below K3.out hb);have p0:w4.cell? ⟨g0,0,none⟩=some (.slice none 0 0):=(blk_cell K4.out 0).trans rfl;have fz:w4.frozen? ⟨g0,0,none⟩=false:=blk_frozen K4.out 0;clear ho hb))
   refine bodyPost_ret (results_ct rfl _ _ g0 31 #[.slice none 0 0] (0,0) _ rfl (by simpa using blk_set K4.out 0 (.slice none 0 0)) Tryz.underlying31 rfl (by kernel_rfl)) rfl ?_
   exact ⟨_,rfl,Kd.R_nil _ _ _ _ _,below_set B4.out GE.out⟩
  | some ns =>
   have HL:=Aside0.mk (And.intro (pathV_len hp) (fun x hx=>Nat.le_trans (pathV_short hp x hx) (by decide:60≤1073741824)))
   obtain ⟨h1,h2,h3,h4,h5⟩:=valT_iff.1 hv
   have HW:=Aside0.mk (And.intro h2 (show cnt t≤1073741824 by omega))
   rw [hp] at PO
   cases hg:getT t ns with
   | none =>
    have HP:=Aside0.mk (show getV l s=([],false) by unfold getV;rw [hv,hp];show (match getT t ns with | some u=>_ | none=>_)=_;rw [hg])
    have HG:=Aside0.mk hg
    rw [HP.out]
    clear hv VO hp h1 h2 h3 h4 h5 hg
    go_enter Tryz.func27,Tryz.ntmps27
    go_upto_region 1 with fail
    rw [←hW1,←hW2,←hg0,←hgb]
    clear hW1 hW2 hg0 hgb hs1
    go_wp2_with (first | (go_at_call 67;(with_reducible refine VN.out.mono ?_);rintro e w3 ⟨g3,rfl,hb,hiv⟩;have B3:=Aside0.mk (below_step HB2.out hb);have K3:=Aside0.mk (blk_below K0.out hb);have V3:=Aside0.mk hiv;clear hb hiv) | (go_at_call 76;(with_reducible refine (PO.out _).mono ?_);rintro e w4 ⟨v4,rfl,ho,hb⟩;have ho:Kd.R Kd.string 9 w4 _ _ v4 ns:=ho;obtain ⟨A4,c4,rfl⟩:=Kd.R_slice ho;have B4:=Aside0.mk (below_step B3.out hb);have K4:=Aside0.mk (blk_below K3.out hb);have V4:=Aside0.mk (V3.out.below hb);have R4:=Aside0.mk (Kd.R_reads' ho).2.2;clear ho hb) | (go_at_call 77;(with_reducible refine (get_c t ns _ _ _ _ _ (HTT.out.below B4.out) (HEE.out.below B4.out) V4.out HW.out.1 HW.out.2 rfl (by have:=HL.out.1;omega) R4.out HL.out.2).mono ?_);rintro e w5 ⟨hq⟩;rw [HG.out] at hq;obtain ⟨rfl,hb⟩:=hq;have B5:=Aside0.mk (below_step B4.out hb);have K5:=Aside0.mk (blk_below K4.out hb);have p0:w5.cell? ⟨g0,0,none⟩=some (.slice none 0 0):=(blk_cell K5.out 0).trans rfl;have fz:w5.frozen? ⟨g0,0,none⟩=false:=blk_frozen K5.out 0;clear hb))
    refine bodyPost_ret (results_ct rfl _ _ g0 31 #[.slice none 0 0] (0,0) _ rfl (by simpa using blk_set K5.out 0 (.slice none 0 0)) Tryz.underlying31 rfl (by kernel_rfl)) rfl ?_
    exact ⟨_,rfl,Kd.R_nil _ _ _ _ _,below_set B5.out GE.out⟩
   | some u =>
    have HP:=Aside0.mk (show getV l s=(flat u nil_ (-1) 0,true) by unfold getV;rw [hv,hp];show (match getT t ns with | some u=>_ | none=>_)=_;rw [hg])
    have HG:=Aside0.mk hg
    obtain ⟨g1,g2⟩:=getT_wf ns t u h2 hg
    have FU:=Aside0.mk (wf_fit u g1)
    have CU:=Aside0.mk (show cnt u≤1073741824 by omega)
    rw [HP.out]
    clear hv VO hp h1 h2 h3 h4 h5 hg g1 g2
    go_enter Tryz.func27,Tryz.ntmps27
    go_upto_region 1 with fail
    rw [←hW1,←hW2,←hg0,←hgb]
    clear hW1 hW2 hg0 hgb hs1
    go_wp2_with (first | (go_at_call 67;(with_reducible refine VN.out.mono ?_);rintro e w3 ⟨g3,rfl,hb,hiv⟩;have B3:=Aside0.mk (below_step HB2.out hb);have K3:=Aside0.mk (blk_below K0.out hb);have V3:=Aside0.mk hiv;clear hb hiv) | (go_at_call 76;(with_reducible refine (PO.out _).mono ?_);rintro e w4 ⟨v4,rfl,ho,hb⟩;have ho:Kd.R Kd.string 9 w4 _ _ v4 ns:=ho;obtain ⟨A4,c4,rfl⟩:=Kd.R_slice ho;have B4:=Aside0.mk (below_step B3.out hb);have K4:=Aside0.mk (blk_below K3.out hb);have V4:=Aside0.mk (V3.out.below hb);have R4:=Aside0.mk (Kd.R_reads' ho).2.2;clear ho hb) | (go_at_call 77;(with_reducible refine (get_c t ns _ _ _ _ _ (HTT.out.below B4.out) (HEE.out.below B4.out) V4.out HW.out.1 HW.out.2 rfl (by have:=HL.out.1;omega) R4.out HL.out.2).mono ?_);rintro e w5 ⟨hq⟩;rw [HG.out] at hq;obtain ⟨⟨p5,rfl,hiv⟩,hb⟩:=hq;have V5:=Aside0.mk hiv;have B5:=Aside0.mk (below_step B4.out hb);have K5:=Aside0.mk (blk_below K4.out hb);clear hb hiv) | (go_at_call 79;(with_reducible refine (value_c u _ p5 V5.out FU.out CU.out).mono ?_);rintro e w6 ⟨v6,rfl,ho,hb⟩;obtain ⟨A6,c6,rfl⟩:=Kd.R_slice ho;obtain ⟨n6,hn6⟩:∃ n,n=(flat u nil_ (-1) 0).length:=⟨_,rfl⟩;rw [←hn6] at ho ⊢;have R6:=Aside0.mk ho;have B6:=Aside0.mk hb;have K6:=Aside0.mk (blk_below K5.out hb);have p0:w6.cell? ⟨g0,0,none⟩=some (.slice none 0 0):=(blk_cell K6.out 0).trans rfl;have fz:w6.frozen? ⟨g0,0,none⟩=false:=blk_frozen K6.out 0;clear ho hb hn6))
    refine bodyPost_ret (results_ct rfl _ _ g0 31 #[.slice A6 n6 c6] (0,0) _ rfl (by simpa using blk_set K6.out 0 (.slice A6 n6 c6)) Tryz.underlying31 rfl (by kernel_rfl)) rfl ?_
    refine ⟨_,rfl,?_,below_set (below_step B5.out B6.out) GE.out⟩
    exact Kd.R_lower (Kd.R_mono (Kd.R_far (Kd.R_types R6.out K6.out (by decide)) (fun k hk=>hk.2) _) (fun _ _=>trivial)) B5.out.size
end Go.Proofs.YtoaafohpmhdjnaaGreatDoor.VT
