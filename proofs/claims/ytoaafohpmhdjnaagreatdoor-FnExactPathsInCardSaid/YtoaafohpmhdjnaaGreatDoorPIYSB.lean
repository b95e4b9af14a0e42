import Derived.Test.YtoaafohpmhdjnaaGreatDoorPIRGW
import Derived.Test.YtoaafohpmhdjnaaGreatDoorPIVWB
import Derived.Test.YtoaafohpmhdjnaaGreatDoorPIPVGx0
import Derived.Test.YtoaafohpmhdjnaaGreatDoorPIYSA
import Derived.Test.YtoaafohpmhdjnaaGreatDoorPIRGB
import Derived.Test.YtoaafohpmhdjnaaGreatDoorPIYLA
import Derived.Shelf.Strings.SplitCore
import Derived.Test.YtoaafohpmhdjnaaGreatDoorPIVCA
import Derived.Test.YtoaafohpmhdjnaaGreatDoorPIShelf
/- A path's part told back: strings.NewReplacer over longer texts and its Replace, walked whole. Conditions: the text is of at most 2^30 bytes. -/
namespace Go.Proofs.YtoaafohpmhdjnaaGreatDoor.RX
open Go.RowKit Go.Proofs.YtoaafohpmhdjnaaGreatDoor.VT Go.Proofs.YtoaafohpmhdjnaaGreatDoor.PVG Go.Proofs.YtoaafohpmhdjnaaGreatDoorW.PrintWords Go.Proofs.YtoaafohpmhdjnaaGreatDoorW.PrintLast Go.Proofs.YtoaafohpmhdjnaaGreatDoorW.PrintMore
set_option linter.unusedVariables false
set_option linter.unusedSimpArgs false
theorem RepU.setb {w00 W:World} {gB b:Nat} {cs:Array Value} (h:RepU w00 W gB) (hB:W.heap[b]? = some (.cells cs 204 (0,0))) (hw:w00.heap.size≤b) (i:Nat) (x:Value):RepU w00 (W.setCell ⟨b,i,none⟩ x) gB:=by
 obtain ⟨h1,gT,n1,gU,n2,n3,ht⟩:=h
 refine ⟨below_set h1 hw,gT,n1,gU,n2,n3,ht.kept ((Kept.refl W (fun k=>k=b)).setCell (p:=⟨b,i,none⟩) (.inl rfl) x) ?_⟩
 intro k cs' t hk hc
 rw [hk,hB] at hc
 simp at hc
 obtain ⟨_,rfl⟩:=hc
 decide
end Go.Proofs.YtoaafohpmhdjnaaGreatDoor.RX
namespace Go.Proofs.YtoaafohpmhdjnaaGreatDoor.VT
open Go.RowKit Go.Proofs.YtoaafohpmhdjnaaGreatDoor.PVG Go.Proofs.YtoaafohpmhdjnaaGreatDoorW.PrintWords Go.Proofs.YtoaafohpmhdjnaaGreatDoorW.PrintLast Go.Proofs.YtoaafohpmhdjnaaGreatDoorW.PrintMore
set_option linter.unusedVariables false
set_option linter.unusedSimpArgs false
def NdCall (t:Tr):Prop:=∀ (w0 w:World) (g:Nat) (v:Value) (l:List S107) (nm:ByteArray) (up:Int),IsV w0 g t→fit t=true→Below w0.heap.size w0 w→Kd.R k107 107 w w0.heap.size (fun _=>True) v l→l.length+cnt t≤1073741824 →
 Calls Tryz.prog 126 #[.pointer (some ⟨g,0,none⟩),v,.string nm,.int .i64 up] w fun e w'=>∃ v',e=.returned v'∧Kd.R k107 107 w' w0.heap.size (fun _=>True) v' (l++flat t nm up l.length)∧Below w0.heap.size w0 w'
theorem NdCall.go {t:Tr} (h:NdCall t) (w0 w:World) (g:Nat) (v:Value) (l:List S107) (nm:ByteArray) (up:Int) (h1:IsV w0 g t) (h2:fit t=true) (h3:Below w0.heap.size w0 w) (h4:Kd.R k107 107 w w0.heap.size (fun _=>True) v l) (h5:l.length+cnt t≤1073741824) :
 Calls Tryz.prog 126 #[.pointer (some ⟨g,0,none⟩),v,.string nm,.int .i64 up] w fun e w'=>∃ v',e=.returned v'∧Kd.R k107 107 w' w0.heap.size (fun _=>True) v' (l++flat t nm up l.length)∧Below w0.heap.size w0 w':=h w0 w g v l nm up h1 h2 h3 h4 h5
end Go.Proofs.YtoaafohpmhdjnaaGreatDoor.VT
namespace Go.Proofs.YtoaafohpmhdjnaaGreatDoor.VT
open Go.RowKit Go.Proofs.YtoaafohpmhdjnaaGreatDoor.RX Go.Proofs.YtoaafohpmhdjnaaGreatDoor.RY Go.Proofs.YtoaafohpmhdjnaaGreatDoor.PVG Go.Proofs.YtoaafohpmhdjnaaGreatDoorW.PrintWords Go.Proofs.YtoaafohpmhdjnaaGreatDoorW.PrintLast Go.Proofs.YtoaafohpmhdjnaaGreatDoorW.PrintMore
set_option linter.unusedVariables false
set_option linter.unusedSimpArgs false
def PtCall (t:Tr):Prop:=∀ (w0 w:World) (g:Nat) (v:Value) (l:List ByteArray) (p:ByteArray),HT w0→IsV w0 g t→fit t=true→Below w0.heap.size w0 w→Kd.R Kd.string 9 w w0.heap.size (fun _=>True) v l→l.length+cnt t≤1073741824→p.size+64 * cnt t≤1073741824 →
 Calls Tryz.prog 68 #[.pointer (some ⟨g,0,none⟩),v,.string p] w fun e w'=>∃ v',e=.returned v'∧Kd.R Kd.string 9 w' w0.heap.size (fun _=>True) v' (l++pathsT t p)∧Below w0.heap.size w0 w'
theorem PtCall.go {t:Tr} (h:PtCall t) (w0 w:World) (g:Nat) (v:Value) (l:List ByteArray) (p:ByteArray) (h0:HT w0) (h1:IsV w0 g t) (h2:fit t=true) (h3:Below w0.heap.size w0 w) (h4:Kd.R Kd.string 9 w w0.heap.size (fun _=>True) v l) (h5:l.length+cnt t≤1073741824) (h6:p.size+64 * cnt t≤1073741824) :
 Calls Tryz.prog 68 #[.pointer (some ⟨g,0,none⟩),v,.string p] w fun e w'=>∃ v',e=.returned v'∧Kd.R Kd.string 9 w' w0.heap.size (fun _=>True) v' (l++pathsT t p)∧Below w0.heap.size w0 w':=h w0 w g v l p h0 h1 h2 h3 h4 h5 h6
set_option maxRecDepth 100000 in
set_option maxHeartbeats 8000000 in
theorem paths_c (t:Tr):PtCall t:=by
 refine Tr.ind (P:=PtCall) ?_ t
 intro kd nu tx ns ks ih w0 w g v l p ht hv hf hb0 hr hn hps
 obtain ⟨A,c,rfl⟩:=Kd.R_slice hr
 obtain ⟨A3,c3,A4,c4,ha⟩:=hv.at_
 have hfit:=fit1 hf
 have HTT:=Aside0.mk ht
 have HA:=Aside0.mk ha
 have HLEN:=Aside0.mk hfit.hlen
 have HNS:=Aside0.mk hfit.hns
 have FITS:=Aside0.mk ((fitL_iff ks).1 hfit.hks)
 have IH:=Aside0.mk ih
 have HN:=Aside0.mk hn
 have HPS:=Aside0.mk hps
 have HR:=Aside0.mk hr
 have HB0:=Aside0.mk hb0
 have CL:=Aside0.mk (show ∀ W,Below w0.heap.size w0 W→W.cell? ⟨g,0,none⟩=some (.int .i64 kd)∧W.cell? ⟨g,3,none⟩=some (.slice A3 ns.length c3)∧W.cell? ⟨g,4,none⟩=some (.slice A4 ks.length c4) from
  fun W hb=>by
   obtain ⟨k0,k1,k2,k3,k4⟩:=ha.cells
   exact ⟨(hb.cell ha.lt).trans k0,(hb.cell ha.lt).trans k3,(hb.cell ha.lt).trans k4⟩)
 have NAM:=Aside0.mk (show ∀ i (h:i < ns.length),∃ ad,A3=some ad∧∀ W,Below w0.heap.size w0 W→W.cell? (ad.add i)=some (.string ns[i]) from fun i h=>by
  obtain ⟨ad,e,hc⟩:=ha.name i h
  exact ⟨ad,e,fun W hb=>(hb.cell (World.block_lt_of_cell? w0 _ hc)).trans hc⟩)
 have hl:l.length≤1073741824:=by omega
 clear ha hf hn hps hr hb0 hfit hv ih ht
 go_enter Tryz.func68,Tryz.ntmps68
 go_upto_region 2 with (first | ((with_reducible refine gate_builtin (b:=.append) (xs:=#[.tmp 10,.tmp 12]) rfl ?_);at_builtin;refine Kd.R_append Kd.string w0.heap.size rfl (.tmp 10) (.tmp 12) 26 9 (.string ⟨#[]⟩) 16 rfl Tryz.underlying26 infoS rfl (by decide) (by decide) (.slice A l.length c) l (p) [.string (p)] (fun _=>True) (fun _=>False) rfl rfl ?aP (fun _ hk=>hk.elim) ?aF ?aO (HB0.out) ?aS ?aL ?_;(case aP=>exact rfl);(case aF=>exact fun _ _=>trivial);(case aO=>exact HR.out);(case aS=>exact (HB0.out).size);(case aL=>have:=HN.out;have:=cnt_pos (.mk kd nu tx ns ks);omega);intro v2 w2 ho hb _ _;have R2:=Aside0.mk ho;have B2:=Aside0.mk hb;clear ho hb))
 clear hl
 obtain ⟨l2,hl2⟩:∃ l2,l2=l++[p]:=⟨_,rfl⟩
 have HL2:=Aside0.mk (show l2.length=l.length+1 by rw [hl2];simp)
 have EL2:=Aside0.mk (show ∀ x:List ByteArray,l2++x=l++p :: x by intro x;rw [hl2];simp)
 have R3:=R2.out
 rw [←hl2] at R3
 have R3:=Aside0.mk R3
 clear R2 hl2
 obtain ⟨_,_,k4⟩:=CL.out w2 B2.out
 obtain ⟨A2,c2,rfl⟩:=Kd.R_slice R3.out
 go_wp2
 clear k4
 go_loopg [1,19] ks.length (fun m v1 v19 W=>∃ i:Nat,v19=.int .i64 (i:Int)∧Aside0 (i+m=ks.length)∧Aside0 (Kd.R Kd.string 9 W w0.heap.size (fun _=>True) v1 (l2++pathsL (ks.take i) (kd==7) ns 0 p))∧Aside0 (Below w0.heap.size w0 W))
 case atStart=>exact ⟨0,rfl,⟨by omega⟩,⟨by simp [pathsL];exact R3.out⟩,B2⟩
 case round =>
  obtain ⟨i,rfl,HM,HRR,HB⟩:=hrel
  cases gk with
  | zero =>
   have hlt:decide (i < ks.length)=false:=decide_eq_false (by have:=HM.out;omega)
   have R9:=HRR.out
   rw [show ks.take i=ks from List.take_of_length_le (by have:=HM.out;omega),EL2.out] at R9
   have R9:=Aside0.mk R9
   clear HRR
   go_wp2
   go_ret
   exact ⟨_,rfl,by rw [pathsT];exact R9.out,HB.out⟩
  | succ m =>
   have hi:i < ks.length:=by have:=HM.out;omega
   obtain ⟨lr,hlr⟩:∃ lr,lr=l2++pathsL (ks.take i) (kd==7) ns 0 p:=⟨_,rfl⟩
   have HLR:=Aside0.mk hlr
   have HR5:=HRR.out
   rw [←hlr] at HR5
   have HR5:=Aside0.mk HR5
   clear HRR hlr
   obtain ⟨A5,c5,rfl⟩:=Kd.R_slice HR5.out
   obtain ⟨ad,q,rfl,kc,_⟩:=HA.out.kid' HB.out i hi
   have KV:=Aside0.mk (show ∀ h:i < ks.length,IsV w0 q ks[i] from fun h=>by
    obtain ⟨ad2,p2,e2,kc2,kv2⟩:=HA.out.kid i hi
    obtain rfl:=Option.some.inj e2
    have:=(HB.out.cell (World.block_lt_of_cell? w0 _ kc2)).trans kc2
    rw [kc] at this
    cases this
    exact kv2)
   have HIm:=Aside0.mk (List.getElem_mem hi)
   have HS:=Aside0.mk (pathsL_take (m:=kd==7) (ns:=ns) (p:=p) hi)
   have HC:=Aside0.mk (show lr.length+cnt ks[i]≤1073741824∧cnt ks[i]+1≤cnt (.mk kd nu tx ns ks) by
    rw [HLR.out]
    have h1:=cntL_take_le ks (i+1)
    have h2:=cntL_take ks i hi
    have h3:=HN.out
    have h4:=HL2.out
    simp only [cnt] at h3 ⊢
    rw [List.length_append,pathsL_len]
    omega)
   have b4:(i:Int)≤1073741824:=by have:=cnt_ge_len ks;have:=HN.out;simp only [cnt] at this;omega
   have NS:=Aside0.mk (nmP_size (kd==7) (ns.drop i) i (fun s h=>HNS.out s (List.mem_of_mem_drop h)) (by omega))
   obtain ⟨dg,hdg⟩:∃ dg,dg=ofL (Lib.decDigits i):=⟨_,rfl⟩
   have IC:=Aside0.mk (fun W (h:HT W)=>itoa_all (i:Int) W (by omega) (by omega) h)
   rw [Lib.itoa_nonneg,show (⟨(Lib.decDigits i).toArray⟩:ByteArray)=ofL (Lib.decDigits i) from rfl,←hdg] at IC
   obtain ⟨k0,k3,_⟩:=CL.out wr HB.out
   have sz1:¬(9223372036854775807 < p.size+1):=by have:=HPS.out;omega
   obtain ⟨nm,hnm⟩:∃ nm,nm=nmP (kd==7) (ns.drop i) i:=⟨_,rfl⟩
   rw [←hnm] at NS HS
   have sz2:¬(9223372036854775807 < p.size+1+nm.size):=by have:=HPS.out;have:=NS.out;omega
   have HPP:=Aside0.mk (show (p++(⟨#[47]⟩:ByteArray)++nm).size+64 * cnt ks[i]≤1073741824 by
    have h1:=HPS.out
    have h2:=HC.out.2
    have h3:=NS.out
    rw [ByteArray.size_append,ByteArray.size_append,show (⟨#[47]⟩:ByteArray).size=1 from rfl]
    omega)
   by_cases h7:kd=7
   ·have hni:i < ns.length:=by rw [HLEN.out h7];exact hi
    obtain ⟨ad3,rfl,kn⟩:=NAM.out i hni
    have h7b:(kd==7)=true:=by simpa using h7
    have HES:=Aside0.mk (show nm=escB ns[i] by rw [hnm];unfold nmP;rw [if_pos h7b,List.headD_eq_head?_getD,List.head?_drop,List.getElem?_eq_getElem hni];rfl)
    have EC:=Aside0.mk (fun W=>escaped_c ns[i] W (Nat.le_trans (prt_size (HNS.out _ (List.getElem_mem hni))) (by decide)))
    rw [←HES.out] at EC
    clear h7 hnm hdg k0 k3
    go_wp2_with (first | (go_at_call 115;(with_reducible refine (IC.out _ (HTT.out.below HB.out)).mono ?_);rintro e w3 ⟨rfl,hb⟩;have B3x:=Aside0.mk hb;have B3:=Aside0.mk (below_step HB.out hb);obtain ⟨j0,j3,_⟩:=CL.out _ B3.out;have kn:=kn _ B3.out;clear hb) | (go_at_call 116;(with_reducible refine (EC.out _).mono ?_);rintro e w4 ⟨rfl,hb⟩;have B4:=Aside0.mk (below_step B3.out hb);have R4:=Aside0.mk (Kd.R_below HR5.out (below_step B3x.out hb));clear hb) | (go_at_call 68;(with_reducible refine ((IH.out ks[i] HIm.out).go w0 _ q _ _ _ HTT.out (KV.out hi) (FITS.out _ HIm.out) B4.out R4.out HC.out.1 HPP.out).mono ?_);rintro e w5 ⟨v5,rfl,ho,hb⟩;have R5:=Aside0.mk ho;have B5:=Aside0.mk hb;clear ho hb))
    go_roundg m
    case rel=>exact ⟨i+1,by go_num,⟨by have:=HM.out;omega⟩,⟨by rw [HS.out,←List.append_assoc,←HLR.out];exact R5.out⟩,B5⟩
    case measure=>omega
   ·have h7b:(kd==7)=false:=by simpa using h7
    have HES:=Aside0.mk (show nm=dg by rw [hnm,hdg];unfold nmP;rw [if_neg (by rw [h7b];simp)])
    clear h7 k3 hnm hdg k0
    go_wp2_with (first | (go_at_call 115;(with_reducible refine (IC.out _ (HTT.out.below HB.out)).mono ?_);rintro e w3 ⟨rfl,hb⟩;rw [←HES.out];have B3:=Aside0.mk (below_step HB.out hb);have R4:=Aside0.mk (Kd.R_below HR5.out hb);obtain ⟨j0,j3,_⟩:=CL.out _ B3.out;clear hb) | (go_at_call 68;(with_reducible refine ((IH.out ks[i] HIm.out).go w0 _ q _ _ _ HTT.out (KV.out hi) (FITS.out _ HIm.out) B3.out R4.out HC.out.1 HPP.out).mono ?_);rintro e w5 ⟨v5,rfl,ho,hb⟩;have R5:=Aside0.mk ho;have B5:=Aside0.mk hb;clear ho hb))
    go_roundg m
    case rel=>exact ⟨i+1,by go_num,⟨by have:=HM.out;omega⟩,⟨by rw [HS.out,←List.append_assoc,←HLR.out];exact R5.out⟩,B5⟩
    case measure=>omega
end Go.Proofs.YtoaafohpmhdjnaaGreatDoor.VT
