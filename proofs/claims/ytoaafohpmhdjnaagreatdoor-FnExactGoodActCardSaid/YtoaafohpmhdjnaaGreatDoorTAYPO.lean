import Derived.Test.YtoaafohpmhdjnaaGreatDoorTAYPB
import Derived.Test.YtoaafohpmhdjnaaGreatDoorTARGU
/- impl.pathOf walked. Conditions: none. -/
namespace Go.Proofs.YtoaafohpmhdjnaaGreatDoor.VT
open Go.RowKit Go.Proofs.YtoaafohpmhdjnaaGreatDoor.RX Go.Proofs.YtoaafohpmhdjnaaGreatDoor.RY Go.Proofs.YtoaafohpmhdjnaaGreatDoor.PVG Go.Proofs.YtoaafohpmhdjnaaGreatDoorW.PrintWords Go.Proofs.YtoaafohpmhdjnaaGreatDoorW.PrintLast Go.Proofs.YtoaafohpmhdjnaaGreatDoorW.PrintMore
set_option linter.unusedVariables false
set_option linter.unusedSimpArgs false
theorem goodP_ok (q:ByteArray) (h:∀ c,c∈q.data.toList→c≠47):((escB (nmB q.data.toList)).toList==q.toList)=okP q.data.toList:=by
 rw [Bool.eq_iff_iff,beq_iff_eq,←esc_unesc _ _ (Nat.le_refl _) h,ByteArray.toList_eq,ByteArray.toList_eq]
 unfold escB nmB
 simp
theorem size_alloc1 (w:World) (o:Obj):(w.alloc o).heap.size=w.heap.size+1:=Array.size_push _
theorem pathV_long {s:ByteArray} (h:60 < s.size):pathV s=none:=by unfold pathV;rw [if_pos h]
theorem pathV_nil {s:ByteArray} (h:s.size=0):pathV s=some []:=by
 unfold pathV
 rw [if_neg (by omega)]
 have:s.data.toList.length=s.size:=Array.length_toList
 have e:s.data.toList=[]:=List.length_eq_zero_iff.1 (by omega)
 rw [e];rfl
set_option maxRecDepth 100000 in
set_option maxHeartbeats 4000000 in
theorem pathOf_long (s:ByteArray) (w:World) (h60:60 < s.size):Calls Tryz.prog 76 #[.string s] w fun e w'=>∃ v,e=.returned (.tuple #[v,.bool (pathV s).isSome])∧Kd.R Kd.string 9 w' w.heap.size (fun _=>True) v ((pathV s).getD [])∧Below w.heap.size w w':=by
 rw [pathV_long h60]
 have hd:decide ((s.size:Int) > 60)=true:=decide_eq_true (by omega)
 go_enter Tryz.func76,Tryz.ntmps76
 go_wp2
 go_ret2
 exact ⟨_,rfl,Kd.R_nil _ _ _ _ _,Below.refl _ _⟩
set_option maxRecDepth 100000 in
set_option maxHeartbeats 4000000 in
theorem pathOf_nil (s:ByteArray) (w:World) (h0:s.size=0):Calls Tryz.prog 76 #[.string s] w fun e w'=>∃ v,e=.returned (.tuple #[v,.bool (pathV s).isSome])∧Kd.R Kd.string 9 w' w.heap.size (fun _=>True) v ((pathV s).getD [])∧Below w.heap.size w w':=by
 rw [pathV_nil h0]
 have he:s.toList.isEmpty=true:=emp_list (by unfold emp;simp [h0])
 have hd:decide ((s.size:Int) > 60)=false:=decide_eq_false (by omega)
 clear h0
 go_enter Tryz.func76,Tryz.ntmps76
 go_wp2
 go_ret2
 have hR:=lit_row (Kd.string) w 9 (xs:=[]) (inner:=[]) (Reps.none _ _) (by simp)
 exact ⟨_,rfl,hR,below_alloc (Below.refl _ _) _⟩
theorem pathV_cut {s:ByteArray} (h0:0 < s.size) (h60:s.size≤60) {ps:List ByteArray} (hp:ps.map (·.data.toList)=cutL s.data.toList) :
  ∃ q qs,ps=q :: qs∧(q.toList.isEmpty=true→pathV s=if (qs.all fun q=>goodP q.data.toList)=true then some (qs.map fun q=>nmB q.data.toList) else none)∧(q.toList.isEmpty=false→pathV s=none)∧(∀ q∈qs,q.size≤60∧∀ c,c∈q.data.toList→c≠47)∧qs.length≤60∧(q.toList.isEmpty=true→qs≠[]):=by
 have hl:s.data.toList.length=s.size:=Array.length_toList
 have hf:=cutL_free s.data.toList
 have hz:=cutL_size s.data.toList
 have hn:=cutL_len s.data.toList
 rw [←hp] at hf hz hn
 cases ps with
 | nil=>rw [List.map_nil] at hp;exact absurd hp.symm (cutL_ne _)
 | cons q qs =>
  refine ⟨q,qs,rfl,?_,?_,fun x hx=>⟨?_,fun c hc=>hf x.data.toList (by simp;exact .inr ⟨x,hx,rfl⟩) c hc⟩,by simp at hn;omega,?_⟩
  ·intro he
   obtain ⟨c,r,hcr⟩:∃ c r,s.data.toList=c :: r:=by
    cases h:s.data.toList with
    | nil=>rw [h] at hl;simp at hl;omega
    | cons c r=>exact ⟨c,r,rfl⟩
   rw [hcr,cutL] at hp
   unfold pathV
   rw [if_neg (by omega),hcr,pathL]
   rw [ByteArray.toList_eq] at he
   by_cases h47:c=47
   ·rw [if_pos h47] at hp ⊢
    simp only [List.map_cons,List.cons.injEq] at hp
    rw [←hp.2,List.all_map,List.map_map]
    rfl
   ·rw [if_neg h47] at hp
    simp only [List.map_cons,List.cons.injEq] at hp
    rw [hp.1] at he
    simp at he
  ·intro he
   obtain ⟨c,r,hcr⟩:∃ c r,s.data.toList=c :: r:=by
    cases h:s.data.toList with
    | nil=>rw [h] at hl;simp at hl;omega
    | cons c r=>exact ⟨c,r,rfl⟩
   rw [hcr,cutL] at hp
   unfold pathV
   rw [if_neg (by omega),hcr,pathL]
   rw [ByteArray.toList_eq] at he
   by_cases h47:c=47
   ·rw [if_pos h47] at hp
    simp only [List.map_cons,List.cons.injEq] at hp
    rw [hp.1] at he
    simp at he
   ·rw [if_neg h47]
  ·have:=hz x.data.toList (by simp;exact .inr ⟨x,hx,rfl⟩)
   have:x.data.toList.length=x.size:=Array.length_toList
   omega
  ·intro he e
   subst e
   obtain ⟨c,r,hcr⟩:∃ c r,s.data.toList=c :: r:=by
    cases h:s.data.toList with
    | nil=>rw [h] at hl;simp at hl;omega
    | cons c r=>exact ⟨c,r,rfl⟩
   rw [hcr,cutL] at hp
   by_cases h47:c=47
   ·rw [if_pos h47] at hp
    simp only [List.map_cons,List.map_nil,List.cons.injEq] at hp
    exact cutL_ne _ hp.2.symm
   ·rw [if_neg h47] at hp
    simp only [List.map_cons,List.map_nil,List.cons.injEq] at hp
    rw [ByteArray.toList_eq,hp.1] at he
    simp at he
set_option maxRecDepth 100000 in
set_option maxHeartbeats 4000000 in
theorem pathOf_bare (s:ByteArray) (w:World) (h60:s.size≤60) (hE:s.toList.isEmpty=false) (q:ByteArray) (qs:List ByteArray) (hq:q.toList.isEmpty=false) (hV:pathV s=none) (hn60:qs.length≤60)
  (hs:Calls Tryz.prog 121 #[.string s,.string ⟨#[47]⟩] w fun e w'=>e=.returned (.slice (some ⟨w.heap.size,0,none⟩) (q :: qs).length (q :: qs).length)∧w'=w.alloc (.cells ((q :: qs).map Value.string).toArray 9)) :
  Calls Tryz.prog 76 #[.string s] w fun e w'=>∃ v,e=.returned (.tuple #[v,.bool (pathV s).isSome])∧Kd.R Kd.string 9 w' w.heap.size (fun _=>True) v ((pathV s).getD [])∧Below w.heap.size w w':=by
 rw [hV]
 have SP:=Aside0.mk hs
 have hd:decide ((s.size:Int) > 60)=false:=decide_eq_false (by omega)
 obtain ⟨n,hn⟩:∃ n,n=qs.length:=⟨_,rfl⟩
 have B1:=Aside0.mk (show Below w.heap.size w (w.alloc (.cells ((q :: qs).map Value.string).toArray 9)) from below_alloc (Below.refl _ _) _)
 have K1:=blk_new w (.cells ((q :: qs).map Value.string).toArray 9)
 have k0:(w.alloc (.cells ((q :: qs).map Value.string).toArray 9)).cell? ⟨w.heap.size,0,none⟩=some (.string q):=by rw [blk_cell K1 0];simp
 clear hs K1 hV
 obtain ⟨W1,hW1⟩:∃ W1,W1=w.alloc (.cells ((q :: qs).map Value.string).toArray 9):=⟨_,rfl⟩
 rw [←hW1] at SP B1 k0
 clear hW1
 rw [List.length_cons,←hn] at SP
 clear hn
 go_enter Tryz.func76,Tryz.ntmps76
 go_wp2_with (first | (go_at_call 121;(with_reducible refine SP.out.mono ?_);rintro e w2 ⟨rfl,hw2⟩;rw [hw2];clear hw2))
 go_ret2
 exact ⟨_,rfl,Kd.R_nil _ _ _ _ _,B1.out⟩
theorem told_back (q:ByteArray) (w W2:World) (b g c:Nat) (hs:q.size≤60) (h1:W2.heap[b]? = some (.cells #[.int .u32 0,.int .i32 0,.int .u32 0,.nilIface,.slice (some ⟨g,0,none⟩) 4 c] 204 (0,0))) (h2:Kd.C Kd.string W2 (some ⟨g,0,none⟩) 4 oldU) (h3:g≠b) (h4:Below w.heap.size w W2) (h5:w.heap.size≤b) :
  Calls Tryz.prog 123 #[.pointer (some ⟨b,0,none⟩),.string q] W2 fun e w'=>e=.returned (.string (nmB q.data.toList))∧Below w.heap.size w w':=unAll_c w b g c q W2 h1 h2 h3 h4 h5 (by omega)
theorem nmB_size (q:ByteArray) (h:q.size≤60):(nmB q.data.toList).size≤60:=by
 have h1:=unesc_len _ q.data.toList (Nat.le_refl _)
 have h2:q.data.toList.length=q.size:=Array.length_toList
 have h3:(nmB q.data.toList).size=(unescL q.data.toList).length:=by unfold nmB;simp [ByteArray.size]
 omega
set_option maxRecDepth 100000 in
set_option maxHeartbeats 8000000 in
theorem pathOf_slash (s:ByteArray) (w:World) (h60:s.size≤60) (hE:s.toList.isEmpty=false) (q:ByteArray) (qs:List ByteArray) (hq:q.toList.isEmpty=true) (hV:pathV s=if (qs.all fun q=>goodP q.data.toList)=true then some (qs.map fun q=>nmB q.data.toList) else none) (hn60:qs.length≤60) (hne:qs≠[]) (hqs:∀ q∈qs,q.size≤60∧∀ c,c∈q.data.toList→c≠47)
  (hs:Calls Tryz.prog 121 #[.string s,.string ⟨#[47]⟩] w fun e w'=>e=.returned (.slice (some ⟨w.heap.size,0,none⟩) (q :: qs).length (q :: qs).length)∧w'=w.alloc (.cells ((q :: qs).map Value.string).toArray 9)) :
  Calls Tryz.prog 76 #[.string s] w fun e w'=>∃ v,e=.returned (.tuple #[v,.bool (pathV s).isSome])∧Kd.R Kd.string 9 w' w.heap.size (fun _=>True) v ((pathV s).getD [])∧Below w.heap.size w w':=by
 have SP:=Aside0.mk hs
 have HV:=Aside0.mk hV
 have HQS:=Aside0.mk hqs
 have hd:decide ((s.size:Int) > 60)=false:=decide_eq_false (by omega)
 have B1:=Aside0.mk (show Below w.heap.size w (w.alloc (.cells ((q :: qs).map Value.string).toArray 9)) from below_alloc (Below.refl _ _) _)
 have K1:=blk_new w (.cells ((q :: qs).map Value.string).toArray 9)
 have L1:=Aside0.mk (show (w.alloc (.cells ((q :: qs).map Value.string).toArray 9)).heap.size=w.heap.size+1 from size_alloc1 w _)
 have k0:(w.alloc (.cells ((q :: qs).map Value.string).toArray 9)).cell? ⟨w.heap.size,0,none⟩=some (.string q):=by rw [blk_cell K1 0];simp
 clear hs hV hqs
 obtain ⟨W1,hW1⟩:∃ W1,W1=w.alloc (.cells ((q :: qs).map Value.string).toArray 9):=⟨_,rfl⟩
 rw [←hW1] at SP B1 k0 K1 L1
 obtain ⟨arr,harr⟩:∃ a,a=((q :: qs).map Value.string).toArray:=⟨_,rfl⟩
 have HC:=Aside0.mk (show ∀ (i:Nat) (hi:i < qs.length),arr[i+1]? = some (.string qs[i]) by intro i hi;rw [harr];simp [hi])
 rw [←harr] at K1
 clear hW1 harr
 obtain ⟨n,hn⟩:∃ n,n=qs.length:=⟨_,rfl⟩
 rw [List.length_cons,←hn] at SP
 rw [←hn] at hn60
 have HN:=Aside0.mk hn
 have hn0:¬n=0:=fun e=>hne (List.length_eq_zero_iff.1 (by omega))
 clear hn hne
 obtain ⟨gS,hgS⟩:∃ g,g=w.heap.size:=⟨_,rfl⟩
 have GS:=Aside0.mk hgS
 rw [←hgS] at SP k0 K1
 have KK:=Aside0.mk K1
 clear hgS K1
 go_enter Tryz.func76,Tryz.ntmps76
 go_upto_region 10 with (first | (go_at_call 121;(with_reducible refine SP.out.mono ?_);rintro e w2 ⟨rfl,hw2⟩;rw [hw2];clear hw2))
 go_loopg [5,25] n (fun m v5 v25 W=>∃ i:Nat,v25=.int .i64 (i:Int)∧Aside0 (i+m=n)∧Aside0 (Kd.R Kd.string 9 W w.heap.size (fun k=>k≠gS) v5 ((qs.take i).map fun q=>nmB q.data.toList))∧Aside0 (∀ q∈qs.take i,goodP q.data.toList=true)∧Aside0 (Below w.heap.size w W)∧Aside0 (W.heap[gS]? = some (.cells arr 9 (0,0))))
 case atStart =>
  have hR:=lit_row (Kd.string) W1 9 (xs:=[]) (inner:=[]) (Reps.none _ _) (by simp)
  have hR2:=Kd.R_lower (Kd.R_mono (Kd.R_bound hR) (fun k hk=>show k≠gS by have:=hk.2.1;have:=L1.out;have:=GS.out;omega)) B1.out.size
  exact ⟨0,rfl,⟨by omega⟩,⟨by simpa using hR2⟩,⟨by simp⟩,⟨below_step B1.out (below_alloc (Below.refl _ _) _)⟩,⟨blk_below KK.out (below_alloc (Below.refl _ _) _)⟩⟩
 case round =>
  obtain ⟨i,rfl,HM,HRR,HG,HB,HK⟩:=hrel
  cases gk with
  | zero =>
   have hlt:decide ((i:Int) < (n:Int))=false:=decide_eq_false (by have:=HM.out;omega)
   have hlt2:decide (i < n)=false:=decide_eq_false (by have:=HM.out;omega)
   have ei:qs.take i=qs:=List.take_of_length_le (by have:=HM.out;have:=HN.out;omega)
   have R9:=HRR.out
   have G9:=HG.out
   rw [ei] at R9 G9
   have R9:=Aside0.mk (Kd.R_mono R9 (fun _ _=>trivial) (ok':=fun _=>True))
   have hv:pathV s=some (qs.map fun q=>nmB q.data.toList):=by rw [HV.out,if_pos (List.all_eq_true.2 G9)]
   have HV2:=Aside0.mk hv
   clear HRR HG G9 ei hv
   go_wp2
   go_ret2
   rw [HV2.out]
   exact ⟨_,rfl,R9.out,HB.out⟩
  | succ m =>
   have hi:i < qs.length:=by have:=HM.out;have:=HN.out;omega
   have hlt:decide ((i:Int) < (n:Int))=true:=decide_eq_true (by have:=HM.out;omega)
   have hlt2:i < n:=by have:=HM.out;omega
   have k1:wr.cell? ⟨gS,i+1,none⟩=some (.string qs[i]):=by rw [blk_cell HK.out (i+1)];exact HC.out i hi
   have k2:wr.cell? ⟨gS,1+i,none⟩=some (.string qs[i]):=by rw [Nat.add_comm 1];exact k1
   have hq60:=(HQS.out _ (List.getElem_mem hi)).1
   have hesc:=goodP_ok qs[i] (HQS.out _ (List.getElem_mem hi)).2
   have htk:qs.take (i+1)=qs.take i++[qs[i]]:=by rw [List.take_add_one,List.getElem?_eq_getElem hi];rfl
   have HTK:=Aside0.mk htk
   have HIN:=Aside0.mk (show qs[i]∈qs from List.getElem_mem hi)
   have b9:(i:Int)≤60:=by have:=HN.out;omega
   clear htk
   obtain ⟨p,hp⟩:∃ p,p=qs[i]:=⟨_,rfl⟩
   rw [←hp] at k1 k2 hq60 hesc HTK HIN
   clear hp hi
   have HE:=Aside0.mk hesc
   have HQ:=Aside0.mk hq60
   have HEQ:=Aside0.mk (show ((escB (nmB p.data.toList)).toList != p.toList) = !okP p.data.toList by rw [bne,hesc])
   clear hesc hq60
   cases hok:okP p.data.toList with
   | false =>
    have hv:pathV s=none:=by
     rw [HV.out,if_neg]
     intro ha
     have:=List.all_eq_true.1 ha p HIN.out
     unfold goodP at this
     rw [hok] at this
     cases this
    have HV2:=Aside0.mk hv
    have e1:=HE.out
    rw [hok] at e1
    clear hok hv
    go_wp2_with (first | (go_at_call 122;obtain ⟨W2,hW2⟩:∃ W2,W2=wr.alloc (.cells #[.string ⟨#[126,48]⟩,.string ⟨#[126]⟩,.string ⟨#[126,49]⟩,.string ⟨#[47]⟩] 9):=⟨_,rfl⟩;have B2:=Aside0.mk (show Below wr.heap.size wr W2 by rw [hW2];exact below_alloc (Below.refl _ _) _);have C2:=Aside0.mk (show Kd.C Kd.string W2 (some ⟨wr.heap.size,0,none⟩) 4 oldU by rw [hW2];exact C_four _ _ _ _ wr);rw [←hW2];clear hW2;refine (newG_c oldU rfl wr.heap.size 4 W2 C2.out).mono ?_;rintro e w2 ⟨b,g,c,rfl,h1,h2,h3,h4,h5⟩;have QQ:=Aside0.mk (told_back p wr w2 b g c HQ.out h1 h2 h3 (below_step B2.out h4) (Nat.le_trans B2.out.size h5));clear h1 h2 h3 h4 h5 C2) | (go_at_call 123;(with_reducible refine QQ.out.mono ?_);rintro e w3 ⟨rfl,hb3⟩;have B3:=Aside0.mk hb3;clear hb3 QQ) | (go_at_call 116;(with_reducible refine (escaped_c _ _ (by have:=nmB_size p HQ.out;omega)).mono ?_);rintro e w4 ⟨rfl,hb4⟩;have B4:=Aside0.mk (below_step B3.out hb4);clear hb4))
    go_ret2
    rw [HV2.out]
    exact ⟨_,rfl,Kd.R_nil _ _ _ _ _,below_step HB.out B4.out⟩
   | true =>
    have e1:=HE.out
    rw [hok] at e1
    cases hpr:prt (nmB p.data.toList) with
    | false =>
     have hv:pathV s=none:=by
      rw [HV.out,if_neg]
      intro ha
      have:=List.all_eq_true.1 ha p HIN.out
      unfold goodP at this
      rw [hpr] at this
      simp at this
     have HV2:=Aside0.mk hv
     have HP:=Aside0.mk hpr
     clear hok hv hpr
     go_wp2_with (first | (go_at_call 122;obtain ⟨W2,hW2⟩:∃ W2,W2=wr.alloc (.cells #[.string ⟨#[126,48]⟩,.string ⟨#[126]⟩,.string ⟨#[126,49]⟩,.string ⟨#[47]⟩] 9):=⟨_,rfl⟩;have B2:=Aside0.mk (show Below wr.heap.size wr W2 by rw [hW2];exact below_alloc (Below.refl _ _) _);have C2:=Aside0.mk (show Kd.C Kd.string W2 (some ⟨wr.heap.size,0,none⟩) 4 oldU by rw [hW2];exact C_four _ _ _ _ wr);rw [←hW2];clear hW2;refine (newG_c oldU rfl wr.heap.size 4 W2 C2.out).mono ?_;rintro e w2 ⟨b,g,c,rfl,h1,h2,h3,h4,h5⟩;have QQ:=Aside0.mk (told_back p wr w2 b g c HQ.out h1 h2 h3 (below_step B2.out h4) (Nat.le_trans B2.out.size h5));clear h1 h2 h3 h4 h5 C2) | (go_at_call 123;(with_reducible refine QQ.out.mono ?_);rintro e w3 ⟨rfl,hb3⟩;have B3:=Aside0.mk hb3;clear hb3 QQ) | (go_at_call 116;(with_reducible refine (escaped_c _ _ (by have:=nmB_size p HQ.out;omega)).mono ?_);rintro e w4 ⟨rfl,hb4⟩;have B4:=Aside0.mk (below_step B3.out hb4);clear hb4) | (go_at_call 124;(with_reducible refine (prt_c _ _ _ HP.out).mono ?_);rintro e w5 ⟨rfl,⟨n5,hn5⟩⟩;have B5:=Aside0.mk (show Below wr.heap.size wr w5 by rw [hn5];exact below_drewN B4.out n5);clear hn5))
     go_ret2
     rw [HV2.out]
     exact ⟨_,rfl,Kd.R_nil _ _ _ _ _,below_step HB.out B5.out⟩
    | true =>
     have HG1:=Aside0.mk (show goodP p.data.toList=true by unfold goodP;rw [hok,hpr];rfl)
     have HP:=Aside0.mk hpr
     clear hok hpr
     obtain ⟨lr,hlr⟩:∃ lr,lr=(qs.take i).map (fun q=>nmB q.data.toList):=⟨_,rfl⟩
     have HLR:=Aside0.mk hlr
     have HRQ:=HRR.out
     rw [←hlr] at HRQ
     have HLN:=Aside0.mk (show lr.length≤60 by rw [hlr,List.length_map,List.length_take];omega)
     clear HRR hlr
     have HRR:=Aside0.mk HRQ
     clear HRQ
     obtain ⟨A5,c5,rfl⟩:=Kd.R_slice HRR.out
     obtain ⟨n5_,hn5_⟩:∃ n,n=lr.length:=⟨_,rfl⟩
     have HN5:=Aside0.mk hn5_
     have HRR5:=HRR.out
     rw [←hn5_] at HRR5 ⊢
     clear HRR hn5_
     have HRR:=Aside0.mk HRR5
     clear HRR5
     go_wp2_with (first | (go_at_call 122;obtain ⟨W2,hW2⟩:∃ W2,W2=wr.alloc (.cells #[.string ⟨#[126,48]⟩,.string ⟨#[126]⟩,.string ⟨#[126,49]⟩,.string ⟨#[47]⟩] 9):=⟨_,rfl⟩;have B2:=Aside0.mk (show Below wr.heap.size wr W2 by rw [hW2];exact below_alloc (Below.refl _ _) _);have C2:=Aside0.mk (show Kd.C Kd.string W2 (some ⟨wr.heap.size,0,none⟩) 4 oldU by rw [hW2];exact C_four _ _ _ _ wr);rw [←hW2];clear hW2;refine (newG_c oldU rfl wr.heap.size 4 W2 C2.out).mono ?_;rintro e w2 ⟨b,g,c,rfl,h1,h2,h3,h4,h5⟩;have QQ:=Aside0.mk (told_back p wr w2 b g c HQ.out h1 h2 h3 (below_step B2.out h4) (Nat.le_trans B2.out.size h5));clear h1 h2 h3 h4 h5 C2) | (go_at_call 123;(with_reducible refine QQ.out.mono ?_);rintro e w3 ⟨rfl,hb3⟩;have B3:=Aside0.mk hb3;clear hb3 QQ) | (go_at_call 116;(with_reducible refine (escaped_c _ _ (by have:=nmB_size p HQ.out;omega)).mono ?_);rintro e w4 ⟨rfl,hb4⟩;have B4:=Aside0.mk (below_step B3.out hb4);clear hb4) | (go_at_call 124;(with_reducible refine (prt_c _ _ _ HP.out).mono ?_);rintro e w5 ⟨rfl,⟨n5,hn5⟩⟩;have B5:=Aside0.mk (show Below wr.heap.size wr w5 by rw [hn5];exact below_drewN B4.out n5);have R5:=Aside0.mk (Kd.R_below HRR.out B5.out);clear hn5) | ((with_reducible refine gate_builtin (b:=.append) (xs:=#[.tmp 42,.tmp 44]) rfl ?_);at_builtin;refine Kd.R_append Kd.string w.heap.size rfl (.tmp 42) (.tmp 44) 26 9 (.string ⟨#[]⟩) 16 rfl Tryz.underlying26 infoS rfl (by decide) (by decide) (.slice A5 n5_ c5) lr (nmB p.data.toList) [.string (nmB p.data.toList)] (fun k=>k≠gS) (fun _=>False) rfl rfl ?aP (fun _ hk=>hk.elim) ?aF ?aO (below_step HB.out B5.out) ?aS ?aL ?_;(case aP=>exact rfl);(case aF=>exact fun k hk=>by have:=HB.out.size;have:=B5.out.size;have:=GS.out;have:=blk_lt HK.out;omega);(case aO=>exact R5.out);(case aS=>exact Nat.le_trans HB.out.size B5.out.size);(case aL=>have:=HLN.out;omega);intro v6 w6 ho hb hg hat;have R6:=Aside0.mk ho;have B6:=Aside0.mk hb;have K6:=Aside0.mk (blk_grown (blk_below HK.out B5.out) hg (fun e_=>R5.out.1 gS (by first | exact e_ | exact e_.symm) rfl));clear ho hb hg hat))
     go_roundg m
     exact ⟨i+1,by push_cast;rfl,⟨by have:=HM.out;omega⟩,⟨by rw [HTK.out,List.map_append,←HLR.out];exact R6.out⟩,⟨by rw [HTK.out];intro x hx;rcases List.mem_append.1 hx with hx | hx;exact HG.out x hx;rw [List.mem_singleton.1 hx];exact HG1.out⟩,B6,K6⟩
     exact Nat.lt_succ_self _
theorem pathOf_c (s:ByteArray) (w:World):Calls Tryz.prog 76 #[.string s] w fun e w'=>∃ v,e=.returned (.tuple #[v,.bool (pathV s).isSome])∧Kd.R Kd.string 9 w' w.heap.size (fun _=>True) v ((pathV s).getD [])∧Below w.heap.size w w':=by
 by_cases h60:60 < s.size
 ·exact pathOf_long s w h60
 ·by_cases h0:s.size=0
  ·exact pathOf_nil s w h0
  ·have hE:s.toList.isEmpty=false:=emp_list (by unfold emp;simp [h0])
   obtain ⟨ps,hp,hc⟩:=split47_c s w (by omega)
   obtain ⟨q,qs,rfl,h1,h2,h3,h4,h5⟩:=pathV_cut (by omega) (by omega) hp
   cases hq:q.toList.isEmpty with
   | true=>exact pathOf_slash s w (by omega) hE q qs hq (h1 hq) h4 (h5 hq) h3 hc
   | false=>exact pathOf_bare s w (by omega) hE q qs hq (h2 hq) h4 hc
end Go.Proofs.YtoaafohpmhdjnaaGreatDoor.VT
