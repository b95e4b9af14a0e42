import Derived.Test.YtoaafohpmhdjnaaGreatDoorTAYPO
/- spec.l3Path: plain steps and the walk. Conditions: none. -/
namespace Go.Proofs.YtoaafohpmhdjnaaGreatDoor.VT
open Go.RowKit Go.Proofs.YtoaafohpmhdjnaaGreatDoor.RX Go.Proofs.YtoaafohpmhdjnaaGreatDoor.RY Go.Proofs.YtoaafohpmhdjnaaGreatDoor.PVG Go.Proofs.YtoaafohpmhdjnaaGreatDoorW.PrintWords Go.Proofs.YtoaafohpmhdjnaaGreatDoorW.PrintLast Go.Proofs.YtoaafohpmhdjnaaGreatDoorW.PrintMore
set_option linter.unusedVariables false
set_option linter.unusedSimpArgs false
theorem pathL_47 (r:List UInt8):pathL (47 :: r)=if (cutL r).all goodP=true then some ((cutL r).map nmB) else none:=by rw [pathL,if_pos rfl]
theorem first_piece (r:List UInt8):∃ p tl,r=p++tl∧(∀ c,c∈p→c≠47)∧(tl=[]∨∃ r',tl=47 :: r')∧pathL (47 :: r)=if goodP p=true then (pathL tl).map (fun l=>nmB p :: l) else none:=by
 rcases cutL_idx r with ⟨h1,h2,h3⟩ | ⟨i,h1,h2,h3,h4,h5⟩
 ·refine ⟨r,[],by simp,h3,.inl rfl,?_⟩
  rw [pathL_47,h2]
  cases hg:goodP r <;> simp [pathL,hg]
 ·have e:r.drop i=47 :: r.drop (i+1):=by
   rw [List.drop_eq_getElem_cons h2]
   have:=List.getElem?_eq_getElem h2
   rw [h4] at this
   rw [←Option.some.inj this]
  refine ⟨r.take i,r.drop i,(List.take_append_drop i r).symm,h5,.inr ⟨_,e⟩,?_⟩
  rw [e,pathL_47,h3,pathL_47]
  cases hg:goodP (r.take i) with
  | false=>simp [hg]
  | true =>
   simp only [List.all_cons,hg,Bool.true_and,List.map_cons,if_true]
   split <;> simp
theorem ext_one {z:ByteArray} {c:UInt8} {l:List UInt8} (h:z.data.toList=c :: l):z.extract 0 1=⟨#[c]⟩∧(z.extract 1 z.size).data.toList=l∧1≤z.size∧∀ h:0 < z.size,(z[0]'h).toNat=c.toNat:=by
 have hl:z.data.toList.length=z.size:=Array.length_toList
 have h1:1≤z.size:=by rw [h] at hl;simp at hl;omega
 refine ⟨?_,?_,h1,fun h0=>?_⟩
 ·have e:(z.extract 0 1).data.toList=[c]:=by rw [ex_list _ _ _ (by omega),h];rfl
  have:(z.extract 0 1).data=#[c]:=by rw [←Array.toList_inj];exact e
  rw [←this]
 ·rw [ex_list _ _ _ h1,List.take_of_length_le (by omega),h];rfl
 ·have:z.data.toList[0]? = some c:=by rw [h];rfl
  have e:z.data.toList[0]? = some (z[0]'h0):=by
   rw [List.getElem?_eq_getElem (by omega)];rfl
  rw [this] at e
  rw [←Option.some.inj e]
theorem okP_not {c:UInt8} (h:c≠126) (r:List UInt8):okP (c :: r)=okP r∧unescL (c :: r)=c :: unescL r:=by
 cases r with
 | nil=>simp [okP,unescL,h]
 | cons d r=>simp [okP,unescL,h]
theorem size_app1 (a:ByteArray) (c:UInt8):(a++(⟨#[c]⟩:ByteArray)).size=a.size+1:=by rw [ByteArray.size_append];rfl
theorem is_nil {z:ByteArray} (h:z.data.toList=[]):z.toList.isEmpty=true:=by rw [ByteArray.toList_eq,h];rfl
theorem is_cons {z:ByteArray} {c:UInt8} {l:List UInt8} (h:z.data.toList=c :: l):z.toList.isEmpty=false:=by rw [ByteArray.toList_eq,h];rfl
set_option maxRecDepth 100000 in
set_option maxHeartbeats 4000000 in
theorem l3Path_bad (s:ByteArray) (w:World) (h:60 < s.size):Calls Tryz.prog 74 #[.string s] w fun e w'=>∃ v,e=.returned (.tuple #[v,.bool (pathV s).isSome])∧Kd.R Kd.string 9 w' w.heap.size (fun _=>True) v ((pathV s).getD [])∧Below w.heap.size w w':=by
 rw [pathV_long h]
 have hd:decide ((s.size:Int) > 60)=true:=decide_eq_true (by omega)
 go_enter Tryz.func74,Tryz.ntmps74
 go_wp2
 go_ret2
 exact ⟨_,rfl,Kd.R_nil _ _ _ _ _,Below.refl _ _⟩
set_option maxRecDepth 100000 in
set_option maxHeartbeats 4000000 in
theorem l3Path_bare (s:ByteArray) (w:World) (c:UInt8) (l:List UInt8) (h60:s.size≤60) (hs:s.data.toList=c :: l) (hc:c≠47):Calls Tryz.prog 74 #[.string s] w fun e w'=>∃ v,e=.returned (.tuple #[v,.bool (pathV s).isSome])∧Kd.R Kd.string 9 w' w.heap.size (fun _=>True) v ((pathV s).getD [])∧Below w.heap.size w w':=by
 rw [show pathV s=none by unfold pathV;rw [if_neg (by omega),hs,pathL,if_neg hc]]
 have hd:decide ((s.size:Int) > 60)=false:=decide_eq_false (by omega)
 have he:=is_cons hs
 obtain ⟨_,_,h1,h0⟩:=ext_one hs
 obtain ⟨x,hx⟩:∃ x,x=c.toNat:=⟨_,rfl⟩
 rw [←hx] at h0
 have hx47:x≠47:=fun e=>hc (by rw [←UInt8.toNat_inj,←hx,e];rfl)
 have hx256:x < 256:=by rw [hx];exact c.toNat_lt
 have h1':0 < s.size:=h1
 clear hs hc hx h1
 go_enter Tryz.func74,Tryz.ntmps74
 go_wp2
 go_ret2
 exact ⟨_,rfl,Kd.R_nil _ _ _ _ _,Below.refl _ _⟩
set_option maxRecDepth 100000 in
set_option maxHeartbeats 4000000 in
theorem l3Path_nil (s:ByteArray) (w:World) (hs:s.data.toList=[]) (h60:s.size≤60):Calls Tryz.prog 74 #[.string s] w fun e w'=>∃ v,e=.returned (.tuple #[v,.bool (pathV s).isSome])∧Kd.R Kd.string 9 w' w.heap.size (fun _=>True) v ((pathV s).getD [])∧Below w.heap.size w w':=by
 rw [show pathV s=some [] by unfold pathV;rw [if_neg (by omega),hs];rfl]
 have hd:decide ((s.size:Int) > 60)=false:=decide_eq_false (by omega)
 have he:=is_nil hs
 clear hs
 go_enter Tryz.func74,Tryz.ntmps74
 go_wp2
 go_loopg [0,4] 0 (fun m v0 v4 W=>v0=.string s∧v4=.slice none 0 0∧W=w)
 case atStart=>exact ⟨rfl,rfl,rfl⟩
 case round =>
  obtain ⟨rfl,rfl,rfl⟩:=hrel
  go_wp2
  go_ret2
  exact ⟨_,rfl,Kd.R_nil _ _ _ _ _,Below.refl _ _⟩
set_option maxRecDepth 100000 in
set_option maxHeartbeats 8000000 in
theorem l3Path_slash (s:ByteArray) (w:World) (l:List UInt8) (h60:s.size≤60) (hs:s.data.toList=47 :: l):Calls Tryz.prog 74 #[.string s] w fun e w'=>∃ v,e=.returned (.tuple #[v,.bool (pathV s).isSome])∧Kd.R Kd.string 9 w' w.heap.size (fun _=>True) v ((pathV s).getD [])∧Below w.heap.size w w':=by
 have HV:=Aside0.mk (show pathV s=pathL s.data.toList by unfold pathV;rw [if_neg (by omega)])
 have hd:decide ((s.size:Int) > 60)=false:=decide_eq_false (by omega)
 have he:=is_cons hs
 obtain ⟨_,_,h1,h0⟩:=ext_one hs
 have h0':∀ h:0 < s.size,(s[0]'h).toNat=47:=h0
 have h1':0 < s.size:=h1
 have HS:=Aside0.mk (And.intro h60 hs)
 clear hs h1 h0
 go_enter Tryz.func74,Tryz.ntmps74
 go_wp2
 go_loopg [0,4,5,6] s.size (fun m v0 v4 v5 v6 W=>∃ (x:ByteArray) (done:List ByteArray),v0=.string x∧Aside0 (x.size=m∧x.size≤60∧done.length+x.size≤60∧(x.data.toList=[]∨∃ r,x.data.toList=47 :: r)∧pathL s.data.toList=(pathL x.data.toList).map (fun l=>done++l))∧Aside0 (Kd.R Kd.string 9 W w.heap.size (fun _=>True) v4 done)∧Aside0 (Below w.heap.size w W))
 case atStart =>
  exact ⟨s,[],rfl,⟨rfl,HS.out.1,by simpa using HS.out.1,.inr ⟨l,HS.out.2⟩,by simp⟩,⟨Kd.R_nil _ _ _ _ _⟩,⟨Below.refl _ _⟩⟩
 case round =>
  obtain ⟨x,done,rfl,HX,HR,HB⟩:=hrel
  obtain ⟨A4,c4,rfl⟩:=Kd.R_slice HR.out
  obtain ⟨n4,hn4⟩:∃ n,n=done.length:=⟨_,rfl⟩
  have HN4:=Aside0.mk hn4
  have HR':=HR.out
  rw [←hn4] at HR' ⊢
  clear HR hn4
  have HR:=Aside0.mk HR'
  clear HR' he h0' h1' hd
  rcases HX.out.2.2.2.1 with hx | ⟨r,hx⟩
  ·have he:=is_nil hx
   have HV2:=Aside0.mk (show pathV s=some done by rw [HV.out,HX.out.2.2.2.2,hx];simp [pathL])
   clear hx
   go_wp2
   go_ret2
   rw [HV2.out]
   exact ⟨_,rfl,HR.out,HB.out⟩
  ·have he:=is_cons hx
   obtain ⟨_,hy0,h1,_⟩:=ext_one hx
   obtain ⟨y,hy⟩:∃ y,y=x.extract 1 x.size:=⟨_,rfl⟩
   obtain ⟨p,tl,hr,hp47,htl,hpl⟩:=first_piece r
   rw [←hy] at hy0
   have HY:=Aside0.mk (show y.data.toList=p++tl by rw [hy0,hr])
   have SX:x.data.toList.length=x.size:=Array.length_toList
   have SY:y.data.toList.length=y.size:=Array.length_toList
   have HSZ:=Aside0.mk (show p.length≤60∧p.length+tl.length+1=x.size by
    rw [hx] at SX;have:=HX.out.2.1;rw [hr] at SX;simp at SX;omega)
   have HPL:=Aside0.mk (show pathL s.data.toList=if goodP p=true then (pathL tl).map (fun l=>(done++[nmB p])++l) else none by
    rw [HX.out.2.2.2.2,hx,hpl];cases goodP p <;> simp [Function.comp_def])
   have HTL:=Aside0.mk htl
   have HP47:=Aside0.mk hp47
   clear hx hy0 hr hp47 htl hpl SX SY
   go_upto_region 6 with fail
   rw [←hy]
   clear hy h1 he
   go_wp2
   go_loopg [0,5,6] p.length (fun m v0 v5 v6 W=>W=wr∧∃ (z acc:ByteArray) (q:List UInt8),v0=.string z∧v5=.string acc∧Aside0 (q.length=m∧z.data.toList=q++tl∧(∀ c,c∈q→c≠47)∧okP p=okP q∧unescL p=acc.data.toList++unescL q∧acc.size+q.length≤60))
   case atStart =>
    exact ⟨rfl,y,⟨#[]⟩,p,rfl,rfl,⟨rfl,HY.out,HP47.out,rfl,rfl,by have:=HSZ.out.1;show 0+p.length≤60;omega⟩⟩
   case round =>
    obtain ⟨hwr,z,acc,q,rfl,rfl,HQ⟩:=hrel
    subst hwr
    cases q with
    | nil =>
     have hacc:acc=nmB p:=by
      unfold nmB
      rw [HQ.out.2.2.2.2.1]
      simp [unescL]
     have HG:=Aside0.mk (show goodP p=prt (nmB p) by unfold goodP;rw [HQ.out.2.2.2.1];rfl)
     have HZ:=Aside0.mk (show z.data.toList=tl from HQ.out.2.1)
     have HAS:=Aside0.mk (show acc.size≤60 by have:=HQ.out.2.2.2.2.2;simpa using this)
     have HACC:=Aside0.mk hacc
     clear HQ hacc
     rcases HTL.out with ht | ⟨r2,ht⟩
     ·have he:=is_nil (HZ.out.trans ht)
      clear ht
      cases hp:prt (nmB p) with
      | false =>
       have HV2:=Aside0.mk (show pathV s=none by rw [HV.out,HPL.out,HG.out,hp];rfl)
       have HP:=Aside0.mk (show prt acc=false by rw [HACC.out,hp])
       clear hp
       go_wp2_with (first | (go_at_call 119;(with_reducible refine (sprt_c _ _ _ (by have:=HAS.out;omega) HP.out).mono ?_);rintro e w5 ⟨rfl,⟨n5,hn5⟩⟩;have B5:=Aside0.mk (show Below w.heap.size w w5 by rw [hn5];exact below_drewN HB.out n5);clear hn5))
       go_ret2
       rw [HV2.out]
       exact ⟨_,rfl,Kd.R_nil _ _ _ _ _,B5.out⟩
      | true =>
       have HPL2:=Aside0.mk (show pathL s.data.toList=(pathL z.data.toList).map (fun l=>(done++[acc])++l) by rw [HPL.out,HG.out,hp,HZ.out,HACC.out];rfl)
       have HP:=Aside0.mk (show prt acc=true by rw [HACC.out,hp])
       have HLN:=Aside0.mk (show done.length≤60 by have:=HX.out.2.2.1;omega)
       clear hp
       go_wp2_with (first | (go_at_call 119;(with_reducible refine (sprt_c _ _ _ (by have:=HAS.out;omega) HP.out).mono ?_);rintro e w5 ⟨rfl,⟨n5,hn5⟩⟩;have B5:=Aside0.mk (show Below wr.heap.size wr w5 by rw [hn5];exact below_drewN (Below.refl _ _) n5);have R5:=Aside0.mk (Kd.R_below HR.out B5.out);clear hn5) | ((with_reducible refine gate_builtin (b:=.append) (xs:=#[.tmp 59,.tmp 61]) rfl ?_);at_builtin;refine Kd.R_append Kd.string w.heap.size rfl (.tmp 59) (.tmp 61) 26 9 (.string ⟨#[]⟩) 16 rfl Tryz.underlying26 infoS rfl (by decide) (by decide) (.slice A4 n4 c4) done acc [.string acc] (fun _=>True) (fun _=>False) rfl rfl ?aP (fun _ hk=>hk.elim) (fun _ _=>trivial) ?aO (below_step HB.out B5.out) ?aS ?aL ?_;(case aP=>exact rfl);(case aO=>exact R5.out);(case aS=>exact Nat.le_trans HB.out.size B5.out.size);(case aL=>have:=HLN.out;omega);intro v6 w6 ho hb hg hat;have R6:=Aside0.mk ho;have B6:=Aside0.mk hb;clear ho hb hg hat))
       have SZ:z.data.toList.length=z.size:=Array.length_toList
       go_roundg z.size
       ·exact ⟨z,done++[acc],rfl,⟨rfl,by have:=HX.out.2.1;have:=HSZ.out;rw [HZ.out] at SZ;omega,by have:=HX.out.2.2.1;have:=HSZ.out;rw [HZ.out] at SZ;simp;omega,by rw [HZ.out];exact HTL.out,HPL2.out⟩,⟨R6.out⟩,⟨B6.out⟩⟩
       ·have h3:=HX.out.1
        have h4:=HSZ.out
        rw [HZ.out] at SZ
        omega
     ·have he:=is_cons (HZ.out.trans ht)
      obtain ⟨_,_,h1,h0⟩:=ext_one (HZ.out.trans ht)
      have h0':∀ h:0 < z.size,(z[0]'h).toNat=47:=h0
      have h1':0 < z.size:=h1
      clear ht h0 h1
      cases hp:prt (nmB p) with
      | false =>
       have HV2:=Aside0.mk (show pathV s=none by rw [HV.out,HPL.out,HG.out,hp];rfl)
       have HP:=Aside0.mk (show prt acc=false by rw [HACC.out,hp])
       clear hp
       go_wp2_with (first | (go_at_call 119;(with_reducible refine (sprt_c _ _ _ (by have:=HAS.out;omega) HP.out).mono ?_);rintro e w5 ⟨rfl,⟨n5,hn5⟩⟩;have B5:=Aside0.mk (show Below w.heap.size w w5 by rw [hn5];exact below_drewN HB.out n5);clear hn5))
       go_ret2
       rw [HV2.out]
       exact ⟨_,rfl,Kd.R_nil _ _ _ _ _,B5.out⟩
      | true =>
       have HPL2:=Aside0.mk (show pathL s.data.toList=(pathL z.data.toList).map (fun l=>(done++[acc])++l) by rw [HPL.out,HG.out,hp,HZ.out,HACC.out];rfl)
       have HP:=Aside0.mk (show prt acc=true by rw [HACC.out,hp])
       have HLN:=Aside0.mk (show done.length≤60 by have:=HX.out.2.2.1;omega)
       clear hp
       go_wp2_with (first | (go_at_call 119;(with_reducible refine (sprt_c _ _ _ (by have:=HAS.out;omega) HP.out).mono ?_);rintro e w5 ⟨rfl,⟨n5,hn5⟩⟩;have B5:=Aside0.mk (show Below wr.heap.size wr w5 by rw [hn5];exact below_drewN (Below.refl _ _) n5);have R5:=Aside0.mk (Kd.R_below HR.out B5.out);clear hn5) | ((with_reducible refine gate_builtin (b:=.append) (xs:=#[.tmp 59,.tmp 61]) rfl ?_);at_builtin;refine Kd.R_append Kd.string w.heap.size rfl (.tmp 59) (.tmp 61) 26 9 (.string ⟨#[]⟩) 16 rfl Tryz.underlying26 infoS rfl (by decide) (by decide) (.slice A4 n4 c4) done acc [.string acc] (fun _=>True) (fun _=>False) rfl rfl ?aP (fun _ hk=>hk.elim) (fun _ _=>trivial) ?aO (below_step HB.out B5.out) ?aS ?aL ?_;(case aP=>exact rfl);(case aO=>exact R5.out);(case aS=>exact Nat.le_trans HB.out.size B5.out.size);(case aL=>have:=HLN.out;omega);intro v6 w6 ho hb hg hat;have R6:=Aside0.mk ho;have B6:=Aside0.mk hb;clear ho hb hg hat))
       have SZ:z.data.toList.length=z.size:=Array.length_toList
       go_roundg z.size
       ·exact ⟨z,done++[acc],rfl,⟨rfl,by have:=HX.out.2.1;have:=HSZ.out;rw [HZ.out] at SZ;omega,by have:=HX.out.2.2.1;have:=HSZ.out;rw [HZ.out] at SZ;simp;omega,by rw [HZ.out];exact HTL.out,HPL2.out⟩,⟨R6.out⟩,⟨B6.out⟩⟩
       ·have h3:=HX.out.1
        have h4:=HSZ.out
        rw [HZ.out] at SZ
        omega
    | cons c q =>
     have he:=is_cons HQ.out.2.1
     obtain ⟨hz1,hz2,h1,h0⟩:=ext_one HQ.out.2.1
     obtain ⟨x0,hx0⟩:∃ x,x=c.toNat:=⟨_,rfl⟩
     rw [←hx0] at h0
     have hc47:c≠47:=HQ.out.2.2.1 c (by simp)
     have hx47:x0≠47:=fun e=>hc47 (by rw [←UInt8.toNat_inj,←hx0,e];rfl)
     have hx256:x0 < 256:=by rw [hx0];exact c.toNat_lt
     have h1':0 < z.size:=h1
     obtain ⟨z2,hz⟩:∃ z2,z2=z.extract 1 z.size:=⟨_,rfl⟩
     rw [←hz] at hz2
     have HZ2:=Aside0.mk (show z2.data.toList=q++tl from hz2)
     clear hz2 hx0 hc47
     go_upto_region 10 with fail
     rw [←hz]
     clear hz hz1 h1 h0 he
     by_cases hc:c=126
     ·subst hc
      rcases q with _ | ⟨d,q3⟩
      ·have HV2:=Aside0.mk (show pathV s=none by rw [HV.out,HPL.out,if_neg];unfold goodP;rw [HQ.out.2.2.2.1];simp [okP])
       rcases HTL.out with ht | ⟨r2,ht⟩
       ·have he:=is_nil (HZ2.out.trans ht)
        clear ht
        go_wp2
        go_ret2
        rw [HV2.out]
        exact ⟨_,rfl,Kd.R_nil _ _ _ _ _,HB.out⟩
       ·have he:=is_cons (HZ2.out.trans ht)
        obtain ⟨_,_,h1,h0⟩:=ext_one (HZ2.out.trans ht)
        have h0':∀ h:0 < z2.size,(z2[0]'h).toNat=47:=h0
        have h1':0 < z2.size:=h1
        clear ht h0 h1
        go_wp2
        go_ret2
        rw [HV2.out]
        exact ⟨_,rfl,Kd.R_nil _ _ _ _ _,HB.out⟩
      ·have he:=is_cons HZ2.out
       obtain ⟨_,hz3,h1,h0⟩:=ext_one HZ2.out
       have HZ3:=Aside0.mk (show (z2.extract 1 z2.size).data.toList=q3++tl from hz3)
       have h1':0 < z2.size:=h1
       clear hz3
       by_cases hd:d=48
       ·subst hd
        have h0':∀ h:0 < z2.size,(z2[0]'h).toNat=48:=h0
        clear h0
        have HQ2:=Aside0.mk (show okP p=okP q3∧unescL p=(acc++(⟨#[126]⟩:ByteArray)).data.toList++unescL q3 by
         rw [HQ.out.2.2.2.1,HQ.out.2.2.2.2.1];simp [okP,unescL])
        have zs:acc.size≤60:=by have:=HQ.out.2.2.2.2.2;simp at this;omega
        go_wp2
        go_roundg q3.length
        ·exact ⟨rfl,z2.extract 1 z2.size,acc++⟨#[126]⟩,q3,rfl,rfl,⟨rfl,HZ3.out,fun c hc=>HQ.out.2.2.1 c (by simp [hc]),HQ2.out.1,HQ2.out.2,by have:=HQ.out.2.2.2.2.2;rw [size_app1];simp at this;omega⟩⟩
        ·have:=HQ.out.1;simp at this;omega
       ·by_cases hd2:d=49
        ·subst hd2
         have h0':∀ h:0 < z2.size,(z2[0]'h).toNat=49:=h0
         clear h0
         have HQ2:=Aside0.mk (show okP p=okP q3∧unescL p=(acc++(⟨#[47]⟩:ByteArray)).data.toList++unescL q3 by
          rw [HQ.out.2.2.2.1,HQ.out.2.2.2.2.1];simp [okP,unescL])
         have zs:acc.size≤60:=by have:=HQ.out.2.2.2.2.2;simp at this;omega
         clear hd
         go_wp2
         go_roundg q3.length
         ·exact ⟨rfl,z2.extract 1 z2.size,acc++⟨#[47]⟩,q3,rfl,rfl,⟨rfl,HZ3.out,fun c hc=>HQ.out.2.2.1 c (by simp [hc]),HQ2.out.1,HQ2.out.2,by have:=HQ.out.2.2.2.2.2;rw [size_app1];simp at this;omega⟩⟩
         ·have:=HQ.out.1;simp at this;omega
        ·have HV2:=Aside0.mk (show pathV s=none by rw [HV.out,HPL.out,if_neg];unfold goodP;rw [HQ.out.2.2.2.1];simp [okP,hd,hd2])
         obtain ⟨x1,hx1⟩:∃ x,x=d.toNat:=⟨_,rfl⟩
         rw [←hx1] at h0
         have h48:x1≠48:=fun e=>hd (by rw [←UInt8.toNat_inj,←hx1,e];rfl)
         have h49:x1≠49:=fun e=>hd2 (by rw [←UInt8.toNat_inj,←hx1,e];rfl)
         have hx256:x1 < 256:=by rw [hx1];exact d.toNat_lt
         have g48:(((x1:Nat):Int) != 48)=true:=by rw [bne_iff_ne];omega
         have g49:(((x1:Nat):Int) != 49)=true:=by rw [bne_iff_ne];omega
         clear hx1 hd hd2 h1
         go_wp2
         go_ret2
         rw [HV2.out]
         exact ⟨_,rfl,Kd.R_nil _ _ _ _ _,HB.out⟩
     ·have f1:(c==126)=false:=beq_eq_false_iff_ne.2 hc
      obtain ⟨e1,e2⟩:=okP_not hc q
      have HQ2:=Aside0.mk (show okP p=okP q∧unescL p=(acc++(⟨#[c]⟩:ByteArray)).data.toList++unescL q by
       rw [HQ.out.2.2.2.1,HQ.out.2.2.2.2.1,e1,e2];simp)
      have zs:acc.size≤60:=by have:=HQ.out.2.2.2.2.2;simp at this;omega
      clear hc e1 e2
      go_wp2
      go_roundg q.length
      ·exact ⟨rfl,z2,acc++⟨#[c]⟩,q,rfl,rfl,⟨rfl,HZ2.out,fun c hc=>HQ.out.2.2.1 c (by simp [hc]),HQ2.out.1,HQ2.out.2,by have:=HQ.out.2.2.2.2.2;rw [size_app1];simp at this;omega⟩⟩
      ·have:=HQ.out.1;simp at this;omega
theorem l3Path_c (s:ByteArray) (w:World):Calls Tryz.prog 74 #[.string s] w fun e w'=>∃ v,e=.returned (.tuple #[v,.bool (pathV s).isSome])∧Kd.R Kd.string 9 w' w.heap.size (fun _=>True) v ((pathV s).getD [])∧Below w.heap.size w w':=by
 by_cases h60:60 < s.size
 ·exact l3Path_bad s w h60
 ·cases hs:s.data.toList with
  | nil=>exact l3Path_nil s w hs (by omega)
  | cons c l =>
   by_cases hc:c=47
   ·subst hc;exact l3Path_slash s w l (by omega) hs
   ·exact l3Path_bare s w c l (by omega) hs hc
end Go.Proofs.YtoaafohpmhdjnaaGreatDoor.VT
