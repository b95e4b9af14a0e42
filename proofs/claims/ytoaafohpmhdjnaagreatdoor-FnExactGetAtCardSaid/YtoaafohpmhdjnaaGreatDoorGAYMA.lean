import Derived.Test.YtoaafohpmhdjnaaGreatDoorGAVLV
/- Marks of nodes: what is marked is found again; walked by hand. Conditions: none. -/
namespace Go.Proofs.YtoaafohpmhdjnaaGreatDoor.VT
open Go.RowKit Go.Proofs.YtoaafohpmhdjnaaGreatDoor.PVG Go.Proofs.YtoaafohpmhdjnaaGreatDoorW.PrintWords Go.Proofs.YtoaafohpmhdjnaaGreatDoorW.PrintLast Go.Proofs.YtoaafohpmhdjnaaGreatDoorW.PrintMore
set_option linter.unusedVariables false
set_option linter.unusedSimpArgs false
def ncl (x:S107):List Value:=[.int .i64 x.f0,.int .i64 x.f1,.string x.f2,.string x.f3,.int .i64 x.f4]
theorem fget {W:World} {base:Nat} {ok:Nat→Prop} {g n c:Nat} {xs:List S107} {x:S107} (h:Kd.R k107 107 W base ok (.slice (some ⟨g,0,none⟩) n c) xs) (i:Nat) (hi:i < n) (hx:xs[i]? = some x) :
  (∀ j u,(ncl x)[j]? = some u→W.cell? ⟨g,i * 5+j,none⟩=some u)∧∀ j,W.frozen? ⟨g,i * 5+j,none⟩=false:=by
 obtain ⟨cs,_,hM,hc,hf⟩:=Kd.R_elem h z107 (i:Int) (by omega) (by omega)
 obtain rfl:=k107_openM hM
 rw [Int.toNat_natCast] at hc hf
 rw [List.getD_eq_getElem?_getD,hx] at hc
 exact ⟨hc,hf⟩
theorem fset {W W':World} {base:Nat} {ok:Nat→Prop} {g n c i:Nat} {xs:List S107} {x x':S107} (h:Kd.R k107 107 W base ok (.slice (some ⟨g,0,none⟩) n c) (xs.set i x)) (hi:i < n) (hl:xs.length=n) (j:Nat) (u:Value) (hj:j < 5) (hx:(ncl x).take j++[u]++(ncl x).drop (j+1)=ncl x') (hW:W'=W.setCell ⟨g,i * 5+j,none⟩ u) :
  Kd.R k107 107 W' base ok (.slice (some ⟨g,0,none⟩) n c) (xs.set i x')∧W.grownBy W' (some g):=by
 obtain ⟨cs,hcl,hM,hc,hf⟩:=Kd.R_elem h z107 (i:Int) (by omega) (by omega)
 obtain rfl:=k107_openM hM
 have hg:(xs.set i x).getD (i:Int).toNat z107=x:=by rw [Int.toNat_natCast,List.getD_eq_getElem?_getD,List.getElem?_set_self (by omega)];rfl
 rw [hg] at hc hcl
 have:=Kd.R_seg h (i:Int) (by omega) (by omega) (seg:=[u]) (j:=j) hcl hc (show j+1≤5 by omega) (x':=x') (okp:=fun k=>ok k∧k≠g) (by
  have e:=k107_mkM W base (fun k=>ok k∧k≠g) x'
  rw [show [Value.int .i64 x'.f0,.int .i64 x'.f1,.string x'.f2,.string x'.f3,.int .i64 x'.f4]=ncl x' from rfl,←hx] at e
  exact e) (fun k hk=>hk)
 rw [Int.toNat_natCast,List.set_set] at this
 rw [hW]
 exact this
set_option maxRecDepth 100000 in
set_option maxHeartbeats 8000000 in
theorem markN_y (m0:Int) (hm:0≤m0∧m0≤10000000000) (ok:Nat→Prop) (v:Value) (l:List S107) (hl:l.length≤1073741824) (w0 w:World) (hB:Below w0.heap.size w0 w) (hr:Kd.R k107 107 w w0.heap.size ok v l) :
  Calls Tryz.prog 72 #[v,.int .i64 m0] w fun e w'=>e=.returned (.int .i64 (m0+5 * l.length))∧Kd.R k107 107 w' w0.heap.size (fun k=>ok k∨w.heap.size≤k) v ((List.range l.length).map fun j:Nat=>mkN m0 (j:Int))∧Below w0.heap.size w0 w'∧Kept w w' (fun k=>ok k):=by
 obtain ⟨n,hn⟩:∃ n,n=l.length:=⟨_,rfl⟩
 have hw0:Kd.R k107 107 w w0.heap.size (fun k=>ok k∨w.heap.size≤k) v l:=Kd.R_mono hr (fun k hk=>.inl hk)
 have OK:=Aside0.mk (show ∀ k,v.ownBlock=some k→ok k from hr.1)
 rw [←hn]
 have HL:=Aside0.mk (show n≤1073741824 by omega)
 have HM:=Aside0.mk hm
 obtain ⟨A,c,rfl⟩:=Kd.R_slice hw0
 rw [←hn] at hw0 OK ⊢
 have HR:=Aside0.mk hw0
 have HBB:=Aside0.mk hB
 have HLL:=Aside0.mk hn
 have E0:=Aside0.mk (show m0+5 * ((0:Nat):Int)=m0 by omega)
 clear hr hw0 hB hl hn hm
 go_enter Tryz.func72,Tryz.ntmps72
 go_wp2
 go_loopg [1,5] n (fun m v1 v5 W=>∃ (i:Nat) (xs:List S107),v1=.int .i64 (m0+5 * (i:Int))∧v5=.int .i64 (i:Int)∧Aside0 (i+m=n)∧Aside0 (xs.length=n∧∀ (j:Nat) (h:j < xs.length),j < i→xs[j]=mkN m0 j)∧Aside0 (Kd.R k107 107 W w0.heap.size (fun k=>ok k∨w.heap.size≤k) (.slice A n c) xs)∧Aside0 (Below w0.heap.size w0 W)∧Aside0 (Kept w W (fun k=>ok k)))
 case atStart=>exact ⟨0,l,by rw [E0.out],rfl,⟨by omega⟩,⟨HLL.out.symm,fun j h h0=>by omega⟩,HR,HBB,⟨Kept.refl _ _⟩⟩
 case round =>
  obtain ⟨i,xs,rfl,rfl,HI,HX,HRR,HB,HK⟩:=hrel
  cases gk with
  | zero =>
   have hlt:decide ((i:Int) < (n:Int))=false:=decide_eq_false (by have:=HI.out;omega)
   have hlt2:decide (i < n)=false:=decide_eq_false (by have:=HI.out;omega)
   have HY:=Aside0.mk (show xs=(List.range n).map fun j:Nat=>mkN m0 (j:Int) from by
    have h1:=HX.out.1
    have h2:=HI.out
    refine List.ext_getElem (by simp;omega) fun j h3 h4=>?_
    rw [HX.out.2 j h3 (by omega)]
    simp)
   have HE:=Aside0.mk (show m0+5 * (i:Int)=m0+5 * (n:Int) by have:=HI.out;omega)
   go_wp2
   go_ret
   exact ⟨by rw [←HE.out];rfl,by rw [←HY.out];exact HRR.out,HB.out,HK.out⟩
  | succ m =>
   have hi:i < n:=by have:=HI.out;omega
   have hin:decide (i < n)=true:=decide_eq_true hi
   have hin2:decide ((i:Int) < (n:Int))=true:=decide_eq_true (by omega)
   have hii:(i:Int) < (n:Int):=by omega
   have b1:(i:Int)≤1073741824:=by have:=HL.out;omega
   have hxl:i < xs.length:=by have:=HX.out.1;omega
   obtain ⟨g,cap,e,gb,gl,ty⟩:=Kd.R_form HRR.out (by omega)
   injection e with e1 e2 e3
   subst e1 e3
   have GB:=Aside0.mk gb
   have GG:=Aside0.mk (show ok g∨w.heap.size≤g from HRR.out.1 g rfl)
   have OKG:=Aside0.mk (show ok g from OK.out g rfl)
   obtain ⟨x,hx⟩:∃ x,x=xs[i]:=⟨_,rfl⟩
   have R0:=Aside0.mk (show Kd.R k107 107 wr w0.heap.size (fun k=>ok k∨w.heap.size≤k) (.slice (some ⟨g,0,none⟩) n c) (xs.set i x) by rw [hx,List.set_getElem_self];exact HRR.out)
   have HXX:=Aside0.mk (show ∀ y:S107,(xs.set i y).length=n∧(xs.set i y)[i]? = some y from fun y=>⟨by rw [List.length_set];exact HX.out.1,by rw [List.getElem?_set_self hxl]⟩)
   clear hx e2 gb gl ty
   obtain ⟨mm,hmm⟩:∃ k:Int,k=m0+5 * (i:Int):=⟨_,rfl⟩
   have MM:=Aside0.mk (show 0≤mm∧mm≤100000000 * 1000 - 10 by have:=HM.out;have:=HL.out;omega)
   have HMM:=Aside0.mk hmm
   rw [←hmm]
   clear hmm
   have bm0:0≤mm:=MM.out.1
   have bm1:mm≤99999999990:=by have:=MM.out;omega
   obtain ⟨t2,ht2⟩:∃ t,t=mT (mm+2):=⟨_,rfl⟩
   obtain ⟨t3,ht3⟩:∃ t,t=mT (mm+3):=⟨_,rfl⟩
   have T2:=Aside0.mk (fun W=>(mT_ev (mm+2) (by omega) (by omega)).rounds.elim fun k hk=>laws_markText.calls k (mm+2) (mT (mm+2)) W hk)
   have T3:=Aside0.mk (fun W=>(mT_ev (mm+3) (by omega) (by omega)).rounds.elim fun k hk=>laws_markText.calls k (mm+3) (mT (mm+3)) W hk)
   rw [←ht2,show mm+2=mm+1+1 by omega] at T2
   rw [←ht3,show mm+3=mm+1+1+1 by omega] at T3
   have HT:=Aside0.mk (And.intro ht2 ht3)
   clear ht2 ht3
   obtain ⟨c0,f0⟩:=fget R0.out i hi (HXX.out x).2
   have k0:=c0 0 _ rfl
   have k1:=c0 1 _ rfl
   have z0:=f0 0
   have z1:=f0 1
   simp only [Nat.add_zero] at k0 z0
   clear c0 f0
   go_upto_region 8 with fail
   obtain ⟨wa,hwa⟩:∃ W,W=wr.setCell ⟨g,i * 5,none⟩ (.int .i64 mm):=⟨_,rfl⟩
   rw [←hwa]
   obtain ⟨wb,hwb⟩:∃ W,W=wa.setCell ⟨g,i * 5+1,none⟩ (.int .i64 (mm+1)):=⟨_,rfl⟩
   rw [←hwb]
   have Ra:=Aside0.mk (fset R0.out hi HX.out.1 0 (.int .i64 mm) (by decide) (x':=⟨mm,x.f1,x.f2,x.f3,x.f4⟩) rfl hwa)
   have Rb:=Aside0.mk (fset Ra.out.1 hi HX.out.1 1 (.int .i64 (mm+1)) (by decide) (x':=⟨mm,mm+1,x.f2,x.f3,x.f4⟩) rfl hwb)
   have Bb:=Aside0.mk (show Below w0.heap.size w0 wb by rw [hwb,hwa];exact below_set (below_set HB.out GB.out) GB.out)
   have Kb:=Aside0.mk (Kept.of_grown (S:=fun k=>ok k) Rb.out.2 (Kept.of_grown (S:=fun k=>ok k) Ra.out.2 HK.out (fun k hk=>by cases hk;exact .inl OKG.out)) (fun k hk=>by cases hk;exact .inl OKG.out))
   clear hwa hwb k0 k1 z0 z1
   go_upto_region 10 with (first | (go_at_call 73;(with_reducible refine (T2.out _).mono ?_);rintro e w3 ⟨rfl,hb⟩;have R3:=Aside0.mk (Kd.R_below Rb.out.1 hb);have B3:=Aside0.mk (below_step Bb.out hb);have K3:=Aside0.mk (Kb.out.below hb);obtain ⟨c0,f0⟩:=fget R3.out i hi (HXX.out _).2;have k2:=c0 2 _ rfl;have z2:=f0 2;clear c0 f0 hb))
   obtain ⟨wc,hwc⟩:∃ W,W=w3.setCell ⟨g,i * 5+2,none⟩ (.string t2):=⟨_,rfl⟩
   rw [←hwc]
   have Rc:=Aside0.mk (fset R3.out hi HX.out.1 2 (.string t2) (by decide) (x':=⟨mm,mm+1,t2,x.f3,x.f4⟩) rfl hwc)
   have Bc:=Aside0.mk (show Below w0.heap.size w0 wc by rw [hwc];exact below_set B3.out GB.out)
   have Kc:=Aside0.mk (Kept.of_grown (S:=fun k=>ok k) Rc.out.2 K3.out (fun k hk=>by cases hk;exact .inl OKG.out))
   clear hwc k2 z2
   go_upto_region 12 with (first | (go_at_call 73;(with_reducible refine (T3.out _).mono ?_);rintro e w4 ⟨rfl,hb⟩;have R4:=Aside0.mk (Kd.R_below Rc.out.1 hb);have B4:=Aside0.mk (below_step Bc.out hb);have K4:=Aside0.mk (Kc.out.below hb);obtain ⟨c0,f0⟩:=fget R4.out i hi (HXX.out _).2;have k3:=c0 3 _ rfl;have z3:=f0 3;have k4:=c0 4 _ rfl;have z4:=f0 4;clear c0 f0 hb))
   obtain ⟨wd,hwd⟩:∃ W,W=w4.setCell ⟨g,i * 5+3,none⟩ (.string t3):=⟨_,rfl⟩
   rw [←hwd]
   have Rd:=Aside0.mk (fset R4.out hi HX.out.1 3 (.string t3) (by decide) (x':=⟨mm,mm+1,t2,t3,x.f4⟩) rfl hwd)
   have Bd:=Aside0.mk (show Below w0.heap.size w0 wd by rw [hwd];exact below_set B4.out GB.out)
   have Kd':=Aside0.mk (Kept.of_grown (S:=fun k=>ok k) Rd.out.2 K4.out (fun k hk=>by cases hk;exact .inl OKG.out))
   obtain ⟨c0,f0⟩:=fget Rd.out.1 i hi (HXX.out _).2
   have k5:=c0 4 _ rfl
   have z5:=f0 4
   clear hwd k3 z3 k4 z4 c0 f0
   go_upto_region 13 with fail
   obtain ⟨we,hwe⟩:∃ W,W=wd.setCell ⟨g,i * 5+4,none⟩ (.int .i64 (mm+1+1+1+1)):=⟨_,rfl⟩
   rw [←hwe]
   have Re:=Aside0.mk (fset Rd.out.1 hi HX.out.1 4 (.int .i64 (mm+1+1+1+1)) (by decide) (x':=⟨mm,mm+1,t2,t3,mm+1+1+1+1⟩) rfl hwe)
   have Be:=Aside0.mk (show Below w0.heap.size w0 we by rw [hwe];exact below_set Bd.out GB.out)
   have Ke:=Aside0.mk (Kept.of_grown (S:=fun k=>ok k) Re.out.2 Kd'.out (fun k hk=>by cases hk;exact .inl OKG.out))
   clear hwe k5 z5
   go_wp2
   go_roundg m
   case rel =>
    have e5:=HMM.out
    refine ⟨i+1,_,?_,by go_num,⟨by have:=HI.out;omega⟩,⟨(HXX.out _).1,fun j h1 h2=>?_⟩,⟨Re.out.1⟩,Be,Ke⟩
    ·congr 1;push_cast;omega
    ·by_cases e:j=i
     ·subst e
      rw [List.getElem_set_self,HT.out.1,HT.out.2,HMM.out]
      unfold mkN
      congr 1;omega
     ·rw [List.getElem_set_ne (by omega)]
      exact HX.out.2 j (by simpa using h1) (by omega)
   case measure=>omega
set_option maxRecDepth 100000 in
set_option maxHeartbeats 8000000 in
theorem heldN_w (m0:Int) (hm:0≤m0∧m0≤10000000000) (y:List S107) (hl:y.length≤1073741824) (hy:∀ (j:Nat) (h:j < y.length),y[j]=mkN m0 j) (A:Option Addr) (c:Nat) (w:World) (hr:Kd.C k107 w A y.length y) :
  Calls Tryz.prog 80 #[.slice A y.length c,.int .i64 m0] w fun e w'=>e=.returned (.int .i64 (m0+5 * y.length))∧Below w.heap.size w w':=by
 obtain ⟨n,hn⟩:∃ n,n=y.length:=⟨_,rfl⟩
 have HR:=Aside0.mk hr
 have HY:=Aside0.mk hy
 have HL:=Aside0.mk (show n≤1073741824 by omega)
 have HM:=Aside0.mk hm
 have HN:=Aside0.mk hn
 rw [←hn]
 have E0:=Aside0.mk (show m0+5 * ((0:Nat):Int)=m0 by omega)
 clear hr hy hl hn hm
 go_enter Tryz.func80,Tryz.ntmps80
 go_wp2
 go_loopg [1,5] n (fun m v1 v5 W=>∃ i:Nat,v1=.int .i64 (m0+5 * (i:Int))∧v5=.int .i64 (i:Int)∧Aside0 (i+m=n)∧Aside0 (Below w.heap.size w W))
 case atStart=>exact ⟨0,by rw [E0.out],rfl,⟨by omega⟩,⟨Below.refl _ _⟩⟩
 case round =>
  obtain ⟨i,rfl,rfl,HI,HB⟩:=hrel
  cases gk with
  | zero =>
   have hlt:decide ((i:Int) < (n:Int))=false:=decide_eq_false (by have:=HI.out;omega)
   have hlt2:decide (i < n)=false:=decide_eq_false (by have:=HI.out;omega)
   have HE:=Aside0.mk (show m0+5 * (i:Int)=m0+5 * (n:Int) by have:=HI.out;omega)
   go_wp2
   go_ret
   exact ⟨by rw [←HE.out];rfl,HB.out⟩
  | succ m =>
   have hi:i < n:=by have:=HI.out;omega
   have hiy:i < y.length:=by have:=HN.out;omega
   have hin:decide (i < n)=true:=decide_eq_true hi
   have hin2:decide ((i:Int) < (n:Int))=true:=decide_eq_true (by omega)
   have hii:(i:Int) < (n:Int):=by omega
   have b1:(i:Int)≤1073741824:=by have:=HL.out;omega
   obtain ⟨ad,e,h0,h1,h2,h3,h4⟩:=at_T107 HR.out (i:Int) (by omega) (by omega)
   subst e
   have hx:rd_T107 y (i:Int)=mkN m0 i:=by unfold rd_T107;rw [Int.toNat_natCast,List.getD_eq_getElem?_getD,List.getElem?_eq_getElem hiy,←HY.out i hiy];rfl
   rw [hx,Int.toNat_natCast] at h0 h1 h2 h3 h4
   obtain ⟨mm,hmm⟩:∃ k:Int,k=m0+5 * (i:Int):=⟨_,rfl⟩
   have HMM:=Aside0.mk hmm
   have MM:=Aside0.mk (show 0≤mm∧mm≤99999999990 by have:=HM.out;have:=HL.out;omega)
   obtain ⟨t2,ht2⟩:∃ t,t=mT (mm+2):=⟨_,rfl⟩
   obtain ⟨t3,ht3⟩:∃ t,t=mT (mm+3):=⟨_,rfl⟩
   have T2:=Aside0.mk (fun W=>(mT_ev (mm+2) (by have:=MM.out;omega) (by have:=MM.out;omega)).rounds.elim fun k hk=>laws_markText.calls k (mm+2) (mT (mm+2)) W hk)
   have T3:=Aside0.mk (fun W=>(mT_ev (mm+3) (by have:=MM.out;omega) (by have:=MM.out;omega)).rounds.elim fun k hk=>laws_markText.calls k (mm+3) (mT (mm+3)) W hk)
   rw [←ht2,show mm+2=mm+1+1 by omega] at T2
   rw [←ht3,show mm+3=mm+1+1+1 by omega] at T3
   have hm2:mkN m0 (i:Int)=⟨mm,mm+1,t2,t3,mm+1+1+1+1⟩:=by unfold mkN;rw [ht2,ht3,hmm];congr 1;omega
   rw [hm2] at h0 h1 h2 h3 h4
   rw [←hmm]
   have bm0:0≤mm:=MM.out.1
   have bm1:mm≤99999999990:=MM.out.2
   have mv:∀ {a:Addr} {u:Value},w.cell? a=some u→∀ W,Below w.heap.size w W→W.cell? a=some u:=fun {a u} h W hb=>(hb.cell (World.block_lt_of_cell? w _ h)).trans h
   have C0:=Aside0.mk (mv h0)
   have C1:=Aside0.mk (mv h1)
   have C2:=Aside0.mk (mv h2)
   have C3:=Aside0.mk (mv h3)
   have C4:=Aside0.mk (mv h4)
   have k0:=C0.out wr HB.out
   have k1:=C1.out wr HB.out
   clear h0 h1 h2 h3 h4 mv hx hm2 ht2 ht3 hmm
   go_upto_region 10 with fail
   have k2:=C2.out wr.drew (below_drew1 HB.out)
   go_region_held3 (fun w'=>w'.cell? ⟨(ad.add (i * 5)).block,(ad.add (i * 5)).off+2,none⟩=some (.string t2)) (go_keep) (first | (go_at_call 73;(with_reducible refine (T2.out _).mono ?_);rintro e w3 ⟨rfl,hb⟩;have B3:=Aside0.mk (below_step (below_drew1 HB.out) hb);have q2:=C2.out w3 B3.out;clear hb))
   all_goals
    go_upto_region 13 with fail
    have k3:=C3.out w3.drew (below_drew1 B3.out)
    go_region_held3 (fun w'=>w'.cell? ⟨(ad.add (i * 5)).block,(ad.add (i * 5)).off+3,none⟩=some (.string t3)) (go_keep) (first | (go_at_call 73;(with_reducible refine (T3.out _).mono ?_);rintro e w4 ⟨rfl,hb⟩;have B4:=Aside0.mk (below_step (below_drew1 B3.out) hb);have q3:=C3.out w4 B4.out;have k4:=C4.out w4 B4.out;clear hb))
    all_goals
     go_wp2
     go_roundg m
     case rel =>
      have e5:=HMM.out
      refine ⟨i+1,?_,by go_num,⟨by have:=HI.out;omega⟩,B4⟩
      congr 1;push_cast;omega
     case measure=>omega
set_option maxRecDepth 100000 in
set_option maxHeartbeats 4000000 in
theorem markV_w (m0:Int) (hm:0≤m0∧m0≤10000000000) (l:List S107) (hl:l.length≤1073741824):∃ y:List S107,y.length=l.length ∧
  (∀ (ok:Nat→Prop) (v:Value) (w0 w:World),Below w0.heap.size w0 w→Kd.R k107 107 w w0.heap.size ok v l→Calls Tryz.prog 21 #[.agg #[v],.int .i64 m0] w fun e w'=>e=.returned (.int .i64 (m0+5 * l.length))∧Kd.R k107 107 w' w0.heap.size (fun k=>ok k∨w.heap.size≤k) v y∧Below w0.heap.size w0 w'∧Kept w w' (fun k=>ok k)) ∧
  (∀ (A:Option Addr) (c:Nat) (w:World),Kd.C k107 w A y.length y→Calls Tryz.prog 28 #[.agg #[.slice A y.length c],.int .i64 m0] w fun e w'=>e=.returned (.int .i64 (m0+5 * l.length))∧Below w.heap.size w w'):=by
 refine ⟨(List.range l.length).map fun j:Nat=>mkN m0 (j:Int),by simp,?_,?_⟩
 ·intro ok v w0 w hB hr
  obtain ⟨A,c,rfl⟩:=Kd.R_slice hr
  obtain ⟨W1,hW1⟩:∃ W1,W1=w.alloc (.cells #[.slice A l.length c] 31):=⟨_,rfl⟩
  have b1:Below w.heap.size w W1:=by rw [hW1];exact below_alloc (Below.refl _ _) _
  have MK:=Aside0.mk (markN_y m0 hm (fun k=>ok k) (.slice A l.length c) l hl w0 W1 (below_step hB b1) (Kd.R_below hr b1))
  have K1:=Aside0.mk (Kept.of_below b1 (fun k=>ok k))
  have S1:=Aside0.mk b1.size
  have t0:W1.cell? ⟨w.heap.size,0,none⟩=some (.slice A l.length c):=(blk_cell (show W1.heap[w.heap.size]? = some (.cells #[.slice A l.length c] 31 (0,0)) by rw [hW1];exact blk_new w _) 0).trans rfl
  clear hB hr b1 hm hl
  go_enter Tryz.func21,Tryz.ntmps21
  go_upto_region 1 with fail
  rw [←hW1]
  clear hW1
  go_wp2_with (first | (go_at_call 72;(with_reducible refine MK.out.mono ?_);rintro e w2 ⟨rfl,h1,h2,h3⟩;have Q:=Aside0.mk (And.intro (Kd.R_mono h1 (fun k (hk:ok k∨W1.heap.size≤k)=>show ok k∨w.heap.size≤k from hk.elim .inl (fun h=>.inr (Nat.le_trans S1.out h)))) (And.intro h2 (K1.out.then_ h3 (fun k h=>.inl h))));clear h1 h2 h3))
  go_ret
  exact ⟨rfl,Q.out⟩
 ·intro A c w hr
  obtain ⟨y,hy⟩:∃ y,y=(List.range l.length).map fun j:Nat=>mkN m0 (j:Int):=⟨_,rfl⟩
  rw [←hy] at hr ⊢
  have hyl:y.length=l.length:=by rw [hy];simp
  obtain ⟨W1,hW1⟩:∃ W1,W1=w.alloc (.cells #[.slice A y.length c] 31):=⟨_,rfl⟩
  have b1:Below w.heap.size w W1:=by rw [hW1];exact below_alloc (Below.refl _ _) _
  have HD:=Aside0.mk (heldN_w m0 hm y (by omega) (fun j h=>by subst hy;simp) A c W1 (Kd.C_below hr b1))
  rw [hyl] at HD ⊢
  have B1:=Aside0.mk b1
  have t0:W1.cell? ⟨w.heap.size,0,none⟩=some (.slice A l.length c):=(blk_cell (show W1.heap[w.heap.size]? = some (.cells #[.slice A l.length c] 31 (0,0)) by rw [hW1,hyl];exact blk_new w _) 0).trans rfl
  obtain ⟨r,hrr⟩:∃ r:Int,r=m0+5 * (l.length:Int):=⟨_,rfl⟩
  have d0:decide (r < 0)=false:=decide_eq_false (by omega)
  rw [←hrr] at HD ⊢
  rw [hyl] at hW1
  clear hr b1 hm hl hy hrr hyl
  go_enter Tryz.func28,Tryz.ntmps28
  go_upto_region 1 with fail
  rw [←hW1]
  clear hW1
  go_wp2_with (first | (go_at_call 80;(with_reducible refine HD.out.mono ?_);rintro e w2 ⟨rfl,hb⟩;have B2:=Aside0.mk (below_step B1.out hb);clear hb))
  go_ret
  exact ⟨rfl,B2.out⟩
def MCall (T Y:List S107) (n:Int):Prop:=∀ (ok:Nat→Prop) (v:Value) (w0 w:World),Below w0.heap.size w0 w→Kd.R k107 107 w w0.heap.size ok v T→Calls Tryz.prog 21 #[.agg #[v],.int .i64 1] w fun e w'=>e=.returned (.int .i64 n)∧Kd.R k107 107 w' w0.heap.size (fun k=>ok k∨w.heap.size≤k) v Y∧Below w0.heap.size w0 w'∧Kept w w' (fun k=>ok k)
def HCall (Y:List S107) (n:Int):Prop:=∀ (A:Option Addr) (c:Nat) (w:World),Kd.C k107 w A Y.length Y→Calls Tryz.prog 28 #[.agg #[.slice A Y.length c],.int .i64 1] w fun e w'=>e=.returned (.int .i64 n)∧Below w.heap.size w w'
theorem heldw_c {W:World} {v1:Value} {X:List S107} {n:Int} (h1:∃ A c,v1=.slice A X.length c∧X.length≤c∧Kd.C k107 W A X.length X) (h:HCall X n) :
  Calls Tryz.prog 28 #[.agg #[v1],.int .i64 1] W fun e w'=>e=.returned (.int .i64 n)∧Below W.heap.size W w':=by
 obtain ⟨A,c,rfl,l,r⟩:=h1
 exact h A c W r
end Go.Proofs.YtoaafohpmhdjnaaGreatDoor.VT
