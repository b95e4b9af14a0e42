import Derived.Test.YtoaafohpmhdjnaaGreatDoorTAVWB
import Derived.Test.YtoaafohpmhdjnaaGreatDoorTAVVF
import Derived.Test.YtoaafohpmhdjnaaGreatDoorTAPVGx0
/- string, good, valOf, GoodValue, walked. Conditions: the powers of ten stand in memory. -/
namespace Go.Proofs.YtoaafohpmhdjnaaGreatDoor.VT
open Go.RowKit Go.Proofs.YtoaafohpmhdjnaaGreatDoor.PVG Go.Proofs.YtoaafohpmhdjnaaGreatDoorW.PrintWords Go.Proofs.YtoaafohpmhdjnaaGreatDoorW.PrintLast Go.Proofs.YtoaafohpmhdjnaaGreatDoorW.PrintMore
set_option linter.unusedVariables false
set_option linter.unusedSimpArgs false
theorem bd_new (w:World):Bd w.heap.size w.heap.size [] (w.alloc (.cells #[.pointer none,.slice none 0 0] 219)) :=
 ⟨.inl ⟨Nat.le_refl _,.slice none 0 0,blk_new w _,own_nil _ _ _ _,by simp [Value.ownBlock]⟩,by simp⟩
set_option maxRecDepth 100000 in
set_option maxHeartbeats 4000000 in
theorem string_c (t:Tr) (w:World) (g:Nat) (ht:HT w) (hv:IsV w g t) (hf:fit t=true) (hn:cnt t≤1073741824):Calls Tryz.prog 160 #[.pointer (some ⟨g,0,none⟩)] w fun e w'=>e=.returned (.string (ofL (textL t)))∧Below w.heap.size w w':=by
 have HTT:=Aside0.mk ht
 have HV:=Aside0.mk hv
 have HF:=Aside0.mk hf
 have HN:=Aside0.mk hn
 have HZ:=Aside0.mk (show ([]:List UInt8).length+120 * cnt t≤1000000000000 by simp;omega)
 have BD:=Aside0.mk (bd_new w)
 have BL:=Aside0.mk (below_alloc (Below.refl w.heap.size w) (.cells #[.pointer none,.slice none 0 0] 219))
 have LE:=Aside0.mk (Nat.le_refl w.heap.size)
 clear ht hv hf hn
 go_enter Tryz.func160,Tryz.ntmps160
 go_wp2_with (first | (go_at_call 181;(with_reducible refine ((write_c t).go w _ g w.heap.size w.heap.size [] HTT.out HV.out HF.out BL.out LE.out BD.out HZ.out HN.out).mono ?_);rintro e w2 ⟨rfl,h1,h2⟩;have B2:=Aside0.mk h1;have Q2:=Aside0.mk (below_tr BL.out h2);clear h1 h2) | (go_at_call 182;(with_reducible refine (Tryz.Builder_String_any w.heap.size w.heap.size _ _ B2.out.is B2.out.le).mono ?_);rintro e w3 ⟨rfl,hb⟩;have Q3:=Aside0.mk (below_tr Q2.out hb);clear hb))
 go_ret
 exact ⟨rfl,Q3.out⟩
mutual
def shp:Tr→Bool
 | .mk kd nu tx ns ks=>inB kd 1 7&&(kd != 7 || decide (ns.length=ks.length))&&decide (ns.length≤1073741824)&&shpL ks
def shpL:List Tr→Bool
 | []=>true
 | t :: ts=>shp t&&shpL ts
end
mutual
theorem fit_of:∀ t:Tr,shp t=true→bnd t=true→fit t=true
 | .mk kd nu tx ns ks,h1,h2=>by
  rw [shp] at h1
  rw [bnd] at h2
  simp only [Bool.and_eq_true] at h1 h2
  rw [fit,h1.1.1.1,h1.1.1.2,h2.1.1.1,h2.1.1.2,h2.1.2,fitL_of ks h1.2 h2.2]
  rfl
theorem fitL_of:∀ ts:List Tr,shpL ts=true→bndL ts=true→fitL ts=true
 | [],_,_=>rfl
 | t :: ts,h1,h2=>by
  simp only [shpL,bndL,Bool.and_eq_true] at h1 h2
  rw [fitL,fit_of t h1.1 h2.1,fitL_of ts h1.2 h2.2]
  rfl
theorem nsz_of:∀ t:Tr,shp t=true→nsz t=true
 | .mk kd nu tx ns ks,h1=>by
  rw [shp] at h1
  simp only [Bool.and_eq_true] at h1
  rw [nsz,h1.1.2,nszL_of ks h1.2]
  rfl
theorem nszL_of:∀ ts:List Tr,shpL ts=true→nszL ts=true
 | [],_=>rfl
 | t :: ts,h1=>by
  simp only [shpL,Bool.and_eq_true] at h1
  rw [nszL,nsz_of t h1.1,nszL_of ts h1.2]
  rfl
end
mutual
theorem shp_wf:∀ t:Tr,wf t=true→cnt t≤1073741824→shp t=true
 | .mk kd nu tx ns ks,h,hn=>by
  rw [wf] at h
  simp only [Bool.and_eq_true,nodeG] at h
  simp only [cnt] at hn
  have hk:=cnt_ge_len ks
  rw [shp,h.1.1.1.1.1.1.1,shpL_wf ks h.2 (by omega)]
  by_cases h7:kd=7
  ·have h2:=h.1.1.2
   rw [h7] at h2
   simp at h2
   have:ns.length≤1073741824:=by omega
   simp [h2.1.1]
   omega
  ·have:(kd==7)=false:=by simpa using h7
   have h2:=h.1.1.2
   rw [this] at h2
   have hns:ns=[]:=by simpa using h2
   subst hns
   simp [h7]
theorem shpL_wf:∀ ts:List Tr,wfL ts=true→cntL ts≤1073741824→shpL ts=true
 | [],_,_=>rfl
 | t :: ts,h,hn=>by
  simp only [wfL,Bool.and_eq_true] at h
  simp only [cntL] at hn
  rw [shpL,shp_wf t h.1 (by omega),shpL_wf ts h.2 (by omega)]
  rfl
end
def goodB (t:Tr):Bool:=bnd t&&decide (cnt t≤80)&&decide (deep t≤6)&&decide ((textL t).length≤300)
set_option maxRecDepth 100000 in
set_option maxHeartbeats 8000000 in
theorem good_c (t:Tr) (w:World) (g:Nat) (ht:HT w) (hv:IsV w g t) (hs:shp t=true) (hn:cnt t≤1073741824):Calls Tryz.prog 114 #[.pointer (some ⟨g,0,none⟩)] w fun e w'=>e=.returned (.bool (goodB t))∧Below w.heap.size w w':=by
 have HTT:=Aside0.mk ht
 have HV:=Aside0.mk hv
 have HS:=Aside0.mk hs
 have HN:=Aside0.mk hn
 have BC:=Aside0.mk (bounded_c t (nsz_of t hs))
 obtain ⟨A3,c3,A4,c4,ha⟩:=hv.at_
 obtain ⟨k0,k1,k2,k3,k4⟩:=ha.cells
 have HBN:=Aside0.mk (show bnd t=true→inB t.nu (-1000000000) 1000000000=true∧prt t.tx=true by
  cases t
  intro h
  rw [bnd] at h
  simp only [Bool.and_eq_true] at h
  exact ⟨h.1.1.1,h.1.1.2⟩)
 clear ht hv hs hn ha k3 k4
 go_enter Tryz.func114,Tryz.ntmps114
 go_upto_region 1 with (fail)
 go_cut [34] (fun v34 wc=>v34=.bool ((t.kd==4&&!inB t.nu (-1000000000) 1000000000) || (t.kd==5&&!prt t.tx))∧Aside0 (Below w.heap.size w wc))
 case first=>as_aux_lemma =>
  by_cases h4:t.kd=4
  ·have h4b:(t.kd==4)=true:=by simp [h4]
   have h5b:(t.kd==5)=false:=by simp [h4]
   clear h4
   cases e1:inB t.nu (-1000000000) 1000000000 with
   | false =>
    have E1:=Aside0.mk e1
    clear e1
    go_wp2_with (first | (go_at_call 112;(with_reducible refine (within_c _ _ _ _ _ E1.out).mono ?_);rintro e w' ⟨rfl,⟨n_,rfl⟩⟩))
    go_meet
    case rel=>exact ⟨by rw [h4b,h5b,E1.out];rfl,⟨pw_below_drewN (Below.refl _ _) _⟩⟩
   | true =>
    have E1:=Aside0.mk e1
    clear e1
    go_wp2_with (first | (go_at_call 112;(with_reducible refine (within_c _ _ _ _ _ E1.out).mono ?_);rintro e w' ⟨rfl,⟨n_,rfl⟩⟩))
    go_meet
    case rel=>exact ⟨by rw [h4b,h5b,E1.out];rfl,⟨pw_below_drewN (Below.refl _ _) _⟩⟩
  ·have h4b:(t.kd==4)=false:=by simp [h4]
   clear h4
   by_cases h5:t.kd=5
   ·have h5b:(t.kd==5)=true:=by simp [h5]
    clear h5
    cases e2:prt t.tx with
    | false =>
     have E2:=Aside0.mk e2
     clear e2
     go_wp2_with (first | (go_at_call 124;(with_reducible refine (prt_c _ _ _ E2.out).mono ?_);rintro e w' ⟨rfl,⟨n_,rfl⟩⟩))
     go_meet
     case rel=>exact ⟨by rw [h4b,h5b,E2.out];rfl,⟨pw_below_drewN (Below.refl _ _) _⟩⟩
    | true =>
     have E2:=Aside0.mk e2
     clear e2
     go_wp2_with (first | (go_at_call 124;(with_reducible refine (prt_c _ _ _ E2.out).mono ?_);rintro e w' ⟨rfl,⟨n_,rfl⟩⟩))
     go_meet
     case rel=>exact ⟨by rw [h4b,h5b,E2.out];rfl,⟨pw_below_drewN (Below.refl _ _) _⟩⟩
   ·have h5b:(t.kd==5)=false:=by simp [h5]
    clear h5
    go_wp2
    go_meet
    case rel=>exact ⟨by rw [h4b,h5b];rfl,⟨Below.refl _ _⟩⟩
 case rest=>as_aux_lemma =>
  clear k0 k1 k2
  obtain ⟨rfl,B1⟩:=hcut
  cases eb:((t.kd==4&&!inB t.nu (-1000000000) 1000000000) || (t.kd==5&&!prt t.tx)) with
  | true =>
   have HG:=Aside0.mk (show goodB t=false by
    unfold goodB
    cases hb:bnd t with
    | false=>rfl
    | true =>
     obtain ⟨h1,h2⟩:=HBN.out hb
     rw [h1,h2] at eb
     simp at eb)
   clear eb
   go_wp2
   go_ret
   exact ⟨by rw [HG.out];rfl,B1.out⟩
  | false =>
   clear eb
   cases e1:bnd t with
   | false =>
    have E1:=Aside0.mk e1
    have HG:=Aside0.mk (show goodB t=false by unfold goodB;rw [e1];rfl)
    clear e1
    go_wp2_with (first | (go_at_call 157;(with_reducible refine (BC.out.go _ g (HV.out.below B1.out) HN.out).mono ?_);rintro e w2 ⟨rfl,hb⟩;rw [E1.out];have B2:=Aside0.mk (below_step B1.out hb);clear hb))
    go_ret
    exact ⟨by rw [HG.out];rfl,B2.out⟩
   | true =>
    have E1:=Aside0.mk e1
    clear e1
    have FT:=Aside0.mk (fit_of t HS.out E1.out)
    by_cases h8:cnt t≤80
    ·have h8b:((cnt t:Nat):Int)≤80:=by omega
     have H8:=Aside0.mk h8
     clear h8
     by_cases h6:deep t≤6
     ·have h6b:((deep t:Nat):Int)≤6:=by omega
      have H6:=Aside0.mk h6
      clear h6
      have HG:=Aside0.mk (show goodB t=decide ((textL t).length≤300) by unfold goodB;rw [E1.out,decide_eq_true H8.out,decide_eq_true H6.out];rfl)
      go_wp2_with (first | (go_at_call 157;(with_reducible refine (BC.out.go _ g (HV.out.below B1.out) HN.out).mono ?_);rintro e w2 ⟨rfl,hb⟩;rw [E1.out];have B2:=Aside0.mk (below_step B1.out hb);clear hb) | (go_at_call 158;(with_reducible refine (count_c t _ g (HV.out.below B2.out) HN.out).mono ?_);rintro e w3 ⟨rfl,hb⟩;have B3:=Aside0.mk (below_step B2.out hb);clear hb) | (go_at_call 159;(with_reducible refine (deep_c t _ g (HV.out.below B3.out) HN.out).mono ?_);rintro e w4 ⟨rfl,hb⟩;have B4:=Aside0.mk (below_step B3.out hb);clear hb) | (go_at_call 160;(with_reducible refine (string_c t _ g (HTT.out.below B4.out) (HV.out.below B4.out) FT.out HN.out).mono ?_);rintro e w5 ⟨rfl,hb⟩;have B5:=Aside0.mk (below_step B4.out hb);clear hb))
      go_ret
      exact ⟨by rw [HG.out];show Ending.returned (.bool (decide (((ofL (textL t)).size:Int)≤300)))=_;rw [ofL_size];congr 2;simp;omega,B5.out⟩
     ·have h6b:¬((deep t:Nat):Int)≤6:=by omega
      have H6:=Aside0.mk h6
      clear h6
      have HG:=Aside0.mk (show goodB t=false by unfold goodB;rw [decide_eq_false H6.out,Bool.and_false];rfl)
      go_wp2_with (first | (go_at_call 157;(with_reducible refine (BC.out.go _ g (HV.out.below B1.out) HN.out).mono ?_);rintro e w2 ⟨rfl,hb⟩;rw [E1.out];have B2:=Aside0.mk (below_step B1.out hb);clear hb) | (go_at_call 158;(with_reducible refine (count_c t _ g (HV.out.below B2.out) HN.out).mono ?_);rintro e w3 ⟨rfl,hb⟩;have B3:=Aside0.mk (below_step B2.out hb);clear hb) | (go_at_call 159;(with_reducible refine (deep_c t _ g (HV.out.below B3.out) HN.out).mono ?_);rintro e w4 ⟨rfl,hb⟩;have B4:=Aside0.mk (below_step B3.out hb);clear hb))
      go_ret
      exact ⟨by rw [HG.out];rfl,B4.out⟩
    ·have h8b:¬((cnt t:Nat):Int)≤80:=by omega
     have H8:=Aside0.mk h8
     clear h8
     have HG:=Aside0.mk (show goodB t=false by unfold goodB;rw [decide_eq_false H8.out,Bool.and_false];rfl)
     go_wp2_with (first | (go_at_call 157;(with_reducible refine (BC.out.go _ g (HV.out.below B1.out) HN.out).mono ?_);rintro e w2 ⟨rfl,hb⟩;rw [E1.out];have B2:=Aside0.mk (below_step B1.out hb);clear hb) | (go_at_call 158;(with_reducible refine (count_c t _ g (HV.out.below B2.out) HN.out).mono ?_);rintro e w3 ⟨rfl,hb⟩;have B3:=Aside0.mk (below_step B2.out hb);clear hb))
     go_ret
     exact ⟨by rw [HG.out];rfl,B3.out⟩
def valT (l:List S107):Option Tr:=if inB l.length 1 80&&(nd l 0).f4==-1 then (match par l 0 0 with
 | none=>none
 | some (t,e)=>if e==l.length&&goodB t then some t else none) else none
def VoPost (l:List S107) (w:World) (e:Ending) (w':World):Prop :=
 Below w.heap.size w w'∧((valT l=none∧e=.returned (.pointer none))∨∃ t g,valT l=some t∧e=.returned (.pointer (some ⟨g,0,none⟩))∧IsV w' g t)
theorem VoPost.none {l:List S107} {w w':World} (h:valT l=none) (hb:Below w.heap.size w w'):VoPost l w (.returned (.pointer none)) w':=⟨hb,.inl ⟨h,rfl⟩⟩
theorem VoPost.some {l:List S107} {w w':World} {t:Tr} {g:Nat} (h:valT l=.some t) (hb:Below w.heap.size w w') (hv:IsV w' g t):VoPost l w (.returned (.pointer (.some ⟨g,0,.none⟩))) w':=⟨hb,.inr ⟨t,g,h,rfl,hv⟩⟩
theorem VoPost.no {l:List S107} {w:World} {xs:Array Value} (h:Calls Tryz.prog 67 xs w (VoPost l w)) (hp:valT l=.none):Calls Tryz.prog 67 xs w fun e w'=>e=.returned (.pointer .none)∧Below w.heap.size w w' :=
 h.mono fun e w' hq=>by
  obtain ⟨hb,⟨_,rfl⟩ | ⟨t,g,h2,_⟩⟩:=hq
  ·exact ⟨rfl,hb⟩
  ·rw [hp] at h2;cases h2
theorem VoPost.yes {l:List S107} {w:World} {xs:Array Value} {t:Tr} (h:Calls Tryz.prog 67 xs w (VoPost l w)) (hp:valT l=.some t):Calls Tryz.prog 67 xs w fun e w'=>∃ g,e=.returned (.pointer (.some ⟨g,0,.none⟩))∧Below w.heap.size w w'∧IsV w' g t :=
 h.mono fun e w' hq=>by
  obtain ⟨hb,⟨h2,_⟩ | ⟨t',g,h2,rfl,hv⟩⟩:=hq
  ·rw [hp] at h2;cases h2
  ·rw [hp] at h2
   cases h2
   exact ⟨g,rfl,hb,hv⟩
set_option maxRecDepth 100000 in
set_option maxHeartbeats 8000000 in
theorem valOf_c (l:List S107) (A:Option Addr) (c:Nat) (w:World) (ht:HT w) (hr:Kd.C k107 w A l.length l) (hc:l.length≤c):Calls Tryz.prog 67 #[.agg #[.slice A l.length c]] w (VoPost l w):=by
 have HTT:=Aside0.mk ht
 have HR:=Aside0.mk hr
 have HC:=Aside0.mk hc
 have B0:=Aside0.mk (below_alloc (Below.refl w.heap.size w) (.cells #[.slice A l.length c] 31))
 have K0:=Aside0.mk (blk_new w (.cells #[.slice A l.length c] 31))
 obtain ⟨W0,hW0⟩:∃ W0,W0=w.alloc (.cells #[.slice A l.length c] 31):=⟨_,rfl⟩
 obtain ⟨gb,hgb⟩:∃ gb,gb=w.heap.size:=⟨_,rfl⟩
 clear ht hr hc
 go_enter Tryz.func67,Tryz.ntmps67
 go_upto_region 1 with (fail)
 rw [←hW0,←hgb] at K0 ⊢
 rw [←hW0] at B0
 clear hW0 hgb
 have hcz:W0.cell? ⟨gb,0,none⟩=some (.slice A l.length c):=(blk_cell K0.out 0).trans rfl
 cases e1:inB l.length 1 80 with
 | false =>
  have HV:=Aside0.mk (show valT l=none by unfold valT;rw [e1];rfl)
  have E1:=Aside0.mk e1
  clear e1
  go_wp2_with (first | (go_at_call 112;(with_reducible refine (within_c _ _ _ _ _ E1.out).mono ?_);rintro e w' ⟨rfl,⟨n_,rfl⟩⟩))
  go_ret
  exact VoPost.none HV.out (pw_below_drewN B0.out _)
 | true =>
  have hl:1≤l.length∧l.length≤80:=by simp [inB] at e1;omega
  have E1:=Aside0.mk e1
  have HL:=Aside0.mk hl
  have hl0:0 < l.length:=by omega
  obtain ⟨ad,rfl,n0,n1,n2,n3,n4⟩:=node_at HR.out B0.out 0 hl0
  clear e1 hl
  have n4':W0.cell? ⟨ad.block,ad.off+4,none⟩=some (.int .i64 (nd l 0).f4):=by
   have h:=n4
   have ea:ad.add (0 * 5)=ad:=by simp [Addr.add]
   rw [ea] at h
   exact h
  clear n0 n1 n2 n3
  cases e2:((nd l 0).f4 != -1) with
  | true =>
   have HV:=Aside0.mk (show valT l=none by
    unfold valT
    have:((nd l 0).f4==-1)=false:=by simpa using e2
    rw [this,Bool.and_false];rfl)
   go_wp2_with (first | (go_at_call 112;(with_reducible refine (within_c _ _ _ _ _ E1.out).mono ?_);rintro e w' ⟨rfl,⟨n_,rfl⟩⟩))
   go_ret
   exact VoPost.none HV.out (pw_below_drewN B0.out _)
  | false =>
   have H2:=Aside0.mk (show ((nd l 0).f4==-1)=true by simpa using e2)
   have VC:=Aside0.mk (show ∀ W,Below w.heap.size w W→Calls Tryz.prog 113 #[.slice (some ad) l.length c,.int .i64 0,.int .i64 0] W (VPost l 0 0 W) from fun W hb=>valFrom_c l (some ad) c (by have:=HL.out;omega) HC.out l.length 0 0 W (by omega) (by have:=HL.out;omega) (Kd.C_below HR.out hb))
   cases hp:par l 0 0 with
   | none =>
    have HP:=Aside0.mk hp
    have HV:=Aside0.mk (show valT l=none by unfold valT;rw [E1.out,H2.out,hp];rfl)
    clear hp
    go_wp2_with (first | (go_at_call 112;(with_reducible refine (within_c _ _ _ _ _ E1.out).mono ?_);rintro e w' ⟨rfl,⟨n_,rfl⟩⟩) | (go_at_call 113;(with_reducible refine (VPost.no (VC.out _ (pw_below_drewN B0.out _)) HP.out).mono ?_);rintro e w2 ⟨rfl,hb⟩;have B2:=Aside0.mk (below_step (pw_below_drewN B0.out _) hb);clear hb))
    go_ret
    exact VoPost.none HV.out B2.out
   | some r =>
    obtain ⟨t,e3⟩:=r
    have HP:=Aside0.mk hp
    have RD:=Aside0.mk (par_read hp)
    clear hp
    have HN:=Aside0.mk (show cnt t≤1073741824 by have:=RD.out.e_;have:=RD.out.le;have:=HL.out;omega)
    have SH:=Aside0.mk (shp_wf t RD.out.wf_ HN.out)
    by_cases he:e3=l.length
    ·have heb:((e3:Int) != (l.length:Int))=false:=by simp [he]
     have HE:=Aside0.mk he
     clear he
     cases hg:goodB t with
     | false =>
      have HV:=Aside0.mk (show valT l=none by unfold valT;rw [E1.out,H2.out,HP.out];simp [hg])
      have HG:=Aside0.mk hg
      clear hg
      go_wp2_with (first | (go_at_call 112;(with_reducible refine (within_c _ _ _ _ _ E1.out).mono ?_);rintro e w' ⟨rfl,⟨n_,rfl⟩⟩) | (go_at_call 113;(with_reducible refine (VPost.yes (VC.out _ (pw_below_drewN B0.out _)) HP.out).mono ?_);rintro e w2 ⟨g,rfl,hb,hM⟩;have B2:=Aside0.mk (below_step (pw_below_drewN B0.out _) hb);have V2:=Aside0.mk (show IsV w2 g t from kP.K_of_M hM);have hcz2:w2.cell? ⟨gb,0,none⟩=some (.slice (some ad) l.length c):=(blk_cell (blk_below (blk_drewN K0.out _) hb) 0).trans rfl;clear hb hM) | (go_at_call 114;(with_reducible refine (good_c t _ g (HTT.out.below B2.out) V2.out SH.out HN.out).mono ?_);rintro e w3 ⟨rfl,hb⟩;rw [HG.out];have B3:=Aside0.mk (below_step B2.out hb);clear hb))
      go_ret
      exact VoPost.none HV.out B3.out
     | true =>
      have HV:=Aside0.mk (show valT l=some t by unfold valT;rw [E1.out,H2.out,HP.out];simp [hg,HE.out])
      have HG:=Aside0.mk hg
      clear hg
      go_wp2_with (first | (go_at_call 112;(with_reducible refine (within_c _ _ _ _ _ E1.out).mono ?_);rintro e w' ⟨rfl,⟨n_,rfl⟩⟩) | (go_at_call 113;(with_reducible refine (VPost.yes (VC.out _ (pw_below_drewN B0.out _)) HP.out).mono ?_);rintro e w2 ⟨g,rfl,hb,hM⟩;have B2:=Aside0.mk (below_step (pw_below_drewN B0.out _) hb);have V2:=Aside0.mk (show IsV w2 g t from kP.K_of_M hM);have hcz2:w2.cell? ⟨gb,0,none⟩=some (.slice (some ad) l.length c):=(blk_cell (blk_below (blk_drewN K0.out _) hb) 0).trans rfl;clear hb hM) | (go_at_call 114;(with_reducible refine (good_c t _ g (HTT.out.below B2.out) V2.out SH.out HN.out).mono ?_);rintro e w3 ⟨rfl,hb⟩;rw [HG.out];have B3:=Aside0.mk (below_step B2.out hb);have V3:=Aside0.mk (V2.out.below hb);clear hb))
      go_ret
      exact VoPost.some HV.out B3.out V3.out
    ·have heb:((e3:Int) != (l.length:Int))=true:=by simp;omega
     have HE:=Aside0.mk he
     clear he
     have HV:=Aside0.mk (show valT l=none by unfold valT;rw [E1.out,H2.out,HP.out];simp [HE.out])
     go_wp2_with (first | (go_at_call 112;(with_reducible refine (within_c _ _ _ _ _ E1.out).mono ?_);rintro e w' ⟨rfl,⟨n_,rfl⟩⟩) | (go_at_call 113;(with_reducible refine (VPost.yes (VC.out _ (pw_below_drewN B0.out _)) HP.out).mono ?_);rintro e w2 ⟨g,rfl,hb,hM⟩;have B2:=Aside0.mk (below_step (pw_below_drewN B0.out _) hb);have V2:=Aside0.mk (show IsV w2 g t from kP.K_of_M hM);have hcz2:w2.cell? ⟨gb,0,none⟩=some (.slice (some ad) l.length c):=(blk_cell (blk_below (blk_drewN K0.out _) hb) 0).trans rfl;clear hb hM))
     go_ret
     exact VoPost.none HV.out B2.out
end Go.Proofs.YtoaafohpmhdjnaaGreatDoor.VT
