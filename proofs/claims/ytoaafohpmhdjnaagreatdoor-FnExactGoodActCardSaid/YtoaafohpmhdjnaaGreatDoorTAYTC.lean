import Derived.Test.YtoaafohpmhdjnaaGreatDoorTAYTB
/- spec.GoodAct: walked. Conditions: the value's list is one whose texts are not too long. -/
namespace Go.Proofs.YtoaafohpmhdjnaaGreatDoor.VT
open Go.RowKit Go.Proofs.YtoaafohpmhdjnaaGreatDoor.RX Go.Proofs.YtoaafohpmhdjnaaGreatDoor.RY Go.Proofs.YtoaafohpmhdjnaaGreatDoor.PVG Go.Proofs.YtoaafohpmhdjnaaGreatDoorW.PrintWords Go.Proofs.YtoaafohpmhdjnaaGreatDoorW.PrintLast Go.Proofs.YtoaafohpmhdjnaaGreatDoorW.PrintMore
set_option linter.unusedVariables false
set_option linter.unusedSimpArgs false
set_option maxRecDepth 100000 in
theorem l5Zero_c (A:Option Addr) (n c:Nat) (w:World):Calls Tryz.prog 81 #[.agg #[.slice A n c]] w fun e w'=>e=.returned (.bool ((n:Int)==0))∧Below w.heap.size w w':=by
 have HB1:=Aside0.mk (below_alloc (Below.refl w.heap.size w) (.cells #[.slice A n c] 31))
 go_enter Tryz.func81,Tryz.ntmps81
 go_wp2
 go_ret
 exact ⟨rfl,HB1.out⟩
set_option maxRecDepth 100000 in
set_option maxHeartbeats 8000000 in
theorem goodAct_s (kd:Int) (p:ByteArray) (l:List S107) (A:Option Addr) (c:Nat) (w:World) (hS:Small l) (hr:Kd.C k107 w A l.length l) (hc:l.length≤c) :
  Calls Tryz.prog 30 #[.agg #[.int .i64 kd,.string p,.slice A l.length c]] w fun e w'=>e=.returned (.bool (actV kd p l))∧Below w.heap.size w w':=by
 obtain ⟨W1,hW1⟩:∃ W1,W1=w.alloc (.cells #[.int .i64 kd,.string p,.slice A l.length c] 48):=⟨_,rfl⟩
 obtain ⟨gb,hgb⟩:∃ g,g=w.heap.size:=⟨_,rfl⟩
 have HB1:=Aside0.mk (show Below w.heap.size w W1 by rw [hW1];exact below_alloc (Below.refl _ _) _)
 have KB:=Aside0.mk (show W1.heap[gb]? = some (.cells #[.int .i64 kd,.string p,.slice A l.length c] 48 (0,0)) by rw [hW1,hgb];exact blk_new w _)
 have CB:=Aside0.mk (show ∀ W,Below W1.heap.size W1 W→W.cell? ⟨gb,0,none⟩=some (.int .i64 kd)∧W.cell? ⟨gb,1,none⟩=some (.string p)∧W.cell? ⟨gb,2,none⟩=some (.slice A l.length c) from fun W hb=>⟨(blk_cell (blk_below KB.out hb) 0).trans rfl,(blk_cell (blk_below KB.out hb) 1).trans rfl,(blk_cell (blk_below KB.out hb) 2).trans rfl⟩)
 obtain ⟨k0,k1,k2⟩:=CB.out W1 (Below.refl _ _)
 obtain ⟨kg,hkg⟩:=(good_ev hS).rounds
 have GV:=Aside0.mk (fun W (hb:Below w.heap.size w W)=>spec_GoodValue.calls kg A c l (valT l).isSome W (Kd.C_below hr hb) hc hkg)
 have PO:=Aside0.mk (fun W=>l3Path_c p W)
 have HRR:=Aside0.mk hr
 clear hr hc hS hkg
 cases hp:pathV p with
 | none =>
  have HP:=Aside0.mk (act_no (kd:=kd) (.inl hp) l)
  rw [hp] at PO
  clear hp GV
  go_enter Tryz.func30,Tryz.ntmps30
  go_upto_region 1 with fail
  rw [←hW1,←hgb]
  clear hW1 hgb
  go_wp2_with (first | (go_at_call 74;(with_reducible refine (PO.out _).mono ?_);rintro e w4 ⟨v4,rfl,ho,hb⟩;obtain ⟨A4,c4,rfl⟩:=Kd.R_slice ho;have B4b:=Aside0.mk hb;have B4:=Aside0.mk (below_step HB1.out hb);obtain ⟨c0,c1,c2⟩:=CB.out w4 hb;clear ho hb))
  go_ret
  exact ⟨by rw [HP.out];rfl,B4.out⟩
 | some ns =>
  rw [hp] at PO
  have hpn:=path_nil hp
  cases ns with
  | nil =>
   have HP:=Aside0.mk (act_no (kd:=kd) (.inr hp) l)
   have hem:p.toList.isEmpty=true:=hpn.1 rfl
   clear hp GV hpn
   go_enter Tryz.func30,Tryz.ntmps30
   go_upto_region 1 with fail
   rw [←hW1,←hgb]
   clear hW1 hgb
   go_wp2_with (first | (go_at_call 74;(with_reducible refine (PO.out _).mono ?_);rintro e w4 ⟨v4,rfl,ho,hb⟩;have ho:Kd.R Kd.string 9 w4 _ _ v4 []:=ho;obtain ⟨A4,c4,rfl⟩:=Kd.R_slice ho;have B4b:=Aside0.mk hb;have B4:=Aside0.mk (below_step HB1.out hb);obtain ⟨c0,c1,c2⟩:=CB.out w4 hb;clear ho hb))
   go_ret
   exact ⟨by rw [HP.out];rfl,B4.out⟩
  | cons n ns =>
   have hns:(n :: ns)≠[]:=by simp
   have hem:p.toList.isEmpty=false:=by
    cases h:p.toList.isEmpty with
    | false=>rfl
    | true=>exact absurd (hpn.2 h) hns
   clear hpn
   cases hv:valT l with
   | none =>
    rw [hv] at GV
    by_cases h1:kd=1
    ·subst h1
     have HP:=Aside0.mk (act_set (.inl rfl) hp hns l)
     rw [hv] at HP
     clear hv hp hns
     go_enter Tryz.func30,Tryz.ntmps30
     go_upto_region 1 with fail
     rw [←hW1,←hgb]
     clear hW1 hgb
     go_wp2_with (first | (go_at_call 74;(with_reducible refine (PO.out _).mono ?_);rintro e w4 ⟨v4,rfl,ho,hb⟩;have ho:Kd.R Kd.string 9 w4 _ _ v4 (n :: ns):=ho;obtain ⟨A4,c4,rfl⟩:=Kd.R_slice ho;have B4b:=Aside0.mk hb;have B4:=Aside0.mk (below_step HB1.out hb);obtain ⟨c0,c1,c2⟩:=CB.out w4 hb;clear ho hb) | (go_at_call 63;(refine (GV.out _ (below_step HB1.out B4b.out)).mono ?_);rintro e w5 ⟨rfl,hb⟩;have B5:=Aside0.mk (below_step B4.out hb);obtain ⟨c0,c1,c2⟩:=CB.out w5 (below_step B4b.out hb);clear hb) | (go_at_call 81;(with_reducible refine (l5Zero_c A l.length c _).mono ?_);rintro e w5 ⟨rfl,hb⟩;have B5:=Aside0.mk (below_step B4.out hb);clear hb))
     go_ret
     exact ⟨by rw [HP.out];rfl,B5.out⟩
    have e1:(kd==1)=false:=beq_eq_false_iff_ne.2 h1
    by_cases h4:kd=4
    ·subst h4
     have HP:=Aside0.mk (act_set (.inr (.inl rfl)) hp hns l)
     rw [hv] at HP
     clear hv hp hns
     go_enter Tryz.func30,Tryz.ntmps30
     go_upto_region 1 with fail
     rw [←hW1,←hgb]
     clear hW1 hgb
     go_wp2_with (first | (go_at_call 74;(with_reducible refine (PO.out _).mono ?_);rintro e w4 ⟨v4,rfl,ho,hb⟩;have ho:Kd.R Kd.string 9 w4 _ _ v4 (n :: ns):=ho;obtain ⟨A4,c4,rfl⟩:=Kd.R_slice ho;have B4b:=Aside0.mk hb;have B4:=Aside0.mk (below_step HB1.out hb);obtain ⟨c0,c1,c2⟩:=CB.out w4 hb;clear ho hb) | (go_at_call 63;(refine (GV.out _ (below_step HB1.out B4b.out)).mono ?_);rintro e w5 ⟨rfl,hb⟩;have B5:=Aside0.mk (below_step B4.out hb);obtain ⟨c0,c1,c2⟩:=CB.out w5 (below_step B4b.out hb);clear hb) | (go_at_call 81;(with_reducible refine (l5Zero_c A l.length c _).mono ?_);rintro e w5 ⟨rfl,hb⟩;have B5:=Aside0.mk (below_step B4.out hb);clear hb))
     go_ret
     exact ⟨by rw [HP.out];rfl,B5.out⟩
    have e4:(kd==4)=false:=beq_eq_false_iff_ne.2 h4
    by_cases h5:kd=5
    ·subst h5
     have HP:=Aside0.mk (act_set (.inr (.inr rfl)) hp hns l)
     rw [hv] at HP
     clear hv hp hns
     go_enter Tryz.func30,Tryz.ntmps30
     go_upto_region 1 with fail
     rw [←hW1,←hgb]
     clear hW1 hgb
     go_wp2_with (first | (go_at_call 74;(with_reducible refine (PO.out _).mono ?_);rintro e w4 ⟨v4,rfl,ho,hb⟩;have ho:Kd.R Kd.string 9 w4 _ _ v4 (n :: ns):=ho;obtain ⟨A4,c4,rfl⟩:=Kd.R_slice ho;have B4b:=Aside0.mk hb;have B4:=Aside0.mk (below_step HB1.out hb);obtain ⟨c0,c1,c2⟩:=CB.out w4 hb;clear ho hb) | (go_at_call 63;(refine (GV.out _ (below_step HB1.out B4b.out)).mono ?_);rintro e w5 ⟨rfl,hb⟩;have B5:=Aside0.mk (below_step B4.out hb);obtain ⟨c0,c1,c2⟩:=CB.out w5 (below_step B4b.out hb);clear hb) | (go_at_call 81;(with_reducible refine (l5Zero_c A l.length c _).mono ?_);rintro e w5 ⟨rfl,hb⟩;have B5:=Aside0.mk (below_step B4.out hb);clear hb))
     go_ret
     exact ⟨by rw [HP.out];rfl,B5.out⟩
    have e5:(kd==5)=false:=beq_eq_false_iff_ne.2 h5
    by_cases h2:kd=2
    ·subst h2
     have HP:=Aside0.mk (act_uns hp hns l)
     clear hv hp hns
     go_enter Tryz.func30,Tryz.ntmps30
     go_upto_region 1 with fail
     rw [←hW1,←hgb]
     clear hW1 hgb
     go_wp2_with (first | (go_at_call 74;(with_reducible refine (PO.out _).mono ?_);rintro e w4 ⟨v4,rfl,ho,hb⟩;have ho:Kd.R Kd.string 9 w4 _ _ v4 (n :: ns):=ho;obtain ⟨A4,c4,rfl⟩:=Kd.R_slice ho;have B4b:=Aside0.mk hb;have B4:=Aside0.mk (below_step HB1.out hb);obtain ⟨c0,c1,c2⟩:=CB.out w4 hb;clear ho hb) | (go_at_call 63;(refine (GV.out _ (below_step HB1.out B4b.out)).mono ?_);rintro e w5 ⟨rfl,hb⟩;have B5:=Aside0.mk (below_step B4.out hb);obtain ⟨c0,c1,c2⟩:=CB.out w5 (below_step B4b.out hb);clear hb) | (go_at_call 81;(with_reducible refine (l5Zero_c A l.length c _).mono ?_);rintro e w5 ⟨rfl,hb⟩;have B5:=Aside0.mk (below_step B4.out hb);clear hb))
     go_ret
     exact ⟨by rw [HP.out];rfl,B5.out⟩
    have e2:(kd==2)=false:=beq_eq_false_iff_ne.2 h2
    by_cases h3:kd=3
    ·subst h3
     have HP:=Aside0.mk (act_num hp hns l)
     rw [hv] at HP
     clear hv hp hns
     go_enter Tryz.func30,Tryz.ntmps30
     go_upto_region 1 with fail
     rw [←hW1,←hgb]
     clear hW1 hgb
     go_wp2_with (first | (go_at_call 74;(with_reducible refine (PO.out _).mono ?_);rintro e w4 ⟨v4,rfl,ho,hb⟩;have ho:Kd.R Kd.string 9 w4 _ _ v4 (n :: ns):=ho;obtain ⟨A4,c4,rfl⟩:=Kd.R_slice ho;have B4b:=Aside0.mk hb;have B4:=Aside0.mk (below_step HB1.out hb);obtain ⟨c0,c1,c2⟩:=CB.out w4 hb;clear ho hb) | (go_at_call 63;(refine (GV.out _ (below_step HB1.out B4b.out)).mono ?_);rintro e w5 ⟨rfl,hb⟩;have B5:=Aside0.mk (below_step B4.out hb);obtain ⟨c0,c1,c2⟩:=CB.out w5 (below_step B4b.out hb);clear hb) | (go_at_call 81;(with_reducible refine (l5Zero_c A l.length c _).mono ?_);rintro e w5 ⟨rfl,hb⟩;have B5:=Aside0.mk (below_step B4.out hb);clear hb))
     go_ret
     exact ⟨by rw [HP.out];rfl,B5.out⟩
    have e3:(kd==3)=false:=beq_eq_false_iff_ne.2 h3
    by_cases h6:kd=6
    ·subst h6
     have HP:=Aside0.mk (act_txt hp hns l)
     rw [hv] at HP
     clear hv hp hns
     go_enter Tryz.func30,Tryz.ntmps30
     go_upto_region 1 with fail
     rw [←hW1,←hgb]
     clear hW1 hgb
     go_wp2_with (first | (go_at_call 74;(with_reducible refine (PO.out _).mono ?_);rintro e w4 ⟨v4,rfl,ho,hb⟩;have ho:Kd.R Kd.string 9 w4 _ _ v4 (n :: ns):=ho;obtain ⟨A4,c4,rfl⟩:=Kd.R_slice ho;have B4b:=Aside0.mk hb;have B4:=Aside0.mk (below_step HB1.out hb);obtain ⟨c0,c1,c2⟩:=CB.out w4 hb;clear ho hb) | (go_at_call 63;(refine (GV.out _ (below_step HB1.out B4b.out)).mono ?_);rintro e w5 ⟨rfl,hb⟩;have B5:=Aside0.mk (below_step B4.out hb);obtain ⟨c0,c1,c2⟩:=CB.out w5 (below_step B4b.out hb);clear hb) | (go_at_call 81;(with_reducible refine (l5Zero_c A l.length c _).mono ?_);rintro e w5 ⟨rfl,hb⟩;have B5:=Aside0.mk (below_step B4.out hb);clear hb))
     go_ret
     exact ⟨by rw [HP.out];rfl,B5.out⟩
    have e6:(kd==6)=false:=beq_eq_false_iff_ne.2 h6
    clear h1 h4 h5 h2 h3 h6
    have HP:=Aside0.mk (act_oth (by simpa using e1) (by simpa using e4) (by simpa using e5) (by simpa using e2) (by simpa using e3) (by simpa using e6) hp hns l)
    clear hv hp hns
    go_enter Tryz.func30,Tryz.ntmps30
    go_upto_region 1 with fail
    rw [←hW1,←hgb]
    clear hW1 hgb
    go_wp2_with (first | (go_at_call 74;(with_reducible refine (PO.out _).mono ?_);rintro e w4 ⟨v4,rfl,ho,hb⟩;have ho:Kd.R Kd.string 9 w4 _ _ v4 (n :: ns):=ho;obtain ⟨A4,c4,rfl⟩:=Kd.R_slice ho;have B4b:=Aside0.mk hb;have B4:=Aside0.mk (below_step HB1.out hb);obtain ⟨c0,c1,c2⟩:=CB.out w4 hb;clear ho hb) | (go_at_call 63;(refine (GV.out _ (below_step HB1.out B4b.out)).mono ?_);rintro e w5 ⟨rfl,hb⟩;have B5:=Aside0.mk (below_step B4.out hb);obtain ⟨c0,c1,c2⟩:=CB.out w5 (below_step B4b.out hb);clear hb) | (go_at_call 81;(with_reducible refine (l5Zero_c A l.length c _).mono ?_);rintro e w5 ⟨rfl,hb⟩;have B5:=Aside0.mk (below_step B4.out hb);clear hb))
    go_ret
    exact ⟨by rw [HP.out];rfl,B4.out⟩
   | some t =>
    rw [hv] at GV
    have HN0:=Aside0.mk (show ∃ ad,A=some ad∧w.cell? ad=some (.int .i64 t.kd) from by
     obtain ⟨h1,h2,h3,h4,h5⟩:=valT_iff.1 hv
     have hl0:0 < l.length:=by rw [h1,flat_len];exact cnt_pos t
     obtain ⟨ad,e,q0,_⟩:=at_T107 HRR.out 0 (by omega) (by omega)
     have hx:(rd_T107 l 0).f0=t.kd:=by
      rw [h1]
      cases t
      rfl
     rw [hx] at q0
     exact ⟨ad,e,by have e0:ad.add ((0:Int).toNat * 5)=ad:=(by cases ad;rfl);rw [e0] at q0;exact q0⟩)
    have hl0:0 < l.length:=by
     obtain ⟨h1,_⟩:=valT_iff.1 hv
     rw [h1,flat_len];exact cnt_pos t
    by_cases h1:kd=1
    ·subst h1
     have HP:=Aside0.mk (act_set (.inl rfl) hp hns l)
     rw [hv] at HP
     clear hv hp hns
     go_enter Tryz.func30,Tryz.ntmps30
     go_upto_region 1 with fail
     rw [←hW1,←hgb]
     clear hW1 hgb
     go_wp2_with (first | (go_at_call 74;(with_reducible refine (PO.out _).mono ?_);rintro e w4 ⟨v4,rfl,ho,hb⟩;have ho:Kd.R Kd.string 9 w4 _ _ v4 (n :: ns):=ho;obtain ⟨A4,c4,rfl⟩:=Kd.R_slice ho;have B4b:=Aside0.mk hb;have B4:=Aside0.mk (below_step HB1.out hb);obtain ⟨c0,c1,c2⟩:=CB.out w4 hb;clear ho hb) | (go_at_call 63;(refine (GV.out _ (below_step HB1.out B4b.out)).mono ?_);rintro e w5 ⟨rfl,hb⟩;have B5:=Aside0.mk (below_step B4.out hb);obtain ⟨c0,c1,c2⟩:=CB.out w5 (below_step B4b.out hb);clear hb) | (go_at_call 81;(with_reducible refine (l5Zero_c A l.length c _).mono ?_);rintro e w5 ⟨rfl,hb⟩;have B5:=Aside0.mk (below_step B4.out hb);clear hb))
     go_ret
     exact ⟨by rw [HP.out];rfl,B5.out⟩
    have e1:(kd==1)=false:=beq_eq_false_iff_ne.2 h1
    by_cases h4:kd=4
    ·subst h4
     have HP:=Aside0.mk (act_set (.inr (.inl rfl)) hp hns l)
     rw [hv] at HP
     clear hv hp hns
     go_enter Tryz.func30,Tryz.ntmps30
     go_upto_region 1 with fail
     rw [←hW1,←hgb]
     clear hW1 hgb
     go_wp2_with (first | (go_at_call 74;(with_reducible refine (PO.out _).mono ?_);rintro e w4 ⟨v4,rfl,ho,hb⟩;have ho:Kd.R Kd.string 9 w4 _ _ v4 (n :: ns):=ho;obtain ⟨A4,c4,rfl⟩:=Kd.R_slice ho;have B4b:=Aside0.mk hb;have B4:=Aside0.mk (below_step HB1.out hb);obtain ⟨c0,c1,c2⟩:=CB.out w4 hb;clear ho hb) | (go_at_call 63;(refine (GV.out _ (below_step HB1.out B4b.out)).mono ?_);rintro e w5 ⟨rfl,hb⟩;have B5:=Aside0.mk (below_step B4.out hb);obtain ⟨c0,c1,c2⟩:=CB.out w5 (below_step B4b.out hb);clear hb) | (go_at_call 81;(with_reducible refine (l5Zero_c A l.length c _).mono ?_);rintro e w5 ⟨rfl,hb⟩;have B5:=Aside0.mk (below_step B4.out hb);clear hb))
     go_ret
     exact ⟨by rw [HP.out];rfl,B5.out⟩
    have e4:(kd==4)=false:=beq_eq_false_iff_ne.2 h4
    by_cases h5:kd=5
    ·subst h5
     have HP:=Aside0.mk (act_set (.inr (.inr rfl)) hp hns l)
     rw [hv] at HP
     clear hv hp hns
     go_enter Tryz.func30,Tryz.ntmps30
     go_upto_region 1 with fail
     rw [←hW1,←hgb]
     clear hW1 hgb
     go_wp2_with (first | (go_at_call 74;(with_reducible refine (PO.out _).mono ?_);rintro e w4 ⟨v4,rfl,ho,hb⟩;have ho:Kd.R Kd.string 9 w4 _ _ v4 (n :: ns):=ho;obtain ⟨A4,c4,rfl⟩:=Kd.R_slice ho;have B4b:=Aside0.mk hb;have B4:=Aside0.mk (below_step HB1.out hb);obtain ⟨c0,c1,c2⟩:=CB.out w4 hb;clear ho hb) | (go_at_call 63;(refine (GV.out _ (below_step HB1.out B4b.out)).mono ?_);rintro e w5 ⟨rfl,hb⟩;have B5:=Aside0.mk (below_step B4.out hb);obtain ⟨c0,c1,c2⟩:=CB.out w5 (below_step B4b.out hb);clear hb) | (go_at_call 81;(with_reducible refine (l5Zero_c A l.length c _).mono ?_);rintro e w5 ⟨rfl,hb⟩;have B5:=Aside0.mk (below_step B4.out hb);clear hb))
     go_ret
     exact ⟨by rw [HP.out];rfl,B5.out⟩
    have e5:(kd==5)=false:=beq_eq_false_iff_ne.2 h5
    by_cases h2:kd=2
    ·subst h2
     have HP:=Aside0.mk (act_uns hp hns l)
     clear hv hp hns
     go_enter Tryz.func30,Tryz.ntmps30
     go_upto_region 1 with fail
     rw [←hW1,←hgb]
     clear hW1 hgb
     go_wp2_with (first | (go_at_call 74;(with_reducible refine (PO.out _).mono ?_);rintro e w4 ⟨v4,rfl,ho,hb⟩;have ho:Kd.R Kd.string 9 w4 _ _ v4 (n :: ns):=ho;obtain ⟨A4,c4,rfl⟩:=Kd.R_slice ho;have B4b:=Aside0.mk hb;have B4:=Aside0.mk (below_step HB1.out hb);obtain ⟨c0,c1,c2⟩:=CB.out w4 hb;clear ho hb) | (go_at_call 63;(refine (GV.out _ (below_step HB1.out B4b.out)).mono ?_);rintro e w5 ⟨rfl,hb⟩;have B5:=Aside0.mk (below_step B4.out hb);obtain ⟨c0,c1,c2⟩:=CB.out w5 (below_step B4b.out hb);clear hb) | (go_at_call 81;(with_reducible refine (l5Zero_c A l.length c _).mono ?_);rintro e w5 ⟨rfl,hb⟩;have B5:=Aside0.mk (below_step B4.out hb);clear hb))
     go_ret
     exact ⟨by rw [HP.out];rfl,B5.out⟩
    have e2:(kd==2)=false:=beq_eq_false_iff_ne.2 h2
    by_cases h3:kd=3
    ·subst h3
     have HP:=Aside0.mk (act_num hp hns l)
     rw [hv] at HP
     obtain ⟨ad,rfl,kq⟩:=HN0.out
     clear hv hp hns
     go_enter Tryz.func30,Tryz.ntmps30
     go_upto_region 1 with fail
     rw [←hW1,←hgb]
     clear hW1 hgb
     go_wp2_with (first | (go_at_call 74;(with_reducible refine (PO.out _).mono ?_);rintro e w4 ⟨v4,rfl,ho,hb⟩;have ho:Kd.R Kd.string 9 w4 _ _ v4 (n :: ns):=ho;obtain ⟨A4,c4,rfl⟩:=Kd.R_slice ho;have B4b:=Aside0.mk hb;have B4:=Aside0.mk (below_step HB1.out hb);obtain ⟨c0,c1,c2⟩:=CB.out w4 hb;clear ho hb) | (go_at_call 63;(refine (GV.out _ (below_step HB1.out B4b.out)).mono ?_);rintro e w5 ⟨rfl,hb⟩;have B5:=Aside0.mk (below_step B4.out hb);obtain ⟨c0,c1,c2⟩:=CB.out w5 (below_step B4b.out hb);have kq:=((below_step HB1.out (below_step B4b.out hb)).cell (World.block_lt_of_cell? w _ kq)).trans kq;clear hb) | (go_at_call 81;(with_reducible refine (l5Zero_c A l.length c _).mono ?_);rintro e w5 ⟨rfl,hb⟩;have B5:=Aside0.mk (below_step B4.out hb);clear hb))
     go_ret
     exact ⟨by rw [HP.out];rfl,B5.out⟩
    have e3:(kd==3)=false:=beq_eq_false_iff_ne.2 h3
    by_cases h6:kd=6
    ·subst h6
     have HP:=Aside0.mk (act_txt hp hns l)
     rw [hv] at HP
     obtain ⟨ad,rfl,kq⟩:=HN0.out
     clear hv hp hns
     go_enter Tryz.func30,Tryz.ntmps30
     go_upto_region 1 with fail
     rw [←hW1,←hgb]
     clear hW1 hgb
     go_wp2_with (first | (go_at_call 74;(with_reducible refine (PO.out _).mono ?_);rintro e w4 ⟨v4,rfl,ho,hb⟩;have ho:Kd.R Kd.string 9 w4 _ _ v4 (n :: ns):=ho;obtain ⟨A4,c4,rfl⟩:=Kd.R_slice ho;have B4b:=Aside0.mk hb;have B4:=Aside0.mk (below_step HB1.out hb);obtain ⟨c0,c1,c2⟩:=CB.out w4 hb;clear ho hb) | (go_at_call 63;(refine (GV.out _ (below_step HB1.out B4b.out)).mono ?_);rintro e w5 ⟨rfl,hb⟩;have B5:=Aside0.mk (below_step B4.out hb);obtain ⟨c0,c1,c2⟩:=CB.out w5 (below_step B4b.out hb);have kq:=((below_step HB1.out (below_step B4b.out hb)).cell (World.block_lt_of_cell? w _ kq)).trans kq;clear hb) | (go_at_call 81;(with_reducible refine (l5Zero_c A l.length c _).mono ?_);rintro e w5 ⟨rfl,hb⟩;have B5:=Aside0.mk (below_step B4.out hb);clear hb))
     go_ret
     exact ⟨by rw [HP.out];rfl,B5.out⟩
    have e6:(kd==6)=false:=beq_eq_false_iff_ne.2 h6
    clear h1 h4 h5 h2 h3 h6
    have HP:=Aside0.mk (act_oth (by simpa using e1) (by simpa using e4) (by simpa using e5) (by simpa using e2) (by simpa using e3) (by simpa using e6) hp hns l)
    clear hv hp hns
    go_enter Tryz.func30,Tryz.ntmps30
    go_upto_region 1 with fail
    rw [←hW1,←hgb]
    clear hW1 hgb
    go_wp2_with (first | (go_at_call 74;(with_reducible refine (PO.out _).mono ?_);rintro e w4 ⟨v4,rfl,ho,hb⟩;have ho:Kd.R Kd.string 9 w4 _ _ v4 (n :: ns):=ho;obtain ⟨A4,c4,rfl⟩:=Kd.R_slice ho;have B4b:=Aside0.mk hb;have B4:=Aside0.mk (below_step HB1.out hb);obtain ⟨c0,c1,c2⟩:=CB.out w4 hb;clear ho hb) | (go_at_call 63;(refine (GV.out _ (below_step HB1.out B4b.out)).mono ?_);rintro e w5 ⟨rfl,hb⟩;have B5:=Aside0.mk (below_step B4.out hb);obtain ⟨c0,c1,c2⟩:=CB.out w5 (below_step B4b.out hb);clear hb) | (go_at_call 81;(with_reducible refine (l5Zero_c A l.length c _).mono ?_);rintro e w5 ⟨rfl,hb⟩;have B5:=Aside0.mk (below_step B4.out hb);clear hb))
    go_ret
    exact ⟨by rw [HP.out];rfl,B4.out⟩
end Go.Proofs.YtoaafohpmhdjnaaGreatDoor.VT
