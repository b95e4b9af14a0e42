import Derived.Test.YtoaafohpmhdjnaaGreatDoorTAYPB
import Derived.Test.YtoaafohpmhdjnaaGreatDoorTAYPO
import Derived.Test.YtoaafohpmhdjnaaGreatDoorTAVPB
import Derived.Test.YtoaafohpmhdjnaaGreatDoorTAYPS
import Derived.Test.YtoaafohpmhdjnaaGreatDoorTAVLA
import Derived.Test.YtoaafohpmhdjnaaGreatDoorTAPVGx0
import Derived.Test.YtoaafohpmhdjnaaGreatDoorTAPVGx2
import Derived.Test.YtoaafohpmhdjnaaGreatDoorTAPVGx6
/- GoodAct of both sides: walked. Conditions: the powers of ten stand. -/
namespace Go.Proofs.YtoaafohpmhdjnaaGreatDoor.VT
open Go.RowKit Go.Proofs.YtoaafohpmhdjnaaGreatDoor.RX Go.Proofs.YtoaafohpmhdjnaaGreatDoor.RY Go.Proofs.YtoaafohpmhdjnaaGreatDoor.PVG Go.Proofs.YtoaafohpmhdjnaaGreatDoorW.PrintWords Go.Proofs.YtoaafohpmhdjnaaGreatDoorW.PrintLast Go.Proofs.YtoaafohpmhdjnaaGreatDoorW.PrintMore
set_option linter.unusedVariables false
set_option linter.unusedSimpArgs false
def actV (kd:Int) (p:ByteArray) (l:List S107):Bool:=match pathV p with
 | some (_ :: _)=>if kd=1∨kd=4∨kd=5 then (valT l).isSome else if kd=2 then ((l.length:Int)==0) else if kd=3 then (match valT l with | some t=>t.kd==4 | none=>false) else if kd=6 then (match valT l with | some t=>t.kd==5 | none=>false) else false
 | _=>false
theorem act_no {kd:Int} {p:ByteArray} (hp:pathV p=none∨pathV p=some []) (l:List S107):actV kd p l=false:=by
 unfold actV;rcases hp with h | h <;> rw [h]
theorem act_set {kd:Int} {p:ByteArray} {ns:List ByteArray} (hk:kd=1∨kd=4∨kd=5) (hp:pathV p=some ns) (hn:ns≠[]) (l:List S107):actV kd p l=(valT l).isSome:=by
 cases ns with
 | nil=>exact absurd rfl hn
 | cons n ns=>unfold actV;rw [hp];simp only [if_pos hk]
theorem act_uns {p:ByteArray} {ns:List ByteArray} (hp:pathV p=some ns) (hn:ns≠[]) (l:List S107):actV 2 p l=((l.length:Int)==0):=by
 cases ns with
 | nil=>exact absurd rfl hn
 | cons n ns=>unfold actV;rw [hp];simp
theorem act_num {p:ByteArray} {ns:List ByteArray} (hp:pathV p=some ns) (hn:ns≠[]) (l:List S107):actV 3 p l=(match valT l with | some t=>t.kd==4 | none=>false):=by
 cases ns with
 | nil=>exact absurd rfl hn
 | cons n ns=>unfold actV;rw [hp];simp
theorem act_txt {p:ByteArray} {ns:List ByteArray} (hp:pathV p=some ns) (hn:ns≠[]) (l:List S107):actV 6 p l=(match valT l with | some t=>t.kd==5 | none=>false):=by
 cases ns with
 | nil=>exact absurd rfl hn
 | cons n ns=>unfold actV;rw [hp];simp
theorem act_oth {kd:Int} {p:ByteArray} {ns:List ByteArray} (h1:kd≠1) (h4:kd≠4) (h5:kd≠5) (h2:kd≠2) (h3:kd≠3) (h6:kd≠6) (hp:pathV p=some ns) (hn:ns≠[]) (l:List S107):actV kd p l=false:=by
 cases ns with
 | nil=>exact absurd rfl hn
 | cons n ns=>unfold actV;rw [hp];simp [h1,h2,h3,h4,h5,h6]
theorem path_nil {p:ByteArray} {ns:List ByteArray} (h:pathV p=some ns):(ns=[]↔p.toList.isEmpty=true):=by
 unfold pathV at h
 split at h
 ·cases h
 ·rw [ByteArray.toList_eq]
  cases hd:p.data.toList with
  | nil=>rw [hd] at h;cases h;simp
  | cons c r =>
   rw [hd,pathL] at h
   split at h
   ·split at h
    ·cases h
     have:=cutL_ne r
     simp [this]
    ·cases h
   ·cases h
set_option maxRecDepth 100000 in
set_option maxHeartbeats 8000000 in
theorem goodAct_c (kd:Int) (p:ByteArray) (l:List S107) (A:Option Addr) (c:Nat) (w:World) (ht:HT w) (hr:Kd.C k107 w A l.length l) (hc:l.length≤c) :
  Calls Tryz.prog 32 #[.agg #[.int .i64 kd,.string p,.slice A l.length c]] w fun e w'=>e=.returned (.bool (actV kd p l))∧Below w.heap.size w w':=by
 obtain ⟨W1,hW1⟩:∃ W1,W1=w.alloc (.cells #[.int .i64 kd,.string p,.slice A l.length c] 48):=⟨_,rfl⟩
 obtain ⟨gb,hgb⟩:∃ g,g=w.heap.size:=⟨_,rfl⟩
 have HB1:=Aside0.mk (show Below w.heap.size w W1 by rw [hW1];exact below_alloc (Below.refl _ _) _)
 have KB:=Aside0.mk (show W1.heap[gb]? = some (.cells #[.int .i64 kd,.string p,.slice A l.length c] 48 (0,0)) by rw [hW1,hgb];exact blk_new w _)
 have CB:=Aside0.mk (show ∀ W,Below W1.heap.size W1 W→W.cell? ⟨gb,0,none⟩=some (.int .i64 kd)∧W.cell? ⟨gb,1,none⟩=some (.string p)∧W.cell? ⟨gb,2,none⟩=some (.slice A l.length c) from fun W hb=>⟨(blk_cell (blk_below KB.out hb) 0).trans rfl,(blk_cell (blk_below KB.out hb) 1).trans rfl,(blk_cell (blk_below KB.out hb) 2).trans rfl⟩)
 obtain ⟨k0,k1,k2⟩:=CB.out W1 (Below.refl _ _)
 have VO:=Aside0.mk (fun W (hb:Below w.heap.size w W)=>valOf_c l A c W (ht.below hb) (Kd.C_below hr hb) hc)
 have PO:=Aside0.mk (fun W=>pathOf_c p W)
 clear hr hc ht
 cases hp:pathV p with
 | none =>
  have HP:=Aside0.mk (act_no (kd:=kd) (.inl hp) l)
  rw [hp] at PO
  clear hp VO
  go_enter Tryz.func32,Tryz.ntmps32
  go_upto_region 1 with fail
  rw [←hW1,←hgb]
  clear hW1 hgb
  go_wp2_with (first | (go_at_call 76;(with_reducible refine (PO.out _).mono ?_);rintro e w4 ⟨v4,rfl,ho,hb⟩;obtain ⟨A4,c4,rfl⟩:=Kd.R_slice ho;have B4b:=Aside0.mk hb;have B4:=Aside0.mk (below_step HB1.out hb);obtain ⟨c0,c1,c2⟩:=CB.out w4 hb;clear ho hb))
  go_ret
  exact ⟨by rw [HP.out];rfl,B4.out⟩
 | some ns =>
  rw [hp] at PO
  cases ns with
  | nil =>
   have HP:=Aside0.mk (act_no (kd:=kd) (.inr hp) l)
   clear hp VO
   go_enter Tryz.func32,Tryz.ntmps32
   go_upto_region 1 with fail
   rw [←hW1,←hgb]
   clear hW1 hgb
   go_wp2_with (first | (go_at_call 76;(with_reducible refine (PO.out _).mono ?_);rintro e w4 ⟨v4,rfl,ho,hb⟩;have ho:Kd.R Kd.string 9 w4 _ _ v4 []:=ho;obtain ⟨A4,c4,rfl⟩:=Kd.R_slice ho;have B4b:=Aside0.mk hb;have B4:=Aside0.mk (below_step HB1.out hb);obtain ⟨c0,c1,c2⟩:=CB.out w4 hb;clear ho hb))
   go_ret
   exact ⟨by rw [HP.out];rfl,B4.out⟩
  | cons n ns =>
   have hns:(n :: ns)≠[]:=by simp
   have hl1:(decide (((n :: ns).length:Int)=0))=false:=decide_eq_false (by rw [List.length_cons];omega)
   cases hv:valT l with
   | none =>
    have VN:=Aside0.mk (fun W hb=>VoPost.no (VO.out W hb) hv)
    clear VO
    by_cases h1:kd=1
    ·subst h1
     have HP:=Aside0.mk (act_set (.inl rfl) hp hns l)
     rw [hv] at HP
     clear hv hp hns
     go_enter Tryz.func32,Tryz.ntmps32
     go_upto_region 1 with fail
     rw [←hW1,←hgb]
     clear hW1 hgb
     go_wp2_with (first | (go_at_call 76;(with_reducible refine (PO.out _).mono ?_);rintro e w4 ⟨v4,rfl,ho,hb⟩;have ho:Kd.R Kd.string 9 w4 _ _ v4 (n :: ns):=ho;obtain ⟨A4,c4,rfl⟩:=Kd.R_slice ho;have B4b:=Aside0.mk hb;have B4:=Aside0.mk (below_step HB1.out hb);obtain ⟨c0,c1,c2⟩:=CB.out w4 hb;clear ho hb) | (go_at_call 67;(with_reducible refine (VN.out _ (below_step HB1.out B4b.out)).mono ?_);rintro e w5 ⟨rfl,hb⟩;have B5:=Aside0.mk (below_step B4.out hb);obtain ⟨c0,c1,c2⟩:=CB.out w5 (below_step B4b.out hb);clear hb))
     go_ret
     exact ⟨by rw [HP.out];rfl,B5.out⟩
    have e1:(kd==1)=false:=beq_eq_false_iff_ne.2 h1
    by_cases h4:kd=4
    ·subst h4
     have HP:=Aside0.mk (act_set (.inr (.inl rfl)) hp hns l)
     rw [hv] at HP
     clear hv hp hns
     go_enter Tryz.func32,Tryz.ntmps32
     go_upto_region 1 with fail
     rw [←hW1,←hgb]
     clear hW1 hgb
     go_wp2_with (first | (go_at_call 76;(with_reducible refine (PO.out _).mono ?_);rintro e w4 ⟨v4,rfl,ho,hb⟩;have ho:Kd.R Kd.string 9 w4 _ _ v4 (n :: ns):=ho;obtain ⟨A4,c4,rfl⟩:=Kd.R_slice ho;have B4b:=Aside0.mk hb;have B4:=Aside0.mk (below_step HB1.out hb);obtain ⟨c0,c1,c2⟩:=CB.out w4 hb;clear ho hb) | (go_at_call 67;(with_reducible refine (VN.out _ (below_step HB1.out B4b.out)).mono ?_);rintro e w5 ⟨rfl,hb⟩;have B5:=Aside0.mk (below_step B4.out hb);obtain ⟨c0,c1,c2⟩:=CB.out w5 (below_step B4b.out hb);clear hb))
     go_ret
     exact ⟨by rw [HP.out];rfl,B5.out⟩
    have e4:(kd==4)=false:=beq_eq_false_iff_ne.2 h4
    by_cases h5:kd=5
    ·subst h5
     have HP:=Aside0.mk (act_set (.inr (.inr rfl)) hp hns l)
     rw [hv] at HP
     clear hv hp hns
     go_enter Tryz.func32,Tryz.ntmps32
     go_upto_region 1 with fail
     rw [←hW1,←hgb]
     clear hW1 hgb
     go_wp2_with (first | (go_at_call 76;(with_reducible refine (PO.out _).mono ?_);rintro e w4 ⟨v4,rfl,ho,hb⟩;have ho:Kd.R Kd.string 9 w4 _ _ v4 (n :: ns):=ho;obtain ⟨A4,c4,rfl⟩:=Kd.R_slice ho;have B4b:=Aside0.mk hb;have B4:=Aside0.mk (below_step HB1.out hb);obtain ⟨c0,c1,c2⟩:=CB.out w4 hb;clear ho hb) | (go_at_call 67;(with_reducible refine (VN.out _ (below_step HB1.out B4b.out)).mono ?_);rintro e w5 ⟨rfl,hb⟩;have B5:=Aside0.mk (below_step B4.out hb);obtain ⟨c0,c1,c2⟩:=CB.out w5 (below_step B4b.out hb);clear hb))
     go_ret
     exact ⟨by rw [HP.out];rfl,B5.out⟩
    have e5:(kd==5)=false:=beq_eq_false_iff_ne.2 h5
    by_cases h2:kd=2
    ·subst h2
     have HP:=Aside0.mk (act_uns hp hns l)
     clear hv hp hns
     go_enter Tryz.func32,Tryz.ntmps32
     go_upto_region 1 with fail
     rw [←hW1,←hgb]
     clear hW1 hgb
     go_wp2_with (first | (go_at_call 76;(with_reducible refine (PO.out _).mono ?_);rintro e w4 ⟨v4,rfl,ho,hb⟩;have ho:Kd.R Kd.string 9 w4 _ _ v4 (n :: ns):=ho;obtain ⟨A4,c4,rfl⟩:=Kd.R_slice ho;have B4b:=Aside0.mk hb;have B4:=Aside0.mk (below_step HB1.out hb);obtain ⟨c0,c1,c2⟩:=CB.out w4 hb;clear ho hb) | (go_at_call 67;(with_reducible refine (VN.out _ (below_step HB1.out B4b.out)).mono ?_);rintro e w5 ⟨rfl,hb⟩;have B5:=Aside0.mk (below_step B4.out hb);obtain ⟨c0,c1,c2⟩:=CB.out w5 (below_step B4b.out hb);clear hb))
     go_ret
     exact ⟨by rw [HP.out];rfl,B5.out⟩
    have e2:(kd==2)=false:=beq_eq_false_iff_ne.2 h2
    by_cases h3:kd=3
    ·subst h3
     have HP:=Aside0.mk (act_num hp hns l)
     rw [hv] at HP
     clear hv hp hns
     go_enter Tryz.func32,Tryz.ntmps32
     go_upto_region 1 with fail
     rw [←hW1,←hgb]
     clear hW1 hgb
     go_wp2_with (first | (go_at_call 76;(with_reducible refine (PO.out _).mono ?_);rintro e w4 ⟨v4,rfl,ho,hb⟩;have ho:Kd.R Kd.string 9 w4 _ _ v4 (n :: ns):=ho;obtain ⟨A4,c4,rfl⟩:=Kd.R_slice ho;have B4b:=Aside0.mk hb;have B4:=Aside0.mk (below_step HB1.out hb);obtain ⟨c0,c1,c2⟩:=CB.out w4 hb;clear ho hb) | (go_at_call 67;(with_reducible refine (VN.out _ (below_step HB1.out B4b.out)).mono ?_);rintro e w5 ⟨rfl,hb⟩;have B5:=Aside0.mk (below_step B4.out hb);obtain ⟨c0,c1,c2⟩:=CB.out w5 (below_step B4b.out hb);clear hb))
     go_ret
     exact ⟨by rw [HP.out];rfl,B5.out⟩
    have e3:(kd==3)=false:=beq_eq_false_iff_ne.2 h3
    by_cases h6:kd=6
    ·subst h6
     have HP:=Aside0.mk (act_txt hp hns l)
     rw [hv] at HP
     clear hv hp hns
     go_enter Tryz.func32,Tryz.ntmps32
     go_upto_region 1 with fail
     rw [←hW1,←hgb]
     clear hW1 hgb
     go_wp2_with (first | (go_at_call 76;(with_reducible refine (PO.out _).mono ?_);rintro e w4 ⟨v4,rfl,ho,hb⟩;have ho:Kd.R Kd.string 9 w4 _ _ v4 (n :: ns):=ho;obtain ⟨A4,c4,rfl⟩:=Kd.R_slice ho;have B4b:=Aside0.mk hb;have B4:=Aside0.mk (below_step HB1.out hb);obtain ⟨c0,c1,c2⟩:=CB.out w4 hb;clear ho hb) | (go_at_call 67;(with_reducible refine (VN.out _ (below_step HB1.out B4b.out)).mono ?_);rintro e w5 ⟨rfl,hb⟩;have B5:=Aside0.mk (below_step B4.out hb);obtain ⟨c0,c1,c2⟩:=CB.out w5 (below_step B4b.out hb);clear hb))
     go_ret
     exact ⟨by rw [HP.out];rfl,B5.out⟩
    have e6:(kd==6)=false:=beq_eq_false_iff_ne.2 h6
    clear h1 h4 h5 h2 h3 h6
    have HP:=Aside0.mk (act_oth (by simpa using e1) (by simpa using e4) (by simpa using e5) (by simpa using e2) (by simpa using e3) (by simpa using e6) hp hns l)
    clear hv hp hns
    go_enter Tryz.func32,Tryz.ntmps32
    go_upto_region 1 with fail
    rw [←hW1,←hgb]
    clear hW1 hgb
    go_wp2_with (first | (go_at_call 76;(with_reducible refine (PO.out _).mono ?_);rintro e w4 ⟨v4,rfl,ho,hb⟩;have ho:Kd.R Kd.string 9 w4 _ _ v4 (n :: ns):=ho;obtain ⟨A4,c4,rfl⟩:=Kd.R_slice ho;have B4b:=Aside0.mk hb;have B4:=Aside0.mk (below_step HB1.out hb);obtain ⟨c0,c1,c2⟩:=CB.out w4 hb;clear ho hb) | (go_at_call 67;(with_reducible refine (VN.out _ (below_step HB1.out B4b.out)).mono ?_);rintro e w5 ⟨rfl,hb⟩;have B5:=Aside0.mk (below_step B4.out hb);obtain ⟨c0,c1,c2⟩:=CB.out w5 (below_step B4b.out hb);clear hb))
    go_ret
    exact ⟨by rw [HP.out];rfl,B5.out⟩
   | some t =>
    have VN:=Aside0.mk (fun W hb=>VoPost.yes (VO.out W hb) hv)
    clear VO
    by_cases h1:kd=1
    ·subst h1
     have HP:=Aside0.mk (act_set (.inl rfl) hp hns l)
     rw [hv] at HP
     clear hv hp hns
     go_enter Tryz.func32,Tryz.ntmps32
     go_upto_region 1 with fail
     rw [←hW1,←hgb]
     clear hW1 hgb
     go_wp2_with (first | (go_at_call 76;(with_reducible refine (PO.out _).mono ?_);rintro e w4 ⟨v4,rfl,ho,hb⟩;have ho:Kd.R Kd.string 9 w4 _ _ v4 (n :: ns):=ho;obtain ⟨A4,c4,rfl⟩:=Kd.R_slice ho;have B4b:=Aside0.mk hb;have B4:=Aside0.mk (below_step HB1.out hb);obtain ⟨c0,c1,c2⟩:=CB.out w4 hb;clear ho hb) | (go_at_call 67;(with_reducible refine (VN.out _ (below_step HB1.out B4b.out)).mono ?_);rintro e w5 ⟨g3,rfl,hb,hiv⟩;have B5:=Aside0.mk (below_step B4.out hb);obtain ⟨c0,c1,c2⟩:=CB.out w5 (below_step B4b.out hb);obtain ⟨A3x,c3x,A4x,c4x,hax⟩:=hiv.at_;obtain ⟨x0,_,_,_,_⟩:=hax.cells;clear hb hiv hax))
     go_ret
     exact ⟨by rw [HP.out];rfl,B5.out⟩
    have e1:(kd==1)=false:=beq_eq_false_iff_ne.2 h1
    by_cases h4:kd=4
    ·subst h4
     have HP:=Aside0.mk (act_set (.inr (.inl rfl)) hp hns l)
     rw [hv] at HP
     clear hv hp hns
     go_enter Tryz.func32,Tryz.ntmps32
     go_upto_region 1 with fail
     rw [←hW1,←hgb]
     clear hW1 hgb
     go_wp2_with (first | (go_at_call 76;(with_reducible refine (PO.out _).mono ?_);rintro e w4 ⟨v4,rfl,ho,hb⟩;have ho:Kd.R Kd.string 9 w4 _ _ v4 (n :: ns):=ho;obtain ⟨A4,c4,rfl⟩:=Kd.R_slice ho;have B4b:=Aside0.mk hb;have B4:=Aside0.mk (below_step HB1.out hb);obtain ⟨c0,c1,c2⟩:=CB.out w4 hb;clear ho hb) | (go_at_call 67;(with_reducible refine (VN.out _ (below_step HB1.out B4b.out)).mono ?_);rintro e w5 ⟨g3,rfl,hb,hiv⟩;have B5:=Aside0.mk (below_step B4.out hb);obtain ⟨c0,c1,c2⟩:=CB.out w5 (below_step B4b.out hb);obtain ⟨A3x,c3x,A4x,c4x,hax⟩:=hiv.at_;obtain ⟨x0,_,_,_,_⟩:=hax.cells;clear hb hiv hax))
     go_ret
     exact ⟨by rw [HP.out];rfl,B5.out⟩
    have e4:(kd==4)=false:=beq_eq_false_iff_ne.2 h4
    by_cases h5:kd=5
    ·subst h5
     have HP:=Aside0.mk (act_set (.inr (.inr rfl)) hp hns l)
     rw [hv] at HP
     clear hv hp hns
     go_enter Tryz.func32,Tryz.ntmps32
     go_upto_region 1 with fail
     rw [←hW1,←hgb]
     clear hW1 hgb
     go_wp2_with (first | (go_at_call 76;(with_reducible refine (PO.out _).mono ?_);rintro e w4 ⟨v4,rfl,ho,hb⟩;have ho:Kd.R Kd.string 9 w4 _ _ v4 (n :: ns):=ho;obtain ⟨A4,c4,rfl⟩:=Kd.R_slice ho;have B4b:=Aside0.mk hb;have B4:=Aside0.mk (below_step HB1.out hb);obtain ⟨c0,c1,c2⟩:=CB.out w4 hb;clear ho hb) | (go_at_call 67;(with_reducible refine (VN.out _ (below_step HB1.out B4b.out)).mono ?_);rintro e w5 ⟨g3,rfl,hb,hiv⟩;have B5:=Aside0.mk (below_step B4.out hb);obtain ⟨c0,c1,c2⟩:=CB.out w5 (below_step B4b.out hb);obtain ⟨A3x,c3x,A4x,c4x,hax⟩:=hiv.at_;obtain ⟨x0,_,_,_,_⟩:=hax.cells;clear hb hiv hax))
     go_ret
     exact ⟨by rw [HP.out];rfl,B5.out⟩
    have e5:(kd==5)=false:=beq_eq_false_iff_ne.2 h5
    by_cases h2:kd=2
    ·subst h2
     have HP:=Aside0.mk (act_uns hp hns l)
     clear hv hp hns
     go_enter Tryz.func32,Tryz.ntmps32
     go_upto_region 1 with fail
     rw [←hW1,←hgb]
     clear hW1 hgb
     go_wp2_with (first | (go_at_call 76;(with_reducible refine (PO.out _).mono ?_);rintro e w4 ⟨v4,rfl,ho,hb⟩;have ho:Kd.R Kd.string 9 w4 _ _ v4 (n :: ns):=ho;obtain ⟨A4,c4,rfl⟩:=Kd.R_slice ho;have B4b:=Aside0.mk hb;have B4:=Aside0.mk (below_step HB1.out hb);obtain ⟨c0,c1,c2⟩:=CB.out w4 hb;clear ho hb) | (go_at_call 67;(with_reducible refine (VN.out _ (below_step HB1.out B4b.out)).mono ?_);rintro e w5 ⟨g3,rfl,hb,hiv⟩;have B5:=Aside0.mk (below_step B4.out hb);obtain ⟨c0,c1,c2⟩:=CB.out w5 (below_step B4b.out hb);obtain ⟨A3x,c3x,A4x,c4x,hax⟩:=hiv.at_;obtain ⟨x0,_,_,_,_⟩:=hax.cells;clear hb hiv hax))
     go_ret
     exact ⟨by rw [HP.out];rfl,B5.out⟩
    have e2:(kd==2)=false:=beq_eq_false_iff_ne.2 h2
    by_cases h3:kd=3
    ·subst h3
     have HP:=Aside0.mk (act_num hp hns l)
     rw [hv] at HP
     clear hv hp hns
     go_enter Tryz.func32,Tryz.ntmps32
     go_upto_region 1 with fail
     rw [←hW1,←hgb]
     clear hW1 hgb
     go_wp2_with (first | (go_at_call 76;(with_reducible refine (PO.out _).mono ?_);rintro e w4 ⟨v4,rfl,ho,hb⟩;have ho:Kd.R Kd.string 9 w4 _ _ v4 (n :: ns):=ho;obtain ⟨A4,c4,rfl⟩:=Kd.R_slice ho;have B4b:=Aside0.mk hb;have B4:=Aside0.mk (below_step HB1.out hb);obtain ⟨c0,c1,c2⟩:=CB.out w4 hb;clear ho hb) | (go_at_call 67;(with_reducible refine (VN.out _ (below_step HB1.out B4b.out)).mono ?_);rintro e w5 ⟨g3,rfl,hb,hiv⟩;have B5:=Aside0.mk (below_step B4.out hb);obtain ⟨c0,c1,c2⟩:=CB.out w5 (below_step B4b.out hb);obtain ⟨A3x,c3x,A4x,c4x,hax⟩:=hiv.at_;obtain ⟨x0,_,_,_,_⟩:=hax.cells;clear hb hiv hax))
     go_ret
     exact ⟨by rw [HP.out];rfl,B5.out⟩
    have e3:(kd==3)=false:=beq_eq_false_iff_ne.2 h3
    by_cases h6:kd=6
    ·subst h6
     have HP:=Aside0.mk (act_txt hp hns l)
     rw [hv] at HP
     clear hv hp hns
     go_enter Tryz.func32,Tryz.ntmps32
     go_upto_region 1 with fail
     rw [←hW1,←hgb]
     clear hW1 hgb
     go_wp2_with (first | (go_at_call 76;(with_reducible refine (PO.out _).mono ?_);rintro e w4 ⟨v4,rfl,ho,hb⟩;have ho:Kd.R Kd.string 9 w4 _ _ v4 (n :: ns):=ho;obtain ⟨A4,c4,rfl⟩:=Kd.R_slice ho;have B4b:=Aside0.mk hb;have B4:=Aside0.mk (below_step HB1.out hb);obtain ⟨c0,c1,c2⟩:=CB.out w4 hb;clear ho hb) | (go_at_call 67;(with_reducible refine (VN.out _ (below_step HB1.out B4b.out)).mono ?_);rintro e w5 ⟨g3,rfl,hb,hiv⟩;have B5:=Aside0.mk (below_step B4.out hb);obtain ⟨c0,c1,c2⟩:=CB.out w5 (below_step B4b.out hb);obtain ⟨A3x,c3x,A4x,c4x,hax⟩:=hiv.at_;obtain ⟨x0,_,_,_,_⟩:=hax.cells;clear hb hiv hax))
     go_ret
     exact ⟨by rw [HP.out];rfl,B5.out⟩
    have e6:(kd==6)=false:=beq_eq_false_iff_ne.2 h6
    clear h1 h4 h5 h2 h3 h6
    have HP:=Aside0.mk (act_oth (by simpa using e1) (by simpa using e4) (by simpa using e5) (by simpa using e2) (by simpa using e3) (by simpa using e6) hp hns l)
    clear hv hp hns
    go_enter Tryz.func32,Tryz.ntmps32
    go_upto_region 1 with fail
    rw [←hW1,←hgb]
    clear hW1 hgb
    go_wp2_with (first | (go_at_call 76;(with_reducible refine (PO.out _).mono ?_);rintro e w4 ⟨v4,rfl,ho,hb⟩;have ho:Kd.R Kd.string 9 w4 _ _ v4 (n :: ns):=ho;obtain ⟨A4,c4,rfl⟩:=Kd.R_slice ho;have B4b:=Aside0.mk hb;have B4:=Aside0.mk (below_step HB1.out hb);obtain ⟨c0,c1,c2⟩:=CB.out w4 hb;clear ho hb) | (go_at_call 67;(with_reducible refine (VN.out _ (below_step HB1.out B4b.out)).mono ?_);rintro e w5 ⟨g3,rfl,hb,hiv⟩;have B5:=Aside0.mk (below_step B4.out hb);obtain ⟨c0,c1,c2⟩:=CB.out w5 (below_step B4b.out hb);obtain ⟨A3x,c3x,A4x,c4x,hax⟩:=hiv.at_;obtain ⟨x0,_,_,_,_⟩:=hax.cells;clear hb hiv hax))
    go_ret
    exact ⟨by rw [HP.out];rfl,B5.out⟩
end Go.Proofs.YtoaafohpmhdjnaaGreatDoor.VT
