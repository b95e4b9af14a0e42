import Derived.Test.YtoaafohpmhdjnaaGreatDoorHAYLE
import Derived.Test.YtoaafohpmhdjnaaGreatDoorHAYPO
import Derived.Test.YtoaafohpmhdjnaaGreatDoorHAVPB
/- impl.HasAt walked. Conditions: the powers of ten and the two errors stand. -/
namespace Go.Proofs.YtoaafohpmhdjnaaGreatDoor.VT
open Go.RowKit Go.Proofs.YtoaafohpmhdjnaaGreatDoor.RX Go.Proofs.YtoaafohpmhdjnaaGreatDoor.RY Go.Proofs.YtoaafohpmhdjnaaGreatDoor.PVG Go.Proofs.YtoaafohpmhdjnaaGreatDoorW.PrintWords Go.Proofs.YtoaafohpmhdjnaaGreatDoorW.PrintLast Go.Proofs.YtoaafohpmhdjnaaGreatDoorW.PrintMore
set_option linter.unusedVariables false
set_option linter.unusedSimpArgs false
def hasV (l:List S107) (s:ByteArray):Bool×Bool:=match valT l,pathV s with
 | some t,some ns=>((getT t ns).isSome,true)
 | _,_=>(false,false)
theorem pathV_short {s:ByteArray} {ns:List ByteArray} (h:pathV s=some ns):∀ x,x∈ns→x.size≤60:=by
 unfold pathV at h
 split at h
 ·cases h
 ·rename_i h60
  have hl:s.data.toList.length=s.size:=Array.length_toList
  cases hs:s.data.toList with
  | nil=>rw [hs] at h;cases h;intro x hx;cases hx
  | cons c r =>
   rw [hs,pathL] at h
   split at h
   ·split at h
    ·cases h
     intro x hx
     obtain ⟨p,hp,rfl⟩:=List.mem_map.1 hx
     have h1:=cutL_size r p hp
     have h2:=unesc_len _ p (Nat.le_refl _)
     have h3:(nmB p).size=(unescL p).length:=by unfold nmB;simp [ByteArray.size]
     rw [hs] at hl
     simp at hl
     omega
    ·cases h
   ·cases h
set_option maxRecDepth 100000 in
set_option maxHeartbeats 4000000 in
theorem hasAt_c (l:List S107) (A:Option Addr) (c:Nat) (s:ByteArray) (w:World) (ht:HT w) (hE:HE w) (hr:Kd.C k107 w A l.length l) (hc:l.length≤c) :
  Calls Tryz.prog 25 #[.agg #[.slice A l.length c],.string s] w fun e w'=>e=.returned (.tuple #[.bool (hasV l s).1,.bool (hasV l s).2])∧Below w.heap.size w w':=by
 obtain ⟨W1,hW1⟩:∃ W1,W1=w.alloc (.cells #[.slice A l.length c] 31):=⟨_,rfl⟩
 obtain ⟨gb,hgb⟩:∃ g,g=w.heap.size:=⟨_,rfl⟩
 have HB1:=Aside0.mk (show Below w.heap.size w W1 by rw [hW1];exact below_alloc (Below.refl _ _) _)
 have KB:=(show W1.heap[gb]? = some (.cells #[.slice A l.length c] 31 (0,0)) by rw [hW1,hgb];exact blk_new w _)
 have t0:W1.cell? ⟨gb,0,none⟩=some (.slice A l.length c):=(blk_cell KB 0).trans rfl
 have VO:=Aside0.mk (valOf_c l A c W1 (ht.below HB1.out) (Kd.C_below hr HB1.out) hc)
 have HTT:=Aside0.mk ht
 have HEE:=Aside0.mk hE
 have PO:=Aside0.mk (fun W=>pathOf_c s W)
 clear hr hc KB ht hE
 cases hv:valT l with
 | none =>
  have HP:=Aside0.mk (show hasV l s=(false,false) by unfold hasV;rw [hv])
  have VN:=Aside0.mk (VoPost.no VO.out hv)
  rw [HP.out]
  clear hv VO
  go_enter Tryz.func25,Tryz.ntmps25
  go_upto_region 1 with fail
  rw [←hW1,←hgb]
  clear hW1 hgb
  go_wp2_with (first | (go_at_call 67;(with_reducible refine VN.out.mono ?_);rintro e w3 ⟨rfl,hb⟩;have B3:=Aside0.mk (below_step HB1.out hb);clear hb) | (go_at_call 76;(with_reducible refine (PO.out _).mono ?_);rintro e w4 ⟨v4,rfl,ho,hb⟩;obtain ⟨A4,c4,rfl⟩:=Kd.R_slice ho;have B4:=Aside0.mk (below_step B3.out hb);clear ho hb))
  go_ret2
  exact ⟨rfl,B4.out⟩
 | some t =>
  cases hp:pathV s with
  | none =>
   have HP:=Aside0.mk (show hasV l s=(false,false) by unfold hasV;rw [hv,hp])
   have VN:=Aside0.mk (VoPost.yes VO.out hv)
   rw [hp] at PO
   rw [HP.out]
   clear hv VO hp
   go_enter Tryz.func25,Tryz.ntmps25
   go_upto_region 1 with fail
   rw [←hW1,←hgb]
   clear hW1 hgb
   go_wp2_with (first | (go_at_call 67;(with_reducible refine VN.out.mono ?_);rintro e w3 ⟨g3,rfl,hb,hiv⟩;have B3:=Aside0.mk (below_step HB1.out hb);clear hb hiv) | (go_at_call 76;(with_reducible refine (PO.out _).mono ?_);rintro e w4 ⟨v4,rfl,ho,hb⟩;obtain ⟨A4,c4,rfl⟩:=Kd.R_slice ho;have B4:=Aside0.mk (below_step B3.out hb);clear ho hb))
   go_ret2
   exact ⟨rfl,B4.out⟩
  | some ns =>
   have HP:=Aside0.mk (show hasV l s=((getT t ns).isSome,true) by unfold hasV;rw [hv,hp])
   have VN:=Aside0.mk (VoPost.yes VO.out hv)
   have HL:=Aside0.mk (And.intro (pathV_len hp) (fun x hx=>Nat.le_trans (pathV_short hp x hx) (by decide:60≤1073741824)))
   obtain ⟨h1,h2,h3,h4,h5⟩:=valT_iff.1 hv
   have HW:=Aside0.mk (And.intro h2 (show cnt t≤1073741824 by omega))
   rw [hp] at PO
   rw [HP.out]
   clear hv VO hp h1 h2 h3 h4 h5
   cases hg:getT t ns with
   | none =>
    have HG:=Aside0.mk hg
    clear hg
    go_enter Tryz.func25,Tryz.ntmps25
    go_upto_region 1 with fail
    rw [←hW1,←hgb]
    clear hW1 hgb
    go_wp2_with (first | (go_at_call 67;(with_reducible refine VN.out.mono ?_);rintro e w3 ⟨g3,rfl,hb,hiv⟩;have B3:=Aside0.mk (below_step HB1.out hb);have V3:=Aside0.mk hiv;clear hb hiv) | (go_at_call 76;(with_reducible refine (PO.out _).mono ?_);rintro e w4 ⟨v4,rfl,ho,hb⟩;have ho:Kd.R Kd.string 9 w4 _ _ v4 ns:=ho;obtain ⟨A4,c4,rfl⟩:=Kd.R_slice ho;have B4:=Aside0.mk (below_step B3.out hb);have V4:=Aside0.mk (V3.out.below hb);have R4:=Aside0.mk (Kd.R_reads' ho).2.2;clear ho hb) | (go_at_call 77;(with_reducible refine (get_c t ns _ _ _ _ _ (HTT.out.below B4.out) (HEE.out.below B4.out) V4.out HW.out.1 HW.out.2 rfl (by have:=HL.out.1;omega) R4.out HL.out.2).mono ?_);rintro e w5 ⟨hq⟩;rw [HG.out] at hq;obtain ⟨rfl,hb⟩:=hq;have B5:=Aside0.mk (below_step B4.out hb);clear hb))
    go_ret2
    exact ⟨rfl,B5.out⟩
   | some u =>
    have HG:=Aside0.mk hg
    clear hg
    go_enter Tryz.func25,Tryz.ntmps25
    go_upto_region 1 with fail
    rw [←hW1,←hgb]
    clear hW1 hgb
    go_wp2_with (first | (go_at_call 67;(with_reducible refine VN.out.mono ?_);rintro e w3 ⟨g3,rfl,hb,hiv⟩;have B3:=Aside0.mk (below_step HB1.out hb);have V3:=Aside0.mk hiv;clear hb hiv) | (go_at_call 76;(with_reducible refine (PO.out _).mono ?_);rintro e w4 ⟨v4,rfl,ho,hb⟩;have ho:Kd.R Kd.string 9 w4 _ _ v4 ns:=ho;obtain ⟨A4,c4,rfl⟩:=Kd.R_slice ho;have B4:=Aside0.mk (below_step B3.out hb);have V4:=Aside0.mk (V3.out.below hb);have R4:=Aside0.mk (Kd.R_reads' ho).2.2;clear ho hb) | (go_at_call 77;(with_reducible refine (get_c t ns _ _ _ _ _ (HTT.out.below B4.out) (HEE.out.below B4.out) V4.out HW.out.1 HW.out.2 rfl (by have:=HL.out.1;omega) R4.out HL.out.2).mono ?_);rintro e w5 ⟨hq⟩;rw [HG.out] at hq;obtain ⟨⟨p5,rfl,hiv⟩,hb⟩:=hq;have B5:=Aside0.mk (below_step B4.out hb);clear hb hiv))
    go_ret2
    exact ⟨rfl,B5.out⟩
end Go.Proofs.YtoaafohpmhdjnaaGreatDoor.VT
