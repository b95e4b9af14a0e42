import Derived.Test.YtoaafohpmhdjnaaGreatDoorGAYPB
import Derived.Test.YtoaafohpmhdjnaaGreatDoorGAYPS
import Derived.Test.YtoaafohpmhdjnaaGreatDoorGAVTR
import Derived.Test.YtoaafohpmhdjnaaGreatDoorGAPVGx6
import Derived.Test.YtoaafohpmhdjnaaGreatDoorGAYGA
import Derived.Test.YtoaafohpmhdjnaaGreatDoorGAPVGx0
import Derived.Test.YtoaafohpmhdjnaaGreatDoorGAPVGx2
import Derived.Test.YtoaafohpmhdjnaaGreatDoorGAVPB
import Derived.Test.YtoaafohpmhdjnaaGreatDoorGAVTN
/- spec.GetAt walked. Conditions: the list is one whose texts are not too long. -/
namespace Go.Proofs.YtoaafohpmhdjnaaGreatDoor.VT
open Go.RowKit Go.Proofs.YtoaafohpmhdjnaaGreatDoor.RX Go.Proofs.YtoaafohpmhdjnaaGreatDoor.RY Go.Proofs.YtoaafohpmhdjnaaGreatDoor.PVG Go.Proofs.YtoaafohpmhdjnaaGreatDoorW.PrintWords Go.Proofs.YtoaafohpmhdjnaaGreatDoorW.PrintLast Go.Proofs.YtoaafohpmhdjnaaGreatDoorW.PrintMore
set_option linter.unusedVariables false
set_option linter.unusedSimpArgs false
theorem l1Of_tv {w0:World} {P:Nat→Prop} {u:Tr} {A3 A4:Option Addr} {c3 c4:Nat} (h:TV w0 P u A3 A4 c3 c4) (hf:fit u=true) (hn:cnt u≤1073741824) (w:World) (hb:Below w0.heap.size w0 w) :
  Calls Tryz.prog 78 #[.agg #[.int .i64 u.kd,.int .i64 u.nu,.string u.tx,.slice A3 u.ns.length c3,.slice A4 u.ks.length c4]] w fun e w'=>∃ v',e=.returned (.agg #[v'])∧Kd.R k107 107 w' w.heap.size (fun _=>True) v' (flat u nil_ (-1) 0)∧Below w.heap.size w w':=by
 have h3:=(Kd.V_reads' (Kd.V_below h.n hb)).2
 have h4:=Kd.V_below h.k hb
 rw [←toSL_len] at h4
 replace h4:=(Kd.V_reads' h4).2
 rw [←toSL_len]
 have:=l1Of_s (toS u) A3 c3 A4 c4 w (by cases u;exact h3.2) (by cases u;exact h3.1) (by cases u;exact h4.2) (by cases u;exact h4.1) (by rw [ofS_toS];exact hf) (by rw [ofS_toS];exact hn)
 rw [ofS_toS] at this
 cases u
 exact this
set_option maxRecDepth 100000 in
set_option maxHeartbeats 8000000 in
theorem getAt_s (l:List S107) (A:Option Addr) (c:Nat) (s:ByteArray) (w:World) (hS:Small l) (hr:Kd.C k107 w A l.length l) (hc:l.length≤c) :
  Calls Tryz.prog 26 #[.agg #[.slice A l.length c],.string s] w fun e w'=>∃ v',e=.returned (.tuple #[.agg #[v'],.bool (getV l s).2])∧Kd.R k107 107 w' w.heap.size (fun _=>True) v' (getV l s).1∧Below w.heap.size w w':=by
 obtain ⟨W1,hW1⟩:∃ W1,W1=w.alloc (.cells #[.slice A l.length c] 31):=⟨_,rfl⟩
 obtain ⟨W2,hW2⟩:∃ W2,W2=W1.alloc (.cells #[.slice none 0 0] 31):=⟨_,rfl⟩
 obtain ⟨gb,hgb⟩:∃ g,g=w.heap.size:=⟨_,rfl⟩
 obtain ⟨g0,hg0⟩:∃ g,g=w.heap.size+1:=⟨_,rfl⟩
 have hs1:W1.heap.size=w.heap.size+1:=by rw [hW1];simp
 have HB1:=Aside0.mk (show Below w.heap.size w W1 by rw [hW1];exact below_alloc (Below.refl _ _) _)
 have HB2:=Aside0.mk (below_step HB1.out (show Below W1.heap.size W1 W2 by rw [hW2];exact below_alloc (Below.refl _ _) _))
 have KB:=Aside0.mk (blk_below (show W1.heap[gb]? = some (.cells #[.slice A l.length c] 31 (0,0)) by rw [hW1,hgb];exact blk_new w _) (show Below W1.heap.size W1 W2 by rw [hW2];exact below_alloc (Below.refl _ _) _))
 have K0:=Aside0.mk (show W2.heap[g0]? = some (.cells #[.slice none 0 0] 31 (0,0)) by rw [hW2,hg0,←hs1];exact blk_new W1 _)
 have GE:=Aside0.mk (show w.heap.size≤g0 by rw [hg0];omega)
 have HR2:=Aside0.mk (Kd.C_below hr HB2.out)
 have HC:=Aside0.mk hc
 obtain ⟨kg,hkg⟩:=(good_ev hS).rounds
 have GV:=Aside0.mk (fun W hr=>spec_GoodValue.calls kg A c l (valT l).isSome W hr hc hkg)
 have PO:=Aside0.mk (fun W=>l3Path_c s W)
 clear hr hc hkg hS
 cases hv:valT l with
 | none =>
  have HP:=Aside0.mk (show getV l s=([],false) by unfold getV;rw [hv])
  rw [hv] at GV
  rw [HP.out]
  clear hv
  go_enter Tryz.func26,Tryz.ntmps26
  go_upto_region 1 with fail
  rw [←hW1,←hW2,←hg0,←hgb]
  clear hW1 hW2 hg0 hgb hs1
  go_wp2_with (first | (go_at_call 74;(with_reducible refine (PO.out _).mono ?_);rintro e w4 ⟨v4,rfl,ho,hb⟩;obtain ⟨A4,c4,rfl⟩:=Kd.R_slice ho;have B4:=Aside0.mk (below_step HB2.out hb);have K4:=Aside0.mk (blk_below K0.out hb);have KB4:=Aside0.mk (blk_below KB.out hb);have R4:=Aside0.mk (Kd.C_below HR2.out hb);have q0:w4.cell? ⟨gb,0,none⟩=some (.slice A l.length c):=(blk_cell KB4.out 0).trans rfl;clear ho hb) | (go_at_call 63;(refine (GV.out _ R4.out).mono ?_);rintro e w5 ⟨rfl,hb⟩;have B5:=Aside0.mk (below_step B4.out hb);have K5:=Aside0.mk (blk_below K4.out hb);have p0:w5.cell? ⟨g0,0,none⟩=some (.slice none 0 0):=(blk_cell K5.out 0).trans rfl;have fz:w5.frozen? ⟨g0,0,none⟩=false:=blk_frozen K5.out 0;clear hb))
  refine bodyPost_ret (results_ct rfl _ _ g0 31 #[.slice none 0 0] (0,0) _ rfl (by simpa using blk_set K5.out 0 (.slice none 0 0)) Tryz.underlying31 rfl (by kernel_rfl)) rfl ?_
  exact ⟨_,rfl,Kd.R_nil _ _ _ _ _,below_set B5.out GE.out⟩
 | some t =>
  rw [hv] at GV
  cases hp:pathV s with
  | none =>
   have HP:=Aside0.mk (show getV l s=([],false) by unfold getV;rw [hv,hp])
   rw [hp] at PO
   rw [HP.out]
   clear hv hp
   go_enter Tryz.func26,Tryz.ntmps26
   go_upto_region 1 with fail
   rw [←hW1,←hW2,←hg0,←hgb]
   clear hW1 hW2 hg0 hgb hs1
   go_wp2_with (first | (go_at_call 74;(with_reducible refine (PO.out _).mono ?_);rintro e w4 ⟨v4,rfl,ho,hb⟩;obtain ⟨A4,c4,rfl⟩:=Kd.R_slice ho;have B4:=Aside0.mk (below_step HB2.out hb);have K4:=Aside0.mk (blk_below K0.out hb);have KB4:=Aside0.mk (blk_below KB.out hb);have R4:=Aside0.mk (Kd.C_below HR2.out hb);have q0:w4.cell? ⟨gb,0,none⟩=some (.slice A l.length c):=(blk_cell KB4.out 0).trans rfl;clear ho hb) | (go_at_call 63;(refine (GV.out _ R4.out).mono ?_);rintro e w5 ⟨rfl,hb⟩;have B5:=Aside0.mk (below_step B4.out hb);have K5:=Aside0.mk (blk_below K4.out hb);have p0:w5.cell? ⟨g0,0,none⟩=some (.slice none 0 0):=(blk_cell K5.out 0).trans rfl;have fz:w5.frozen? ⟨g0,0,none⟩=false:=blk_frozen K5.out 0;clear hb))
   refine bodyPost_ret (results_ct rfl _ _ g0 31 #[.slice none 0 0] (0,0) _ rfl (by simpa using blk_set K5.out 0 (.slice none 0 0)) Tryz.underlying31 rfl (by kernel_rfl)) rfl ?_
   exact ⟨_,rfl,Kd.R_nil _ _ _ _ _,below_set B5.out GE.out⟩
  | some ns =>
   have HL:=Aside0.mk (pathV_len hp)
   obtain ⟨h1,h2,h3,h4,h5⟩:=valT_iff.1 hv
   have hpl:Pl l 0 t nil_ (-1):=by rw [h1];exact Pl.root h2 h4
   have TR:=Aside0.mk (fun W (hr:Kd.C k107 W A l.length l)=>l1Tree_0 hpl hr HC.out)
   have HW:=Aside0.mk (And.intro h2 (show cnt t≤1073741824 by omega))
   rw [hp] at PO
   cases hg:getT t ns with
   | none =>
    have HP:=Aside0.mk (show getV l s=([],false) by unfold getV;rw [hv,hp];show (match getT t ns with | some u=>_ | none=>_)=_;rw [hg])
    have HG:=Aside0.mk hg
    rw [HP.out]
    clear hv hp h1 h2 h3 h4 h5 hpl hg
    go_enter Tryz.func26,Tryz.ntmps26
    go_upto_region 1 with fail
    rw [←hW1,←hW2,←hg0,←hgb]
    clear hW1 hW2 hg0 hgb hs1
    go_upto_region 5 with (first | (go_at_call 74;(with_reducible refine (PO.out _).mono ?_);rintro e w4 ⟨v4,rfl,ho,hb⟩;have ho:Kd.R Kd.string 9 w4 _ _ v4 ns:=ho;obtain ⟨A4,c4,rfl⟩:=Kd.R_slice ho;have B4:=Aside0.mk (below_step HB2.out hb);have K4:=Aside0.mk (blk_below K0.out hb);have KB4:=Aside0.mk (blk_below KB.out hb);have R4:=Aside0.mk (Kd.C_below HR2.out hb);have q0:w4.cell? ⟨gb,0,none⟩=some (.slice A l.length c):=(blk_cell KB4.out 0).trans rfl;have N4:=Aside0.mk (Kd.R_reads' ho).2.2;clear ho hb) | (go_at_call 63;(refine (GV.out _ R4.out).mono ?_);rintro e w5 ⟨rfl,hb⟩;have B5:=Aside0.mk (below_step B4.out hb);have K5:=Aside0.mk (blk_below K4.out hb);have R5:=Aside0.mk (Kd.C_below R4.out hb);have N5:=Aside0.mk (Kd.C_below N4.out hb);have q1:w5.cell? ⟨gb,0,none⟩=some (.slice A l.length c):=(blk_cell (blk_below KB4.out hb) 0).trans rfl;clear hb) | (go_at_call 65;(refine (TR.out _ R5.out).mono ?_);rintro e w6 ⟨v3,v4,rfl,ha3,ha4,hb⟩;obtain ⟨A3,c3,rfl⟩:=Kd.R_slice ha3;obtain ⟨A6,c6,rfl⟩:=Kd.R_slice ha4;rw [toSL_len] at ha4 ⊢;have B6:=Aside0.mk (below_step B5.out hb);have K6:=Aside0.mk (blk_below K5.out hb);have N6:=Aside0.mk (Kd.C_below N5.out hb);have T6:=Aside0.mk (TV.mk (P:=fun _=>True) (Kd.V_mono (Kd.R_V (base':=w6.heap.size) ha3) (fun _ _=>trivial)) (Kd.V_mono (Kd.R_V (base':=w6.heap.size) ha4) (fun _ _=>trivial)));clear ha3 ha4 hb) | (go_at_call 75;(refine (l3Get_c t ns _ _ _ _ _ _ _ _ _ HW.out.1 HW.out.2 T6.out rfl (by have:=HL.out;omega) N6.out).mono ?_);rintro e w7 ⟨hq⟩;rw [HG.out] at hq;obtain ⟨rfl,hb⟩:=hq;have T67:=Aside0.mk hb;have B7:=Aside0.mk (below_step B6.out hb);have K7:=Aside0.mk (blk_below K6.out hb);clear hb) | ((with_reducible refine gate_dst (N:=8) rfl ?_);refine box_event ?hg (N:=8) ?hd (cs:=#[.int .i64 0,.int .i64 0,.string (⟨#[]⟩:ByteArray),.slice none 0 0,.slice none 0 0]) (t:=89) ?hr ?_;(case hd=>rfl);(case hg=>rfl);(case hr=>first | (go_simp;done) | (go_simp;rfl));intro g4 hg w8 hbox hb;have BW:=Aside0.mk hb;have B8:=Aside0.mk (below_step B7.out hb);have KX:=Aside0.mk hbox;have K8:=Aside0.mk (blk_below K7.out hb);have G8:=Aside0.mk (show w7.heap.size≤g4 by rw [hg];exact Nat.le_refl _);have z0:w8.cell? ⟨g4,0,none⟩=some (.int .i64 0):=(blk_cell hbox 0).trans rfl;have z1:w8.cell? ⟨g4,1,none⟩=some (.int .i64 0):=(blk_cell hbox 1).trans rfl;have z2:w8.cell? ⟨g4,2,none⟩=some (.string ⟨#[]⟩):=(blk_cell hbox 2).trans rfl;have z3:w8.cell? ⟨g4,3,none⟩=some (.slice none 0 0):=(blk_cell hbox 3).trans rfl;have z4:w8.cell? ⟨g4,4,none⟩=some (.slice none 0 0):=(blk_cell hbox 4).trans rfl;have f0:=blk_frozen hbox 0;have f1:=blk_frozen hbox 1;have f2:=blk_frozen hbox 2;have f3:=blk_frozen hbox 3;have f4:=blk_frozen hbox 4;clear hbox hb hg))
    clear z0 z1 z2 z3 z4 f0 f1 f2 f3 f4
    obtain ⟨W9,hW9⟩:∃ W9,W9=(((((w8.setCell ⟨g4,0,none⟩ (.int .i64 0)).setCell ⟨g4,1,none⟩ (.int .i64 0)).setCell ⟨g4,2,none⟩ (.string ⟨#[]⟩)).setCell ⟨g4,3,none⟩ (.slice none 0 0)).setCell ⟨g4,4,none⟩ (.slice none 0 0)):=⟨_,rfl⟩
    rw [←hW9]
    have B79:=Aside0.mk (show Below w7.heap.size w7 W9 by rw [hW9];exact below_put5 BW.out G8.out)
    have B9:=Aside0.mk (below_step B7.out B79.out)
    have K9:=Aside0.mk (show W9.heap[g4]? = some (.cells #[.int .i64 0,.int .i64 0,.string ⟨#[]⟩,.slice none 0 0,.slice none 0 0] 89 (0,0)) by rw [hW9];exact put5 KX.out)
    have K09:=Aside0.mk (blk_below K7.out B79.out)
    clear hW9
    have p0:W9.cell? ⟨g0,0,none⟩=some (.slice none 0 0):=(blk_cell K09.out 0).trans rfl
    have fz:W9.frozen? ⟨g0,0,none⟩=false:=blk_frozen K09.out 0
    go_wp2
    refine bodyPost_ret (results_ct rfl _ _ g0 31 #[.slice none 0 0] (0,0) _ rfl (by simpa using blk_set K09.out 0 (.slice none 0 0)) Tryz.underlying31 rfl (by kernel_rfl)) rfl ?_
    exact ⟨_,rfl,Kd.R_nil _ _ _ _ _,below_set B9.out GE.out⟩
   | some u =>
    have HP:=Aside0.mk (show getV l s=(flat u nil_ (-1) 0,true) by unfold getV;rw [hv,hp];show (match getT t ns with | some u=>_ | none=>_)=_;rw [hg])
    have HG:=Aside0.mk hg
    obtain ⟨g1,g2⟩:=getT_wf ns t u h2 hg
    have FU:=Aside0.mk (wf_fit u g1)
    have CU:=Aside0.mk (show cnt u≤1073741824 by omega)
    rw [HP.out]
    clear hv hp h1 h2 h3 h4 h5 hpl hg g1 g2
    go_enter Tryz.func26,Tryz.ntmps26
    go_upto_region 1 with fail
    rw [←hW1,←hW2,←hg0,←hgb]
    clear hW1 hW2 hg0 hgb hs1
    go_upto_region 5 with (first | (go_at_call 74;(with_reducible refine (PO.out _).mono ?_);rintro e w4 ⟨v4,rfl,ho,hb⟩;have ho:Kd.R Kd.string 9 w4 _ _ v4 ns:=ho;obtain ⟨A4,c4,rfl⟩:=Kd.R_slice ho;have B4:=Aside0.mk (below_step HB2.out hb);have K4:=Aside0.mk (blk_below K0.out hb);have KB4:=Aside0.mk (blk_below KB.out hb);have R4:=Aside0.mk (Kd.C_below HR2.out hb);have q0:w4.cell? ⟨gb,0,none⟩=some (.slice A l.length c):=(blk_cell KB4.out 0).trans rfl;have N4:=Aside0.mk (Kd.R_reads' ho).2.2;clear ho hb) | (go_at_call 63;(refine (GV.out _ R4.out).mono ?_);rintro e w5 ⟨rfl,hb⟩;have B5:=Aside0.mk (below_step B4.out hb);have K5:=Aside0.mk (blk_below K4.out hb);have R5:=Aside0.mk (Kd.C_below R4.out hb);have N5:=Aside0.mk (Kd.C_below N4.out hb);have q1:w5.cell? ⟨gb,0,none⟩=some (.slice A l.length c):=(blk_cell (blk_below KB4.out hb) 0).trans rfl;clear hb) | (go_at_call 65;(refine (TR.out _ R5.out).mono ?_);rintro e w6 ⟨v3,v4,rfl,ha3,ha4,hb⟩;obtain ⟨A3,c3,rfl⟩:=Kd.R_slice ha3;obtain ⟨A6,c6,rfl⟩:=Kd.R_slice ha4;rw [toSL_len] at ha4 ⊢;have B6:=Aside0.mk (below_step B5.out hb);have K6:=Aside0.mk (blk_below K5.out hb);have N6:=Aside0.mk (Kd.C_below N5.out hb);have T6:=Aside0.mk (TV.mk (P:=fun _=>True) (Kd.V_mono (Kd.R_V (base':=w6.heap.size) ha3) (fun _ _=>trivial)) (Kd.V_mono (Kd.R_V (base':=w6.heap.size) ha4) (fun _ _=>trivial)));clear ha3 ha4 hb) | (go_at_call 75;(refine (l3Get_c t ns _ _ _ _ _ _ _ _ _ HW.out.1 HW.out.2 T6.out rfl (by have:=HL.out;omega) N6.out).mono ?_);rintro e w7 ⟨hq⟩;rw [HG.out] at hq;obtain ⟨⟨E3,E4,e3,e4,rfl,hTV⟩,hb⟩:=hq;have TV7:=Aside0.mk hTV;unfold rec5;clear hTV;have T67:=Aside0.mk hb;have B7:=Aside0.mk (below_step B6.out hb);have K7:=Aside0.mk (blk_below K6.out hb);clear hb) | ((with_reducible refine gate_dst (N:=8) rfl ?_);refine box_event ?hg (N:=8) ?hd (cs:=#[.int .i64 0,.int .i64 0,.string (⟨#[]⟩:ByteArray),.slice none 0 0,.slice none 0 0]) (t:=89) ?hr ?_;(case hd=>rfl);(case hg=>rfl);(case hr=>first | (go_simp;done) | (go_simp;rfl));intro g4 hg w8 hbox hb;have BW:=Aside0.mk hb;have B8:=Aside0.mk (below_step B7.out hb);have KX:=Aside0.mk hbox;have K8:=Aside0.mk (blk_below K7.out hb);have G8:=Aside0.mk (show w7.heap.size≤g4 by rw [hg];exact Nat.le_refl _);have z0:w8.cell? ⟨g4,0,none⟩=some (.int .i64 0):=(blk_cell hbox 0).trans rfl;have z1:w8.cell? ⟨g4,1,none⟩=some (.int .i64 0):=(blk_cell hbox 1).trans rfl;have z2:w8.cell? ⟨g4,2,none⟩=some (.string ⟨#[]⟩):=(blk_cell hbox 2).trans rfl;have z3:w8.cell? ⟨g4,3,none⟩=some (.slice none 0 0):=(blk_cell hbox 3).trans rfl;have z4:w8.cell? ⟨g4,4,none⟩=some (.slice none 0 0):=(blk_cell hbox 4).trans rfl;have f0:=blk_frozen hbox 0;have f1:=blk_frozen hbox 1;have f2:=blk_frozen hbox 2;have f3:=blk_frozen hbox 3;have f4:=blk_frozen hbox 4;clear hbox hb hg))
    clear z0 z1 z2 z3 z4 f0 f1 f2 f3 f4
    obtain ⟨W9,hW9⟩:∃ W9,W9=(((((w8.setCell ⟨g4,0,none⟩ (.int .i64 u.kd)).setCell ⟨g4,1,none⟩ (.int .i64 u.nu)).setCell ⟨g4,2,none⟩ (.string u.tx)).setCell ⟨g4,3,none⟩ (.slice E3 u.ns.length e3)).setCell ⟨g4,4,none⟩ (.slice E4 u.ks.length e4)):=⟨_,rfl⟩
    rw [←hW9]
    have B79:=Aside0.mk (show Below w7.heap.size w7 W9 by rw [hW9];exact below_put5 BW.out G8.out)
    have B9:=Aside0.mk (below_step B7.out B79.out)
    have K9:=Aside0.mk (show W9.heap[g4]? = some (.cells #[.int .i64 u.kd,.int .i64 u.nu,.string u.tx,.slice E3 u.ns.length e3,.slice E4 u.ks.length e4] 89 (0,0)) by rw [hW9];exact put5 KX.out)
    have K09:=Aside0.mk (blk_below K7.out B79.out)
    clear hW9
    have OF:=Aside0.mk (l1Of_tv TV7.out FU.out CU.out W9 (below_step T67.out B79.out))
    have y0:W9.cell? ⟨g4,0,none⟩=some (.int .i64 u.kd):=(blk_cell K9.out 0).trans rfl
    have y1:W9.cell? ⟨g4,1,none⟩=some (.int .i64 u.nu):=(blk_cell K9.out 1).trans rfl
    have y2:W9.cell? ⟨g4,2,none⟩=some (.string u.tx):=(blk_cell K9.out 2).trans rfl
    have y3:W9.cell? ⟨g4,3,none⟩=some (.slice E3 u.ns.length e3):=(blk_cell K9.out 3).trans rfl
    have y4:W9.cell? ⟨g4,4,none⟩=some (.slice E4 u.ks.length e4):=(blk_cell K9.out 4).trans rfl
    go_wp2_with (first | (go_at_call 78;(refine OF.out.mono ?_);rintro e w10 ⟨v10,rfl,ho,hb⟩;obtain ⟨A10,c10,rfl⟩:=Kd.R_slice ho;obtain ⟨n10,hn10⟩:∃ n,n=(flat u nil_ (-1) 0).length:=⟨_,rfl⟩;rw [←hn10] at ho ⊢;have R10:=Aside0.mk ho;have B10:=Aside0.mk hb;have K10:=Aside0.mk (blk_below K09.out hb);have p0:w10.cell? ⟨g0,0,none⟩=some (.slice none 0 0):=(blk_cell K10.out 0).trans rfl;have fz:w10.frozen? ⟨g0,0,none⟩=false:=blk_frozen K10.out 0;clear ho hb hn10))
    refine bodyPost_ret (results_ct rfl _ _ g0 31 #[.slice A10 n10 c10] (0,0) _ rfl (by simpa using blk_set K10.out 0 (.slice A10 n10 c10)) Tryz.underlying31 rfl (by kernel_rfl)) rfl ?_
    refine ⟨_,rfl,?_,below_set (below_step B9.out B10.out) GE.out⟩
    exact Kd.R_lower (Kd.R_mono (Kd.R_far (Kd.R_types R10.out K10.out (by decide)) (fun k hk=>hk.2) _) (fun _ _=>trivial)) B9.out.size
end Go.Proofs.YtoaafohpmhdjnaaGreatDoor.VT
