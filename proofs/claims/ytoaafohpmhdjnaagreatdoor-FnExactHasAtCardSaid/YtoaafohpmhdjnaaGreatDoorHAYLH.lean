import Derived.Test.YtoaafohpmhdjnaaGreatDoorHAYLF
import Derived.Test.YtoaafohpmhdjnaaGreatDoorHAYLD
import Derived.Test.YtoaafohpmhdjnaaGreatDoorHAYPS
import Derived.Test.YtoaafohpmhdjnaaGreatDoorHAVTR
import Derived.Test.YtoaafohpmhdjnaaGreatDoorHAPVGx6
import Derived.Test.YtoaafohpmhdjnaaGreatDoorHAVLB
/- spec.HasAt walked. Conditions: the list is one whose texts are not too long. -/
namespace Go.Proofs.YtoaafohpmhdjnaaGreatDoor.VT
open Go.RowKit Go.Proofs.YtoaafohpmhdjnaaGreatDoor.RX Go.Proofs.YtoaafohpmhdjnaaGreatDoor.RY Go.Proofs.YtoaafohpmhdjnaaGreatDoor.PVG Go.Proofs.YtoaafohpmhdjnaaGreatDoorW.PrintWords Go.Proofs.YtoaafohpmhdjnaaGreatDoorW.PrintLast Go.Proofs.YtoaafohpmhdjnaaGreatDoorW.PrintMore
set_option linter.unusedVariables false
set_option linter.unusedSimpArgs false
set_option maxRecDepth 100000 in
set_option maxHeartbeats 8000000 in
theorem hasAt_s (l:List S107) (A:Option Addr) (c:Nat) (s:ByteArray) (w:World) (hS:Small l) (hr:Kd.C k107 w A l.length l) (hc:l.length≤c) :
  Calls Tryz.prog 24 #[.agg #[.slice A l.length c],.string s] w fun e w'=>e=.returned (.tuple #[.bool (hasV l s).1,.bool (hasV l s).2])∧Below w.heap.size w w':=by
 obtain ⟨W1,hW1⟩:∃ W1,W1=w.alloc (.cells #[.slice A l.length c] 31):=⟨_,rfl⟩
 obtain ⟨gb,hgb⟩:∃ g,g=w.heap.size:=⟨_,rfl⟩
 have HB1:=Aside0.mk (show Below w.heap.size w W1 by rw [hW1];exact below_alloc (Below.refl _ _) _)
 have KB:=Aside0.mk (show W1.heap[gb]? = some (.cells #[.slice A l.length c] 31 (0,0)) by rw [hW1,hgb];exact blk_new w _)
 have HR1:=Aside0.mk (Kd.C_below hr HB1.out)
 have HC:=Aside0.mk hc
 obtain ⟨kg,hkg⟩:=(good_ev hS).rounds
 have GV:=Aside0.mk (fun W hr=>spec_GoodValue.calls kg A c l (valT l).isSome W hr hc hkg)
 have PO:=Aside0.mk (fun W=>l3Path_c s W)
 clear hr hc hkg hS
 cases hv:valT l with
 | none =>
  have HP:=Aside0.mk (show hasV l s=(false,false) by unfold hasV;rw [hv])
  rw [hv] at GV
  rw [HP.out]
  clear hv
  go_enter Tryz.func24,Tryz.ntmps24
  go_upto_region 1 with fail
  rw [←hW1,←hgb]
  clear hW1 hgb
  go_wp2_with (first | (go_at_call 74;(with_reducible refine (PO.out _).mono ?_);rintro e w4 ⟨v4,rfl,ho,hb⟩;obtain ⟨A4,c4,rfl⟩:=Kd.R_slice ho;have B4:=Aside0.mk (below_step HB1.out hb);have R4:=Aside0.mk (Kd.C_below HR1.out hb);have q0:w4.cell? ⟨gb,0,none⟩=some (.slice A l.length c):=(blk_cell (blk_below KB.out hb) 0).trans rfl;clear ho hb) | (go_at_call 63;(refine (GV.out _ R4.out).mono ?_);rintro e w5 ⟨rfl,hb⟩;have B5:=Aside0.mk (below_step B4.out hb);clear hb))
  go_ret2
  exact ⟨rfl,B5.out⟩
 | some t =>
  rw [hv] at GV
  cases hp:pathV s with
  | none =>
   have HP:=Aside0.mk (show hasV l s=(false,false) by unfold hasV;rw [hv,hp])
   rw [hp] at PO
   rw [HP.out]
   clear hv hp
   go_enter Tryz.func24,Tryz.ntmps24
   go_upto_region 1 with fail
   rw [←hW1,←hgb]
   clear hW1 hgb
   go_wp2_with (first | (go_at_call 74;(with_reducible refine (PO.out _).mono ?_);rintro e w4 ⟨v4,rfl,ho,hb⟩;obtain ⟨A4,c4,rfl⟩:=Kd.R_slice ho;have B4:=Aside0.mk (below_step HB1.out hb);have R4:=Aside0.mk (Kd.C_below HR1.out hb);have q0:w4.cell? ⟨gb,0,none⟩=some (.slice A l.length c):=(blk_cell (blk_below KB.out hb) 0).trans rfl;clear ho hb) | (go_at_call 63;(refine (GV.out _ R4.out).mono ?_);rintro e w5 ⟨rfl,hb⟩;have B5:=Aside0.mk (below_step B4.out hb);clear hb))
   go_ret2
   exact ⟨rfl,B5.out⟩
  | some ns =>
   have HP:=Aside0.mk (show hasV l s=((getT t ns).isSome,true) by unfold hasV;rw [hv,hp])
   have HL:=Aside0.mk (pathV_len hp)
   obtain ⟨h1,h2,h3,h4,h5⟩:=valT_iff.1 hv
   have hpl:Pl l 0 t nil_ (-1):=by rw [h1];exact Pl.root h2 h4
   have TR:=Aside0.mk (fun W (hr:Kd.C k107 W A l.length l)=>l1Tree_0 hpl hr HC.out)
   have HW:=Aside0.mk (And.intro h2 (show cnt t≤1073741824 by omega))
   rw [hp] at PO
   rw [HP.out]
   clear hv hp h1 h2 h3 h4 h5 hpl
   cases hg:getT t ns with
   | none =>
    have HG:=Aside0.mk hg
    clear hg
    go_enter Tryz.func24,Tryz.ntmps24
    go_upto_region 1 with fail
    rw [←hW1,←hgb]
    clear hW1 hgb
    go_upto_region 5 with (first | (go_at_call 74;(with_reducible refine (PO.out _).mono ?_);rintro e w4 ⟨v4,rfl,ho,hb⟩;have ho:Kd.R Kd.string 9 w4 _ _ v4 ns:=ho;obtain ⟨A4,c4,rfl⟩:=Kd.R_slice ho;have B4:=Aside0.mk (below_step HB1.out hb);have R4:=Aside0.mk (Kd.C_below HR1.out hb);have N4:=Aside0.mk (Kd.R_reads' ho).2.2;have KB4:=Aside0.mk (blk_below KB.out hb);have q0:w4.cell? ⟨gb,0,none⟩=some (.slice A l.length c):=(blk_cell KB4.out 0).trans rfl;clear ho hb) | (go_at_call 63;(refine (GV.out _ R4.out).mono ?_);rintro e w5 ⟨rfl,hb⟩;have B5:=Aside0.mk (below_step B4.out hb);have R5:=Aside0.mk (Kd.C_below R4.out hb);have N5:=Aside0.mk (Kd.C_below N4.out hb);have q1:w5.cell? ⟨gb,0,none⟩=some (.slice A l.length c):=(blk_cell (blk_below KB4.out hb) 0).trans rfl;clear hb) | (go_at_call 65;(refine (TR.out _ R5.out).mono ?_);rintro e w6 ⟨v3,v4,rfl,ha3,ha4,hb⟩;obtain ⟨A3,c3,rfl⟩:=Kd.R_slice ha3;obtain ⟨A6,c6,rfl⟩:=Kd.R_slice ha4;rw [toSL_len] at ha4 ⊢;have B6:=Aside0.mk (below_step B5.out hb);have N6:=Aside0.mk (Kd.C_below N5.out hb);have T6:=Aside0.mk (TV.mk (P:=fun _=>True) (Kd.V_mono (Kd.R_V (base':=w6.heap.size) ha3) (fun _ _=>trivial)) (Kd.V_mono (Kd.R_V (base':=w6.heap.size) ha4) (fun _ _=>trivial)));clear ha3 ha4 hb) | (go_at_call 75;(refine (l3Get_c t ns _ _ _ _ _ _ _ _ _ HW.out.1 HW.out.2 T6.out rfl (by have:=HL.out;omega) N6.out).mono ?_);rintro e w7 ⟨hq⟩;rw [HG.out] at hq;obtain ⟨rfl,hb⟩:=hq;have B7:=Aside0.mk (below_step B6.out hb);clear hb) | ((with_reducible refine gate_dst (N:=8) rfl ?_);refine box_event ?hg (N:=8) ?hd (cs:=#[.int .i64 0,.int .i64 0,.string (⟨#[]⟩:ByteArray),.slice none 0 0,.slice none 0 0]) (t:=89) ?hr ?_;(case hd=>rfl);(case hg=>rfl);(case hr=>first | (go_simp;done) | (go_simp;rfl));intro g4 hg w8 hbox hb;have B8:=Aside0.mk (below_step B7.out hb);have K8:=Aside0.mk hbox;have G8:=Aside0.mk hg;have z0:w8.cell? ⟨g4,0,none⟩=some (.int .i64 0):=(blk_cell hbox 0).trans rfl;have z1:w8.cell? ⟨g4,1,none⟩=some (.int .i64 0):=(blk_cell hbox 1).trans rfl;have z2:w8.cell? ⟨g4,2,none⟩=some (.string ⟨#[]⟩):=(blk_cell hbox 2).trans rfl;have z3:w8.cell? ⟨g4,3,none⟩=some (.slice none 0 0):=(blk_cell hbox 3).trans rfl;have z4:w8.cell? ⟨g4,4,none⟩=some (.slice none 0 0):=(blk_cell hbox 4).trans rfl;have f0:=blk_frozen hbox 0;have f1:=blk_frozen hbox 1;have f2:=blk_frozen hbox 2;have f3:=blk_frozen hbox 3;have f4:=blk_frozen hbox 4;clear hbox hb hg))
    go_wp2
    go_ret2
    exact ⟨rfl,below_put5 B8.out (by rw [G8.out];exact B7.out.size)⟩
   | some u =>
    have HG:=Aside0.mk hg
    clear hg
    go_enter Tryz.func24,Tryz.ntmps24
    go_upto_region 1 with fail
    rw [←hW1,←hgb]
    clear hW1 hgb
    go_upto_region 5 with (first | (go_at_call 74;(with_reducible refine (PO.out _).mono ?_);rintro e w4 ⟨v4,rfl,ho,hb⟩;have ho:Kd.R Kd.string 9 w4 _ _ v4 ns:=ho;obtain ⟨A4,c4,rfl⟩:=Kd.R_slice ho;have B4:=Aside0.mk (below_step HB1.out hb);have R4:=Aside0.mk (Kd.C_below HR1.out hb);have N4:=Aside0.mk (Kd.R_reads' ho).2.2;have KB4:=Aside0.mk (blk_below KB.out hb);have q0:w4.cell? ⟨gb,0,none⟩=some (.slice A l.length c):=(blk_cell KB4.out 0).trans rfl;clear ho hb) | (go_at_call 63;(refine (GV.out _ R4.out).mono ?_);rintro e w5 ⟨rfl,hb⟩;have B5:=Aside0.mk (below_step B4.out hb);have R5:=Aside0.mk (Kd.C_below R4.out hb);have N5:=Aside0.mk (Kd.C_below N4.out hb);have q1:w5.cell? ⟨gb,0,none⟩=some (.slice A l.length c):=(blk_cell (blk_below KB4.out hb) 0).trans rfl;clear hb) | (go_at_call 65;(refine (TR.out _ R5.out).mono ?_);rintro e w6 ⟨v3,v4,rfl,ha3,ha4,hb⟩;obtain ⟨A3,c3,rfl⟩:=Kd.R_slice ha3;obtain ⟨A6,c6,rfl⟩:=Kd.R_slice ha4;rw [toSL_len] at ha4 ⊢;have B6:=Aside0.mk (below_step B5.out hb);have N6:=Aside0.mk (Kd.C_below N5.out hb);have T6:=Aside0.mk (TV.mk (P:=fun _=>True) (Kd.V_mono (Kd.R_V (base':=w6.heap.size) ha3) (fun _ _=>trivial)) (Kd.V_mono (Kd.R_V (base':=w6.heap.size) ha4) (fun _ _=>trivial)));clear ha3 ha4 hb) | (go_at_call 75;(refine (l3Get_c t ns _ _ _ _ _ _ _ _ _ HW.out.1 HW.out.2 T6.out rfl (by have:=HL.out;omega) N6.out).mono ?_);rintro e w7 ⟨hq⟩;rw [HG.out] at hq;obtain ⟨⟨E3,E4,e3,e4,rfl,hTV⟩,hb⟩:=hq;unfold rec5;clear hTV;have B7:=Aside0.mk (below_step B6.out hb);clear hb) | ((with_reducible refine gate_dst (N:=8) rfl ?_);refine box_event ?hg (N:=8) ?hd (cs:=#[.int .i64 0,.int .i64 0,.string (⟨#[]⟩:ByteArray),.slice none 0 0,.slice none 0 0]) (t:=89) ?hr ?_;(case hd=>rfl);(case hg=>rfl);(case hr=>first | (go_simp;done) | (go_simp;rfl));intro g4 hg w8 hbox hb;have B8:=Aside0.mk (below_step B7.out hb);have K8:=Aside0.mk hbox;have G8:=Aside0.mk hg;have z0:w8.cell? ⟨g4,0,none⟩=some (.int .i64 0):=(blk_cell hbox 0).trans rfl;have z1:w8.cell? ⟨g4,1,none⟩=some (.int .i64 0):=(blk_cell hbox 1).trans rfl;have z2:w8.cell? ⟨g4,2,none⟩=some (.string ⟨#[]⟩):=(blk_cell hbox 2).trans rfl;have z3:w8.cell? ⟨g4,3,none⟩=some (.slice none 0 0):=(blk_cell hbox 3).trans rfl;have z4:w8.cell? ⟨g4,4,none⟩=some (.slice none 0 0):=(blk_cell hbox 4).trans rfl;have f0:=blk_frozen hbox 0;have f1:=blk_frozen hbox 1;have f2:=blk_frozen hbox 2;have f3:=blk_frozen hbox 3;have f4:=blk_frozen hbox 4;clear hbox hb hg))
    go_wp2
    go_ret2
    exact ⟨rfl,below_put5 B8.out (by rw [G8.out];exact B7.out.size)⟩
end Go.Proofs.YtoaafohpmhdjnaaGreatDoor.VT
namespace Go.Proofs.YtoaafohpmhdjnaaGreatDoor.VT
open Go.RowKit Go.Proofs.YtoaafohpmhdjnaaGreatDoor.RX Go.Proofs.YtoaafohpmhdjnaaGreatDoor.RY Go.Proofs.YtoaafohpmhdjnaaGreatDoor.PVG Go.Proofs.YtoaafohpmhdjnaaGreatDoorW.PrintWords Go.Proofs.YtoaafohpmhdjnaaGreatDoorW.PrintLast Go.Proofs.YtoaafohpmhdjnaaGreatDoorW.PrintMore
set_option linter.unusedVariables false
set_option linter.unusedSimpArgs false
set_option maxRecDepth 100000 in
set_option maxHeartbeats 4000000 in
theorem has_long (A:Option Addr) (c:Nat) (l:List S136) (x:ByteArray) (w:World) (hx:1048576 < x.size):Calls Tryz.prog 4 #[.agg #[.slice A l.length c],.string x] w fun e w'=>e=.returned (.bool true)∧Below w.heap.size w w':=by
 have hd:decide ((x.size:Int) > 1048576)=true:=decide_eq_true (by omega)
 have HB1:=Aside0.mk (below_alloc (Below.refl w.heap.size w) (.cells #[.slice A l.length c] 24))
 go_enter Tryz.func4,Tryz.ntmps4
 go_wp2
 go_ret
 exact ⟨rfl,HB1.out⟩
set_option maxRecDepth 100000 in
set_option maxHeartbeats 4000000 in
theorem has_law (A:Option Addr) (c:Nat) (l:List S136) (x:ByteArray) (w:World) (ht:HT w∧HE w) (hf:Fits l) (hr:Kd.C k136 w A l.length l) (hc:l.length≤c):Calls Tryz.prog 4 #[.agg #[.slice A l.length c],.string x] w fun e w'=>e=.returned (.bool true)∧Below w.heap.size w w':=by
 by_cases hx:1048576 < x.size
 ·exact has_long A c l x w hx
 have hd:decide ((x.size:Int) > 1048576)=false:=decide_eq_false (by omega)
 clear hx
 have HTT:=Aside0.mk ht
 have HR:=Aside0.mk hr
 have HC:=Aside0.mk hc
 obtain ⟨r,hr2,hz⟩:=sz_c hf
 have HZ:=Aside0.mk hz
 have HB1:=Aside0.mk (below_alloc (Below.refl w.heap.size w) (.cells #[.slice A l.length c] 24))
 have K1:=Aside0.mk (blk_new w (.cells #[.slice A l.length c] 24))
 clear ht hr hc hz
 cases hr0:decide (r < 0) with
 | true =>
  clear hr2
  go_enter Tryz.func4,Tryz.ntmps4
  go_wp2_with (first | (go_at_call 15;(with_reducible refine (HZ.out A c _ (Kd.C_alloc HR.out _) HC.out).mono ?_);rintro e w2 ⟨rfl,hb⟩;have HB2:=Aside0.mk (below_step HB1.out hb);clear hb))
  go_ret
  exact ⟨rfl,HB2.out⟩
 | false =>
  obtain ⟨hS,hL⟩:=hr2 (by simpa using hr0)
  have SM:=Aside0.mk hS
  have LL:=Aside0.mk hL
  have LT:=Aside0.mk (show (tov l).length≤1048576 by rw [tov_len];exact hL)
  obtain ⟨s,hs⟩:∃ s,(hasV (tov l) x).1=s:=⟨_,rfl⟩
  obtain ⟨g,hg⟩:∃ g,(hasV (tov l) x).2=g:=⟨_,rfl⟩
  have SC:=Aside0.mk (show ∀ (B:Option Addr) (d:Nat) (W:World),Kd.C k107 W B (tov l).length (tov l)→(tov l).length≤d→Calls Tryz.prog 24 #[.agg #[.slice B (tov l).length d],.string x] W fun e w'=>e=.returned (.tuple #[.bool s,.bool g])∧Below W.heap.size W w' from
   fun B d W h1 h2=>by rw [←hs,←hg];exact hasAt_s (tov l) B d x W SM.out h1 h2)
  have IC:=Aside0.mk (show ∀ (B:Option Addr) (d:Nat) (W:World),Below w.heap.size w W→Kd.C k107 W B (tov l).length (tov l)→(tov l).length≤d→Calls Tryz.prog 25 #[.agg #[.slice B (tov l).length d],.string x] W fun e w'=>e=.returned (.tuple #[.bool s,.bool g])∧Below W.heap.size W w' from
   fun B d W h0 h1 h2=>by rw [←hs,←hg];exact hasAt_c (tov l) B d x W (HTT.out.1.below h0) (HTT.out.2.below h0) h1 h2)
  clear hS hL hr2 hs hg
  go_enter Tryz.func4,Tryz.ntmps4
  go_upto_region 7 with (first | (go_at_call 15;(with_reducible refine (HZ.out A c _ (Kd.C_alloc HR.out _) HC.out).mono ?_);rintro e w2 ⟨rfl,hb⟩;have HB2:=Aside0.mk (below_step HB1.out hb);have K2:=Aside0.mk (blk_below K1.out hb);have p0:w2.cell? ⟨w.heap.size,0,none⟩=some (.slice A l.length c):=(blk_cell K2.out 0).trans rfl;clear hb))
  go_upto_region 8 with (first | (go_at_call 17;(with_reducible refine (to_c LL.out A c _ (Kd.C_below HR.out HB2.out) HC.out).mono ?_);rintro e w3 ⟨B3,d3,rfl,e3,R3,hb⟩;have E3:=Aside0.mk e3;have RR3:=Aside0.mk R3;have HB3:=Aside0.mk (below_step HB2.out hb);have K3:=Aside0.mk (blk_below K2.out hb);clear e3 R3 hb) | (go_at_call 24;(with_reducible refine (SC.out B3 d3 _ RR3.out E3.out).mono ?_);rintro e w4 ⟨rfl,hb⟩;have HB4:=Aside0.mk (below_step HB3.out hb);have K4:=Aside0.mk (blk_below K3.out hb);have p1:w4.cell? ⟨w.heap.size,0,none⟩=some (.slice A l.length c):=(blk_cell K4.out 0).trans rfl;clear hb))
  go_upto_region 9 with (first | (go_at_call 17;(with_reducible refine (to_c LL.out A c _ (Kd.C_below HR.out HB4.out) HC.out).mono ?_);rintro e w5 ⟨B5,d5,rfl,e5,R5,hb⟩;have E5:=Aside0.mk e5;have RR5:=Aside0.mk R5;have HB5:=Aside0.mk (below_step HB4.out hb);have K5:=Aside0.mk (blk_below K4.out hb);clear e5 R5 hb))
  obtain ⟨W6,hW6⟩:∃ W6,W6=w5.alloc (.cells #[.slice B5 (tov l).length d5] 31):=⟨_,rfl⟩
  obtain ⟨gb,hgb⟩:∃ gb,gb=w5.heap.size:=⟨_,rfl⟩
  have hal:Below w5.heap.size w5 W6:=by rw [hW6];exact below_alloc (Below.refl _ _) _
  have HB6:=Aside0.mk (below_step HB5.out hal)
  have RR6:=Aside0.mk (Kd.C_below RR5.out hal)
  have K6:=Aside0.mk (blk_below K5.out hal)
  have G6:=Aside0.mk (show W6.heap[gb]? = some (.cells #[.slice B5 (tov l).length d5] 31 (0,0)) by rw [hW6,hgb];exact blk_new w5 _)
  rw [←hW6,←hgb]
  clear hal hW6 hgb p0 p1
  have p0:W6.cell? ⟨gb,0,none⟩=some (.slice B5 (tov l).length d5):=(blk_cell G6.out 0).trans rfl
  go_upto_region 10 with (first | (go_at_call 25;(with_reducible refine (IC.out B5 d5 _ HB6.out RR6.out E5.out).mono ?_);rintro e w7 ⟨rfl,hb⟩;have HB7:=Aside0.mk (below_step HB6.out hb);have RR7:=Aside0.mk (Kd.C_below RR6.out hb);have K7:=Aside0.mk (blk_below K6.out hb);have G7:=Aside0.mk (blk_below G6.out hb);have p1:w7.cell? ⟨gb,0,none⟩=some (.slice B5 (tov l).length d5):=(blk_cell G7.out 0).trans rfl;have p2:w7.cell? ⟨w.heap.size,0,none⟩=some (.slice A l.length c):=(blk_cell K7.out 0).trans rfl;clear hb))
  clear p0
  cases s <;> cases g
  all_goals
   go_upto_region 12 with fail
   go_region_held3 (fun w'=>w'.cell? ⟨gb,0,none⟩=some (.slice B5 (tov l).length d5)∧w'.cell? ⟨w.heap.size,0,none⟩=some (.slice A l.length c)) (go_keep) (first | (go_at_call 17;(with_reducible refine (to_c LL.out A c _ (Kd.C_below HR.out (below_drew1 HB7.out)) HC.out).mono ?_);rintro e w8 ⟨B8,d8,rfl,e8,R8,hb⟩;have E8:=Aside0.mk e8;have RR8:=Aside0.mk R8;have HB8:=Aside0.mk (below_step (below_drew1 HB7.out) hb);have RX8:=Aside0.mk (Kd.C_below RR7.out ((below_drew1 (Below.refl _ _)).trans hb));have K8:=Aside0.mk (blk_below (blk_drewN K7.out _) hb);have G8:=Aside0.mk (blk_below (blk_drewN G7.out _) hb);clear e8 R8 hb;have z0:w8.cell? ⟨gb,0,none⟩=some (.slice B5 (tov l).length d5):=(blk_cell G8.out 0).trans rfl;have z1:w8.cell? ⟨w.heap.size,0,none⟩=some (.slice A l.length c):=(blk_cell K8.out 0).trans rfl) | (go_at_call 20;(with_reducible refine (eq_c LT.out B5 d5 B8 d8 _ RX8.out E5.out RR8.out E8.out).mono ?_);rintro e w9 ⟨rfl,hb⟩;have HB9:=Aside0.mk (below_step HB8.out hb);have y0:w9.cell? ⟨gb,0,none⟩=some (.slice B5 (tov l).length d5):=(blk_cell (blk_below G8.out hb) 0).trans rfl;have y1:w9.cell? ⟨w.heap.size,0,none⟩=some (.slice A l.length c):=(blk_cell (blk_below K8.out hb) 0).trans rfl;clear hb))
   all_goals
    go_wp2_with fail
    go_ret
    exact ⟨rfl,HB9.out⟩
end Go.Proofs.YtoaafohpmhdjnaaGreatDoor.VT
