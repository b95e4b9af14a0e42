import Derived.Test.YtoaafohpmhdjnaaGreatDoorGAVLV
import Derived.Test.YtoaafohpmhdjnaaGreatDoorGAVIQ
import Derived.Test.YtoaafohpmhdjnaaGreatDoorGAYGA
import Derived.Test.YtoaafohpmhdjnaaGreatDoorGAPVGx0
import Derived.Test.YtoaafohpmhdjnaaGreatDoorGAPVGx2
import Derived.Test.YtoaafohpmhdjnaaGreatDoorGAPVGx6
import Derived.Test.YtoaafohpmhdjnaaGreatDoorGAVPB
import Derived.Test.YtoaafohpmhdjnaaGreatDoorGAYMA
/- What a function from value and text to value and truth answers. Conditions: none. -/
namespace Go.Proofs.YtoaafohpmhdjnaaGreatDoor.VT
open Go.RowKit Go.Proofs.YtoaafohpmhdjnaaGreatDoor.RX Go.Proofs.YtoaafohpmhdjnaaGreatDoor.RY Go.Proofs.YtoaafohpmhdjnaaGreatDoor.PVG Go.Proofs.YtoaafohpmhdjnaaGreatDoorW.PrintWords Go.Proofs.YtoaafohpmhdjnaaGreatDoorW.PrintLast Go.Proofs.YtoaafohpmhdjnaaGreatDoorW.PrintMore
set_option linter.unusedVariables false
set_option linter.unusedSimpArgs false
def VCallS (f:Nat) (P:World→Prop) (x:ByteArray) (T X:List S107) (b:Bool):Prop:=∀ (A:Option Addr) (c:Nat) (W:World),P W→Kd.C k107 W A T.length T→T.length≤c →
 Calls Tryz.prog f #[.agg #[.slice A T.length c],.string x] W fun e w'=>∃ v',e=.returned (.tuple #[.agg #[v'],.bool b])∧Kd.R k107 107 w' W.heap.size (fun _=>True) v' X∧Below W.heap.size W w'
theorem VCallS.go {f:Nat} {P:World→Prop} {x:ByteArray} {T X:List S107} {b:Bool} (h:VCallS f P x T X b) {W:World} {v:Value} (hP:P W) (hv:∃ A c,v=.slice A T.length c∧T.length≤c∧Kd.C k107 W A T.length T) :
  Calls Tryz.prog f #[.agg #[v],.string x] W fun e w'=>∃ v',e=.returned (.tuple #[.agg #[v'],.bool b])∧Kd.R k107 107 w' W.heap.size (fun _=>True) v' X∧Below W.heap.size W w':=by
 obtain ⟨A,c,rfl,l,r⟩:=hv
 exact h A c W hP r l
end Go.Proofs.YtoaafohpmhdjnaaGreatDoor.VT
namespace Go.Proofs.YtoaafohpmhdjnaaGreatDoor.VT
open Go.RowKit Go.Proofs.YtoaafohpmhdjnaaGreatDoor.RX Go.Proofs.YtoaafohpmhdjnaaGreatDoor.RY Go.Proofs.YtoaafohpmhdjnaaGreatDoor.PVG Go.Proofs.YtoaafohpmhdjnaaGreatDoorW.PrintWords Go.Proofs.YtoaafohpmhdjnaaGreatDoorW.PrintLast Go.Proofs.YtoaafohpmhdjnaaGreatDoorW.PrintMore
set_option linter.unusedVariables false
set_option linter.unusedSimpArgs false
set_option maxRecDepth 100000 in
set_option maxHeartbeats 4000000 in
theorem getLaw_w_long (A:Option Addr) (c:Nat) (l:List S136) (x:ByteArray) (w:World) (hx:1048576 < x.size):Calls Tryz.prog 5 #[.agg #[.slice A l.length c],.string x] w fun e w'=>e=.returned (.bool true)∧Below w.heap.size w w':=by
 have hd:decide ((x.size:Int) > 1048576)=true:=decide_eq_true (by omega)
 have HB1:=Aside0.mk (below_alloc (Below.refl w.heap.size w) (.cells #[.slice A l.length c] 24))
 go_enter Tryz.func5,Tryz.ntmps5
 go_wp2
 go_ret
 exact ⟨rfl,HB1.out⟩
set_option maxRecDepth 100000 in
set_option maxHeartbeats 8000000 in
theorem getLaw_w (l:List S136) (A:Option Addr) (c:Nat) (x:ByteArray) (hx:x.size≤1048576) (w:World) (ht:HT w∧HE w) (hr:Kd.C k136 w A l.length l) (hc:l.length≤c) (T X Z:List S107) (b:Bool) (Y6:List S107) (r n1 n2:Int) (kz kt k1 k2:Nat)
  (hz:laws_szValue.f kz l 1048576=some r) (hto:¬r < 0→laws_toValue.f kt l=some T)
  (hsp:¬r < 0→VCallS 26 (fun _=>True) x T X b) (him:¬r < 0→VCallS 27 (fun W=>HT W∧HE W) x T X b)
  (he:¬r < 0→laws_eqValue.f k1 X X=some true) (he2:¬r < 0→laws_eqValue.f k2 T T=some true)
  (hm1:¬r < 0→MCall T Y6 n1∧¬n1 < 0) (hm2:¬r < 0→MCall X Z n2∧¬n2 < 0) (hh:¬r < 0→HCall Z n2) :
  Calls Tryz.prog 5 #[.agg #[.slice A l.length c],.string x] w fun e w'=>e=.returned (.bool true)∧Below w.heap.size w w':=by
 obtain ⟨W1,hW1⟩:∃ W1,W1=w.alloc (.cells #[.slice A l.length c] 24):=⟨_,rfl⟩
 obtain ⟨gb,hgb⟩:∃ g,g=w.heap.size:=⟨_,rfl⟩
 have HB1:=Aside0.mk (show Below w.heap.size w W1 by rw [hW1];exact below_alloc (Below.refl _ _) _)
 have K1:=Aside0.mk (show W1.heap[gb]? = some (bx (.slice A l.length c) 24) by rw [hW1,hgb];exact blk_new w _)
 have L1:=Aside0.mk (show gb < W1.heap.size by rw [hW1,hgb];simp)
 have G1:=Aside0.mk (show w.heap.size≤gb by rw [hgb];exact Nat.le_refl _)
 have hxd:decide ((x.size:Int) > 1048576)=false:=decide_eq_false (by omega)
 have HC:=Aside0.mk hc
 have SZ:=Aside0.mk (laws_szValue.calls kz A c l 1048576 r W1 (Kd.C_below hr HB1.out) hc hz)
 have t0:=bx_cell K1.out
 have HTW:=Aside0.mk ht
 have HR:=Aside0.mk hr
 clear hr hc hz ht hx
 by_cases hneg:r < 0
 ·have d0:decide (r < 0)=true:=decide_eq_true hneg
  clear hto hsp him he he2 hm1 hm2 hh hneg
  go_enter Tryz.func5,Tryz.ntmps5
  go_upto_region 1 with fail
  rw [←hW1,←hgb]
  clear hW1 hgb
  go_wp2_with (first | (go_at_call 15;(refine SZ.out.mono ?_);rintro e w2 ⟨rfl,hb⟩;have B2:=Aside0.mk (below_step HB1.out hb);clear hb))
  go_ret
  exact ⟨rfl,B2.out⟩
 ·have d0:decide (r < 0)=false:=decide_eq_false hneg
  have TO:=Aside0.mk (fun (W:World) (hb:Below w.heap.size w W)=>laws_toValue.calls kt A c l T W (Kd.C_below HR.out hb) HC.out (hto hneg))
  have SP:=Aside0.mk (hsp hneg)
  have IM:=Aside0.mk (him hneg)
  have HE:=Aside0.mk (he hneg)
  have HE2:=Aside0.mk (he2 hneg)
  have M1:=Aside0.mk (hm1 hneg)
  have M2:=Aside0.mk (hm2 hneg)
  have HH:=Aside0.mk (hh hneg)
  have d1:decide (n1 < 0)=false:=decide_eq_false M1.out.2
  have d2:decide (n2 < 0)=false:=decide_eq_false M2.out.2
  clear hto hsp him he he2 hm1 hm2 hh hneg
  go_enter Tryz.func5,Tryz.ntmps5
  go_upto_region 1 with fail
  rw [←hW1,←hgb]
  clear hW1 hgb
  go_upto_region 8 with (first | (go_at_call 15;(refine SZ.out.mono ?_);rintro e w2 ⟨rfl,hb⟩;have B2:=Aside0.mk (below_step HB1.out hb);have K2:=Aside0.mk (blk_below K1.out hb);have L2:=Aside0.mk (Nat.lt_of_lt_of_le L1.out hb.size);have t2:=bx_cell K2.out;clear hb) | (go_at_call 17;(refine (TO.out _ B2.out).mono ?_);rintro e w3 ⟨v3,rfl,ho,hb⟩;have R3:=Aside0.mk (Kd.R_reads ho);have B3:=Aside0.mk (below_step B2.out hb);have K3:=Aside0.mk (blk_below K2.out hb);have L3:=Aside0.mk (Nat.lt_of_lt_of_le L2.out hb.size);clear hb ho) | (go_at_call 26;(refine (SP.out.go trivial R3.out).mono ?_);rintro e w4 ⟨v4,rfl,ho,hb⟩;obtain ⟨A4,c4,rfl⟩:=Kd.R_slice ho;obtain ⟨m4,hm4⟩:∃ n,n=X.length:=⟨_,rfl⟩;rw [←hm4] at ho ⊢;have R4:=Aside0.mk ho;have B4:=Aside0.mk hb;have K4:=Aside0.mk (blk_below K3.out hb);clear hb ho hm4) | ((with_reducible refine gate_dst (N:=6) rfl ?_);refine box_event ?hg (N:=6) ?hd (cs:=#[.slice none 0 0]) (t:=31) ?hr ?_;(case hd=>rfl);(case hg=>rfl);(case hr=>first | (go_simp;done) | (go_simp;rfl));intro gx hg wx hbox hb;have GX:=Aside0.mk hg;have KX:=Aside0.mk hbox;have BX:=Aside0.mk hb;have z0:wx.cell? ⟨gx,0,none⟩=some (.slice none 0 0):=(blk_cell hbox 0).trans rfl;have f0:=blk_frozen hbox 0;have BX4:=BX;have GX4:=GX;have KX4:=KX;clear BX GX KX;clear hb hbox hg))
  clear z0 f0 t2 t0 d0
  obtain ⟨g4,hg4⟩:∃ g,g=gx:=⟨_,rfl⟩
  obtain ⟨w5,hw5⟩:∃ W,W=wx.setCell ⟨gx,0,none⟩ (.slice A4 m4 c4):=⟨_,rfl⟩
  rw [←hw5]
  have S5:=Aside0.mk (show Below w4.heap.size w4 w5 by rw [hw5];exact below_set BX4.out (Nat.le_of_eq GX4.out.symm))
  have K45:=Aside0.mk (bx_put KX4.out hw5)
  have K15:=Aside0.mk (blk_below K4.out S5.out)
  have R45:=Aside0.mk (Kd.R_below (R_iv B3.out.size R4.out) S5.out)
  have B5:=Aside0.mk (below_step B3.out (below_step B4.out S5.out))
  have O5:=Aside0.mk (show gb < w3.heap.size∧w3.heap.size≤w4.heap.size∧w4.heap.size≤gx∧gx < w5.heap.size from ⟨L3.out,B4.out.size,Nat.le_of_eq GX4.out.symm,blk_lt K45.out⟩)
  generalize w3.heap.size=a4 at R45 O5
  generalize w4.heap.size=e4 at R45 O5
  rw [←hg4] at K45 O5 ⊢
  clear hw5 hg4
  have t5:=bx_cell K15.out
  go_upto_region 9 with (first | (go_at_call 17;(refine (TO.out _ B5.out).mono ?_);rintro e w6 ⟨v6,rfl,ho,hb⟩;obtain ⟨A6,c6,rfl⟩:=Kd.R_slice ho;obtain ⟨m6,hm6⟩:∃ n,n=T.length:=⟨_,rfl⟩;rw [←hm6] at ho ⊢;have R6:=Aside0.mk ho;have B6:=Aside0.mk hb;have K6:=Aside0.mk (blk_below K15.out hb);clear hb ho hm6) | ((with_reducible refine gate_dst (N:=8) rfl ?_);refine box_event ?hg (N:=8) ?hd (cs:=#[.slice none 0 0]) (t:=31) ?hr ?_;(case hd=>rfl);(case hg=>rfl);(case hr=>first | (go_simp;done) | (go_simp;rfl));intro gx hg wx hbox hb;have GX:=Aside0.mk hg;have KX:=Aside0.mk hbox;have BX:=Aside0.mk hb;have z0:wx.cell? ⟨gx,0,none⟩=some (.slice none 0 0):=(blk_cell hbox 0).trans rfl;have f0:=blk_frozen hbox 0;have BX6:=BX;have GX6:=GX;have KX6:=KX;clear BX GX KX;clear hb hbox hg))
  clear z0 f0 t5
  obtain ⟨g6,hg6⟩:∃ g,g=gx:=⟨_,rfl⟩
  obtain ⟨w7,hw7⟩:∃ W,W=wx.setCell ⟨gx,0,none⟩ (.slice A6 m6 c6):=⟨_,rfl⟩
  rw [←hw7]
  have S7:=Aside0.mk (show Below w6.heap.size w6 w7 by rw [hw7];exact below_set BX6.out (Nat.le_of_eq GX6.out.symm))
  have K67:=Aside0.mk (bx_put KX6.out hw7)
  have K17:=Aside0.mk (blk_below K6.out S7.out)
  have S57:=Aside0.mk (below_step B6.out S7.out)
  have K47:=Aside0.mk (blk_below K45.out S57.out)
  have R47:=Aside0.mk (Kd.R_below R45.out S57.out)
  have R67:=Aside0.mk (Kd.R_below (R_iv B5.out.size R6.out) S7.out)
  have B7:=Aside0.mk (below_step B5.out S57.out)
  have O7:=Aside0.mk (show (gb < a4∧a4≤e4∧e4≤g4∧g4 < w5.heap.size)∧w5.heap.size≤w6.heap.size∧w6.heap.size≤gx∧gx < w7.heap.size from ⟨O5.out,B6.out.size,Nat.le_of_eq GX6.out.symm,blk_lt K67.out⟩)
  generalize w5.heap.size=a6 at R67 O7
  generalize w6.heap.size=e6 at R67 O7
  rw [←hg6] at K67 O7 ⊢
  clear hw7 hg6
  have t7:=bx_cell K67.out
  go_upto_region 10 with (first | (go_at_call 27;(refine (IM.out.go (And.intro (HTW.out.1.below B7.out) (HTW.out.2.below B7.out)) (Kd.R_reads R67.out)).mono ?_);rintro e w8 ⟨v8,rfl,ho,hb⟩;obtain ⟨A8,c8,rfl⟩:=Kd.R_slice ho;obtain ⟨m8,hm8⟩:∃ n,n=X.length:=⟨_,rfl⟩;rw [←hm8] at ho ⊢;have R8:=Aside0.mk ho;have B8:=Aside0.mk hb;have K18:=Aside0.mk (blk_below K17.out hb);clear hb ho hm8) | ((with_reducible refine gate_dst (N:=9) rfl ?_);refine box_event ?hg (N:=9) ?hd (cs:=#[.slice none 0 0]) (t:=31) ?hr ?_;(case hd=>rfl);(case hg=>rfl);(case hr=>first | (go_simp;done) | (go_simp;rfl));intro gx hg wx hbox hb;have GX:=Aside0.mk hg;have KX:=Aside0.mk hbox;have BX:=Aside0.mk hb;have z0:wx.cell? ⟨gx,0,none⟩=some (.slice none 0 0):=(blk_cell hbox 0).trans rfl;have f0:=blk_frozen hbox 0;have BX7:=BX;have GX7:=GX;have KX7:=KX;clear BX GX KX;clear hb hbox hg))
  clear z0 f0 t7
  obtain ⟨g7,hg7⟩:∃ g,g=gx:=⟨_,rfl⟩
  obtain ⟨w9,hw9⟩:∃ W,W=wx.setCell ⟨gx,0,none⟩ (.slice A8 m8 c8):=⟨_,rfl⟩
  rw [←hw9]
  have S9:=Aside0.mk (show Below w8.heap.size w8 w9 by rw [hw9];exact below_set BX7.out (Nat.le_of_eq GX7.out.symm))
  have K79:=bx_put KX7.out hw9
  have S136:=below_step B8.out S9.out
  have O9:=O7.out
  have o1:=B8.out.size
  have o2:=Nat.le_of_eq GX7.out.symm
  obtain ⟨v4,hv4⟩:∃ v:Value,v=.slice A4 m4 c4:=⟨_,rfl⟩
  obtain ⟨v6,hv6⟩:∃ v:Value,v=.slice A6 m6 c6:=⟨_,rfl⟩
  obtain ⟨v7,hv7⟩:∃ v:Value,v=.slice A8 m8 c8:=⟨_,rfl⟩
  have QQ:=Aside0.mk (show Q4 w w9 (.slice A l.length c) gb g4 g6 gx v4 v6 v7 X T X a4 e4 a6 e6 w7.heap.size w8.heap.size from by
   rw [hv4,hv6,hv7]
   exact ⟨below_step B7.out S136,blk_below K18.out S9.out,blk_below K47.out S136,blk_below K67.out S136,K79,Kd.R_below R47.out S136,Kd.R_below R67.out S136,Kd.R_below (R_iv B7.out.size R8.out) S9.out,by have:=G1.out;omega⟩)
  rw [←hg7] at QQ ⊢
  generalize w7.heap.size=a7 at QQ
  generalize w8.heap.size=e7 at QQ
  clear hw9 hg7 O9 o1 o2 S136 K79
  clear hv4 hv6 hv7
  have t7:=bx_cell QQ.out.K7
  have t4:=bx_cell QQ.out.K4
  go_upto_region 12 with (first | (go_at_call 20;(refine (eqv_c (Kd.R_reads QQ.out.R7) (Kd.R_reads QQ.out.R4) HE.out).mono ?_);rintro e w10 ⟨rfl,hb⟩;have Q10:=Aside0.mk (QQ.out.below hb);clear hb))
  clear t7 t4
  have CK:=Aside0.mk (Q10.out.below (below_drew1 (Below.refl _ _)))
  refine start_ (n:=5) (S:=fun w'=>w'.cell? ⟨g6,0,none⟩=some v6∧w'.cell? ⟨gb,0,none⟩=some (.slice A l.length c)) (ds:=[]) #[false,false,false,false,false] (by kernel_rfl) rfl rfl ⟨bx_cell CK.out.K6,bx_cell CK.out.K1⟩ (fun hHeld=>?_)
  generalize w10.drew=w10d at CK hHeld ⊢
  refine take_ (i:=0) (N:=(some 48)) (v:=?_) (a':=?_) #[true,false,false,false,false] rfl rfl (by kernel_rfl) (fun _ _ _ h=>h) (Or.inl ⟨by rfl,?_⟩) hHeld ?_ ?_
  rotate_left
  ·rintro w' ⟨s0,s1⟩
   go_simp
   with_reducible rfl
  rotate_left
  ·simp only [Act.put,List.setIfInBounds_toArray,List.set_cons_zero,List.set_cons_succ,i64_w,i32_w]
   rfl
  refine take_ (i:=1) (N:=(some 49)) (v:=?_) (a':=?_) #[true,true,false,false,false] rfl rfl (by kernel_rfl) (fun _ _ _ h=>h) (Or.inl ⟨by rfl,?_⟩) hHeld ?_ ?_
  rotate_left
  ·rintro w' ⟨s0,s1⟩
   go_simp
   with_reducible rfl
  rotate_left
  ·simp only [Act.put,List.setIfInBounds_toArray,List.set_cons_zero,List.set_cons_succ,i64_w,i32_w]
   rfl
  refine one_ (i:=2) (N:=(some 50)) #[true,true,true,false,false] rfl rfl (by kernel_rfl) (by decide) (fun K hK=>?_)
  refine goes_ Tryz.func17 (by kernel_rfl) rfl #[.agg #[.slice A l.length c]] (by rfl) rfl rfl (by (try simp only [List.map_toArray,List.map_cons,List.map_nil]);first | done | rfl) ?_
  refine (TO.out _ CK.out.B).mono ?_
  rintro e w8 ⟨v8,rfl,ho,hb⟩
  refine ⟨_,rfl,?_⟩
  have R8:=Aside0.mk (Kd.R_reads ho)
  have Q8:=Aside0.mk (CK.out.below hb)
  clear ho hb
  refine hK.out _ _ ⟨bx_cell Q8.out.K6,bx_cell Q8.out.K1⟩ (fun hHeld=>?_)
  clear hK K
  refine norm_ (a':=?_) ?_ ?_
  rotate_left
  ·show Act.put _ (some 50) _=_
   simp only [Act.put,List.setIfInBounds_toArray,List.set_cons_zero,List.set_cons_succ,i64_w,i32_w]
   rfl
  refine one_ (i:=3) (N:=(some 51)) #[true,true,true,true,false] rfl rfl (by kernel_rfl) (by decide) (fun K hK=>?_)
  refine goes_ Tryz.func20 (by kernel_rfl) rfl #[.agg #[v6],.agg #[v8]] (by rfl) rfl rfl (by (try simp only [List.map_toArray,List.map_cons,List.map_nil]);first | done | rfl) ?_
  refine (eqv_c (Kd.R_reads Q8.out.R6) R8.out HE2.out).mono ?_
  rintro e w11 ⟨rfl,hb⟩
  refine ⟨_,rfl,?_⟩
  have Q11:=Aside0.mk (Q8.out.below hb)
  clear hb
  refine hK.out _ _ ⟨bx_cell Q11.out.K6,bx_cell Q11.out.K1⟩ (fun hHeld=>?_)
  clear hK K
  refine norm_ (a':=?_) ?_ ?_
  rotate_left
  ·show Act.put _ (some 51) _=_
   simp only [Act.put,List.setIfInBounds_toArray,List.set_cons_zero,List.set_cons_succ,i64_w,i32_w]
   rfl
  refine pure_ (i:=4) (N:=(some 52)) (v:=?_) (a':=?_) #[true,true,true,true,true] rfl rfl (by kernel_rfl) (fun _ _ _ h=>h) (Or.inl ⟨by rfl,?_⟩) ?_ ?_
  rotate_left
  ·intro w'
   go_simp
   with_reducible rfl
  rotate_left
  ·simp only [Act.put,List.setIfInBounds_toArray,List.set_cons_zero,List.set_cons_succ,i64_w,i32_w]
   rfl
  refine done_ (by kernel_rfl) ?_
  have t6:=bx_cell Q11.out.K6
  clear hHeld
  go_upto_region 16 with (first | (go_at_call 21;(refine (M1.out.1 (Iv a6 e6) v6 w _ Q11.out.B Q11.out.R6).mono ?_);rintro e w12 ⟨rfl,_,hB,hk⟩;have Q12:=Aside0.mk (Q11.out.mark hB hk);have t7:=bx_cell Q12.out.K7;have t4:=bx_cell Q12.out.K4;clear hB hk))
  clear t6
  go_upto_region 20 with (first | (go_at_call 20;(refine (eqv_c (Kd.R_reads Q12.out.R7) (Kd.R_reads Q12.out.R4) HE.out).mono ?_);rintro e w13 ⟨rfl,hb⟩;have Q13:=Aside0.mk (Q12.out.below hb);have s7:=bx_cell Q13.out.K7;clear hb) | (go_at_call 21;(refine (M2.out.1 (Iv a7 e7) v7 w _ Q13.out.B Q13.out.R7).mono ?_);rintro e w14 ⟨rfl,hr,hB,hk⟩;have Q14:=Aside0.mk (Q13.out.mark hB hk hr);have r7:=bx_cell Q14.out.K7;clear hr hB hk))
  clear t7 t4 s7
  go_upto_region 26 with (first | (go_at_call 28;(refine (heldw_c Q14.out.R7 HH.out).mono ?_);rintro e w15 ⟨rfl,hb⟩;have Q15:=Aside0.mk (Q14.out.below hb);have t1:=bx_cell Q15.out.K1;clear hb))
  clear r7
  go_upto_region 27 with (first | (go_at_call 17;(refine (TO.out _ Q15.out.B).mono ?_);rintro e w16 ⟨v16,rfl,ho,hb⟩;have R16:=Aside0.mk (Kd.R_reads ho);have Q16:=Aside0.mk (Q15.out.below hb);clear ho hb) | (go_at_call 27;(refine (IM.out.go (And.intro (HTW.out.1.below Q16.out.B) (HTW.out.2.below Q16.out.B)) R16.out).mono ?_);rintro e w17 ⟨v17,rfl,ho,hb⟩;obtain ⟨A17,c17,rfl⟩:=Kd.R_slice ho;have L17:=Aside0.mk (Kd.R_reads' ho).2;obtain ⟨m17,hm17⟩:∃ n,n=X.length:=⟨_,rfl⟩;have HM17:=Aside0.mk hm17;rw [←hm17];have Q17:=Aside0.mk (Q16.out.below hb);clear ho hb hm17) | ((with_reducible refine gate_dst (N:=14) rfl ?_);refine box_event ?hg (N:=14) ?hd (cs:=#[.slice none 0 0]) (t:=31) ?hr ?_;(case hd=>rfl);(case hg=>rfl);(case hr=>first | (go_simp;done) | (go_simp;rfl));intro gx hg wx hbox hb;have GX:=Aside0.mk hg;have KX:=Aside0.mk hbox;have BX:=Aside0.mk hb;have z0:wx.cell? ⟨gx,0,none⟩=some (.slice none 0 0):=(blk_cell hbox 0).trans rfl;have f0:=blk_frozen hbox 0;have BX12:=BX;have GX12:=GX;have KX12:=KX;clear BX GX KX;clear hb hbox hg))
  clear z0 f0 t1
  obtain ⟨w18,hw18⟩:∃ W,W=wx.setCell ⟨gx,0,none⟩ (.slice A17 m17 c17):=⟨_,rfl⟩
  rw [←hw18]
  have S18:=Aside0.mk (show Below w17.heap.size w17 w18 by rw [hw18];exact below_set BX12.out (Nat.le_of_eq GX12.out.symm))
  have K18b:=Aside0.mk (bx_put KX12.out hw18)
  have Q18:=Aside0.mk (Q17.out.below S18.out)
  have R18:=Aside0.mk (show ∃ A c,Value.slice A17 m17 c17=.slice A X.length c∧X.length≤c∧Kd.C k107 w18 A X.length X by rw [HM17.out];exact ⟨_,_,rfl,L17.out.1,Kd.C_below L17.out.2 S18.out⟩)
  clear hw18
  have u12:=bx_cell K18b.out
  have u4:=bx_cell Q18.out.K4
  go_wp2_with (first | (go_at_call 20;(refine (eqv_c R18.out Q18.out.R4 HE.out).mono ?_);rintro e w19 ⟨rfl,hb⟩;have Q19:=Aside0.mk (Q18.out.below hb);have u7:=bx_cell Q19.out.K7;clear hb) | (go_at_call 28;(refine (heldw_c Q19.out.R7 HH.out).mono ?_);rintro e w20 ⟨rfl,hb⟩;have Q20:=Aside0.mk (Q19.out.below hb);clear hb))
  go_ret
  exact ⟨rfl,Q20.out.B⟩
end Go.Proofs.YtoaafohpmhdjnaaGreatDoor.VT
