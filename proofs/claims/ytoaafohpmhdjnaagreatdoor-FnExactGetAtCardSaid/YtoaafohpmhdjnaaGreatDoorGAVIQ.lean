import Derived.Test.YtoaafohpmhdjnaaGreatDoorGAYLA
import Derived.Test.YtoaafohpmhdjnaaGreatDoorGAVWB
import Derived.Test.YtoaafohpmhdjnaaGreatDoorGAShelf
import Derived.Test.YtoaafohpmhdjnaaGreatDoorGAPVGx0
/- impl place in every tree, get: walked. Conditions: right trees, short names, the powers of ten and the two errors stand. -/
namespace Go.Proofs.YtoaafohpmhdjnaaGreatDoor.VT
open Go.RowKit Go.Proofs.YtoaafohpmhdjnaaGreatDoor.RX Go.Proofs.YtoaafohpmhdjnaaGreatDoor.RY Go.Proofs.YtoaafohpmhdjnaaGreatDoor.PVG Go.Proofs.YtoaafohpmhdjnaaGreatDoorW.PrintWords Go.Proofs.YtoaafohpmhdjnaaGreatDoorW.PrintLast Go.Proofs.YtoaafohpmhdjnaaGreatDoorW.PrintMore
set_option linter.unusedVariables false
set_option linter.unusedSimpArgs false
def isErr (w:World) (g:Nat):Prop:=∃ ev,w.cell? ⟨g,0,none⟩=some ev∧(ev=.nilIface∨∃ te pe,ev=.iface te pe)
def HE (w:World):Prop:=isErr w 0∧isErr w 1
theorem HE.below {w w':World} (h:HE w) (hb:Below w.heap.size w w'):HE w':=by
 obtain ⟨⟨e1,h1,g1⟩,e2,h2,g2⟩:=h
 exact ⟨⟨e1,(hb.cell (World.block_lt_of_cell? w _ h1)).trans h1,g1⟩,e2,(hb.cell (World.block_lt_of_cell? w _ h2)).trans h2,g2⟩
theorem atoi_yes (s:ByteArray) (v:Int) (w:World) (hs:s.size≤1073741824) (h:Lib.atoiAll s.data.toList=.ok v) :
  Calls Tryz.prog 131 #[.string s] w fun e w'=>e=.returned (.tuple #[.int .i64 v,.nilIface])∧Below w.heap.size w w':=by
 refine (Tryz.strconv_Atoi_ok s (by omega) v h w).mono ?_
 rintro e w' ⟨he,h1⟩
 refine ⟨he,?_⟩
 rcases h1 with rfl | ⟨t,rfl⟩
 ·exact Below.refl _ _
 ·exact Lib.bytesWorld_below _ _ _
theorem itoa_all (n:Int) (w:World) (h0:-9223372036854775808≤n) (h1:n≤9223372036854775807) (ht:HT w):Calls Tryz.prog 115 #[.int .i64 n] w fun e w'=>e=.returned (.string ⟨(Lib.itoa n).toArray⟩)∧Below w.heap.size w w' :=
 (Tryz.strconv_Itoa n h0 h1 w ht).mono fun e w' ⟨he,k,os,hw⟩=>⟨he,by rw [hw];exact below_grow w k os⟩
structure NoNum (w:World) (e:Ending) (w':World):Prop where
 out:∃ v N,e=.returned (.tuple #[.int .i64 v,.iface 230 (.pointer (some ⟨N,0,none⟩))])∧Below w.heap.size w w'
theorem atoi_no (s:ByteArray) (w:World) (hs:s.size≤1073741824) (hE:HE w) (h:∀ v,Lib.atoiAll s.data.toList≠.ok v) :
  Calls Tryz.prog 131 #[.string s] w (NoNum w):=by
 obtain ⟨⟨e1,h1,g1⟩,e2,h2,g2⟩:=hE
 cases ha:Lib.atoiAll s.data.toList with
 | ok v=>exact absurd ha (h v)
 | «syntax» =>
  refine (Tryz.strconv_Atoi_syntax s (by omega) ha e1 w h1 g1).mono ?_
  rintro e w' ⟨N,he,_,_,hb⟩
  exact ⟨_,N,he,hb⟩
 | range =>
  refine (Tryz.strconv_Atoi_range s (by omega) ha e2 w h2 g2).mono ?_
  rintro e w' ⟨N,he,_,_,hb⟩
  exact ⟨_,N,he,hb⟩
set_option maxRecDepth 100000 in
set_option maxHeartbeats 4000000 in
theorem place_list (t:Tr) (s:ByteArray) (w:World) (g:Nat) (ht:HT w) (hE:HE w) (hv:IsV w g t) (h6:t.kd=6) (hn:t.ks.length≤1073741824) (hs:s.size≤1073741824) :
  Calls Tryz.prog 85 #[.pointer (some ⟨g,0,none⟩),.string s] w fun e w'=>e=.returned (.int .i64 (plL t.ks.length s))∧Below w.heap.size w w':=by
 obtain ⟨A3,c3,A4,c4,ha⟩:=hv.at_
 obtain ⟨k0,_,_,_,k4⟩:=ha.cells
 rw [h6] at k0
 have K4:=Aside0.mk k4
 have LT:=Aside0.mk ha.lt
 obtain ⟨n,hnn⟩:∃ n,n=t.ks.length:=⟨_,rfl⟩
 rw [←hnn] at hn K4 ⊢
 have HN:=Aside0.mk hn
 have HTT:=Aside0.mk ht
 clear ha hv h6 k4 hnn hn ht
 by_cases hx:∃ v,Lib.atoiAll s.data.toList=.ok v
 ·obtain ⟨v,hv⟩:=hx
  have hbd:=Lib.atoiAll_bounds hv
  have AY:=Aside0.mk (atoi_yes s v w hs hv)
  obtain ⟨sv,hsv⟩:∃ sv:ByteArray,sv=⟨(Lib.itoa v).toArray⟩:=⟨_,rfl⟩
  have IC:=Aside0.mk (fun W (h:HT W)=>itoa_all v W hbd.1 hbd.2 h)
  rw [←hsv] at IC
  have hde:(sv.toList==s.toList)=decide (Lib.itoa v=s.data.toList):=by
   rw [Bool.eq_iff_iff,beq_iff_eq,decide_eq_true_iff,ByteArray.toList_eq,ByteArray.toList_eq,hsv]
  have hpl:plL n s=if Lib.itoa v=s.data.toList∧0≤v∧v < n then v else -1:=by unfold plL;rw [hv]
  have HPL:=Aside0.mk hpl
  clear hsv hpl hv
  cases hd:decide (Lib.itoa v=s.data.toList) with
  | false =>
   rw [hd] at hde
   have HR:=Aside0.mk (show plL n s = -1 by rw [HPL.out,if_neg];exact fun h=>of_decide_eq_false hd h.1)
   clear hd hbd
   go_enter Tryz.func85,Tryz.ntmps85
   go_wp2_with (first | (go_at_call 131;(with_reducible refine AY.out.mono ?_);rintro e w2 ⟨rfl,hb⟩;have B2:=Aside0.mk hb;clear hb) | (go_at_call 115;(with_reducible refine (IC.out _ (HTT.out.below B2.out)).mono ?_);rintro e w3 ⟨rfl,hb⟩;have B3:=Aside0.mk (below_step B2.out hb);clear hb))
   go_ret
   exact ⟨by rw [HR.out];rfl,B3.out⟩
  | true =>
   rw [hd] at hde
   have HI:=Aside0.mk (of_decide_eq_true hd)
   clear hd
   have hw:wrap64 ((n:Int) - 1)=(n:Int) - 1:=by unfold wrap64;have:=HN.out;omega
   cases hi:inB v 0 ((n:Int) - 1) with
   | false =>
    have WC:=Aside0.mk (fun W=>within_c v 0 (wrap64 ((n:Int) - 1)) false W (by rw [hw];exact hi))
    have HR:=Aside0.mk (show plL n s = -1 by
     rw [HPL.out,if_neg]
     intro h
     unfold inB at hi
     rw [decide_eq_true h.2.1,decide_eq_true (show v≤(n:Int) - 1 by omega)] at hi
     cases hi)
    clear hi hbd hw
    go_enter Tryz.func85,Tryz.ntmps85
    go_wp2_with (first | (go_at_call 131;(with_reducible refine AY.out.mono ?_);rintro e w2 ⟨rfl,hb⟩;have B2:=Aside0.mk hb;clear hb) | (go_at_call 115;(with_reducible refine (IC.out _ (HTT.out.below B2.out)).mono ?_);rintro e w3 ⟨rfl,hb⟩;have B3:=Aside0.mk (below_step B2.out hb);have k4:=(B3.out.cell LT.out).trans K4.out;clear hb) | (go_at_call 112;(with_reducible refine (WC.out _).mono ?_);rintro e w4 ⟨rfl,⟨n4,hn4⟩⟩;have B4:=Aside0.mk (show Below w.heap.size w w4 by rw [hn4];exact below_drewN B3.out n4);clear hn4))
    go_ret
    exact ⟨by rw [HR.out];rfl,B4.out⟩
   | true =>
    have WC:=Aside0.mk (fun W=>within_c v 0 (wrap64 ((n:Int) - 1)) true W (by rw [hw];exact hi))
    have HR:=Aside0.mk (show plL n s=v by
     unfold inB at hi
     rw [Bool.and_eq_true] at hi
     have h1:=of_decide_eq_true hi.1
     have h2:=of_decide_eq_true hi.2
     rw [HPL.out,if_pos ⟨HI.out,h1,by omega⟩])
    clear hi hbd hw
    go_enter Tryz.func85,Tryz.ntmps85
    go_wp2_with (first | (go_at_call 131;(with_reducible refine AY.out.mono ?_);rintro e w2 ⟨rfl,hb⟩;have B2:=Aside0.mk hb;clear hb) | (go_at_call 115;(with_reducible refine (IC.out _ (HTT.out.below B2.out)).mono ?_);rintro e w3 ⟨rfl,hb⟩;have B3:=Aside0.mk (below_step B2.out hb);have k4:=(B3.out.cell LT.out).trans K4.out;clear hb) | (go_at_call 112;(with_reducible refine (WC.out _).mono ?_);rintro e w4 ⟨rfl,⟨n4,hn4⟩⟩;have B4:=Aside0.mk (show Below w.heap.size w w4 by rw [hn4];exact below_drewN B3.out n4);clear hn4))
    go_ret
    exact ⟨by rw [HR.out];rfl,B4.out⟩
 ·have AN:=Aside0.mk (atoi_no s w hs hE (fun v h=>hx ⟨v,h⟩))
  have HR:=Aside0.mk (show plL n s = -1 by
   unfold plL
   split
   ·rename_i v hv;exact absurd ⟨v,hv⟩ hx
   ·rfl)
  clear hx
  go_enter Tryz.func85,Tryz.ntmps85
  go_wp2_with (first | (go_at_call 131;(with_reducible refine AN.out.mono ?_);rintro e w2 ⟨v,N,rfl,hb⟩;have B2:=Aside0.mk hb;clear hb))
  go_ret
  exact ⟨by rw [HR.out];rfl,B2.out⟩
set_option maxRecDepth 100000 in
set_option maxHeartbeats 4000000 in
theorem place_oth (t:Tr) (s:ByteArray) (w:World) (g:Nat) (hv:IsV w g t) (h6:t.kd≠6) (h7:t.kd≠7) :
  Calls Tryz.prog 85 #[.pointer (some ⟨g,0,none⟩),.string s] w fun e w'=>e=.returned (.int .i64 (-1))∧Below w.heap.size w w':=by
 obtain ⟨A3,c3,A4,c4,ha⟩:=hv.at_
 obtain ⟨k0,_⟩:=ha.cells
 obtain ⟨k,hk⟩:∃ k,k=t.kd:=⟨_,rfl⟩
 rw [←hk] at k0 h6 h7
 have e6:(k==6)=false:=beq_eq_false_iff_ne.2 h6
 have e7:(k==7)=false:=beq_eq_false_iff_ne.2 h7
 clear ha hv hk h6 h7
 go_enter Tryz.func85,Tryz.ntmps85
 go_wp2
 go_ret
 exact ⟨rfl,Below.refl _ _⟩
theorem place_c (t:Tr) (s:ByteArray) (w:World) (g:Nat) (ht:HT w) (hE:HE w) (hv:IsV w g t) (hk:t.ks.length≤1073741824) (hn:t.ns.length≤1073741824) (hs:s.size≤1073741824) :
  Calls Tryz.prog 85 #[.pointer (some ⟨g,0,none⟩),.string s] w fun e w'=>e=.returned (.int .i64 (plT t s))∧Below w.heap.size w w':=by
 unfold plT
 by_cases h7:t.kd=7
 ·rw [if_pos h7];exact place_map t s w g hv h7 hn
 ·rw [if_neg h7]
  by_cases h6:t.kd=6
  ·rw [if_pos h6];exact place_list t s w g ht hE hv h6 hk hs
  ·rw [if_neg h6];exact place_oth t s w g hv h6 h7
end Go.Proofs.YtoaafohpmhdjnaaGreatDoor.VT
namespace Go.Proofs.YtoaafohpmhdjnaaGreatDoor.VT
open Go.RowKit Go.Proofs.YtoaafohpmhdjnaaGreatDoor.PVG Go.Proofs.YtoaafohpmhdjnaaGreatDoorW.PrintWords Go.Proofs.YtoaafohpmhdjnaaGreatDoorW.PrintLast Go.Proofs.YtoaafohpmhdjnaaGreatDoorW.PrintMore
set_option linter.unusedVariables false
set_option linter.unusedSimpArgs false
def fstI (s:ByteArray):List ByteArray→Nat→Int
 | [],_=>-1
 | a :: ns,i=>if (a.toList==s.toList)=true then (i:Int) else fstI s ns (i+1)
theorem fstI_drop {s:ByteArray} {ns:List ByteArray} {i:Nat} (h:i < ns.length):fstI s (ns.drop i) i=if ((ns.getD i nil_).toList==s.toList)=true then (i:Int) else fstI s (ns.drop (i+1)) (i+1):=by
 rw [List.drop_eq_getElem_cons h,fstI,List.getD_eq_getElem?_getD,List.getElem?_eq_getElem h]
 rfl
set_option maxRecDepth 100000 in
set_option maxHeartbeats 4000000 in
theorem l3At_c (nu:Int) (tx s:ByteArray) (ns:List ByteArray) (A3 A4:Option Addr) (c3 c4 n:Nat) (w:World) (hr:Kd.C Kd.string w A3 ns.length ns) (hl:ns.length=n) (hn:n≤1073741824) :
  Calls Tryz.prog 120 #[.agg #[.int .i64 7,.int .i64 nu,.string tx,.slice A3 n c3,.slice A4 n c4],.string s] w fun e w'=>e=.returned (.int .i64 (fstI s ns 0))∧Below w.heap.size w w':=by
 obtain ⟨W1,hW1⟩:∃ W1,W1=w.alloc (.cells #[.int .i64 7,.int .i64 nu,.string tx,.slice A3 n c3,.slice A4 n c4] 89):=⟨_,rfl⟩
 obtain ⟨gb,hgb⟩:∃ g,g=w.heap.size:=⟨_,rfl⟩
 have HB1:=Aside0.mk (show Below w.heap.size w W1 by rw [hW1];exact below_alloc (Below.refl _ _) _)
 have KB:=(show W1.heap[gb]? = some (.cells #[.int .i64 7,.int .i64 nu,.string tx,.slice A3 n c3,.slice A4 n c4] 89 (0,0)) by rw [hW1,hgb];exact blk_new w _)
 have NAM:=Aside0.mk (show ∀ i,i < n→∃ ad,A3=some ad∧W1.cell? (ad.add i)=some (.string (ns.getD i nil_)) from fun i hi=>by
  obtain ⟨ad,c,e,_,hK,hc⟩:=Kd.C_get (Kd.C_below hr HB1.out) nil_ (i:Int) (by omega) (by omega)
  obtain rfl:c=[.string (ns.getD (i:Int).toNat nil_)]:=hK
  have h0:=hc 0 _ rfl
  have e1:(i:Int).toNat * Kd.string.sz+0=i:=by show (i:Int).toNat * 1+0=i;omega
  rw [e1,Int.toNat_natCast] at h0
  exact ⟨ad,e,h0⟩)
 have k0:W1.cell? ⟨gb,0,none⟩=some (.int .i64 7):=(blk_cell KB 0).trans rfl
 have k3:W1.cell? ⟨gb,3,none⟩=some (.slice A3 n c3):=(blk_cell KB 3).trans rfl
 have k4:W1.cell? ⟨gb,4,none⟩=some (.slice A4 n c4):=(blk_cell KB 4).trans rfl
 have HN:=Aside0.mk hn
 have HL:=Aside0.mk hl
 clear hr KB hl hn
 go_enter Tryz.func120,Tryz.ntmps120
 go_upto_region 1 with fail
 rw [←hW1,←hgb]
 clear hW1 hgb
 go_wp2
 go_loopg [9] n (fun m v9 W=>∃ i:Nat,v9=.int .i64 (i:Int)∧Aside0 (i+m=n)∧Aside0 (fstI s (ns.drop i) i=fstI s ns 0)∧W=W1)
 case atStart=>exact ⟨0,rfl,⟨by omega⟩,⟨by rw [List.drop_zero]⟩,rfl⟩
 case round =>
  obtain ⟨i,rfl,HI,HF,rfl⟩:=hrel
  cases gk with
  | zero =>
   have hin:decide (i < n)=false:=decide_eq_false (by have:=HI.out;omega)
   have HR:=Aside0.mk (show fstI s ns 0 = -1 by rw [←HF.out,List.drop_of_length_le (by have:=HI.out;have:=HL.out;omega)];rfl)
   go_wp2
   go_ret
   exact ⟨by rw [HR.out];rfl,HB1.out⟩
  | succ m =>
   have hi:i < n:=by have:=HI.out;omega
   have hin:decide (i < n)=true:=decide_eq_true hi
   have hi2:(i:Int) < (n:Int):=by omega
   have b1:(i:Int)≤1073741824:=by have:=HI.out;have:=HN.out;omega
   obtain ⟨ad,rfl,kc⟩:=NAM.out i hi
   obtain ⟨y,hy⟩:∃ y,ns.getD i nil_=y:=⟨_,rfl⟩
   have HS:=Aside0.mk (fstI_drop (s:=s) (ns:=ns) (i:=i) (by have:=HL.out;omega))
   rw [hy] at kc HS
   clear hy
   cases hys:(y.toList==s.toList) with
   | true =>
    have HR:=Aside0.mk (show fstI s ns 0=(i:Int) by rw [←HF.out,HS.out,hys];rfl)
    go_wp2
    go_ret
    exact ⟨by rw [HR.out];rfl,HB1.out⟩
   | false =>
    have HR:=Aside0.mk (show fstI s (ns.drop (i+1)) (i+1)=fstI s ns 0 by rw [←HF.out,HS.out,hys];rfl)
    go_wp2
    go_roundg m
    case rel=>exact ⟨i+1,rfl,⟨by have:=HI.out;omega⟩,HR,rfl⟩
    case measure=>omega
end Go.Proofs.YtoaafohpmhdjnaaGreatDoor.VT
