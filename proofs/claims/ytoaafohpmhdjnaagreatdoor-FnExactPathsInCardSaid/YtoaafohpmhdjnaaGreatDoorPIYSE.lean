import Derived.Test.YtoaafohpmhdjnaaGreatDoorPIYSB
import Derived.Test.YtoaafohpmhdjnaaGreatDoorPIYSD
import Derived.Test.YtoaafohpmhdjnaaGreatDoorPIVR1
import Derived.Test.YtoaafohpmhdjnaaGreatDoorPIVLA
import Derived.Test.YtoaafohpmhdjnaaGreatDoorPIPVGx0
import Derived.Test.YtoaafohpmhdjnaaGreatDoorPIPVGx2
import Derived.Test.YtoaafohpmhdjnaaGreatDoorPIPVGx6
import Derived.Test.YtoaafohpmhdjnaaGreatDoorPIPVGx7
import Derived.Test.YtoaafohpmhdjnaaGreatDoorPIPVGx8
import Derived.Test.YtoaafohpmhdjnaaGreatDoorPIVTR
/- PathsIn of both sides: walked. Conditions: the powers of ten stand. -/
namespace Go.Proofs.YtoaafohpmhdjnaaGreatDoor.VT
open Go.RowKit Go.Proofs.YtoaafohpmhdjnaaGreatDoor.RX Go.Proofs.YtoaafohpmhdjnaaGreatDoor.RY Go.Proofs.YtoaafohpmhdjnaaGreatDoor.PVG Go.Proofs.YtoaafohpmhdjnaaGreatDoorW.PrintWords Go.Proofs.YtoaafohpmhdjnaaGreatDoorW.PrintLast Go.Proofs.YtoaafohpmhdjnaaGreatDoorW.PrintMore
set_option linter.unusedVariables false
set_option linter.unusedSimpArgs false
def le60 (s:ByteArray):Bool:=decide (s.size≤60)
def pathsV (l:List S107):List ByteArray×Bool:=match valT l with
 | none=>([],false)
 | some t=>if (pathsT t nil_).all le60 then (pathsT t nil_,true) else ([],false)
set_option maxRecDepth 100000 in
theorem clo60_c (s:ByteArray) (w:World):Calls Tryz.prog 70 #[.string s] w fun e w'=>e=.returned (.bool (!le60 s))∧w'=w:=by
 have h:decide ((s.size:Int) > 60) = !le60 s:=by
  unfold le60
  by_cases h:s.size≤60
  ·rw [decide_eq_true h,decide_eq_false (by omega)];rfl
  ·rw [decide_eq_false h,decide_eq_true (by omega)];rfl
 go_enter Tryz.func70,Tryz.ntmps70
 go_wp2
 go_ret
 exact ⟨by rw [←h];rfl,rfl⟩
set_option maxRecDepth 100000 in
set_option maxHeartbeats 8000000 in
theorem ix60_c (ns:List ByteArray) (A:Option Addr) (c:Nat) (w:World) (hr:Kd.string.C w A ns.length ns) (hn:ns.length≤1073741824):Calls Tryz.prog 117 #[.slice A ns.length c,.func (.func 70) #[] #[]] w (IxPost (ns.all le60) w):=by
 have HR:=Aside0.mk hr
 have HN:=Aside0.mk hn
 clear hr hn
 go_enter Tryz.func117,Tryz.ntmps117
 go_wp2
 go_loopg [8] ns.length (fun m v8 W=>∃ i:Nat,v8=.int .i64 (i:Int)∧Aside0 (i+m=ns.length)∧Aside0 (Below w.heap.size w W)∧Aside0 ((ns.take i).all le60=true))
 case atStart=>exact ⟨0,rfl,⟨by omega⟩,⟨Below.refl _ _⟩,⟨rfl⟩⟩
 case round =>
  obtain ⟨i,rfl,HM,HB,HA⟩:=hrel
  cases gk with
  | zero =>
   have hlt:decide (i < ns.length)=false:=decide_eq_false (by have:=HM.out;omega)
   have HI:=Aside0.mk (show ns.all le60=true by have h1:ns.take i=ns:=List.take_of_length_le (by have:=HM.out;omega);have h2:=HA.out;rwa [h1] at h2)
   go_wp2
   go_ret
   rw [HI.out]
   exact IxPost.no HB.out
  | succ m =>
   have hi:i < ns.length:=by have:=HM.out;omega
   have b4:(i:Int)≤1073741824:=by have:=HN.out;omega
   obtain ⟨ad,ca,e,_,hK,hc⟩:=Kd.C_get HR.out nil_ (i:Int) (by omega) (by omega)
   obtain rfl:ca=[.string (ns.getD (i:Int).toNat nil_)]:=hK
   have h0:=hc 0 _ rfl
   have e1:(i:Int).toNat * Kd.string.sz+0=i:=by show (i:Int).toNat * 1+0=i;omega
   rw [e1,List.getD_eq_getElem?_getD,Int.toNat_natCast,List.getElem?_eq_getElem hi] at h0
   replace h0:=(HB.out.cell (World.block_lt_of_cell? w _ h0)).trans h0
   clear hc e1
   subst e
   have HS:=Aside0.mk (show (ns.take (i+1)).all le60=(le60 ns[i]&&(ns.take i).all le60) by rw [List.take_succ_eq_append_getElem hi,List.all_append,Bool.and_comm];congr 1;simp)
   have HIn:=Aside0.mk (List.getElem_mem hi)
   obtain ⟨s,hs⟩:∃ s,s=ns[i]:=⟨_,rfl⟩
   simp only [Option.getD_some] at h0
   rw [←hs] at h0 HS HIn
   clear hs
   have CL:=Aside0.mk (fun W=>clo60_c s W)
   cases es:le60 s with
   | false =>
    rw [es] at CL
    have HI:=Aside0.mk (show ns.all le60=false by rw [List.all_eq_false];exact ⟨s,HIn.out,by rw [es];simp⟩)
    go_wp2_with (first | (go_at_call 70;(with_reducible refine (CL.out _).mono ?_);rintro e w' ⟨rfl,rfl⟩))
    go_ret
    rw [HI.out]
    exact IxPost.yes (by omega) HB.out
   | true =>
    rw [es] at CL
    have ES:=Aside0.mk es
    go_wp2_with (first | (go_at_call 70;(with_reducible refine (CL.out _).mono ?_);rintro e w' ⟨rfl,rfl⟩))
    go_roundg m
    case rel=>exact ⟨i+1,by go_num,⟨by have:=HM.out;omega⟩,HB,⟨by rw [HS.out,ES.out,HA.out];rfl⟩⟩
    case measure=>omega
set_option maxRecDepth 100000 in
set_option maxHeartbeats 8000000 in
theorem co60_c (ns:List ByteArray) (A:Option Addr) (c:Nat) (w:World) (hr:Kd.string.C w A ns.length ns) (hn:ns.length≤1073741824):Calls Tryz.prog 69 #[.slice A ns.length c,.func (.func 70) #[] #[]] w fun e w'=>e=.returned (.bool (!ns.all le60))∧Below w.heap.size w w':=by
 have HR:=Aside0.mk hr
 have HN:=Aside0.mk hn
 clear hr hn
 go_enter Tryz.func69,Tryz.ntmps69
 go_wp2_with (first | (go_at_call 117;(with_reducible refine (ix60_c ns A c _ HR.out HN.out).mono ?_);rintro e w' ⟨⟨i,rfl,hi⟩,hb⟩;have B:=Aside0.mk hb;have HI:=Aside0.mk hi;clear hb hi))
 all_goals
  go_ret
  exact ⟨by first | (rw [←HI.out];rfl) | (rw [←HI.out];simp [*]),B.out⟩
set_option maxRecDepth 100000 in
set_option maxHeartbeats 8000000 in
theorem pathsIn_c (l:List S107) (A:Option Addr) (c:Nat) (w:World) (ht:HT w) (hr:Kd.C k107 w A l.length l) (hc:l.length≤c) :
  Calls Tryz.prog 18 #[.agg #[.slice A l.length c]] w fun e w'=>∃ v',e=.returned (.tuple #[v',.bool (pathsV l).2])∧Kd.R Kd.string 9 w' w.heap.size (fun _=>True) v' (pathsV l).1∧Below w.heap.size w w':=by
 obtain ⟨W1,hW1⟩:∃ W1,W1=w.alloc (.cells #[.slice A l.length c] 31):=⟨_,rfl⟩
 obtain ⟨gb,hgb⟩:∃ g,g=w.heap.size:=⟨_,rfl⟩
 have HB1:=Aside0.mk (show Below w.heap.size w W1 by rw [hW1];exact below_alloc (Below.refl _ _) _)
 have KB:=(show W1.heap[gb]? = some (.cells #[.slice A l.length c] 31 (0,0)) by rw [hW1,hgb];exact blk_new w _)
 have t0:W1.cell? ⟨gb,0,none⟩=some (.slice A l.length c):=(blk_cell KB 0).trans rfl
 have VO:=Aside0.mk (valOf_c l A c W1 (ht.below HB1.out) (Kd.C_below hr HB1.out) hc)
 have HTT:=Aside0.mk ht
 clear hr hc KB ht
 cases hv:valT l with
 | none =>
  have HP:=Aside0.mk (show pathsV l=([],false) by unfold pathsV;rw [hv])
  have VN:=Aside0.mk (VoPost.no VO.out hv)
  rw [HP.out]
  clear hv VO
  go_enter Tryz.func18,Tryz.ntmps18
  go_upto_region 1 with fail
  rw [←hW1,←hgb]
  clear hW1 hgb
  go_wp2_with (first | (go_at_call 67;(with_reducible refine VN.out.mono ?_);rintro e w3 ⟨rfl,hb⟩;have B3:=Aside0.mk (below_step HB1.out hb);clear hb))
  go_ret2
  exact ⟨_,rfl,Kd.R_nil _ _ _ _ _,B3.out⟩
 | some t =>
  have VN:=Aside0.mk (VoPost.yes VO.out hv)
  obtain ⟨h1,h2,h3,h4,h5⟩:=valT_iff.1 hv
  have FT:=Aside0.mk (And.intro (wf_fit t h2) h4)
  have LN:=Aside0.mk (show (pathsT t nil_).length≤1073741824 by rw [pathsT_len];omega)
  cases ha:(pathsT t nil_).all le60 with
  | false =>
   have HP:=Aside0.mk (show pathsV l=([],false) by unfold pathsV;rw [hv];show (if (pathsT t nil_).all le60=true then _ else _)=_;rw [ha];rfl)
   have CO:=Aside0.mk (fun A c w hr=>co60_c (pathsT t nil_) A c w hr LN.out)
   rw [ha] at CO
   rw [HP.out]
   clear hv VO h1 h2 h3 h4 h5 ha
   go_enter Tryz.func18,Tryz.ntmps18
   go_upto_region 1 with fail
   rw [←hW1,←hgb]
   clear hW1 hgb
   go_wp2_with (first | (go_at_call 67;(with_reducible refine VN.out.mono ?_);rintro e w3 ⟨g3,rfl,hb,hiv⟩;have B3:=Aside0.mk (below_step HB1.out hb);have V3:=Aside0.mk hiv;clear hb hiv) | (go_at_call 68;(with_reducible refine ((paths_c t).go _ _ g3 (.slice none 0 0) [] (⟨#[]⟩:ByteArray) (HTT.out.below B3.out) V3.out FT.out.1 (Below.refl _ _) (Kd.R_nil _ _ _ _ _) (by have:=FT.out.2;simp;omega) (by have:=FT.out.2;rw [show (⟨#[]⟩:ByteArray).size=0 from rfl];omega)).mono ?_);rintro e w4 ⟨v4,rfl,ho,hb⟩;have ho:Kd.R Kd.string 9 w4 _ _ v4 (pathsT t nil_):=ho;obtain ⟨A4,c4,rfl⟩:=Kd.R_slice ho;have RR4:=Aside0.mk ho;have R4:=Aside0.mk (Kd.R_reads' ho).2.2;have B4:=Aside0.mk (below_step B3.out hb);clear ho hb) | (go_at_call 69;(with_reducible refine (CO.out _ _ _ R4.out).mono ?_);rintro e w5 ⟨rfl,hb⟩;have B5:=Aside0.mk (below_step B4.out hb);clear hb))
   go_ret2
   exact ⟨_,rfl,Kd.R_nil _ _ _ _ _,B5.out⟩
  | true =>
   have HP:=Aside0.mk (show pathsV l=(pathsT t nil_,true) by unfold pathsV;rw [hv];show (if (pathsT t nil_).all le60=true then _ else _)=_;rw [ha];rfl)
   have CO:=Aside0.mk (fun A c w hr=>co60_c (pathsT t nil_) A c w hr LN.out)
   rw [ha] at CO
   rw [HP.out]
   clear hv VO h1 h2 h3 h4 h5 ha
   go_enter Tryz.func18,Tryz.ntmps18
   go_upto_region 1 with fail
   rw [←hW1,←hgb]
   clear hW1 hgb
   go_wp2_with (first | (go_at_call 67;(with_reducible refine VN.out.mono ?_);rintro e w3 ⟨g3,rfl,hb,hiv⟩;have B3:=Aside0.mk (below_step HB1.out hb);have V3:=Aside0.mk hiv;clear hb hiv) | (go_at_call 68;(with_reducible refine ((paths_c t).go _ _ g3 (.slice none 0 0) [] (⟨#[]⟩:ByteArray) (HTT.out.below B3.out) V3.out FT.out.1 (Below.refl _ _) (Kd.R_nil _ _ _ _ _) (by have:=FT.out.2;simp;omega) (by have:=FT.out.2;rw [show (⟨#[]⟩:ByteArray).size=0 from rfl];omega)).mono ?_);rintro e w4 ⟨v4,rfl,ho,hb⟩;have ho:Kd.R Kd.string 9 w4 _ _ v4 (pathsT t nil_):=ho;obtain ⟨A4,c4,rfl⟩:=Kd.R_slice ho;have RR4:=Aside0.mk ho;have R4:=Aside0.mk (Kd.R_reads' ho).2.2;have B4:=Aside0.mk (below_step B3.out hb);clear ho hb) | (go_at_call 69;(with_reducible refine (CO.out _ _ _ R4.out).mono ?_);rintro e w5 ⟨rfl,hb⟩;have B5:=Aside0.mk (below_step B4.out hb);have R5:=Aside0.mk (Kd.R_below RR4.out hb);clear hb))
   go_ret2
   exact ⟨_,rfl,Kd.R_lower R5.out B3.out.size,B5.out⟩
set_option maxRecDepth 100000 in
set_option maxHeartbeats 8000000 in
theorem pathsIn_s (l:List S107) (A:Option Addr) (c:Nat) (w:World) (hS:Small l) (hr:Kd.C k107 w A l.length l) (hc:l.length≤c) :
  Calls Tryz.prog 16 #[.agg #[.slice A l.length c]] w fun e w'=>∃ v',e=.returned (.tuple #[v',.bool (pathsV l).2])∧Kd.R Kd.string 9 w' w.heap.size (fun _=>True) v' (pathsV l).1∧Below w.heap.size w w':=by
 obtain ⟨W1,hW1⟩:∃ W1,W1=w.alloc (.cells #[.slice A l.length c] 31):=⟨_,rfl⟩
 obtain ⟨gb,hgb⟩:∃ g,g=w.heap.size:=⟨_,rfl⟩
 have HB1:=Aside0.mk (show Below w.heap.size w W1 by rw [hW1];exact below_alloc (Below.refl _ _) _)
 have KB:=Aside0.mk (show W1.heap[gb]? = some (.cells #[.slice A l.length c] 31 (0,0)) by rw [hW1,hgb];exact blk_new w _)
 have t0:W1.cell? ⟨gb,0,none⟩=some (.slice A l.length c):=(blk_cell KB.out 0).trans rfl
 have HR1:=Aside0.mk (Kd.C_below hr HB1.out)
 have HC:=Aside0.mk hc
 obtain ⟨kg,hkg⟩:=(good_ev hS).rounds
 have GV:=Aside0.mk (spec_GoodValue.calls kg A c l (valT l).isSome W1 HR1.out hc hkg)
 clear hr hc hkg hS
 cases hv:valT l with
 | none =>
  have HP:=Aside0.mk (show pathsV l=([],false) by unfold pathsV;rw [hv])
  rw [hv] at GV
  rw [HP.out]
  clear hv
  go_enter Tryz.func16,Tryz.ntmps16
  go_upto_region 1 with fail
  rw [←hW1,←hgb]
  clear hW1 hgb
  go_wp2_with (first | (go_at_call 63;(refine GV.out.mono ?_);rintro e w3 ⟨rfl,hb⟩;have B3:=Aside0.mk (below_step HB1.out hb);clear hb))
  go_ret2
  exact ⟨_,rfl,Kd.R_nil _ _ _ _ _,B3.out⟩
 | some t =>
  rw [hv] at GV
  obtain ⟨h1,h2,h3,h4,h5⟩:=valT_iff.1 hv
  have hp:Pl l 0 t nil_ (-1):=by rw [h1];exact Pl.root h2 h4
  have TR:=Aside0.mk (fun W (hr:Kd.C k107 W A l.length l)=>l1Tree_0 hp hr HC.out)
  have FT:=Aside0.mk (And.intro (wf_fit t h2) h4)
  have LN:=Aside0.mk (show (pathsT t nil_).length≤1073741824 by rw [pathsT_len];omega)
  have HV:=Aside0.mk hv
  have LP:=Aside0.mk (show ∀ (w6:World) (A3:Option Addr) (c3:Nat) (A6:Option Addr) (c6:Nat),SAt w6 t A3 c3 A6 c6→Calls Tryz.prog 64 #[.agg #[.int .i64 t.kd,.int .i64 t.nu,.string t.tx,.slice A3 t.ns.length c3,.slice A6 t.ks.length c6],.slice none 0 0,.slice none 0 0] w6 fun e w'=>∃ v',e=.returned v'∧Kd.R Kd.string 9 w' w6.heap.size (fun _=>True) v' (pathsT t nil_)∧Below w6.heap.size w6 w' from
   fun w6 A3 c3 A6 c6 h=>((l3Paths_c t).go w6 w6 A3 c3 A6 c6 none 0 [] (.slice none 0 0) [] h FT.out.1 (Below.refl _ _) (fun W' _=>(Kd.R_reads' (Kd.R_nil Kd.string 9 W' W'.heap.size (fun _=>True))).2.2) (Nat.le_refl _) (fun x hx=>by cases hx) (Kd.R_nil _ _ _ _ _) (by have:=FT.out.2;simp;omega) (by have:=FT.out.2;simp;omega)).mono fun e w' ⟨v',h1,h2,h3,_,_⟩=>⟨v',h1,h2,h3⟩)
  clear hv h1 h2 h3 h4 h5 hp
  go_enter Tryz.func16,Tryz.ntmps16
  go_upto_region 1 with fail
  rw [←hW1,←hgb]
  clear hW1 hgb
  go_wp2_with (first | (go_at_call 63;(refine GV.out.mono ?_);rintro e w3 ⟨rfl,hb⟩;have B3:=Aside0.mk (below_step HB1.out hb);have R3:=Aside0.mk (Kd.C_below HR1.out hb);have q0:w3.cell? ⟨gb,0,none⟩=some (.slice A l.length c):=(blk_cell (blk_below KB.out hb) 0).trans rfl;clear hb) | (go_at_call 65;(refine (TR.out _ R3.out).mono ?_);rintro e w6 ⟨v3,v4,rfl,ha3,ha4,hb⟩;obtain ⟨A3,c3,rfl⟩:=Kd.R_slice ha3;obtain ⟨A6,c6,rfl⟩:=Kd.R_slice ha4;rw [toSL_len] at ha4 ⊢;have B6:=Aside0.mk (below_step B3.out hb);have S6:=Aside0.mk (show SAt w6 t A3 c3 A6 c6 from ⟨(Kd.R_reads' ha3).2.1,(Kd.R_reads' ha3).2.2,by have:=(Kd.R_reads' (by rw [←toSL_len] at ha4;exact ha4)).2.1;rwa [toSL_len] at this,by have:=(Kd.R_reads' (by rw [←toSL_len] at ha4;exact ha4)).2.2;rwa [toSL_len] at this⟩);clear ha3 ha4 hb) | (go_at_call 64;(with_reducible refine (LP.out _ _ _ _ _ S6.out).mono ?_);rintro e w7 ⟨v7,rfl,ho,hb⟩;obtain ⟨A7,c7,rfl⟩:=Kd.R_slice ho;have RR7:=Aside0.mk ho;have R7:=Aside0.mk (Kd.R_reads' ho).2.2;have B7:=Aside0.mk (below_step B6.out hb);clear ho hb))
  obtain ⟨ps,hps⟩:∃ p,p=pathsT t nil_:=⟨_,rfl⟩
  rw [←hps] at RR7 R7 LN ⊢
  have HV2:=Aside0.mk (show pathsV l=if ps.all le60 then (ps,true) else ([],false) by unfold pathsV;rw [HV.out,hps])
  clear hps
  go_loopg [15] ps.length (fun m v15 W=>W=w7∧∃ i:Nat,v15=.int .i64 (i:Int)∧Aside0 (i+m=ps.length)∧Aside0 ((ps.take i).all le60=true))
  case atStart=>exact ⟨rfl,0,rfl,⟨by omega⟩,⟨rfl⟩⟩
  case round =>
   obtain ⟨rfl,i,rfl,HM,HA⟩:=hrel
   cases gk with
   | zero =>
    have hlt:decide (i < ps.length)=false:=decide_eq_false (by have:=HM.out;omega)
    have HI:=Aside0.mk (show ps.all le60=true by have h1:ps.take i=ps:=List.take_of_length_le (by have:=HM.out;omega);have h2:=HA.out;rwa [h1] at h2)
    go_wp2
    go_ret2
    rw [HV2.out,HI.out]
    exact ⟨_,rfl,Kd.R_lower RR7.out B6.out.size,B7.out⟩
   | succ m =>
    have hi:i < ps.length:=by have:=HM.out;omega
    have hin:decide (i < ps.length)=true:=decide_eq_true hi
    have b4:(i:Int)≤1073741824:=by have:=LN.out;omega
    obtain ⟨ad,ca,e,_,hK,hc⟩:=Kd.C_get R7.out nil_ (i:Int) (by omega) (by omega)
    obtain rfl:ca=[.string (ps.getD (i:Int).toNat nil_)]:=hK
    have h0:=hc 0 _ rfl
    have e1:(i:Int).toNat * Kd.string.sz+0=i:=by show (i:Int).toNat * 1+0=i;omega
    rw [e1,List.getD_eq_getElem?_getD,Int.toNat_natCast,List.getElem?_eq_getElem hi] at h0
    clear hc e1
    subst e
    have HS:=Aside0.mk (show (ps.take (i+1)).all le60=(le60 ps[i]&&(ps.take i).all le60) by rw [List.take_succ_eq_append_getElem hi,List.all_append,Bool.and_comm];congr 1;simp)
    have HIn:=Aside0.mk (List.getElem_mem hi)
    obtain ⟨s,hs⟩:∃ s,s=ps[i]:=⟨_,rfl⟩
    simp only [Option.getD_some] at h0
    rw [←hs] at h0 HS HIn
    clear hs
    by_cases es:s.size≤60
    ·have ES:=Aside0.mk (show le60 s=true from decide_eq_true es)
     have hd:decide ((s.size:Int) > 60)=false:=decide_eq_false (by omega)
     clear es
     go_wp2
     go_roundg m
     case rel=>exact ⟨rfl,i+1,by go_num,⟨by have:=HM.out;omega⟩,⟨by rw [HS.out,ES.out,HA.out];rfl⟩⟩
     case measure=>omega
    ·have HI:=Aside0.mk (show ps.all le60=false by rw [List.all_eq_false];exact ⟨s,HIn.out,by unfold le60;rw [decide_eq_false es];simp⟩)
     have hd:decide ((s.size:Int) > 60)=true:=decide_eq_true (by omega)
     clear es
     go_wp2
     go_ret2
     rw [HV2.out,HI.out]
     exact ⟨_,rfl,Kd.R_nil _ _ _ _ _,B7.out⟩
end Go.Proofs.YtoaafohpmhdjnaaGreatDoor.VT
