import Derived.Test.YtoaafohpmhdjnaaGreatDoorGAVIQ
import Derived.Test.YtoaafohpmhdjnaaGreatDoorGAVIL
import Derived.Test.YtoaafohpmhdjnaaGreatDoorGAYPA
import Derived.Test.YtoaafohpmhdjnaaGreatDoorGAPVGx3
/- impl get along a path: walked. Conditions: a right tree, short names. -/
namespace Go.Proofs.YtoaafohpmhdjnaaGreatDoor.VT
open Go.RowKit Go.Proofs.YtoaafohpmhdjnaaGreatDoor.RX Go.Proofs.YtoaafohpmhdjnaaGreatDoor.RY Go.Proofs.YtoaafohpmhdjnaaGreatDoor.PVG Go.Proofs.YtoaafohpmhdjnaaGreatDoorW.PrintWords Go.Proofs.YtoaafohpmhdjnaaGreatDoorW.PrintLast Go.Proofs.YtoaafohpmhdjnaaGreatDoorW.PrintMore
set_option linter.unusedVariables false
set_option linter.unusedSimpArgs false
theorem plT_lt {t:Tr} {s:ByteArray} (hw:wf t=true) (k:Nat) (h:plT t s=(k:Int)):k < t.ks.length:=by
 unfold plT at h
 by_cases h7:t.kd=7
 ·rw [if_pos h7] at h
  obtain ⟨h1,h2⟩:=wf_map hw h7
  unfold plM at h
  cases hb:bsB t.ns s with
  | false=>rw [hb] at h;simp at h
  | true =>
   rw [hb] at h
   have:=(bs_yes h2 hb).1
   simp at h
   omega
 ·rw [if_neg h7] at h
  by_cases h6:t.kd=6
  ·rw [if_pos h6] at h
   unfold plL at h
   split at h
   ·split at h
    ·rename_i h3;have:=h3.2.2;omega
    ·omega
   ·omega
  ·rw [if_neg h6] at h;omega
def getT:Tr→List ByteArray→Option Tr
 | t,[]=>some t
 | t,s :: r=>if plT t s < 0 then none else match t.ks[(plT t s).toNat]? with
  | some u=>getT u r
  | none=>none
theorem getT_no {t:Tr} {s:ByteArray} {r:List ByteArray} (h:plT t s < 0):getT t (s :: r)=none:=by rw [getT,if_pos h]
theorem getT_yes {t:Tr} {s:ByteArray} {r:List ByteArray} (k:Nat) (h:plT t s=(k:Int)) (hk:k < t.ks.length):getT t (s :: r)=getT t.ks[k] r:=by
 rw [getT,if_neg (by omega),h,Int.toNat_natCast,List.getElem?_eq_getElem hk]
theorem wf_kid {t:Tr} (hw:wf t=true) {u:Tr} (hu:u∈t.ks):wf u=true:=by
 cases t with
 | mk kd nu tx ns ks =>
  rw [wf] at hw
  simp only [Bool.and_eq_true] at hw
  exact (wfL_iff ks).1 hw.2 u hu
theorem cnt_kid {t:Tr} {u:Tr} (hu:u∈t.ks):cnt u≤cnt t:=by
 cases t with
 | mk kd nu tx ns ks =>
  have:cnt u≤cntL ks:=cntL_mem hu
  rw [cnt];omega
theorem cnt_ks (t:Tr):t.ks.length≤cnt t:=by
 cases t with
 | mk kd nu tx ns ks=>have:=cnt_ge_len ks;rw [cnt];show ks.length≤_;omega
theorem ns_len {t:Tr} (hw:wf t=true):t.ns.length≤cnt t:=by
 by_cases h7:t.kd=7
 ·have:=(wf_map hw h7).1;have:=cnt_ks t;omega
 ·cases t with
  | mk kd nu tx ns ks =>
   rw [wf] at hw
   have:(kd==7)=false:=beq_eq_false_iff_ne.2 h7
   rw [this] at hw
   simp at hw
   show ns.length≤_
   rw [hw.1.1.2]
   simp
structure GotV (w:World) (o:Option Tr) (e:Ending) (w':World):Prop where
 out:(match o with | none=>e=.returned (.pointer none) | some u=>∃ p,e=.returned (.pointer (some ⟨p,0,none⟩))∧IsV w' p u)∧Below w.heap.size w w'
set_option maxRecDepth 100000 in
set_option maxHeartbeats 4000000 in
theorem get_c (t:Tr) (names:List ByteArray) (A:Option Addr) (n c:Nat) (w:World) (g:Nat) (ht:HT w) (hE:HE w) (hv:IsV w g t) (hw:wf t=true) (hc:cnt t≤1073741824) (hl:names.length=n) (hn:n≤1073741824) (hr:Kd.C Kd.string w A n names) (hs:∀ s∈names,s.size≤1073741824) :
  Calls Tryz.prog 77 #[.pointer (some ⟨g,0,none⟩),.slice A n c] w (GotV w (getT t names)):=by
 have HTT:=Aside0.mk ht
 have HEE:=Aside0.mk hE
 have HV:=Aside0.mk (And.intro hv (And.intro hw hc))
 have HL:=Aside0.mk hl
 have HS:=Aside0.mk hs
 have HN:=Aside0.mk hn
 have NAM:=Aside0.mk (show ∀ i (hi:i < names.length),∃ ad,A=some ad∧w.cell? (ad.add i)=some (.string names[i]) from fun i hi=>by
  rw [←hl] at hr
  obtain ⟨ad,c,e,_,hK,hc⟩:=Kd.C_get hr nil_ (i:Int) (by omega) (by omega)
  obtain rfl:c=[.string (names.getD (i:Int).toNat nil_)]:=hK
  have h0:=hc 0 _ rfl
  have e1:(i:Int).toNat * Kd.string.sz+0=i:=by show (i:Int).toNat * 1+0=i;omega
  rw [e1,Int.toNat_natCast,List.getD_eq_getElem?_getD,List.getElem?_eq_getElem hi] at h0
  exact ⟨ad,e,h0⟩)
 clear ht hE hv hw hc hl hs hr hn
 go_enter Tryz.func77,Tryz.ntmps77
 go_wp2
 go_loopg [0,10] n (fun m v0 v10 W=>∃ (i p:Nat) (u:Tr),v0=.pointer (some ⟨p,0,none⟩)∧v10=.int .i64 (i:Int)∧Aside0 (i+m=n)∧Aside0 (IsV W p u∧wf u=true∧cnt u≤1073741824)∧Aside0 (getT t names=getT u (names.drop i))∧Aside0 (Below w.heap.size w W))
 case atStart=>exact ⟨0,g,t,rfl,rfl,⟨by omega⟩,HV,⟨by rw [List.drop_zero]⟩,⟨Below.refl _ _⟩⟩
 case round =>
  obtain ⟨i,p,u,rfl,rfl,HM,HU,HG,HB⟩:=hrel
  cases gk with
  | zero =>
   have hlt:decide (i < n)=false:=decide_eq_false (by have:=HM.out;omega)
   have HG2:=Aside0.mk (show getT t names=some u by rw [HG.out,List.drop_of_length_le (by have:=HM.out;have:=HL.out;omega)];rfl)
   go_wp2
   go_ret
   exact ⟨⟨by rw [HG2.out];exact ⟨p,rfl,HU.out.1⟩,HB.out⟩⟩
  | succ m =>
   have hi:i < names.length:=by have:=HM.out;have:=HL.out;omega
   have hin:decide (i < n)=true:=decide_eq_true (by have:=HL.out;omega)
   have hi2:i < n:=by have:=HL.out;omega
   have b1:(i:Int)≤1073741824:=by have:=HN.out;omega
   obtain ⟨ad,rfl,kn⟩:=NAM.out i hi
   obtain ⟨s,hss⟩:∃ s,s=names[i]:=⟨_,rfl⟩
   rw [←hss] at kn
   have ks:wr.cell? (ad.add i)=some (.string s):=(HB.out.cell (World.block_lt_of_cell? w _ kn)).trans kn
   have HD:=Aside0.mk (show names.drop i=s :: names.drop (i+1) by rw [List.drop_eq_getElem_cons hi,hss])
   have HSS:=Aside0.mk (show s.size≤1073741824 by rw [hss];exact HS.out _ (List.getElem_mem hi))
   have PC:=Aside0.mk (place_c u s wr p (HTT.out.below HB.out) (HEE.out.below HB.out) HU.out.1 (by have:=cnt_ks u;have:=HU.out.2.2;omega) (by have:=ns_len HU.out.2.1;have:=HU.out.2.2;omega) HSS.out)
   clear kn hss hi
   by_cases hneg:plT u s < 0
   ·have HG2:=Aside0.mk (show getT t names=none by rw [HG.out,HD.out,getT_no hneg])
    obtain ⟨k,hk⟩:∃ k,k=plT u s:=⟨_,rfl⟩
    rw [←hk] at PC hneg
    have hneg2:decide (k < 0)=true:=decide_eq_true hneg
    clear hk hneg
    go_wp2_with (first | (go_at_call 85;(with_reducible refine PC.out.mono ?_);rintro e w2 ⟨rfl,hb⟩;have B2:=Aside0.mk hb;clear hb))
    go_ret
    exact ⟨⟨by rw [HG2.out];rfl,below_step HB.out B2.out⟩⟩
   ·obtain ⟨k,hk⟩:∃ k:Nat,plT u s=(k:Int):=⟨(plT u s).toNat,by omega⟩
    have hkl:=plT_lt HU.out.2.1 k hk
    have HG2:=Aside0.mk (show getT t names=getT u.ks[k] (names.drop (i+1)) by rw [HG.out,HD.out,getT_yes k hk hkl])
    rw [hk] at PC
    obtain ⟨A3,c3,A4,c4,ha⟩:=HU.out.1.at_
    obtain ⟨a4,p2,rfl,kc,kv⟩:=ha.kid k hkl
    obtain ⟨_,_,_,_,k4⟩:=ha.cells
    have LT:=Aside0.mk ha.lt
    have K4:=Aside0.mk k4
    have KC:=Aside0.mk kc
    have KV:=Aside0.mk kv
    have CP:=Aside0.mk (World.block_lt_of_cell? wr _ kc)
    have HW2:=Aside0.mk (And.intro (wf_kid HU.out.2.1 (List.getElem_mem hkl)) (Nat.le_trans (cnt_kid (List.getElem_mem hkl)) HU.out.2.2))
    obtain ⟨u2,hu2⟩:∃ u2,u2=u.ks[k]:=⟨_,rfl⟩
    rw [←hu2] at HG2 KV HW2
    have hneg2:decide ((k:Int) < 0)=false:=decide_eq_false (by omega)
    obtain ⟨nk,hnk⟩:∃ nk,nk=u.ks.length:=⟨_,rfl⟩
    rw [←hnk] at hkl K4
    have b2:(k:Int)≤1073741824:=by have:=cnt_ks u;have:=HU.out.2.2;omega
    clear ha kc kv k4 hk hneg hu2 hnk
    go_wp2_with (first | (go_at_call 85;(with_reducible refine PC.out.mono ?_);rintro e w2 ⟨rfl,hb⟩;have B2:=Aside0.mk hb;have k4:=(hb.cell LT.out).trans K4.out;have kc:=(hb.cell CP.out).trans KC.out;clear hb))
    go_roundg m
    ·exact ⟨i+1,p2,u2,rfl,by push_cast;rfl,⟨by have:=HM.out;omega⟩,⟨⟨KV.out.below B2.out,HW2.out.1,HW2.out.2⟩⟩,HG2,⟨below_step HB.out B2.out⟩⟩
    ·exact Nat.lt_succ_self _
end Go.Proofs.YtoaafohpmhdjnaaGreatDoor.VT
namespace Go.Proofs.YtoaafohpmhdjnaaGreatDoor.VT
open Go.RowKit Go.Proofs.YtoaafohpmhdjnaaGreatDoor.RX Go.Proofs.YtoaafohpmhdjnaaGreatDoor.RY Go.Proofs.YtoaafohpmhdjnaaGreatDoor.PVG Go.Proofs.YtoaafohpmhdjnaaGreatDoorW.PrintWords Go.Proofs.YtoaafohpmhdjnaaGreatDoorW.PrintLast Go.Proofs.YtoaafohpmhdjnaaGreatDoorW.PrintMore
set_option linter.unusedVariables false
set_option linter.unusedSimpArgs false
theorem plM_fst (ns:List ByteArray) (s:ByteArray) (h:rising ns=true):plM ns s=fstI s ns 0:=by
 unfold plM
 cases hb:bsB ns s with
 | true =>
  obtain ⟨h1,h2,h3⟩:=bs_yes h hb
  rw [if_pos rfl,fstI_yes s ns 0 _ h1 h2 h3,Nat.zero_add]
 | false =>
  rw [if_neg (by simp),fstI_no s ns 0 (bs_no h hb)]
set_option maxRecDepth 100000 in
set_option maxHeartbeats 4000000 in
theorem l3At_list (nu:Int) (tx s:ByteArray) (A3 A4:Option Addr) (n3 c3 c4 n:Nat) (w:World) (hn:n≤1073741824) :
  Calls Tryz.prog 120 #[.agg #[.int .i64 6,.int .i64 nu,.string tx,.slice A3 n3 c3,.slice A4 n c4],.string s] w fun e w'=>e=.returned (.int .i64 (fstD s n 0))∧Below w.heap.size w w':=by
 obtain ⟨W1,hW1⟩:∃ W1,W1=w.alloc (.cells #[.int .i64 6,.int .i64 nu,.string tx,.slice A3 n3 c3,.slice A4 n c4] 89):=⟨_,rfl⟩
 obtain ⟨gb,hgb⟩:∃ g,g=w.heap.size:=⟨_,rfl⟩
 have HB1:=Aside0.mk (show Below w.heap.size w W1 by rw [hW1];exact below_alloc (Below.refl _ _) _)
 have KB:=Aside0.mk (show W1.heap[gb]? = some (.cells #[.int .i64 6,.int .i64 nu,.string tx,.slice A3 n3 c3,.slice A4 n c4] 89 (0,0)) by rw [hW1,hgb];exact blk_new w _)
 have k4:W1.cell? ⟨gb,4,none⟩=some (.slice A4 n c4):=(blk_cell KB.out 4).trans rfl
 have HN:=Aside0.mk hn
 clear hn
 go_enter Tryz.func120,Tryz.ntmps120
 go_upto_region 1 with fail
 rw [←hW1,←hgb]
 clear hW1 hgb
 go_wp2
 go_loopg [9] n (fun m v9 W=>∃ i:Nat,v9=.int .i64 (i:Int)∧Aside0 (i+m=n)∧Aside0 (fstD s m i=fstD s n 0)∧Aside0 (Below w.heap.size w W∧W.heap[gb]? = some (.cells #[.int .i64 6,.int .i64 nu,.string tx,.slice A3 n3 c3,.slice A4 n c4] 89 (0,0))))
 case atStart=>exact ⟨0,rfl,⟨by omega⟩,⟨rfl⟩,⟨HB1.out,KB.out⟩⟩
 case round =>
  obtain ⟨i,rfl,HI,HF,HK⟩:=hrel
  cases gk with
  | zero =>
   have hin:decide (i < n)=false:=decide_eq_false (by have:=HI.out;omega)
   have HR:=Aside0.mk (show fstD s n 0 = -1 by rw [←HF.out];rfl)
   go_wp2
   go_ret
   exact ⟨by rw [HR.out];rfl,HK.out.1⟩
  | succ m =>
   have hi:i < n:=by have:=HI.out;omega
   have hin:decide (i < n)=true:=decide_eq_true hi
   have b1:(i:Int)≤1073741824:=by have:=HI.out;have:=HN.out;omega
   have k0:wr.cell? ⟨gb,0,none⟩=some (.int .i64 6):=(blk_cell HK.out.2 0).trans rfl
   obtain ⟨d,hd⟩:∃ d,d=ofL (Lib.decDigits i):=⟨_,rfl⟩
   have NC:=Aside0.mk (fun W=>spec_l1Num.calls 20 (i:Int) d W (by
    rw [hd]
    exact (num_eq 20 i (Nat.lt_of_le_of_lt (show i≤1073741824 by have:=HN.out;omega) (by decide)) (by have:=HN.out;omega)).resolve_right (by decide)))
   have hds:(d.toList==s.toList)=decide (Lib.decDigits i=s.data.toList):=by
    rw [Bool.eq_iff_iff,beq_iff_eq,decide_eq_true_iff,ByteArray.toList_eq,ByteArray.toList_eq,hd]
    simp [ofL]
   have HS:=Aside0.mk (show fstD s (m+1) i=if Lib.decDigits i=s.data.toList then (i:Int) else fstD s m (i+1) from rfl)
   clear hd hi
   cases hq:decide (Lib.decDigits i=s.data.toList) with
   | true =>
    rw [hq] at hds
    have HR:=Aside0.mk (show fstD s n 0=(i:Int) by rw [←HF.out,HS.out,if_pos (of_decide_eq_true hq)])
    clear hq
    go_wp2_with (first | (go_at_call 109;(with_reducible refine (NC.out _).mono ?_);rintro e w3 ⟨rfl,hb⟩;have B3:=Aside0.mk (below_step HK.out.1 hb);clear hb))
    go_ret
    exact ⟨by rw [HR.out];rfl,B3.out⟩
   | false =>
    rw [hq] at hds
    have HR:=Aside0.mk (show fstD s m (i+1)=fstD s n 0 by rw [←HF.out,HS.out,if_neg (of_decide_eq_false hq)])
    clear hq
    go_wp2_with (first | (go_at_call 109;(with_reducible refine (NC.out _).mono ?_);rintro e w3 ⟨rfl,hb⟩;have B3:=Aside0.mk (below_step HK.out.1 hb);have K3:=Aside0.mk (blk_below HK.out.2 hb);clear hb))
    go_roundg m
    ·exact ⟨i+1,by push_cast;rfl,⟨by have:=HI.out;omega⟩,HR,⟨B3.out,K3.out⟩⟩
    ·exact Nat.lt_succ_self _
set_option maxRecDepth 100000 in
set_option maxHeartbeats 4000000 in
theorem l3At_none (kd nu:Int) (tx s:ByteArray) (A3 A4:Option Addr) (n3 c3 c4:Nat) (w:World) :
  Calls Tryz.prog 120 #[.agg #[.int .i64 kd,.int .i64 nu,.string tx,.slice A3 n3 c3,.slice A4 0 c4],.string s] w fun e w'=>e=.returned (.int .i64 (-1))∧Below w.heap.size w w':=by
 obtain ⟨W1,hW1⟩:∃ W1,W1=w.alloc (.cells #[.int .i64 kd,.int .i64 nu,.string tx,.slice A3 n3 c3,.slice A4 0 c4] 89):=⟨_,rfl⟩
 obtain ⟨gb,hgb⟩:∃ g,g=w.heap.size:=⟨_,rfl⟩
 have HB1:=Aside0.mk (show Below w.heap.size w W1 by rw [hW1];exact below_alloc (Below.refl _ _) _)
 have KB:=(show W1.heap[gb]? = some (.cells #[.int .i64 kd,.int .i64 nu,.string tx,.slice A3 n3 c3,.slice A4 0 c4] 89 (0,0)) by rw [hW1,hgb];exact blk_new w _)
 have k4:W1.cell? ⟨gb,4,none⟩=some (.slice A4 0 c4):=(blk_cell KB 4).trans rfl
 clear KB
 go_enter Tryz.func120,Tryz.ntmps120
 go_upto_region 1 with fail
 rw [←hW1,←hgb]
 clear hW1 hgb
 go_wp2
 go_loopg [9] 0 (fun m v9 W=>v9=.int .i64 0∧W=W1)
 case atStart=>exact ⟨rfl,rfl⟩
 case round =>
  obtain ⟨rfl,rfl⟩:=hrel
  go_wp2
  go_ret
  exact ⟨rfl,HB1.out⟩
theorem wf_none {t:Tr} (hw:wf t=true) (h6:t.kd≠6) (h7:t.kd≠7):t.ks.length=0:=by
 cases t with
 | mk kd nu tx ns ks =>
  rw [wf] at hw
  simp only [Bool.and_eq_true] at hw
  have h1:=hw.1.2
  have:holdsB kd=false:=by unfold holdsB;rw [show (kd==6)=false from beq_eq_false_iff_ne.2 h6,show (kd==7)=false from beq_eq_false_iff_ne.2 h7];rfl
  rw [this] at h1
  simp at h1
  show ks.length=0
  rw [h1];rfl
theorem l3At_t (t:Tr) (hw:wf t=true) (hc:cnt t≤1073741824) (s:ByteArray) (A3 A4:Option Addr) (c3 c4:Nat) (w:World) (hr:Kd.C Kd.string w A3 t.ns.length t.ns) :
  Calls Tryz.prog 120 #[.agg #[.int .i64 t.kd,.int .i64 t.nu,.string t.tx,.slice A3 t.ns.length c3,.slice A4 t.ks.length c4],.string s] w fun e w'=>e=.returned (.int .i64 (plT t s))∧Below w.heap.size w w':=by
 have h1:=cnt_ks t
 unfold plT
 by_cases h7:t.kd=7
 ·obtain ⟨h2,h3⟩:=wf_map hw h7
  rw [if_pos h7,plM_fst _ _ h3,h7,h2]
  exact l3At_c t.nu t.tx s t.ns A3 A4 c3 c4 t.ks.length w hr h2 (by omega)
 ·rw [if_neg h7]
  by_cases h6:t.kd=6
  ·rw [if_pos h6,h6,plL_fst _ _ (by omega)]
   exact l3At_list t.nu t.tx s A3 A4 _ c3 c4 t.ks.length w (by omega)
  ·rw [if_neg h6,wf_none hw h6 h7]
   exact l3At_none _ _ _ _ _ _ _ _ _ _
end Go.Proofs.YtoaafohpmhdjnaaGreatDoor.VT
