import Derived.Test.YtoaafohpmhdjnaaGreatDoorPIVPB
import Derived.Test.YtoaafohpmhdjnaaGreatDoorPIVSG
/- spec.l3Paths: walked. Conditions: right trees. -/
namespace Go.Proofs.YtoaafohpmhdjnaaGreatDoor.VT
open Go.RowKit Go.Proofs.YtoaafohpmhdjnaaGreatDoor.RX Go.Proofs.YtoaafohpmhdjnaaGreatDoor.RY Go.Proofs.YtoaafohpmhdjnaaGreatDoor.PVG Go.Proofs.YtoaafohpmhdjnaaGreatDoorW.PrintWords Go.Proofs.YtoaafohpmhdjnaaGreatDoorW.PrintLast Go.Proofs.YtoaafohpmhdjnaaGreatDoorW.PrintMore
set_option linter.unusedVariables false
set_option linter.unusedSimpArgs false
theorem _root_.Go.Proofs.YtoaafohpmhdjnaaGreatDoorW.PrintWords.Kd.R_grown_none {α:Type} {d:Kd α} {e:Nat} {W W1:World} {base:Nat} {ok:Nat→Prop} {v:Value} {xs:List α} (h:d.R e W base ok v xs) (hg:W.grownBy W1 none):d.R e W1 base ok v xs :=
 Kd.R_kept h (Kept.of_grown hg (Kept.refl _ _) (S:=fun _=>False) (fun k hk=>by cases hk)) (fun _ _ h=>h)
theorem _root_.Go.Proofs.YtoaafohpmhdjnaaGreatDoorW.PrintWords.Kd.R_newer {W W1:World} {base:Nat} {ok:Nat→Prop} {v:Value} {xs:List ByteArray} (h:Kd.R Kd.string 9 W1 base ok v xs) (hn:∃ b,v.ownBlock=some b∧W.heap.size≤b):Kd.R Kd.string 9 W1 base (fun k=>W.heap.size≤k) v xs:=by
 obtain ⟨b,e,hb⟩:=hn
 refine ⟨fun k hk=>by rw [e] at hk;cases hk;exact hb,?_⟩
 obtain ⟨inner,ho,hr⟩:=h.2
 exact ⟨inner,ho,hr.imp_ (fun _ _ hp=>hp)⟩
def P3Call (t:Tr):Prop:=∀ (w0 w:World) (A3:Option Addr) (c3:Nat) (A4:Option Addr) (c4:Nat) (Ap:Option Addr) (cp:Nat) (ps:List ByteArray) (v:Value) (l:List ByteArray),SAt w0 t A3 c3 A4 c4→fit t=true→Below w0.heap.size w0 w→(∀ W',Kept w W' (fun k=>some k=v.ownBlock)→Kd.C Kd.string W' Ap ps.length ps)→ps.length≤cp→(∀ x,x∈ps→x.size≤100)→Kd.R Kd.string 9 w w0.heap.size (fun _=>True) v l→l.length+cnt t≤1073741824→ps.length+cnt t≤1000000 →
 Calls Tryz.prog 64 #[.agg #[.int .i64 t.kd,.int .i64 t.nu,.string t.tx,.slice A3 t.ns.length c3,.slice A4 t.ks.length c4],.slice Ap ps.length cp,v] w fun e w'=>∃ v',e=.returned v'∧Kd.R Kd.string 9 w' w0.heap.size (fun _=>True) v' (l++pathsT t (textP ps))∧Below w0.heap.size w0 w'∧Kept w w' (fun k=>some k=v.ownBlock)∧(v'.ownBlock=v.ownBlock∨∃ b,v'.ownBlock=some b∧w.heap.size≤b)
theorem P3Call.go {t:Tr} (h:P3Call t) (w0 w:World) (A3:Option Addr) (c3:Nat) (A4:Option Addr) (c4:Nat) (Ap:Option Addr) (cp:Nat) (ps:List ByteArray) (v:Value) (l:List ByteArray) (h0:SAt w0 t A3 c3 A4 c4) (h1:fit t=true) (h2:Below w0.heap.size w0 w) (h3:(∀ W',Kept w W' (fun k=>some k=v.ownBlock)→Kd.C Kd.string W' Ap ps.length ps)) (h4:ps.length≤cp) (h5:(∀ x,x∈ps→x.size≤100)) (h6:Kd.R Kd.string 9 w w0.heap.size (fun _=>True) v l) (h7:l.length+cnt t≤1073741824) (h8:ps.length+cnt t≤1000000) :
 Calls Tryz.prog 64 #[.agg #[.int .i64 t.kd,.int .i64 t.nu,.string t.tx,.slice A3 t.ns.length c3,.slice A4 t.ks.length c4],.slice Ap ps.length cp,v] w fun e w'=>∃ v',e=.returned v'∧Kd.R Kd.string 9 w' w0.heap.size (fun _=>True) v' (l++pathsT t (textP ps))∧Below w0.heap.size w0 w'∧Kept w w' (fun k=>some k=v.ownBlock)∧(v'.ownBlock=v.ownBlock∨∃ b,v'.ownBlock=some b∧w.heap.size≤b):=h w0 w A3 c3 A4 c4 Ap cp ps v l h0 h1 h2 h3 h4 h5 h6 h7 h8
set_option maxRecDepth 100000 in
set_option maxHeartbeats 8000000 in
theorem l3Paths_c (t:Tr):P3Call t:=by
 refine Tr.ind (P:=P3Call) ?_ t
 intro kd nu tx ns ks ih w0 w A3 c3 A4 c4 Ap cp ps v l ha hf hb0 hps hpc hpz hr hn hpn
 obtain ⟨A,c,rfl⟩:=Kd.R_slice hr
 simp only [Tr.kd,Tr.nu,Tr.tx,Tr.ns,Tr.ks]
 have hfit:=fit1 hf
 have HA:=Aside0.mk ha
 have HLEN:=Aside0.mk hfit.hlen
 have HNS:=Aside0.mk hfit.hns
 have FITS:=Aside0.mk ((fitL_iff ks).1 hfit.hks)
 have IH:=Aside0.mk ih
 have HN:=Aside0.mk hn
 have HPN:=Aside0.mk (show ps.length≤1000000 by omega)
 have HPS:=Aside0.mk hps
 have HPC:=Aside0.mk hpc
 have HPZ:=Aside0.mk hpz
 have HPT:=Aside0.mk hpn
 have NAM:=Aside0.mk (show ∀ i (h:i < ns.length),∃ ad,A3=some ad∧∀ W,Below w0.heap.size w0 W→W.cell? (ad.add i)=some (.string ns[i]) from fun i h=>by
  obtain ⟨ad,e,hc⟩:=ha.name i h
  exact ⟨ad,e,fun W hb=>(hb.cell (World.block_lt_of_cell? w0 _ hc)).trans hc⟩)
 obtain ⟨W1,hW1⟩:∃ W1,W1=w.alloc (.cells #[.int .i64 kd,.int .i64 nu,.string tx,.slice A3 ns.length c3,.slice A4 ks.length c4] 89):=⟨_,rfl⟩
 obtain ⟨gb,hgb⟩:∃ g,g=w.heap.size:=⟨_,rfl⟩
 have hb1:Below w.heap.size w W1:=by rw [hW1];exact below_alloc (Below.refl _ _) _
 have HR:=Aside0.mk (Kd.R_below hr hb1)
 have HB0:=Aside0.mk (below_step hb0 hb1)
 have KW1:=Aside0.mk (Kept.of_below hb1 (fun k=>some k=(Value.slice A l.length c).ownBlock))
 have KB:=Aside0.mk (show W1.heap[gb]? = some (.cells #[.int .i64 kd,.int .i64 nu,.string tx,.slice A3 ns.length c3,.slice A4 ks.length c4] 89 (0,0)) by rw [hW1,hgb];exact blk_new w _)
 have TX:=Aside0.mk (l3Text_c ps hpz (by omega) Ap cp W1 (hps W1 (Kept.of_below hb1 _)) hpc)
 have hl:l.length≤1073741824:=by omega
 clear ha hf hn hr hb0 hfit ih hb1 hps hpc hpz hpn
 go_enter Tryz.func64,Tryz.ntmps64
 go_upto_region 1 with fail
 rw [←hW1,←hgb]
 clear hW1 hgb
 go_upto_region 2 with (first | (go_at_call 108;(with_reducible refine TX.out.mono ?_);rintro e wt ⟨rfl,hb⟩;have HRt:=Aside0.mk (Kd.R_below HR.out hb);have HBt:=Aside0.mk (below_step HB0.out hb);have KBt:=Aside0.mk (blk_below KB.out hb);have KWt:=Aside0.mk (KW1.out.below hb);clear hb) | ((with_reducible refine gate_builtin (b:=.append) (xs:=#[.tmp 10,.tmp 13]) rfl ?_);at_builtin;refine Kd.R_append Kd.string w0.heap.size rfl (.tmp 10) (.tmp 13) 26 9 (.string ⟨#[]⟩) 16 rfl Tryz.underlying26 infoS rfl (by decide) (by decide) (.slice A l.length c) l (textP ps) [.string (textP ps)] (fun _=>True) (fun _=>False) rfl rfl ?aP (fun _ hk=>hk.elim) ?aF ?aO HBt.out ?aS ?aL ?_;(case aP=>exact rfl);(case aF=>exact fun _ _=>trivial);(case aO=>exact HRt.out);(case aS=>exact HBt.out.size);(case aL=>have:=HN.out;have:=cnt_pos (.mk kd nu tx ns ks);omega);intro v2 w2 ho hb hg hat;have KW2:=Aside0.mk (kept_via KWt.out (.inl rfl) (Kept.of_grown hg (Kept.refl _ _) (fun k hk=>.inl hk.symm)) hat);have R2:=Aside0.mk ho;have B2:=Aside0.mk hb;have K2:=Aside0.mk (blk_grown KBt.out hg (Kd.R_ne HRt.out KBt.out (by decide)));clear ho hb hg hat))
 clear hl
 obtain ⟨l2,hl2⟩:∃ l2,l2=l++[textP ps]:=⟨_,rfl⟩
 have HL2:=Aside0.mk (show l2.length=l.length+1 by rw [hl2];simp)
 have EL2:=Aside0.mk (show ∀ x:List ByteArray,l2++x=l++textP ps :: x by intro x;rw [hl2];simp)
 have R3:=R2.out
 rw [←hl2] at R3
 have R3:=Aside0.mk R3
 clear R2 hl2
 have k4:w2.cell? ⟨gb,4,none⟩=some (.slice A4 ks.length c4):=(blk_cell K2.out 4).trans rfl
 obtain ⟨A2,c2,rfl⟩:=Kd.R_slice R3.out
 go_wp2
 clear k4
 go_loopg [2,18] ks.length (fun m v2 v18 W=>∃ i:Nat,v18=.int .i64 (i:Int)∧Aside0 (i+m=ks.length)∧Aside0 (Kd.R Kd.string 9 W w0.heap.size (fun _=>True) v2 (l2++pathsL (ks.take i) (kd==7) ns 0 (textP ps)))∧Aside0 (Below w0.heap.size w0 W)∧Aside0 (W.heap[gb]? = some (.cells #[.int .i64 kd,.int .i64 nu,.string tx,.slice A3 ns.length c3,.slice A4 ks.length c4] 89 (0,0)))∧Aside0 (Kept w W (fun k=>some k=(Value.slice A l.length c).ownBlock)∧(v2.ownBlock=(Value.slice A l.length c).ownBlock∨∃ b,v2.ownBlock=some b∧w.heap.size≤b)))
 case atStart=>exact ⟨0,rfl,⟨by omega⟩,⟨by simp [pathsL];exact R3.out⟩,B2,K2,KW2⟩
 case round =>
  obtain ⟨i,rfl,HM,HRR,HB,HK,HKE⟩:=hrel
  cases gk with
  | zero =>
   have hlt:decide (i < ks.length)=false:=decide_eq_false (by have:=HM.out;omega)
   have R9:=HRR.out
   rw [show ks.take i=ks from List.take_of_length_le (by have:=HM.out;omega),EL2.out] at R9
   have R9:=Aside0.mk R9
   clear HRR
   go_wp2
   go_ret
   exact ⟨_,rfl,by rw [pathsT];exact R9.out,HB.out,HKE.out.1,HKE.out.2⟩
  | succ m =>
   have hi:i < ks.length:=by have:=HM.out;omega
   obtain ⟨lr,hlr⟩:∃ lr,lr=l2++pathsL (ks.take i) (kd==7) ns 0 (textP ps):=⟨_,rfl⟩
   have HLR:=Aside0.mk hlr
   have HR5:=HRR.out
   rw [←hlr] at HR5
   have HIm:=Aside0.mk (List.getElem_mem hi)
   have HS:=Aside0.mk (pathsL_take (m:=kd==7) (ns:=ns) (p:=textP ps) hi)
   have HC:=Aside0.mk (show lr.length+cnt ks[i]≤1073741824∧cnt ks[i]+1≤cnt (.mk kd nu tx ns ks) by
    rw [HLR.out]
    have h1:=cntL_take_le ks (i+1)
    have h2:=cntL_take ks i hi
    have h3:=HN.out
    have h4:=HL2.out
    simp only [cnt] at h3 ⊢
    rw [List.length_append,pathsL_len]
    omega)
   have b4:(i:Int)≤1073741824:=by have:=cnt_ge_len ks;have:=HN.out;simp only [cnt] at this;omega
   obtain ⟨ad,B3,d3,B4,d4,rfl,q0,q1,q2,q3,q4,hs⟩:=HA.out.kid i hi
   replace q0:w0.cell? (ad.add (i * 5))=some (.int .i64 (ks[i]).kd):=q0
   replace q1:w0.cell? ⟨(ad.add (i * 5)).block,(ad.add (i * 5)).off+1,none⟩=some (.int .i64 (ks[i]).nu):=q1
   replace q2:w0.cell? ⟨(ad.add (i * 5)).block,(ad.add (i * 5)).off+2,none⟩=some (.string (ks[i]).tx):=q2
   replace q3:w0.cell? ⟨(ad.add (i * 5)).block,(ad.add (i * 5)).off+3,none⟩=some (.slice B3 (ks[i]).ns.length d3):=q3
   replace q4:w0.cell? ⟨(ad.add (i * 5)).block,(ad.add (i * 5)).off+4,none⟩=some (.slice B4 (ks[i]).ks.length d4):=q4
   replace hs:SAt w0 ks[i] B3 d3 B4 d4:=hs
   have mv:∀ {a:Addr} {u:Value},w0.cell? a=some u→wr.cell? a=some u:=fun {a u} h=>(HB.out.cell (World.block_lt_of_cell? w0 _ h)).trans h
   replace q0:=mv q0
   replace q1:=mv q1
   replace q2:=mv q2
   replace q3:=mv q3
   replace q4:=mv q4
   have HSA:=Aside0.mk hs
   clear hs mv
   obtain ⟨t,ht⟩:∃ t,t=ks[i]:=⟨_,rfl⟩
   have HTI:=Aside0.mk ht
   rw [←ht] at q0 q1 q2 q3 q4
   obtain ⟨W3,hW3⟩:∃ W3,W3=wr.alloc (.cells #[.int .i64 t.kd,.int .i64 t.nu,.string t.tx,.slice B3 t.ns.length d3,.slice B4 t.ks.length d4] 89):=⟨_,rfl⟩
   obtain ⟨gk,hgk⟩:∃ g,g=wr.heap.size:=⟨_,rfl⟩
   have hb3:Below wr.heap.size wr W3:=by rw [hW3];exact below_alloc (Below.refl _ _) _
   have HR6:=Aside0.mk (Kd.R_below HR5 hb3)
   have BW3:=Aside0.mk (below_step HB.out hb3)
   have K3:=Aside0.mk (blk_below HK.out hb3)
   have KE3:=Aside0.mk (show Kept w W3 (fun k=>some k=(Value.slice A l.length c).ownBlock)∧_ from ⟨HKE.out.1.below hb3,HKE.out.2⟩)
   have KT:=Aside0.mk (show W3.heap[gk]? = some (.cells #[.int .i64 t.kd,.int .i64 t.nu,.string t.tx,.slice B3 t.ns.length d3,.slice B4 t.ks.length d4] 89 (0,0)) by rw [hW3,hgk];exact blk_new wr _)
   clear HRR hlr HR5 hb3 ht
   obtain ⟨A5,c5,rfl⟩:=Kd.R_slice HR6.out
   go_upto_region 5 with fail
   rw [←hW3,←hgk]
   clear hW3 hgk q0 q1 q2 q3 q4
   have IHT:=Aside0.mk (show P3Call t by rw [HTI.out];exact IH.out _ HIm.out)
   have FT:=Aside0.mk (show fit t=true by rw [HTI.out];exact FITS.out _ HIm.out)
   have CT:=Aside0.mk (show lr.length+cnt t≤1073741824 by rw [HTI.out];exact HC.out.1)
   have PCT:=Aside0.mk (show ps.length+1+cnt t≤1000000 by rw [HTI.out];have:=HC.out.2;have:=HPT.out;omega)
   have ST:=Aside0.mk (show SAt w0 t B3 d3 B4 d4 by rw [HTI.out];exact HSA.out)
   obtain ⟨dg,hdg⟩:∃ d,d=ofL (Lib.decDigits i):=⟨_,rfl⟩
   have NC:=Aside0.mk (fun W=>spec_l1Num.calls 20 (i:Int) dg W (by
    rw [hdg]
    exact (num_eq 20 i (Nat.lt_of_le_of_lt (show i≤1073741824 by omega) (by decide)) (by omega)).resolve_right (by decide)))
   have y0:W3.cell? ⟨gb,0,none⟩=some (.int .i64 kd):=(blk_cell K3.out 0).trans rfl
   by_cases h7:kd=7
   ·have hni:i < ns.length:=by rw [HLEN.out h7];exact hi
    obtain ⟨ad3,rfl,kn⟩:=NAM.out i hni
    obtain ⟨nm,hnm⟩:∃ n,n=ns[i]:=⟨_,rfl⟩
    rw [←hnm] at kn
    have h7b:(kd==7)=true:=by simpa using h7
    have HNM:=Aside0.mk (show (if (kd==7)=true then (ns.drop i).headD nil_ else ofL (Lib.decDigits i))=nm by rw [if_pos h7b,List.headD_eq_head?_getD,List.head?_drop,List.getElem?_eq_getElem hni,hnm];rfl)
    have PSZ:=Aside0.mk (show ∀ x,x∈ps++[nm]→x.size≤100 from fun x hx=>by
     rcases List.mem_append.1 hx with hx | hx
     ·exact HPZ.out x hx
     ·rw [List.mem_singleton.1 hx,hnm];exact Nat.le_trans (prt_size (HNS.out _ (List.getElem_mem hni))) (by decide))
    clear h7 hnm hdg
    go_upto_region 8 with (first | (go_at_call 109;(with_reducible refine (NC.out _).mono ?_);rintro e w5 ⟨rfl,hb⟩;have z0:w5.cell? ⟨gb,0,none⟩=some (.int .i64 kd):=(blk_cell (blk_below K3.out hb) 0).trans rfl;have z3:w5.cell? ⟨gb,3,none⟩=some (.slice (some ad3) ns.length c3):=(blk_cell (blk_below K3.out hb) 3).trans rfl;have kn:=kn w5 (below_step BW3.out hb);have B5:=Aside0.mk hb;clear hb))
    clear z0 z3 kn y0 hni
    have D5:=Aside0.mk (below_step B5.out (below_drew1 (Below.refl w5.heap.size w5)))
    have KD:=Aside0.mk (blk_below KT.out D5.out)
    have K3d:=Aside0.mk (blk_below K3.out D5.out)
    have R5d:=Aside0.mk (Kd.R_below HR6.out D5.out)
    have BWd:=Aside0.mk (below_step BW3.out D5.out)
    have KEd:=Aside0.mk (show Kept w w5.drew (fun k=>some k=(Value.slice A l.length c).ownBlock)∧_ from ⟨KE3.out.1.below D5.out,KE3.out.2⟩)
    have PSd:=Aside0.mk (Kd.C_kept_call HPS.out KEd.out.1 (S2:=fun k=>some k=(Value.slice A5 lr.length c5).ownBlock) (fun k hk=>by
     rcases KEd.out.2 with e | ⟨b,e,hb⟩
     ·exact .inl (hk.trans e)
     ·rw [e] at hk;cases hk;exact .inr hb))
    refine start_ (n:=10) (S:=fun w'=>w'.cell? ⟨gk,0,none⟩=some (.int .i64 t.kd)∧w'.cell? ⟨gk,1,none⟩=some (.int .i64 t.nu)∧w'.cell? ⟨gk,2,none⟩=some (.string t.tx)∧w'.cell? ⟨gk,3,none⟩=some (.slice B3 t.ns.length d3)∧w'.cell? ⟨gk,4,none⟩=some (.slice B4 t.ks.length d4)) (ds:=[]) #[false,false,false,false,false,false,false,false,false,false] (by kernel_rfl) rfl rfl ⟨(blk_cell KD.out 0).trans rfl,(blk_cell KD.out 1).trans rfl,(blk_cell KD.out 2).trans rfl,(blk_cell KD.out 3).trans rfl,(blk_cell KD.out 4).trans rfl⟩ (fun hHeld=>?_)
    generalize w5.drew=wd at KD K3d R5d BWd KEd PSd hHeld ⊢
    refine pure_ (i:=2) (N:=some 35) (v:=?_) (a':=?_) #[false,false,true,false,false,false,false,false,false,false] rfl rfl (by kernel_rfl) (fun _ _ _ h=>h) (Or.inl ⟨by rfl,?_⟩) ?_ ?_
    rotate_left
    ·intro w'
     go_simp
     with_reducible rfl
    rotate_left
    ·simp only [Act.put,List.setIfInBounds_toArray,List.set_cons_zero,List.set_cons_succ,i64_w,i32_w]
     rfl
    refine pure_ (i:=4) (N:=some 37) (v:=?_) (a':=?_) #[false,false,true,false,true,false,false,false,false,false] rfl rfl (by kernel_rfl) (fun _ _ _ h=>h) (Or.inl ⟨by rfl,?_⟩) ?_ ?_
    rotate_left
    ·intro w'
     go_simp
     with_reducible rfl
    rotate_left
    ·simp only [Act.put,List.setIfInBounds_toArray,List.set_cons_zero,List.set_cons_succ,i64_w,i32_w]
     rfl
    refine pure_ (i:=7) (N:=some 40) (v:=?_) (a':=?_) #[false,false,true,false,true,false,false,true,false,false] rfl rfl (by kernel_rfl) (fun _ _ _ h=>h) (Or.inl ⟨by rfl,?_⟩) ?_ ?_
    rotate_left
    ·intro w'
     go_simp
     with_reducible rfl
    rotate_left
    ·simp only [Act.put,List.setIfInBounds_toArray,List.set_cons_zero,List.set_cons_succ,i64_w,i32_w]
     rfl
    refine take_ (i:=0) (N:=some 33) (v:=?_) (a':=?_) #[true,false,true,false,true,false,false,true,false,false] rfl rfl (by kernel_rfl) (fun _ _ _ h=>h) (Or.inl ⟨by rfl,?_⟩) hHeld ?_ ?_
    rotate_left
    ·rintro w' ⟨s0,s1,s2,s3,s4⟩
     go_simp
     with_reducible rfl
    rotate_left
    ·simp only [Act.put,List.setIfInBounds_toArray,List.set_cons_zero,List.set_cons_succ,i64_w,i32_w]
     rfl
    refine join_ (σ:=Value×Value×Value) 3 #[true,true,true,true,true,true,false,true,false,false] (fun s_=>[(34,s_.1),(36,s_.2.1),(38,s_.2.2)]) (fun s_ w'=>Kd.R Kd.string 9 w' wd.heap.size (fun _=>True) s_.2.1 ([]++ps)∧Kd.R Kd.string 9 w' wd.heap.size (fun _=>True) s_.2.2 [nm]∧Below wd.heap.size wd w') ?_ ?_
    rotate_left
    ·intro hCont0
     have hCont:=Aside0.mk hCont0
     clear hCont0
     refine two_ (i:=1) (j:=5) (Ni:=some 34) (Nj:=some 38) #[true,true,true,false,true,false,false,true,false,false] #[true,false,true,false,true,true,false,true,false,false] rfl rfl rfl rfl (by kernel_rfl) (by decide) (by decide) (fun K hK=>?_) (fun K hK=>?_)
     ·skip
      refine Kd.R_lit_step Kd.string (w0:=wd) wd.heap.size 9 ?hga1x (N:=34) ?hda1x (xs:=([]:List ByteArray)) (inner:=[]) (ok:=fun _=>True) (okp:=fun _=>True) ?hra1x ?hpa1x (fun _ hk=>hk) trivial (Below.refl wd.heap.size wd) ((Below.refl wd.heap.size wd)).size (by simp) ?_;(case hda1x=>rfl);(case hga1x=>rfl);(case hra1x=>first | (go_simp;done) | (go_simp;rfl));(case hpa1x=>exact Reps.none _ _)
      intro va1 wa1 ho hb hg hnew
      have Ra1:=Aside0.mk ho
      have Ba1:=Aside0.mk hb
      have Ga1:=Aside0.mk hg
      have NBa1:=Aside0.mk hnew
      clear ho hb hg hnew
      refine hK.out _ _ ⟨(blk_cell (blk_below KD.out Ba1.out) 0).trans rfl,(blk_cell (blk_below KD.out Ba1.out) 1).trans rfl,(blk_cell (blk_below KD.out Ba1.out) 2).trans rfl,(blk_cell (blk_below KD.out Ba1.out) 3).trans rfl,(blk_cell (blk_below KD.out Ba1.out) 4).trans rfl⟩ (fun hHeld=>?_)
      clear hK K
      refine norm_ (a':=?_) ?_ ?_
      rotate_left
      ·show Act.put _ (some 34) _=_
       simp only [Act.put,List.setIfInBounds_toArray,List.set_cons_zero,List.set_cons_succ,i64_w,i32_w]
       rfl
      refine two_ (i:=3) (j:=5) (Ni:=some 36) (Nj:=some 38) #[true,true,true,true,true,false,false,true,false,false] #[true,true,true,false,true,true,false,true,false,false] rfl rfl rfl rfl (by kernel_rfl) (by decide) (by decide) (fun K hK=>?_) (fun K hK=>?_)
      ·skip
       obtain ⟨Aea2,cea2,rfl⟩:=Kd.R_slice Ra1.out
       refine Kd.R_append_rows_step Kd.string (Rr:=Kd.string.K wa1) (w0:=wd) wd.heap.size (by rfl) (.tmp 34) (.tmp 35) 26 9 (.string ⟨#[]⟩) 16 rfl Tryz.underlying26 infoS rfl (by decide) (by decide) (.slice Aea2 ([]:List ByteArray).length cea2) [] ps Ap ps.length cp (fun _=>True) (fun _=>False) rfl rfl ?aOa2x ?aRa2x ?aKa2x (fun _ h=>h.elim) ?aFa2x ?aBa2x ?aSa2x ?aLa2x ?_;(case aOa2x=>exact Ra1.out);(case aRa2x=>exact (PSd.out _ (Kept.of_below Ba1.out _)));(case aKa2x=>exact fun _ _ h=>h);(case aFa2x=>exact fun _ _=>trivial);(case aBa2x=>exact Ba1.out);(case aSa2x=>exact (Ba1.out).size);(case aLa2x=>have:=HPN.out;simp;omega)
       intro va2 wa2 ho hb hg hat
       have Ra2:=Aside0.mk ho
       have Ba2:=Aside0.mk hb
       have Ga2:=Aside0.mk hg
       clear ho hb hg hat
       refine hK.out _ _ ⟨(blk_cell (blk_below KD.out Ba2.out) 0).trans rfl,(blk_cell (blk_below KD.out Ba2.out) 1).trans rfl,(blk_cell (blk_below KD.out Ba2.out) 2).trans rfl,(blk_cell (blk_below KD.out Ba2.out) 3).trans rfl,(blk_cell (blk_below KD.out Ba2.out) 4).trans rfl⟩ (fun hHeld=>?_)
       clear hK K
       refine norm_ (a':=?_) ?_ ?_
       rotate_left
       ·show Act.put _ (some 36) _=_
        simp only [Act.put,List.setIfInBounds_toArray,List.set_cons_zero,List.set_cons_succ,i64_w,i32_w]
        rfl
       refine one_ (i:=5) (N:=some 38) #[true,true,true,true,true,true,false,true,false,false] rfl rfl (by kernel_rfl) (by decide) (fun K hK=>?_)
       refine Kd.R_lit_step Kd.string (w0:=wd) wd.heap.size 9 ?hga3x (N:=38) ?hda3x (xs:=([nm]:List ByteArray)) (inner:=[.string nm]) (ok:=fun _=>True) (okp:=fun _=>True) ?hra3x ?hpa3x (fun _ hk=>hk) trivial Ba2.out (Ba2.out).size (by simp) ?_;(case hda3x=>rfl);(case hga3x=>rfl);(case hra3x=>first | (go_simp;done) | (go_simp;rfl));(case hpa3x=>exact Reps.snoc (Reps.none _ _) (rfl:Kd.string.M _ _ _ nm [.string nm]) rfl)
       intro va3 wa3 ho hb hg hnew
       have Ra3:=Aside0.mk ho
       have Ba3:=Aside0.mk hb
       have Ga3:=Aside0.mk hg
       have NBa3:=Aside0.mk hnew
       clear ho hb hg hnew
       refine hK.out _ _ ⟨(blk_cell (blk_below KD.out Ba3.out) 0).trans rfl,(blk_cell (blk_below KD.out Ba3.out) 1).trans rfl,(blk_cell (blk_below KD.out Ba3.out) 2).trans rfl,(blk_cell (blk_below KD.out Ba3.out) 3).trans rfl,(blk_cell (blk_below KD.out Ba3.out) 4).trans rfl⟩ (fun hHeld=>?_)
       clear hK K
       refine norm_ (a':=?_) ?_ ?_
       rotate_left
       ·show Act.put _ (some 38) _=_
        simp only [Act.put,List.setIfInBounds_toArray,List.set_cons_zero,List.set_cons_succ,i64_w,i32_w]
        rfl
       have hc:=hCont.out ((.slice Aea2 0 cea2),va2,va3) wa3 ⟨(Kd.R_grown_none Ra2.out Ga3.out),Ra3.out,Ba3.out⟩
       simp only [putAll,Act.put,List.setIfInBounds_toArray,List.set_cons_zero,List.set_cons_succ,i64_w,i32_w] at hc
       exact hc
      ·skip
       refine Kd.R_lit_step Kd.string (w0:=wd) wd.heap.size 9 ?hgb2x (N:=38) ?hdb2x (xs:=([nm]:List ByteArray)) (inner:=[.string nm]) (ok:=fun _=>True) (okp:=fun _=>True) ?hrb2x ?hpb2x (fun _ hk=>hk) trivial Ba1.out (Ba1.out).size (by simp) ?_;(case hdb2x=>rfl);(case hgb2x=>rfl);(case hrb2x=>first | (go_simp;done) | (go_simp;rfl));(case hpb2x=>exact Reps.snoc (Reps.none _ _) (rfl:Kd.string.M _ _ _ nm [.string nm]) rfl)
       intro vb2 wb2 ho hb hg hnew
       have Rb2:=Aside0.mk ho
       have Bb2:=Aside0.mk hb
       have Gb2:=Aside0.mk hg
       have NBb2:=Aside0.mk hnew
       clear ho hb hg hnew
       refine hK.out _ _ ⟨(blk_cell (blk_below KD.out Bb2.out) 0).trans rfl,(blk_cell (blk_below KD.out Bb2.out) 1).trans rfl,(blk_cell (blk_below KD.out Bb2.out) 2).trans rfl,(blk_cell (blk_below KD.out Bb2.out) 3).trans rfl,(blk_cell (blk_below KD.out Bb2.out) 4).trans rfl⟩ (fun hHeld=>?_)
       clear hK K
       have Rb1:=Aside0.mk (Kd.R_grown_none (Kd.R_bound Ra1.out) Gb2.out)
       refine norm_ (a':=?_) ?_ ?_
       rotate_left
       ·show Act.put _ (some 38) _=_
        simp only [Act.put,List.setIfInBounds_toArray,List.set_cons_zero,List.set_cons_succ,i64_w,i32_w]
        rfl
       refine one_ (i:=3) (N:=some 36) #[true,true,true,true,true,true,false,true,false,false] rfl rfl (by kernel_rfl) (by decide) (fun K hK=>?_)
       have RbL:=Aside0.mk (Kd.R_newer Rb2.out NBb2.out)
       obtain ⟨Aeb3,ceb3,rfl⟩:=Kd.R_slice (Kd.R_mono Rb1.out (fun _ _=>trivial))
       refine Kd.R_append_rows_step Kd.string (Rr:=Kd.string.K wb2) (w0:=wd) wd.heap.size (by rfl) (.tmp 34) (.tmp 35) 26 9 (.string ⟨#[]⟩) 16 rfl Tryz.underlying26 infoS rfl (by decide) (by decide) (.slice Aeb3 ([]:List ByteArray).length ceb3) [] ps Ap ps.length cp (fun _=>True) (fun _=>False) rfl rfl ?aOb3x ?aRb3x ?aKb3x (fun _ h=>h.elim) ?aFb3x ?aBb3x ?aSb3x ?aLb3x ?_;(case aOb3x=>exact (Kd.R_mono Rb1.out (fun _ _=>trivial)));(case aRb3x=>exact (PSd.out _ (Kept.of_below Bb2.out _)));(case aKb3x=>exact fun _ _ h=>h);(case aFb3x=>exact fun _ _=>trivial);(case aBb3x=>exact Bb2.out);(case aSb3x=>exact (Bb2.out).size);(case aLb3x=>have:=HPN.out;simp;omega)
       intro vb3 wb3 ho hb hg hat
       have Rb3:=Aside0.mk ho
       have Bb3:=Aside0.mk hb
       have Gb3:=Aside0.mk hg
       clear ho hb hg hat
       refine hK.out _ _ ⟨(blk_cell (blk_below KD.out Bb3.out) 0).trans rfl,(blk_cell (blk_below KD.out Bb3.out) 1).trans rfl,(blk_cell (blk_below KD.out Bb3.out) 2).trans rfl,(blk_cell (blk_below KD.out Bb3.out) 3).trans rfl,(blk_cell (blk_below KD.out Bb3.out) 4).trans rfl⟩ (fun hHeld=>?_)
       clear hK K
       refine norm_ (a':=?_) ?_ ?_
       rotate_left
       ·show Act.put _ (some 36) _=_
        simp only [Act.put,List.setIfInBounds_toArray,List.set_cons_zero,List.set_cons_succ,i64_w,i32_w]
        rfl
       have hc:=hCont.out ((.slice Aeb3 0 ceb3),vb3,vb2) wb3 ⟨Rb3.out,(Kd.R_mono (Kd.R_kept RbL.out (Kept.of_grown Gb3.out (Kept.refl _ _) (S:=fun k=>some k=(Value.slice Aeb3 0 ceb3).ownBlock) (fun k hk=>.inl hk.symm)) (fun k hk e=>by have:=(Rb1.out.1 k e.symm).2.2.1;omega)) (fun _ _=>trivial)),Bb3.out⟩
       simp only [putAll,Act.put,List.setIfInBounds_toArray,List.set_cons_zero,List.set_cons_succ,i64_w,i32_w] at hc
       exact hc
     ·skip
      refine Kd.R_lit_step Kd.string (w0:=wd) wd.heap.size 9 ?hgc1x (N:=38) ?hdc1x (xs:=([nm]:List ByteArray)) (inner:=[.string nm]) (ok:=fun _=>True) (okp:=fun _=>True) ?hrc1x ?hpc1x (fun _ hk=>hk) trivial (Below.refl wd.heap.size wd) ((Below.refl wd.heap.size wd)).size (by simp) ?_;(case hdc1x=>rfl);(case hgc1x=>rfl);(case hrc1x=>first | (go_simp;done) | (go_simp;rfl));(case hpc1x=>exact Reps.snoc (Reps.none _ _) (rfl:Kd.string.M _ _ _ nm [.string nm]) rfl)
      intro vc1 wc1 ho hb hg hnew
      have Rc1:=Aside0.mk ho
      have Bc1:=Aside0.mk hb
      have Gc1:=Aside0.mk hg
      have NBc1:=Aside0.mk hnew
      clear ho hb hg hnew
      refine hK.out _ _ ⟨(blk_cell (blk_below KD.out Bc1.out) 0).trans rfl,(blk_cell (blk_below KD.out Bc1.out) 1).trans rfl,(blk_cell (blk_below KD.out Bc1.out) 2).trans rfl,(blk_cell (blk_below KD.out Bc1.out) 3).trans rfl,(blk_cell (blk_below KD.out Bc1.out) 4).trans rfl⟩ (fun hHeld=>?_)
      clear hK K
      refine norm_ (a':=?_) ?_ ?_
      rotate_left
      ·show Act.put _ (some 38) _=_
       simp only [Act.put,List.setIfInBounds_toArray,List.set_cons_zero,List.set_cons_succ,i64_w,i32_w]
       rfl
      refine one_ (i:=1) (N:=some 34) #[true,true,true,false,true,true,false,true,false,false] rfl rfl (by kernel_rfl) (by decide) (fun K hK=>?_)
      refine Kd.R_lit_step Kd.string (w0:=wd) wd.heap.size 9 ?hgc2x (N:=34) ?hdc2x (xs:=([]:List ByteArray)) (inner:=[]) (ok:=fun _=>True) (okp:=fun _=>True) ?hrc2x ?hpc2x (fun _ hk=>hk) trivial Bc1.out (Bc1.out).size (by simp) ?_;(case hdc2x=>rfl);(case hgc2x=>rfl);(case hrc2x=>first | (go_simp;done) | (go_simp;rfl));(case hpc2x=>exact Reps.none _ _)
      intro vc2 wc2 ho hb hg hnew
      have Rc2:=Aside0.mk ho
      have Bc2:=Aside0.mk hb
      have Gc2:=Aside0.mk hg
      have NBc2:=Aside0.mk hnew
      clear ho hb hg hnew
      refine hK.out _ _ ⟨(blk_cell (blk_below KD.out Bc2.out) 0).trans rfl,(blk_cell (blk_below KD.out Bc2.out) 1).trans rfl,(blk_cell (blk_below KD.out Bc2.out) 2).trans rfl,(blk_cell (blk_below KD.out Bc2.out) 3).trans rfl,(blk_cell (blk_below KD.out Bc2.out) 4).trans rfl⟩ (fun hHeld=>?_)
      clear hK K
      refine norm_ (a':=?_) ?_ ?_
      rotate_left
      ·show Act.put _ (some 34) _=_
       simp only [Act.put,List.setIfInBounds_toArray,List.set_cons_zero,List.set_cons_succ,i64_w,i32_w]
       rfl
      have Rc1:=Aside0.mk (Kd.R_grown_none (Kd.R_bound Rc1.out) Gc2.out)
      refine one_ (i:=3) (N:=some 36) #[true,true,true,true,true,true,false,true,false,false] rfl rfl (by kernel_rfl) (by decide) (fun K hK=>?_)
      have Rc2b:=Aside0.mk (Kd.R_newer Rc2.out NBc2.out)
      obtain ⟨Aec3,cec3,rfl⟩:=Kd.R_slice Rc2.out
      refine Kd.R_append_rows_step Kd.string (Rr:=Kd.string.K wc2) (w0:=wd) wd.heap.size (by rfl) (.tmp 34) (.tmp 35) 26 9 (.string ⟨#[]⟩) 16 rfl Tryz.underlying26 infoS rfl (by decide) (by decide) (.slice Aec3 ([]:List ByteArray).length cec3) [] ps Ap ps.length cp (fun _=>True) (fun _=>False) rfl rfl ?aOc3x ?aRc3x ?aKc3x (fun _ h=>h.elim) ?aFc3x ?aBc3x ?aSc3x ?aLc3x ?_;(case aOc3x=>exact Rc2.out);(case aRc3x=>exact (PSd.out _ (Kept.of_below Bc2.out _)));(case aKc3x=>exact fun _ _ h=>h);(case aFc3x=>exact fun _ _=>trivial);(case aBc3x=>exact Bc2.out);(case aSc3x=>exact (Bc2.out).size);(case aLc3x=>have:=HPN.out;simp;omega)
      intro vc3 wc3 ho hb hg hat
      have Rc3:=Aside0.mk ho
      have Bc3:=Aside0.mk hb
      have Gc3:=Aside0.mk hg
      clear ho hb hg hat
      refine hK.out _ _ ⟨(blk_cell (blk_below KD.out Bc3.out) 0).trans rfl,(blk_cell (blk_below KD.out Bc3.out) 1).trans rfl,(blk_cell (blk_below KD.out Bc3.out) 2).trans rfl,(blk_cell (blk_below KD.out Bc3.out) 3).trans rfl,(blk_cell (blk_below KD.out Bc3.out) 4).trans rfl⟩ (fun hHeld=>?_)
      clear hK K
      refine norm_ (a':=?_) ?_ ?_
      rotate_left
      ·show Act.put _ (some 36) _=_
       simp only [Act.put,List.setIfInBounds_toArray,List.set_cons_zero,List.set_cons_succ,i64_w,i32_w]
       rfl
      have hc:=hCont.out ((.slice Aec3 0 cec3),vc3,vc1) wc3 ⟨Rc3.out,(Kd.R_mono (Kd.R_kept Rc1.out (Kept.of_grown Gc3.out (Kept.refl _ _) (S:=fun k=>some k=(Value.slice Aec3 0 cec3).ownBlock) (fun k hk=>.inl hk.symm)) (fun k hk e=>by have h1:=Rc2b.out.1 k e.symm;have h2:=hk.2.2.1;omega)) (fun _ _=>trivial)),Bc3.out⟩
      simp only [putAll,Act.put,List.setIfInBounds_toArray,List.set_cons_zero,List.set_cons_succ,i64_w,i32_w] at hc
      exact hc
    rintro ⟨va,vb,vl⟩ wj ⟨hb',hl',hB'⟩
    obtain ⟨Al,cl,rfl⟩:=Kd.R_slice hl'
    have RVB:=Aside0.mk hb'
    have CVL:=Aside0.mk (Kd.R_reads' hl').2.2
    have BJ:=Aside0.mk hB'
    clear hb' hl' hB'
    refine norm_ (a':=?_) ?_ ?_
    rotate_left
    ·simp only [putAll,Act.put,List.setIfInBounds_toArray,List.set_cons_zero,List.set_cons_succ,i64_w,i32_w]
     rfl
    refine one_ (i:=6) (N:=some 39) #[true,true,true,true,true,true,true,true,false,false] rfl rfl (by kernel_rfl) (by decide) (fun K hK=>?_)
    refine Kd.R_append_rows_step Kd.string (Rr:=Kd.string.K wj) (w0:=wd) wd.heap.size (by rfl) (.tmp 36) (.tmp 38) 26 9 (.string ⟨#[]⟩) 16 rfl Tryz.underlying26 infoS rfl (by decide) (by decide) vb ([]++ps) [nm] Al ([nm]:List ByteArray).length cl (fun _=>True) (fun _=>False) rfl rfl ?aOx ?aRx ?aKx (fun _ h=>h.elim) ?aFx ?aBx ?aSx ?aLx ?_;(case aOx=>exact RVB.out);(case aRx=>exact CVL.out);(case aKx=>exact fun _ _ h=>h);(case aFx=>exact fun _ _=>trivial);(case aBx=>exact BJ.out);(case aSx=>exact BJ.out.size);(case aLx=>have:=HPN.out;simp;omega)
    intro vc wc ho hb _ _
    obtain ⟨Ac,cc,rfl⟩:=Kd.R_slice ho
    have BC:=Aside0.mk hb
    have RC:=Aside0.mk (show Kd.R Kd.string 9 wc wd.heap.size (fun k=>wd.heap.size≤k) (.slice Ac (([]++ps)++[nm]).length cc) (([]++ps)++[nm]) from Kd.R_mono (Kd.R_bound ho) (fun k hk=>hk.2.1))
    obtain ⟨ps2,hps2⟩:∃ q,q=([]++ps)++[nm]:=⟨_,rfl⟩
    rw [←hps2] at RC ⊢
    have HP2:=Aside0.mk (show ps2=ps++[nm] by rw [hps2];rfl)
    clear ho hb hps2
    refine hK.out _ _ ⟨(blk_cell (blk_below KD.out BC.out) 0).trans rfl,(blk_cell (blk_below KD.out BC.out) 1).trans rfl,(blk_cell (blk_below KD.out BC.out) 2).trans rfl,(blk_cell (blk_below KD.out BC.out) 3).trans rfl,(blk_cell (blk_below KD.out BC.out) 4).trans rfl⟩ (fun hHeld=>?_)
    clear hK K
    refine norm_ (a':=?_) ?_ ?_
    rotate_left
    ·show Act.put _ (some 39) _=_
     simp only [Act.put,List.setIfInBounds_toArray,List.set_cons_zero,List.set_cons_succ,i64_w,i32_w]
     rfl
    refine one_ (i:=8) (N:=some 41) #[true,true,true,true,true,true,true,true,true,false] rfl rfl (by kernel_rfl) (by decide) (fun K hK=>?_)
    refine goes_ Tryz.func64 (by kernel_rfl) rfl #[.agg #[.int .i64 t.kd,.int .i64 t.nu,.string t.tx,.slice B3 t.ns.length d3,.slice B4 t.ks.length d4],.slice Ac ps2.length cc,.slice A5 lr.length c5] (by rfl) rfl rfl (by (try simp only [List.map_toArray,List.map_cons,List.map_nil]);first | done | rfl) ?_
    refine (IHT.out.go w0 _ B3 d3 B4 d4 Ac cc ps2 _ _ ST.out FT.out (below_step BWd.out BC.out) (Kd.C_kept_own RC.out (fun k hk e=>by have:=((Kd.R_bound R5d.out).1 k e.symm).2.2.1;omega)) (Kd.R_reads' RC.out).2.1 (HP2.out ▸ PSZ.out) (Kd.R_below R5d.out BC.out) CT.out (by have:=PCT.out;have e:=congrArg List.length HP2.out;rw [List.length_append,List.length_singleton] at e;omega)).mono ?_
    rintro e w6 ⟨v6,rfl,ho,hb,hk,hat⟩
    refine ⟨_,rfl,?_⟩
    have R6:=Aside0.mk ho
    have B6:=Aside0.mk hb
    have KG6:=Aside0.mk (blk_kept (blk_below KD.out BC.out) hk (Kd.R_ne (Kd.R_below R5d.out BC.out) (blk_below KD.out BC.out) (by decide)))
    have K6:=Aside0.mk (blk_kept (blk_below K3d.out BC.out) hk (Kd.R_ne (Kd.R_below R5d.out BC.out) (blk_below K3d.out BC.out) (by decide)))
    have KE6:=Aside0.mk (kept_via (KEd.out.1.below BC.out) KEd.out.2 hk hat)
    clear ho hb hk hat
    refine hK.out _ _ ⟨(blk_cell KG6.out 0).trans rfl,(blk_cell KG6.out 1).trans rfl,(blk_cell KG6.out 2).trans rfl,(blk_cell KG6.out 3).trans rfl,(blk_cell KG6.out 4).trans rfl⟩ (fun hHeld=>?_)
    clear hK K
    refine norm_ (a':=?_) ?_ ?_
    rotate_left
    ·show Act.put _ (some 41) _=_
     simp only [Act.put,List.setIfInBounds_toArray,List.set_cons_zero,List.set_cons_succ,i64_w,i32_w]
     rfl
    refine pure_ (i:=9) (N:=some 2) (v:=?_) (a':=?_) #[true,true,true,true,true,true,true,true,true,true] rfl rfl (by kernel_rfl) (fun _ _ _ h=>h) (Or.inl ⟨by rfl,?_⟩) ?_ ?_
    rotate_left
    ·intro w'
     go_simp
     with_reducible rfl
    rotate_left
    ·simp only [Act.put,List.setIfInBounds_toArray,List.set_cons_zero,List.set_cons_succ,i64_w,i32_w]
     rfl
    refine done_ (by kernel_rfl) ?_
    go_wp2
    go_roundg m
    case rel=>exact ⟨i+1,by go_num,⟨by have:=HM.out;omega⟩,⟨by rw [HS.out,←List.append_assoc,←HLR.out,←HTI.out,nmP_esc,HNM.out,←textP_snoc,←HP2.out];exact R6.out⟩,B6,K6,KE6⟩
    case measure=>omega
   ·have h7b:(kd==7)=false:=by simpa using h7
    obtain ⟨nm,hnm⟩:∃ n,n=dg:=⟨_,rfl⟩
    rw [←hnm] at NC
    have HNM:=Aside0.mk (show (if (kd==7)=true then (ns.drop i).headD nil_ else ofL (Lib.decDigits i))=nm by rw [if_neg (by rw [h7b];simp),hnm,hdg])
    have PSZ:=Aside0.mk (show ∀ x,x∈ps++[nm]→x.size≤100 from fun x hx=>by
     rcases List.mem_append.1 hx with hx | hx
     ·exact HPZ.out x hx
     ·rw [List.mem_singleton.1 hx,hnm,hdg,ofL_size];exact Nat.le_trans (dec_len i i (Nat.le_refl _) (by omega)) (by decide))
    clear h7 hnm hdg
    go_upto_region 8 with (first | (go_at_call 109;(with_reducible refine (NC.out _).mono ?_);rintro e w5 ⟨rfl,hb⟩;have z0:w5.cell? ⟨gb,0,none⟩=some (.int .i64 kd):=(blk_cell (blk_below K3.out hb) 0).trans rfl;have B5:=Aside0.mk hb;clear hb))
    clear z0 y0
    have D5:=Aside0.mk (below_step B5.out (below_drew1 (Below.refl w5.heap.size w5)))
    have KD:=Aside0.mk (blk_below KT.out D5.out)
    have K3d:=Aside0.mk (blk_below K3.out D5.out)
    have R5d:=Aside0.mk (Kd.R_below HR6.out D5.out)
    have BWd:=Aside0.mk (below_step BW3.out D5.out)
    have KEd:=Aside0.mk (show Kept w w5.drew (fun k=>some k=(Value.slice A l.length c).ownBlock)∧_ from ⟨KE3.out.1.below D5.out,KE3.out.2⟩)
    have PSd:=Aside0.mk (Kd.C_kept_call HPS.out KEd.out.1 (S2:=fun k=>some k=(Value.slice A5 lr.length c5).ownBlock) (fun k hk=>by
     rcases KEd.out.2 with e | ⟨b,e,hb⟩
     ·exact .inl (hk.trans e)
     ·rw [e] at hk;cases hk;exact .inr hb))
    refine start_ (n:=10) (S:=fun w'=>w'.cell? ⟨gk,0,none⟩=some (.int .i64 t.kd)∧w'.cell? ⟨gk,1,none⟩=some (.int .i64 t.nu)∧w'.cell? ⟨gk,2,none⟩=some (.string t.tx)∧w'.cell? ⟨gk,3,none⟩=some (.slice B3 t.ns.length d3)∧w'.cell? ⟨gk,4,none⟩=some (.slice B4 t.ks.length d4)) (ds:=[]) #[false,false,false,false,false,false,false,false,false,false] (by kernel_rfl) rfl rfl ⟨(blk_cell KD.out 0).trans rfl,(blk_cell KD.out 1).trans rfl,(blk_cell KD.out 2).trans rfl,(blk_cell KD.out 3).trans rfl,(blk_cell KD.out 4).trans rfl⟩ (fun hHeld=>?_)
    generalize w5.drew=wd at KD K3d R5d BWd KEd PSd hHeld ⊢
    refine pure_ (i:=2) (N:=some 35) (v:=?_) (a':=?_) #[false,false,true,false,false,false,false,false,false,false] rfl rfl (by kernel_rfl) (fun _ _ _ h=>h) (Or.inl ⟨by rfl,?_⟩) ?_ ?_
    rotate_left
    ·intro w'
     go_simp
     with_reducible rfl
    rotate_left
    ·simp only [Act.put,List.setIfInBounds_toArray,List.set_cons_zero,List.set_cons_succ,i64_w,i32_w]
     rfl
    refine pure_ (i:=4) (N:=some 37) (v:=?_) (a':=?_) #[false,false,true,false,true,false,false,false,false,false] rfl rfl (by kernel_rfl) (fun _ _ _ h=>h) (Or.inl ⟨by rfl,?_⟩) ?_ ?_
    rotate_left
    ·intro w'
     go_simp
     with_reducible rfl
    rotate_left
    ·simp only [Act.put,List.setIfInBounds_toArray,List.set_cons_zero,List.set_cons_succ,i64_w,i32_w]
     rfl
    refine pure_ (i:=7) (N:=some 40) (v:=?_) (a':=?_) #[false,false,true,false,true,false,false,true,false,false] rfl rfl (by kernel_rfl) (fun _ _ _ h=>h) (Or.inl ⟨by rfl,?_⟩) ?_ ?_
    rotate_left
    ·intro w'
     go_simp
     with_reducible rfl
    rotate_left
    ·simp only [Act.put,List.setIfInBounds_toArray,List.set_cons_zero,List.set_cons_succ,i64_w,i32_w]
     rfl
    refine take_ (i:=0) (N:=some 33) (v:=?_) (a':=?_) #[true,false,true,false,true,false,false,true,false,false] rfl rfl (by kernel_rfl) (fun _ _ _ h=>h) (Or.inl ⟨by rfl,?_⟩) hHeld ?_ ?_
    rotate_left
    ·rintro w' ⟨s0,s1,s2,s3,s4⟩
     go_simp
     with_reducible rfl
    rotate_left
    ·simp only [Act.put,List.setIfInBounds_toArray,List.set_cons_zero,List.set_cons_succ,i64_w,i32_w]
     rfl
    refine join_ (σ:=Value×Value×Value) 3 #[true,true,true,true,true,true,false,true,false,false] (fun s_=>[(34,s_.1),(36,s_.2.1),(38,s_.2.2)]) (fun s_ w'=>Kd.R Kd.string 9 w' wd.heap.size (fun _=>True) s_.2.1 ([]++ps)∧Kd.R Kd.string 9 w' wd.heap.size (fun _=>True) s_.2.2 [nm]∧Below wd.heap.size wd w') ?_ ?_
    rotate_left
    ·intro hCont0
     have hCont:=Aside0.mk hCont0
     clear hCont0
     refine two_ (i:=1) (j:=5) (Ni:=some 34) (Nj:=some 38) #[true,true,true,false,true,false,false,true,false,false] #[true,false,true,false,true,true,false,true,false,false] rfl rfl rfl rfl (by kernel_rfl) (by decide) (by decide) (fun K hK=>?_) (fun K hK=>?_)
     ·skip
      refine Kd.R_lit_step Kd.string (w0:=wd) wd.heap.size 9 ?hga1y (N:=34) ?hda1y (xs:=([]:List ByteArray)) (inner:=[]) (ok:=fun _=>True) (okp:=fun _=>True) ?hra1y ?hpa1y (fun _ hk=>hk) trivial (Below.refl wd.heap.size wd) ((Below.refl wd.heap.size wd)).size (by simp) ?_;(case hda1y=>rfl);(case hga1y=>rfl);(case hra1y=>first | (go_simp;done) | (go_simp;rfl));(case hpa1y=>exact Reps.none _ _)
      intro va1 wa1 ho hb hg hnew
      have Ra1:=Aside0.mk ho
      have Ba1:=Aside0.mk hb
      have Ga1:=Aside0.mk hg
      have NBa1:=Aside0.mk hnew
      clear ho hb hg hnew
      refine hK.out _ _ ⟨(blk_cell (blk_below KD.out Ba1.out) 0).trans rfl,(blk_cell (blk_below KD.out Ba1.out) 1).trans rfl,(blk_cell (blk_below KD.out Ba1.out) 2).trans rfl,(blk_cell (blk_below KD.out Ba1.out) 3).trans rfl,(blk_cell (blk_below KD.out Ba1.out) 4).trans rfl⟩ (fun hHeld=>?_)
      clear hK K
      refine norm_ (a':=?_) ?_ ?_
      rotate_left
      ·show Act.put _ (some 34) _=_
       simp only [Act.put,List.setIfInBounds_toArray,List.set_cons_zero,List.set_cons_succ,i64_w,i32_w]
       rfl
      refine two_ (i:=3) (j:=5) (Ni:=some 36) (Nj:=some 38) #[true,true,true,true,true,false,false,true,false,false] #[true,true,true,false,true,true,false,true,false,false] rfl rfl rfl rfl (by kernel_rfl) (by decide) (by decide) (fun K hK=>?_) (fun K hK=>?_)
      ·skip
       obtain ⟨Aea2,cea2,rfl⟩:=Kd.R_slice Ra1.out
       refine Kd.R_append_rows_step Kd.string (Rr:=Kd.string.K wa1) (w0:=wd) wd.heap.size (by rfl) (.tmp 34) (.tmp 35) 26 9 (.string ⟨#[]⟩) 16 rfl Tryz.underlying26 infoS rfl (by decide) (by decide) (.slice Aea2 ([]:List ByteArray).length cea2) [] ps Ap ps.length cp (fun _=>True) (fun _=>False) rfl rfl ?aOa2y ?aRa2y ?aKa2y (fun _ h=>h.elim) ?aFa2y ?aBa2y ?aSa2y ?aLa2y ?_;(case aOa2y=>exact Ra1.out);(case aRa2y=>exact (PSd.out _ (Kept.of_below Ba1.out _)));(case aKa2y=>exact fun _ _ h=>h);(case aFa2y=>exact fun _ _=>trivial);(case aBa2y=>exact Ba1.out);(case aSa2y=>exact (Ba1.out).size);(case aLa2y=>have:=HPN.out;simp;omega)
       intro va2 wa2 ho hb hg hat
       have Ra2:=Aside0.mk ho
       have Ba2:=Aside0.mk hb
       have Ga2:=Aside0.mk hg
       clear ho hb hg hat
       refine hK.out _ _ ⟨(blk_cell (blk_below KD.out Ba2.out) 0).trans rfl,(blk_cell (blk_below KD.out Ba2.out) 1).trans rfl,(blk_cell (blk_below KD.out Ba2.out) 2).trans rfl,(blk_cell (blk_below KD.out Ba2.out) 3).trans rfl,(blk_cell (blk_below KD.out Ba2.out) 4).trans rfl⟩ (fun hHeld=>?_)
       clear hK K
       refine norm_ (a':=?_) ?_ ?_
       rotate_left
       ·show Act.put _ (some 36) _=_
        simp only [Act.put,List.setIfInBounds_toArray,List.set_cons_zero,List.set_cons_succ,i64_w,i32_w]
        rfl
       refine one_ (i:=5) (N:=some 38) #[true,true,true,true,true,true,false,true,false,false] rfl rfl (by kernel_rfl) (by decide) (fun K hK=>?_)
       refine Kd.R_lit_step Kd.string (w0:=wd) wd.heap.size 9 ?hga3y (N:=38) ?hda3y (xs:=([nm]:List ByteArray)) (inner:=[.string nm]) (ok:=fun _=>True) (okp:=fun _=>True) ?hra3y ?hpa3y (fun _ hk=>hk) trivial Ba2.out (Ba2.out).size (by simp) ?_;(case hda3y=>rfl);(case hga3y=>rfl);(case hra3y=>first | (go_simp;done) | (go_simp;rfl));(case hpa3y=>exact Reps.snoc (Reps.none _ _) (rfl:Kd.string.M _ _ _ nm [.string nm]) rfl)
       intro va3 wa3 ho hb hg hnew
       have Ra3:=Aside0.mk ho
       have Ba3:=Aside0.mk hb
       have Ga3:=Aside0.mk hg
       have NBa3:=Aside0.mk hnew
       clear ho hb hg hnew
       refine hK.out _ _ ⟨(blk_cell (blk_below KD.out Ba3.out) 0).trans rfl,(blk_cell (blk_below KD.out Ba3.out) 1).trans rfl,(blk_cell (blk_below KD.out Ba3.out) 2).trans rfl,(blk_cell (blk_below KD.out Ba3.out) 3).trans rfl,(blk_cell (blk_below KD.out Ba3.out) 4).trans rfl⟩ (fun hHeld=>?_)
       clear hK K
       refine norm_ (a':=?_) ?_ ?_
       rotate_left
       ·show Act.put _ (some 38) _=_
        simp only [Act.put,List.setIfInBounds_toArray,List.set_cons_zero,List.set_cons_succ,i64_w,i32_w]
        rfl
       have hc:=hCont.out ((.slice Aea2 0 cea2),va2,va3) wa3 ⟨(Kd.R_grown_none Ra2.out Ga3.out),Ra3.out,Ba3.out⟩
       simp only [putAll,Act.put,List.setIfInBounds_toArray,List.set_cons_zero,List.set_cons_succ,i64_w,i32_w] at hc
       exact hc
      ·skip
       refine Kd.R_lit_step Kd.string (w0:=wd) wd.heap.size 9 ?hgb2y (N:=38) ?hdb2y (xs:=([nm]:List ByteArray)) (inner:=[.string nm]) (ok:=fun _=>True) (okp:=fun _=>True) ?hrb2y ?hpb2y (fun _ hk=>hk) trivial Ba1.out (Ba1.out).size (by simp) ?_;(case hdb2y=>rfl);(case hgb2y=>rfl);(case hrb2y=>first | (go_simp;done) | (go_simp;rfl));(case hpb2y=>exact Reps.snoc (Reps.none _ _) (rfl:Kd.string.M _ _ _ nm [.string nm]) rfl)
       intro vb2 wb2 ho hb hg hnew
       have Rb2:=Aside0.mk ho
       have Bb2:=Aside0.mk hb
       have Gb2:=Aside0.mk hg
       have NBb2:=Aside0.mk hnew
       clear ho hb hg hnew
       refine hK.out _ _ ⟨(blk_cell (blk_below KD.out Bb2.out) 0).trans rfl,(blk_cell (blk_below KD.out Bb2.out) 1).trans rfl,(blk_cell (blk_below KD.out Bb2.out) 2).trans rfl,(blk_cell (blk_below KD.out Bb2.out) 3).trans rfl,(blk_cell (blk_below KD.out Bb2.out) 4).trans rfl⟩ (fun hHeld=>?_)
       clear hK K
       have Rb1:=Aside0.mk (Kd.R_grown_none (Kd.R_bound Ra1.out) Gb2.out)
       refine norm_ (a':=?_) ?_ ?_
       rotate_left
       ·show Act.put _ (some 38) _=_
        simp only [Act.put,List.setIfInBounds_toArray,List.set_cons_zero,List.set_cons_succ,i64_w,i32_w]
        rfl
       refine one_ (i:=3) (N:=some 36) #[true,true,true,true,true,true,false,true,false,false] rfl rfl (by kernel_rfl) (by decide) (fun K hK=>?_)
       have RbL:=Aside0.mk (Kd.R_newer Rb2.out NBb2.out)
       obtain ⟨Aeb3,ceb3,rfl⟩:=Kd.R_slice (Kd.R_mono Rb1.out (fun _ _=>trivial))
       refine Kd.R_append_rows_step Kd.string (Rr:=Kd.string.K wb2) (w0:=wd) wd.heap.size (by rfl) (.tmp 34) (.tmp 35) 26 9 (.string ⟨#[]⟩) 16 rfl Tryz.underlying26 infoS rfl (by decide) (by decide) (.slice Aeb3 ([]:List ByteArray).length ceb3) [] ps Ap ps.length cp (fun _=>True) (fun _=>False) rfl rfl ?aOb3y ?aRb3y ?aKb3y (fun _ h=>h.elim) ?aFb3y ?aBb3y ?aSb3y ?aLb3y ?_;(case aOb3y=>exact (Kd.R_mono Rb1.out (fun _ _=>trivial)));(case aRb3y=>exact (PSd.out _ (Kept.of_below Bb2.out _)));(case aKb3y=>exact fun _ _ h=>h);(case aFb3y=>exact fun _ _=>trivial);(case aBb3y=>exact Bb2.out);(case aSb3y=>exact (Bb2.out).size);(case aLb3y=>have:=HPN.out;simp;omega)
       intro vb3 wb3 ho hb hg hat
       have Rb3:=Aside0.mk ho
       have Bb3:=Aside0.mk hb
       have Gb3:=Aside0.mk hg
       clear ho hb hg hat
       refine hK.out _ _ ⟨(blk_cell (blk_below KD.out Bb3.out) 0).trans rfl,(blk_cell (blk_below KD.out Bb3.out) 1).trans rfl,(blk_cell (blk_below KD.out Bb3.out) 2).trans rfl,(blk_cell (blk_below KD.out Bb3.out) 3).trans rfl,(blk_cell (blk_below KD.out Bb3.out) 4).trans rfl⟩ (fun hHeld=>?_)
       clear hK K
       refine norm_ (a':=?_) ?_ ?_
       rotate_left
       ·show Act.put _ (some 36) _=_
        simp only [Act.put,List.setIfInBounds_toArray,List.set_cons_zero,List.set_cons_succ,i64_w,i32_w]
        rfl
       have hc:=hCont.out ((.slice Aeb3 0 ceb3),vb3,vb2) wb3 ⟨Rb3.out,(Kd.R_mono (Kd.R_kept RbL.out (Kept.of_grown Gb3.out (Kept.refl _ _) (S:=fun k=>some k=(Value.slice Aeb3 0 ceb3).ownBlock) (fun k hk=>.inl hk.symm)) (fun k hk e=>by have:=(Rb1.out.1 k e.symm).2.2.1;omega)) (fun _ _=>trivial)),Bb3.out⟩
       simp only [putAll,Act.put,List.setIfInBounds_toArray,List.set_cons_zero,List.set_cons_succ,i64_w,i32_w] at hc
       exact hc
     ·skip
      refine Kd.R_lit_step Kd.string (w0:=wd) wd.heap.size 9 ?hgc1y (N:=38) ?hdc1y (xs:=([nm]:List ByteArray)) (inner:=[.string nm]) (ok:=fun _=>True) (okp:=fun _=>True) ?hrc1y ?hpc1y (fun _ hk=>hk) trivial (Below.refl wd.heap.size wd) ((Below.refl wd.heap.size wd)).size (by simp) ?_;(case hdc1y=>rfl);(case hgc1y=>rfl);(case hrc1y=>first | (go_simp;done) | (go_simp;rfl));(case hpc1y=>exact Reps.snoc (Reps.none _ _) (rfl:Kd.string.M _ _ _ nm [.string nm]) rfl)
      intro vc1 wc1 ho hb hg hnew
      have Rc1:=Aside0.mk ho
      have Bc1:=Aside0.mk hb
      have Gc1:=Aside0.mk hg
      have NBc1:=Aside0.mk hnew
      clear ho hb hg hnew
      refine hK.out _ _ ⟨(blk_cell (blk_below KD.out Bc1.out) 0).trans rfl,(blk_cell (blk_below KD.out Bc1.out) 1).trans rfl,(blk_cell (blk_below KD.out Bc1.out) 2).trans rfl,(blk_cell (blk_below KD.out Bc1.out) 3).trans rfl,(blk_cell (blk_below KD.out Bc1.out) 4).trans rfl⟩ (fun hHeld=>?_)
      clear hK K
      refine norm_ (a':=?_) ?_ ?_
      rotate_left
      ·show Act.put _ (some 38) _=_
       simp only [Act.put,List.setIfInBounds_toArray,List.set_cons_zero,List.set_cons_succ,i64_w,i32_w]
       rfl
      refine one_ (i:=1) (N:=some 34) #[true,true,true,false,true,true,false,true,false,false] rfl rfl (by kernel_rfl) (by decide) (fun K hK=>?_)
      refine Kd.R_lit_step Kd.string (w0:=wd) wd.heap.size 9 ?hgc2y (N:=34) ?hdc2y (xs:=([]:List ByteArray)) (inner:=[]) (ok:=fun _=>True) (okp:=fun _=>True) ?hrc2y ?hpc2y (fun _ hk=>hk) trivial Bc1.out (Bc1.out).size (by simp) ?_;(case hdc2y=>rfl);(case hgc2y=>rfl);(case hrc2y=>first | (go_simp;done) | (go_simp;rfl));(case hpc2y=>exact Reps.none _ _)
      intro vc2 wc2 ho hb hg hnew
      have Rc2:=Aside0.mk ho
      have Bc2:=Aside0.mk hb
      have Gc2:=Aside0.mk hg
      have NBc2:=Aside0.mk hnew
      clear ho hb hg hnew
      refine hK.out _ _ ⟨(blk_cell (blk_below KD.out Bc2.out) 0).trans rfl,(blk_cell (blk_below KD.out Bc2.out) 1).trans rfl,(blk_cell (blk_below KD.out Bc2.out) 2).trans rfl,(blk_cell (blk_below KD.out Bc2.out) 3).trans rfl,(blk_cell (blk_below KD.out Bc2.out) 4).trans rfl⟩ (fun hHeld=>?_)
      clear hK K
      refine norm_ (a':=?_) ?_ ?_
      rotate_left
      ·show Act.put _ (some 34) _=_
       simp only [Act.put,List.setIfInBounds_toArray,List.set_cons_zero,List.set_cons_succ,i64_w,i32_w]
       rfl
      have Rc1:=Aside0.mk (Kd.R_grown_none (Kd.R_bound Rc1.out) Gc2.out)
      refine one_ (i:=3) (N:=some 36) #[true,true,true,true,true,true,false,true,false,false] rfl rfl (by kernel_rfl) (by decide) (fun K hK=>?_)
      have Rc2b:=Aside0.mk (Kd.R_newer Rc2.out NBc2.out)
      obtain ⟨Aec3,cec3,rfl⟩:=Kd.R_slice Rc2.out
      refine Kd.R_append_rows_step Kd.string (Rr:=Kd.string.K wc2) (w0:=wd) wd.heap.size (by rfl) (.tmp 34) (.tmp 35) 26 9 (.string ⟨#[]⟩) 16 rfl Tryz.underlying26 infoS rfl (by decide) (by decide) (.slice Aec3 ([]:List ByteArray).length cec3) [] ps Ap ps.length cp (fun _=>True) (fun _=>False) rfl rfl ?aOc3y ?aRc3y ?aKc3y (fun _ h=>h.elim) ?aFc3y ?aBc3y ?aSc3y ?aLc3y ?_;(case aOc3y=>exact Rc2.out);(case aRc3y=>exact (PSd.out _ (Kept.of_below Bc2.out _)));(case aKc3y=>exact fun _ _ h=>h);(case aFc3y=>exact fun _ _=>trivial);(case aBc3y=>exact Bc2.out);(case aSc3y=>exact (Bc2.out).size);(case aLc3y=>have:=HPN.out;simp;omega)
      intro vc3 wc3 ho hb hg hat
      have Rc3:=Aside0.mk ho
      have Bc3:=Aside0.mk hb
      have Gc3:=Aside0.mk hg
      clear ho hb hg hat
      refine hK.out _ _ ⟨(blk_cell (blk_below KD.out Bc3.out) 0).trans rfl,(blk_cell (blk_below KD.out Bc3.out) 1).trans rfl,(blk_cell (blk_below KD.out Bc3.out) 2).trans rfl,(blk_cell (blk_below KD.out Bc3.out) 3).trans rfl,(blk_cell (blk_below KD.out Bc3.out) 4).trans rfl⟩ (fun hHeld=>?_)
      clear hK K
      refine norm_ (a':=?_) ?_ ?_
      rotate_left
      ·show Act.put _ (some 36) _=_
       simp only [Act.put,List.setIfInBounds_toArray,List.set_cons_zero,List.set_cons_succ,i64_w,i32_w]
       rfl
      have hc:=hCont.out ((.slice Aec3 0 cec3),vc3,vc1) wc3 ⟨Rc3.out,(Kd.R_mono (Kd.R_kept Rc1.out (Kept.of_grown Gc3.out (Kept.refl _ _) (S:=fun k=>some k=(Value.slice Aec3 0 cec3).ownBlock) (fun k hk=>.inl hk.symm)) (fun k hk e=>by have h1:=Rc2b.out.1 k e.symm;have h2:=hk.2.2.1;omega)) (fun _ _=>trivial)),Bc3.out⟩
      simp only [putAll,Act.put,List.setIfInBounds_toArray,List.set_cons_zero,List.set_cons_succ,i64_w,i32_w] at hc
      exact hc
    rintro ⟨va,vb,vl⟩ wj ⟨hb',hl',hB'⟩
    obtain ⟨Al,cl,rfl⟩:=Kd.R_slice hl'
    have RVB:=Aside0.mk hb'
    have CVL:=Aside0.mk (Kd.R_reads' hl').2.2
    have BJ:=Aside0.mk hB'
    clear hb' hl' hB'
    refine norm_ (a':=?_) ?_ ?_
    rotate_left
    ·simp only [putAll,Act.put,List.setIfInBounds_toArray,List.set_cons_zero,List.set_cons_succ,i64_w,i32_w]
     rfl
    refine one_ (i:=6) (N:=some 39) #[true,true,true,true,true,true,true,true,false,false] rfl rfl (by kernel_rfl) (by decide) (fun K hK=>?_)
    refine Kd.R_append_rows_step Kd.string (Rr:=Kd.string.K wj) (w0:=wd) wd.heap.size (by rfl) (.tmp 36) (.tmp 38) 26 9 (.string ⟨#[]⟩) 16 rfl Tryz.underlying26 infoS rfl (by decide) (by decide) vb ([]++ps) [nm] Al ([nm]:List ByteArray).length cl (fun _=>True) (fun _=>False) rfl rfl ?aOy ?aRy ?aKy (fun _ h=>h.elim) ?aFy ?aBy ?aSy ?aLy ?_;(case aOy=>exact RVB.out);(case aRy=>exact CVL.out);(case aKy=>exact fun _ _ h=>h);(case aFy=>exact fun _ _=>trivial);(case aBy=>exact BJ.out);(case aSy=>exact BJ.out.size);(case aLy=>have:=HPN.out;simp;omega)
    intro vc wc ho hb _ _
    obtain ⟨Ac,cc,rfl⟩:=Kd.R_slice ho
    have BC:=Aside0.mk hb
    have RC:=Aside0.mk (show Kd.R Kd.string 9 wc wd.heap.size (fun k=>wd.heap.size≤k) (.slice Ac (([]++ps)++[nm]).length cc) (([]++ps)++[nm]) from Kd.R_mono (Kd.R_bound ho) (fun k hk=>hk.2.1))
    obtain ⟨ps2,hps2⟩:∃ q,q=([]++ps)++[nm]:=⟨_,rfl⟩
    rw [←hps2] at RC ⊢
    have HP2:=Aside0.mk (show ps2=ps++[nm] by rw [hps2];rfl)
    clear ho hb hps2
    refine hK.out _ _ ⟨(blk_cell (blk_below KD.out BC.out) 0).trans rfl,(blk_cell (blk_below KD.out BC.out) 1).trans rfl,(blk_cell (blk_below KD.out BC.out) 2).trans rfl,(blk_cell (blk_below KD.out BC.out) 3).trans rfl,(blk_cell (blk_below KD.out BC.out) 4).trans rfl⟩ (fun hHeld=>?_)
    clear hK K
    refine norm_ (a':=?_) ?_ ?_
    rotate_left
    ·show Act.put _ (some 39) _=_
     simp only [Act.put,List.setIfInBounds_toArray,List.set_cons_zero,List.set_cons_succ,i64_w,i32_w]
     rfl
    refine one_ (i:=8) (N:=some 41) #[true,true,true,true,true,true,true,true,true,false] rfl rfl (by kernel_rfl) (by decide) (fun K hK=>?_)
    refine goes_ Tryz.func64 (by kernel_rfl) rfl #[.agg #[.int .i64 t.kd,.int .i64 t.nu,.string t.tx,.slice B3 t.ns.length d3,.slice B4 t.ks.length d4],.slice Ac ps2.length cc,.slice A5 lr.length c5] (by rfl) rfl rfl (by (try simp only [List.map_toArray,List.map_cons,List.map_nil]);first | done | rfl) ?_
    refine (IHT.out.go w0 _ B3 d3 B4 d4 Ac cc ps2 _ _ ST.out FT.out (below_step BWd.out BC.out) (Kd.C_kept_own RC.out (fun k hk e=>by have:=((Kd.R_bound R5d.out).1 k e.symm).2.2.1;omega)) (Kd.R_reads' RC.out).2.1 (HP2.out ▸ PSZ.out) (Kd.R_below R5d.out BC.out) CT.out (by have:=PCT.out;have e:=congrArg List.length HP2.out;rw [List.length_append,List.length_singleton] at e;omega)).mono ?_
    rintro e w6 ⟨v6,rfl,ho,hb,hk,hat⟩
    refine ⟨_,rfl,?_⟩
    have R6:=Aside0.mk ho
    have B6:=Aside0.mk hb
    have KG6:=Aside0.mk (blk_kept (blk_below KD.out BC.out) hk (Kd.R_ne (Kd.R_below R5d.out BC.out) (blk_below KD.out BC.out) (by decide)))
    have K6:=Aside0.mk (blk_kept (blk_below K3d.out BC.out) hk (Kd.R_ne (Kd.R_below R5d.out BC.out) (blk_below K3d.out BC.out) (by decide)))
    have KE6:=Aside0.mk (kept_via (KEd.out.1.below BC.out) KEd.out.2 hk hat)
    clear ho hb hk hat
    refine hK.out _ _ ⟨(blk_cell KG6.out 0).trans rfl,(blk_cell KG6.out 1).trans rfl,(blk_cell KG6.out 2).trans rfl,(blk_cell KG6.out 3).trans rfl,(blk_cell KG6.out 4).trans rfl⟩ (fun hHeld=>?_)
    clear hK K
    refine norm_ (a':=?_) ?_ ?_
    rotate_left
    ·show Act.put _ (some 41) _=_
     simp only [Act.put,List.setIfInBounds_toArray,List.set_cons_zero,List.set_cons_succ,i64_w,i32_w]
     rfl
    refine pure_ (i:=9) (N:=some 2) (v:=?_) (a':=?_) #[true,true,true,true,true,true,true,true,true,true] rfl rfl (by kernel_rfl) (fun _ _ _ h=>h) (Or.inl ⟨by rfl,?_⟩) ?_ ?_
    rotate_left
    ·intro w'
     go_simp
     with_reducible rfl
    rotate_left
    ·simp only [Act.put,List.setIfInBounds_toArray,List.set_cons_zero,List.set_cons_succ,i64_w,i32_w]
     rfl
    refine done_ (by kernel_rfl) ?_
    go_wp2
    go_roundg m
    case rel=>exact ⟨i+1,by go_num,⟨by have:=HM.out;omega⟩,⟨by rw [HS.out,←List.append_assoc,←HLR.out,←HTI.out,nmP_esc,HNM.out,←textP_snoc,←HP2.out];exact R6.out⟩,B6,K6,KE6⟩
    case measure=>omega
end Go.Proofs.YtoaafohpmhdjnaaGreatDoor.VT
