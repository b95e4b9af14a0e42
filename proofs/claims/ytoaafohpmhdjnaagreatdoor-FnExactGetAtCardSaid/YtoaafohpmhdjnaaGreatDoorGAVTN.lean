import Derived.Test.YtoaafohpmhdjnaaGreatDoorGAVND
import Derived.Test.YtoaafohpmhdjnaaGreatDoorGAPVGx0
/- The reference's nodes of a tree, put behind others: l1Flat and l1Of, walked. Conditions: right trees. -/
namespace Go.Proofs.YtoaafohpmhdjnaaGreatDoor.VT
open Go.RowKit Go.Proofs.YtoaafohpmhdjnaaGreatDoor.PVG Go.Proofs.YtoaafohpmhdjnaaGreatDoorW.PrintWords Go.Proofs.YtoaafohpmhdjnaaGreatDoorW.PrintLast Go.Proofs.YtoaafohpmhdjnaaGreatDoorW.PrintMore
set_option linter.unusedVariables false
set_option linter.unusedSimpArgs false
def NfCall (t:Tr):Prop:=∀ (w0 w:World) (A3:Option Addr) (c3:Nat) (A4:Option Addr) (c4:Nat) (v:Value) (l:List S107) (nm:ByteArray) (up:Int),SAt w0 t A3 c3 A4 c4→fit t=true→Below w0.heap.size w0 w→Kd.R k107 107 w w0.heap.size (fun _=>True) v l→l.length+cnt t≤1073741824 →
 Calls Tryz.prog 125 #[.agg #[.int .i64 t.kd,.int .i64 t.nu,.string t.tx,.slice A3 t.ns.length c3,.slice A4 t.ks.length c4],.string nm,.int .i64 up,v] w fun e w'=>∃ v',e=.returned v'∧Kd.R k107 107 w' w0.heap.size (fun _=>True) v' (l++flat t nm up l.length)∧Below w0.heap.size w0 w'∧Kept w w' (fun k=>some k=v.ownBlock)∧(v'.ownBlock=v.ownBlock∨∃ b,v'.ownBlock=some b∧w.heap.size≤b)
theorem NfCall.go {t:Tr} (h:NfCall t) (w0 w:World) (A3:Option Addr) (c3:Nat) (A4:Option Addr) (c4:Nat) (v:Value) (l:List S107) (nm:ByteArray) (up:Int) (h1:SAt w0 t A3 c3 A4 c4) (h2:fit t=true) (h3:Below w0.heap.size w0 w) (h4:Kd.R k107 107 w w0.heap.size (fun _=>True) v l) (h5:l.length+cnt t≤1073741824) :
 Calls Tryz.prog 125 #[.agg #[.int .i64 t.kd,.int .i64 t.nu,.string t.tx,.slice A3 t.ns.length c3,.slice A4 t.ks.length c4],.string nm,.int .i64 up,v] w fun e w'=>∃ v',e=.returned v'∧Kd.R k107 107 w' w0.heap.size (fun _=>True) v' (l++flat t nm up l.length)∧Below w0.heap.size w0 w'∧Kept w w' (fun k=>some k=v.ownBlock)∧(v'.ownBlock=v.ownBlock∨∃ b,v'.ownBlock=some b∧w.heap.size≤b):=h w0 w A3 c3 A4 c4 v l nm up h1 h2 h3 h4 h5
theorem kept_via {w W W2:World} {v v1 v2:Value} (h:Kept w W (fun k=>some k=v.ownBlock)) (hat:v1.ownBlock=v.ownBlock∨∃ b,v1.ownBlock=some b∧w.heap.size≤b) (k:Kept W W2 (fun k=>some k=v1.ownBlock)) (hat2:v2.ownBlock=v1.ownBlock∨∃ b,v2.ownBlock=some b∧W.heap.size≤b) :
  Kept w W2 (fun k=>some k=v.ownBlock)∧(v2.ownBlock=v.ownBlock∨∃ b,v2.ownBlock=some b∧w.heap.size≤b):=by
 refine ⟨h.then_ k (fun k hk=>?_),?_⟩
 ·rcases hat with e | ⟨b,e,hb⟩
  ·rw [e] at hk;exact .inl hk
  ·rw [e] at hk;cases hk;exact .inr hb
 ·rcases hat2 with e | ⟨b,e,hb⟩
  ·rw [e];exact hat
  ·exact .inr ⟨b,e,Nat.le_trans h.1 hb⟩
set_option maxRecDepth 100000 in
set_option maxHeartbeats 8000000 in
theorem nf_c (t:Tr):NfCall t:=by
 refine Tr.ind (P:=NfCall) ?_ t
 intro kd nu tx ns ks ih w0 w A3 c3 A4 c4 v l nm up ha hf hb0 hr hn
 obtain ⟨A,c,rfl⟩:=Kd.R_slice hr
 simp only [Tr.kd,Tr.nu,Tr.tx,Tr.ns,Tr.ks]
 have hfit:=fit1 hf
 have HA:=Aside0.mk ha
 have HLEN:=Aside0.mk hfit.hlen
 have FITS:=Aside0.mk ((fitL_iff ks).1 hfit.hks)
 have IH:=Aside0.mk ih
 have HN:=Aside0.mk hn
 have NAM:=Aside0.mk (show ∀ i (h:i < ns.length),∃ ad,A3=some ad∧∀ W,Below w0.heap.size w0 W→W.cell? (ad.add i)=some (.string ns[i]) from fun i h=>by
  obtain ⟨ad,e,hc⟩:=ha.name i h
  exact ⟨ad,e,fun W hb=>(hb.cell (World.block_lt_of_cell? w0 _ hc)).trans hc⟩)
 obtain ⟨W1,hW1⟩:∃ W1,W1=w.alloc (.cells #[.int .i64 kd,.int .i64 nu,.string tx,.slice A3 ns.length c3,.slice A4 ks.length c4] 89):=⟨_,rfl⟩
 obtain ⟨gb,hgb⟩:∃ g,g=w.heap.size:=⟨_,rfl⟩
 have hb1:Below w.heap.size w W1:=by rw [hW1];exact below_alloc (Below.refl _ _) _
 have HR:=Aside0.mk (Kd.R_below hr hb1)
 have HB0:=Aside0.mk (below_step hb0 hb1)
 have KW1:=Aside0.mk (Kept.of_below hb1 (fun k=>some k=(Value.slice A l.length c).ownBlock))
 have KB:=Aside0.mk (show W1.heap[gb]? = some (.cells #[.int .i64 kd,.int .i64 nu,.string tx,.slice A3 ns.length c3,.slice A4 ks.length c4] 89 (0,0)) by rw [hW1,hgb];exact blk_new w _)
 have hl:l.length≤1073741824:=by omega
 have k0:W1.cell? ⟨gb,0,none⟩=some (.int .i64 kd):=(blk_cell KB.out 0).trans rfl
 have k1:W1.cell? ⟨gb,1,none⟩=some (.int .i64 nu):=(blk_cell KB.out 1).trans rfl
 have k2:W1.cell? ⟨gb,2,none⟩=some (.string tx):=(blk_cell KB.out 2).trans rfl
 clear ha hf hn hr hb0 hfit ih hb1
 go_enter Tryz.func125,Tryz.ntmps125
 go_upto_region 1 with fail
 rw [←hW1,←hgb]
 clear hW1 hgb
 go_upto_region 3 with (first | ((with_reducible refine gate_builtin (b:=.append) (xs:=#[.tmp 15,.tmp 25]) rfl ?_);at_builtin;refine Kd.R_append k107 w0.heap.size rfl (.tmp 15) (.tmp 25) 29 107 (.agg #[(.int .i64 0),(.int .i64 0),(.string ⟨#[]⟩),(.string ⟨#[]⟩),(.int .i64 0)]) 56 rfl Tryz.underlying29 info107 rfl (by decide) (by omega) (.slice A l.length c) l ⟨kd,nu,tx,nm,up⟩ [.int .i64 kd,.int .i64 nu,.string tx,.string nm,.int .i64 up] (fun _=>True) (fun _=>False) rfl rfl ?aP (fun _ hk=>hk.elim) ?aF ?aO (Below.refl _ _) ?aS ?aL ?_;(case aP=>exact k107_mkM _ _ _ (⟨kd,nu,tx,nm,up⟩:S107));(case aF=>exact fun _ _=>trivial);(case aO=>exact HR.out);(case aS=>exact HB0.out.size);(case aL=>have:=HN.out;have:=cnt_pos (.mk kd nu tx ns ks);omega);intro v2 w2 ho hb hg hat;have KW2:=Aside0.mk (kept_via KW1.out (.inl rfl) (Kept.of_grown hg (Kept.refl _ _) (fun k hk=>.inl hk.symm)) hat);have R2:=Aside0.mk ho;have B2:=Aside0.mk (below_weaken HB0.out (Nat.le_refl _) hb);have K2:=Aside0.mk (blk_grown KB.out hg (Kd.R_ne HR.out KB.out (by decide)));clear ho hb hg hat))
 clear k0 k1 k2 hl
 obtain ⟨l2,hl2⟩:∃ l2,l2=l++[(⟨kd,nu,tx,nm,up⟩:S107)]:=⟨_,rfl⟩
 have HL2:=Aside0.mk (show l2.length=l.length+1 by rw [hl2];simp)
 have EL2:=Aside0.mk (show ∀ x:List S107,l2++x=l++(⟨kd,nu,tx,nm,up⟩:S107) :: x by intro x;rw [hl2];simp)
 have R3:=R2.out
 rw [←hl2] at R3
 have R3:=Aside0.mk R3
 clear R2 hl2
 have k4:w2.cell? ⟨gb,4,none⟩=some (.slice A4 ks.length c4):=(blk_cell K2.out 4).trans rfl
 obtain ⟨A2,c2,rfl⟩:=Kd.R_slice R3.out
 go_wp2
 clear k4
 go_loopg [3,30] ks.length (fun m v3 v30 W=>∃ i:Nat,v30=.int .i64 (i:Int)∧Aside0 (i+m=ks.length)∧Aside0 (Kd.R k107 107 W w0.heap.size (fun _=>True) v3 (l2++flatL (ks.take i) (kd==7) ns l.length (l.length+1)))∧Aside0 (Below w0.heap.size w0 W)∧Aside0 (W.heap[gb]? = some (.cells #[.int .i64 kd,.int .i64 nu,.string tx,.slice A3 ns.length c3,.slice A4 ks.length c4] 89 (0,0)))∧Aside0 (Kept w W (fun k=>some k=(Value.slice A l.length c).ownBlock)∧(v3.ownBlock=(Value.slice A l.length c).ownBlock∨∃ b,v3.ownBlock=some b∧w.heap.size≤b)))
 case atStart=>exact ⟨0,rfl,⟨by omega⟩,⟨by simp [flatL];exact R3.out⟩,B2,K2,KW2⟩
 case round =>
  obtain ⟨i,rfl,HM,HRR,HB,HK,HKE⟩:=hrel
  cases gk with
  | zero =>
   have hlt:decide (i < ks.length)=false:=decide_eq_false (by have:=HM.out;omega)
   have R9:=HRR.out
   rw [show ks.take i=ks from List.take_of_length_le (by have:=HM.out;omega),EL2.out] at R9
   have R9:=Aside0.mk R9
   clear HRR
   go_wp2
   go_ret
   exact ⟨_,rfl,by rw [flat];exact R9.out,HB.out,HKE.out.1,HKE.out.2⟩
  | succ m =>
   have hi:i < ks.length:=by have:=HM.out;omega
   obtain ⟨lr,hlr⟩:∃ lr,lr=l2++flatL (ks.take i) (kd==7) ns l.length (l.length+1):=⟨_,rfl⟩
   have HLR:=Aside0.mk hlr
   have HR5:=HRR.out
   rw [←hlr] at HR5
   have HIm:=Aside0.mk (List.getElem_mem hi)
   have HS:=Aside0.mk (flatL_take (m:=kd==7) (ns:=ns) (self:=l.length) (k:=l.length+1) hi)
   have HC:=Aside0.mk (show lr.length+cnt ks[i]≤1073741824∧lr.length=l.length+1+cntL (ks.take i) by
    rw [HLR.out]
    have h1:=cntL_take_le ks (i+1)
    have h2:=cntL_take ks i hi
    have h3:=HN.out
    have h4:=HL2.out
    simp only [cnt] at h3
    rw [List.length_append,flatL_len]
    omega)
   have b4:(i:Int)≤1073741824:=by have:=cnt_ge_len ks;have:=HN.out;simp only [cnt] at this;omega
   have b5:(l.length:Int)≤1073741824:=by have:=HN.out;omega
   obtain ⟨ad,B3,d3,B4,d4,rfl,q0,q1,q2,q3,q4,hs⟩:=HA.out.kid i hi
   replace q0:w0.cell? (ad.add (i * 5))=some (.int .i64 (ks[i]).kd):=q0
   replace q1:w0.cell? ⟨(ad.add (i * 5)).block,(ad.add (i * 5)).off+1,none⟩=some (.int .i64 (ks[i]).nu):=q1
   replace q2:w0.cell? ⟨(ad.add (i * 5)).block,(ad.add (i * 5)).off+2,none⟩=some (.string (ks[i]).tx):=q2
   replace q3:w0.cell? ⟨(ad.add (i * 5)).block,(ad.add (i * 5)).off+3,none⟩=some (.slice B3 (ks[i]).ns.length d3):=q3
   replace q4:w0.cell? ⟨(ad.add (i * 5)).block,(ad.add (i * 5)).off+4,none⟩=some (.slice B4 (ks[i]).ks.length d4):=q4
   replace hs:SAt w0 ks[i] B3 d3 B4 d4:=hs
   have mv:∀ {a:Addr} {u:Value},w0.cell? a=some u→wr.cell? a=some u:=fun {a u} h=>(HB.out.cell (World.block_lt_of_cell? w0 _ h)).trans h
   replace q0:=mv q0
   replace q1:=mv q1
   replace q2:=mv q2
   replace q3:=mv q3
   replace q4:=mv q4
   have HSA:=Aside0.mk hs
   clear hs mv
   obtain ⟨t,ht⟩:∃ t,t=ks[i]:=⟨_,rfl⟩
   have HTI:=Aside0.mk ht
   rw [←ht] at q0 q1 q2 q3 q4
   obtain ⟨W3,hW3⟩:∃ W3,W3=wr.alloc (.cells #[.int .i64 t.kd,.int .i64 t.nu,.string t.tx,.slice B3 t.ns.length d3,.slice B4 t.ks.length d4] 89):=⟨_,rfl⟩
   obtain ⟨gk,hgk⟩:∃ g,g=wr.heap.size:=⟨_,rfl⟩
   have hb3:Below wr.heap.size wr W3:=by rw [hW3];exact below_alloc (Below.refl _ _) _
   have HR6:=Aside0.mk (Kd.R_below HR5 hb3)
   have BW3:=Aside0.mk (below_step HB.out hb3)
   have K3:=Aside0.mk (blk_below HK.out hb3)
   have KE3:=Aside0.mk (show Kept w W3 (fun k=>some k=(Value.slice A l.length c).ownBlock)∧_ from ⟨HKE.out.1.below hb3,HKE.out.2⟩)
   have KT:=Aside0.mk (show W3.heap[gk]? = some (.cells #[.int .i64 t.kd,.int .i64 t.nu,.string t.tx,.slice B3 t.ns.length d3,.slice B4 t.ks.length d4] 89 (0,0)) by rw [hW3,hgk];exact blk_new wr _)
   clear HRR hlr HR5 hb3 ht
   obtain ⟨A5,c5,rfl⟩:=Kd.R_slice HR6.out
   go_upto_region 6 with fail
   rw [←hW3,←hgk]
   clear hW3 hgk q0 q1 q2 q3 q4
   have y0:W3.cell? ⟨gb,0,none⟩=some (.int .i64 kd):=(blk_cell K3.out 0).trans rfl
   have t0:W3.cell? ⟨gk,0,none⟩=some (.int .i64 t.kd):=(blk_cell KT.out 0).trans rfl
   have t1:W3.cell? ⟨gk,1,none⟩=some (.int .i64 t.nu):=(blk_cell KT.out 1).trans rfl
   have t2:W3.cell? ⟨gk,2,none⟩=some (.string t.tx):=(blk_cell KT.out 2).trans rfl
   have t3:W3.cell? ⟨gk,3,none⟩=some (.slice B3 t.ns.length d3):=(blk_cell KT.out 3).trans rfl
   have t4:W3.cell? ⟨gk,4,none⟩=some (.slice B4 t.ks.length d4):=(blk_cell KT.out 4).trans rfl
   have IHT:=Aside0.mk (show NfCall t by rw [HTI.out];exact IH.out _ HIm.out)
   have FT:=Aside0.mk (show fit t=true by rw [HTI.out];exact FITS.out _ HIm.out)
   have CT:=Aside0.mk (show lr.length+cnt t≤1073741824 by rw [HTI.out];exact HC.out.1)
   have ST:=Aside0.mk (show SAt w0 t B3 d3 B4 d4 by rw [HTI.out];exact HSA.out)
   by_cases h7:kd=7
   ·have hni:i < ns.length:=by rw [HLEN.out h7];exact hi
    obtain ⟨ad3,rfl,kn⟩:=NAM.out i hni
    have kn:=kn W3 BW3.out
    have y3:W3.cell? ⟨gb,3,none⟩=some (.slice (some ad3) ns.length c3):=(blk_cell K3.out 3).trans rfl
    have h7b:(kd==7)=true:=by simpa using h7
    have HNM:=Aside0.mk (show (if (kd==7)=true then (ns.drop i).headD nil_ else nil_)=ns[i] by rw [if_pos h7b,List.headD_eq_head?_getD,List.head?_drop,List.getElem?_eq_getElem hni];rfl)
    clear h7
    go_wp2_with (first | (go_at_call 125;(with_reducible refine (IHT.out.go w0 _ B3 d3 B4 d4 _ _ ns[i] (l.length:Int) ST.out FT.out BW3.out HR6.out CT.out).mono ?_);rintro e w5 ⟨v5,rfl,ho,hb,hk,hat⟩;have R5:=Aside0.mk ho;have B5:=Aside0.mk hb;have KE5:=Aside0.mk (kept_via KE3.out.1 KE3.out.2 hk hat);have K5:=Aside0.mk (blk_kept K3.out hk (Kd.R_ne HR6.out K3.out (by decide)));clear ho hb hk hat))
    go_roundg m
    case rel=>exact ⟨i+1,by go_num,⟨by have:=HM.out;omega⟩,⟨by rw [HS.out,HNM.out,←List.append_assoc,←HC.out.2,←HLR.out,←HTI.out];exact R5.out⟩,B5,K5,KE5⟩
    case measure=>omega
   ·have h7b:(kd==7)=false:=by simpa using h7
    have HNM:=Aside0.mk (show (if (kd==7)=true then (ns.drop i).headD nil_ else nil_)=nil_ by rw [if_neg (by rw [h7b];simp)])
    clear h7
    go_wp2_with (first | (go_at_call 125;(with_reducible refine (IHT.out.go w0 _ B3 d3 B4 d4 _ _ (⟨#[]⟩:ByteArray) (l.length:Int) ST.out FT.out BW3.out HR6.out CT.out).mono ?_);rintro e w5 ⟨v5,rfl,ho,hb,hk,hat⟩;have R5:=Aside0.mk ho;have B5:=Aside0.mk hb;have KE5:=Aside0.mk (kept_via KE3.out.1 KE3.out.2 hk hat);have K5:=Aside0.mk (blk_kept K3.out hk (Kd.R_ne HR6.out K3.out (by decide)));clear ho hb hk hat))
    go_roundg m
    case rel=>exact ⟨i+1,by go_num,⟨by have:=HM.out;omega⟩,⟨by rw [HS.out,HNM.out,←List.append_assoc,←HC.out.2,←HLR.out,←HTI.out];exact R5.out⟩,B5,K5,KE5⟩
    case measure=>omega
end Go.Proofs.YtoaafohpmhdjnaaGreatDoor.VT
namespace Go.Proofs.YtoaafohpmhdjnaaGreatDoor.VT
open Go.RowKit Go.Proofs.YtoaafohpmhdjnaaGreatDoor.PVG Go.Proofs.YtoaafohpmhdjnaaGreatDoorW.PrintWords Go.Proofs.YtoaafohpmhdjnaaGreatDoorW.PrintLast Go.Proofs.YtoaafohpmhdjnaaGreatDoorW.PrintMore
set_option linter.unusedVariables false
set_option linter.unusedSimpArgs false
mutual
def ofS:S89→Tr
 | ⟨kd,nu,tx,ns,ks⟩=>.mk kd nu tx ns (ofSL ks)
def ofSL:List S89→List Tr
 | []=>[]
 | x :: xs=>ofS x :: ofSL xs
end
mutual
theorem toS_ofS:∀ x:S89,toS (ofS x)=x
 | ⟨kd,nu,tx,ns,ks⟩=>by rw [ofS,toS,toSL_ofSL ks]
theorem toSL_ofSL:∀ xs:List S89,toSL (ofSL xs)=xs
 | []=>rfl
 | x :: xs=>by rw [ofSL,toSL,toS_ofS x,toSL_ofSL xs]
end
mutual
theorem ofS_toS:∀ t:Tr,ofS (toS t)=t
 | .mk kd nu tx ns ks=>by rw [toS,ofS,ofSL_toSL ks]
theorem ofSL_toSL:∀ ts:List Tr,ofSL (toSL ts)=ts
 | []=>rfl
 | t :: ts=>by rw [toSL,ofSL,ofS_toS t,ofSL_toSL ts]
end
set_option maxRecDepth 100000 in
set_option maxHeartbeats 4000000 in
theorem l1Of_c (t:Tr) (A3:Option Addr) (c3:Nat) (A4:Option Addr) (c4:Nat) (w:World) (ha:SAt w t A3 c3 A4 c4) (hf:fit t=true) (hn:cnt t≤1073741824) :
  Calls Tryz.prog 78 #[.agg #[.int .i64 t.kd,.int .i64 t.nu,.string t.tx,.slice A3 t.ns.length c3,.slice A4 t.ks.length c4]] w fun e w'=>∃ v',e=.returned (.agg #[v'])∧Kd.R k107 107 w' w.heap.size (fun _=>True) v' (flat t nil_ (-1) 0)∧Below w.heap.size w w':=by
 obtain ⟨W1,hW1⟩:∃ W1,W1=w.alloc (.cells #[.int .i64 t.kd,.int .i64 t.nu,.string t.tx,.slice A3 t.ns.length c3,.slice A4 t.ks.length c4] 89):=⟨_,rfl⟩
 obtain ⟨gb,hgb⟩:∃ g,g=w.heap.size:=⟨_,rfl⟩
 obtain ⟨W2,hW2⟩:∃ W2,W2=W1.alloc (.cells #[.slice none 0 0] 31):=⟨_,rfl⟩
 obtain ⟨g0,hg0⟩:∃ g,g=w.heap.size+1:=⟨_,rfl⟩
 have hs1:W1.heap.size=w.heap.size+1:=by rw [hW1];simp
 have HB1:=Aside0.mk (show Below w.heap.size w W1 by rw [hW1];exact below_alloc (Below.refl _ _) _)
 have HB2:=Aside0.mk (show Below W1.heap.size W1 W2 by rw [hW2];exact below_alloc (Below.refl _ _) _)
 have KB:=Aside0.mk (show W1.heap[gb]? = some (.cells #[.int .i64 t.kd,.int .i64 t.nu,.string t.tx,.slice A3 t.ns.length c3,.slice A4 t.ks.length c4] 89 (0,0)) by rw [hW1,hgb];exact blk_new w _)
 have KB2:=Aside0.mk (blk_below KB.out HB2.out)
 have K0:=Aside0.mk (show W2.heap[g0]? = some (.cells #[.slice none 0 0] 31 (0,0)) by rw [hW2,hg0,←hs1];exact blk_new W1 _)
 have GE:=Aside0.mk (show w.heap.size≤g0 by rw [hg0];omega)
 have ND:=Aside0.mk ((nf_c t).go W2 W2 A3 c3 A4 c4 (.slice none 0 0) [] (⟨#[]⟩:ByteArray) (-1) ((ha.below HB1.out).below HB2.out) hf (Below.refl _ _) (Kd.R_nil _ _ _ _ _) (by simpa using hn))
 have t0:W2.cell? ⟨gb,0,none⟩=some (.int .i64 t.kd):=(blk_cell KB2.out 0).trans rfl
 have t1:W2.cell? ⟨gb,1,none⟩=some (.int .i64 t.nu):=(blk_cell KB2.out 1).trans rfl
 have t2:W2.cell? ⟨gb,2,none⟩=some (.string t.tx):=(blk_cell KB2.out 2).trans rfl
 have t3:W2.cell? ⟨gb,3,none⟩=some (.slice A3 t.ns.length c3):=(blk_cell KB2.out 3).trans rfl
 have t4:W2.cell? ⟨gb,4,none⟩=some (.slice A4 t.ks.length c4):=(blk_cell KB2.out 4).trans rfl
 clear ha hf hn
 go_enter Tryz.func78,Tryz.ntmps78
 go_upto_region 1 with fail
 rw [←hW1,←hW2,←hg0,←hgb]
 clear hW1 hgb hW2 hg0 hs1
 go_wp2_with (first | (go_at_call 125;(with_reducible refine ND.out.mono ?_);rintro e w2 ⟨v2,rfl,ho,hb,_,_⟩;obtain ⟨A2,c2,rfl⟩:=Kd.R_slice ho;obtain ⟨n2,hn2⟩:∃ n,n=(([]:List S107)++flat t (⟨#[]⟩:ByteArray) (-1) ([]:List S107).length).length:=⟨_,rfl⟩;rw [←hn2] at ho ⊢;have R2:=Aside0.mk ho;have B2:=Aside0.mk hb;have K2:=blk_below K0.out hb;have p0:w2.cell? ⟨g0,0,none⟩=some (.slice none 0 0):=(blk_cell K2 0).trans rfl;have fz:w2.frozen? ⟨g0,0,none⟩=false:=blk_frozen K2 0;have KK:=Aside0.mk K2;clear ho hb K2 hn2))
 refine bodyPost_ret (results_cell_row rfl _ _ g0 31 #[.slice A2 n2 c2] (0,0) _ rfl (by simpa using blk_set KK.out 0 (.slice A2 n2 c2)) Tryz.underlying31 rfl (by kernel_rfl)) rfl ?_
 refine ⟨_,rfl,?_,below_set (below_step HB1.out (below_step HB2.out B2.out)) GE.out⟩
 exact Kd.R_lower (Kd.R_mono (Kd.R_far (Kd.R_types R2.out KK.out (by decide)) (fun k hk=>hk.2) _) (fun _ _=>trivial)) (Nat.le_trans HB1.out.size HB2.out.size)
theorem l1Of_s (x:S89) (A3:Option Addr) (c3:Nat) (A4:Option Addr) (c4:Nat) (w:World) (h3:Kd.C Kd.string w A3 x.f3.length x.f3) (l3:x.f3.length≤c3) (h4:Kd.C k89 w A4 x.f4.length x.f4) (l4:x.f4.length≤c4) (hf:fit (ofS x)=true) (hn:cnt (ofS x)≤1073741824) :
  Calls Tryz.prog 78 #[.agg #[.int .i64 x.f0,.int .i64 x.f1,.string x.f2,.slice A3 x.f3.length c3,.slice A4 x.f4.length c4]] w fun e w'=>∃ v',e=.returned (.agg #[v'])∧Kd.R k107 107 w' w.heap.size (fun _=>True) v' (flat (ofS x) nil_ (-1) 0)∧Below w.heap.size w w':=by
 have hl:(ofSL x.f4).length=x.f4.length:=by rw [←toSL_len,toSL_ofSL]
 have:=l1Of_c (ofS x) A3 c3 A4 c4 w (by cases x;rw [ofS];exact ⟨l3,h3,by simpa [Tr.ks,hl] using l4,by simpa [Tr.ks,toSL_ofSL,hl] using h4⟩) hf hn
 cases x
 rw [ofS] at this ⊢
 simp only [Tr.kd,Tr.nu,Tr.tx,Tr.ns,Tr.ks] at this
 rw [hl] at this
 exact this
end Go.Proofs.YtoaafohpmhdjnaaGreatDoor.VT
namespace Go.Proofs.YtoaafohpmhdjnaaGreatDoor.VT
open Go.RowKit Go.Proofs.YtoaafohpmhdjnaaGreatDoor.PVG Go.Proofs.YtoaafohpmhdjnaaGreatDoorW.PrintWords
set_option linter.unusedVariables false
set_option linter.unusedSimpArgs false
mutual
def cleanT:Tr→Tr
 | .mk kd nu tx ns ks=>if kd=7 then .mk 7 0 nil_ (cleanN ks ns) (cleanK ks) else .mk kd nu tx ns ks
def cleanK:List Tr→List Tr
 | []=>[]
 | t :: ts=>if t.kd=1 then cleanK ts else cleanT t :: cleanK ts
def cleanN:List Tr→List ByteArray→List ByteArray
 | [],_=>[]
 | t :: ts,ns=>if t.kd=1 then cleanN ts ns.tail else ns.headD nil_ :: cleanN ts ns.tail
end
mutual
def isClean:Tr→Bool
 | .mk kd _ _ _ ks=>if kd=7 then isCleanL ks else true
def isCleanL:List Tr→Bool
 | []=>true
 | t :: ts=>!(t.kd==1)&&isClean t&&isCleanL ts
end
mutual
theorem cmpT_self:∀ t:Tr,cmpT t t=0
 | .mk kd nu tx ns ks=>by
  rw [cmpT_mk rfl,ci_self,ci_self,cs_self]
  simp only [orL,if_true]
  exact cmpL_self ks _ ns
theorem cmpL_self:∀ (ks:List Tr) (m:Bool) (ns:List ByteArray),cmpL ks m ns ns ks=0
 | [],_,_=>by simp [cmpL]
 | t :: ts,m,ns=>by
  rw [cmpL,cs_self,if_neg (by simp),cmpT_self t,if_pos rfl,cmpL_self ts]
end
end Go.Proofs.YtoaafohpmhdjnaaGreatDoor.VT
