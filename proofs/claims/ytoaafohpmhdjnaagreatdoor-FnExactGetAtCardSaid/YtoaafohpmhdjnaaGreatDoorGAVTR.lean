import Derived.Test.YtoaafohpmhdjnaaGreatDoorGAVTG
import Derived.Test.YtoaafohpmhdjnaaGreatDoorGAVPB
/- The reference's tree of a right list of nodes: walked by hand. Conditions: a right list. -/
namespace Go.Proofs.YtoaafohpmhdjnaaGreatDoor.VT
open Go.RowKit Go.Proofs.YtoaafohpmhdjnaaGreatDoor.PVG Go.Proofs.YtoaafohpmhdjnaaGreatDoorW.PrintWords Go.Proofs.YtoaafohpmhdjnaaGreatDoorW.PrintLast Go.Proofs.YtoaafohpmhdjnaaGreatDoorW.PrintMore
set_option linter.unusedVariables false
set_option linter.unusedSimpArgs false
theorem put5t {w:World} {g t:Nat} {a b c d e a' b' c' d' e':Value} (h:w.heap[g]? = some (.cells #[a,b,c,d,e] t (0,0))) :
  (((((w.setCell ⟨g,0,none⟩ a').setCell ⟨g,1,none⟩ b').setCell ⟨g,2,none⟩ c').setCell ⟨g,3,none⟩ d').setCell ⟨g,4,none⟩ e').heap[g]? = some (.cells #[a',b',c',d',e'] t (0,0)):=by
 have h0:=blk_set (blk_set (blk_set (blk_set (blk_set h 0 a') 1 b') 2 c') 3 d') 4 e'
 simpa using h0
theorem below_put5t {w0 w:World} {g:Nat} {a b c d e:Value} (h:Below w0.heap.size w0 w) (hg:w0.heap.size≤g) :
  Below w0.heap.size w0 (((((w.setCell ⟨g,0,none⟩ a).setCell ⟨g,1,none⟩ b).setCell ⟨g,2,none⟩ c).setCell ⟨g,3,none⟩ d).setCell ⟨g,4,none⟩ e) :=
 below_set (below_set (below_set (below_set (below_set h hg) hg) hg) hg) hg
theorem R_put5t {α:Type} {d:Kd α} {e:Nat} {W:World} {base:Nat} {ok:Nat→Prop} {v:Value} {xs:List α} {g:Nat} {a b c f h5:Value} (h:d.R e W base ok v xs) (hok:∀ k,ok k→k≠g) :
  d.R e (((((W.setCell ⟨g,0,none⟩ a).setCell ⟨g,1,none⟩ b).setCell ⟨g,2,none⟩ c).setCell ⟨g,3,none⟩ f).setCell ⟨g,4,none⟩ h5) base ok v xs :=
 Kd.R_far (Kd.R_far (Kd.R_far (Kd.R_far (Kd.R_far h hok _) hok _) hok _) hok _) hok _
mutual
def toS:Tr→S89
 | .mk kd nu tx ns ks=>⟨kd,nu,tx,ns,toSL ks⟩
def toSL:List Tr→List S89
 | []=>[]
 | t :: ts=>toS t :: toSL ts
end
theorem toSL_map:∀ ts:List Tr,toSL ts=ts.map toS
 | []=>rfl
 | t :: ts=>by rw [toSL,toSL_map ts];rfl
theorem toSL_len (ts:List Tr):(toSL ts).length=ts.length:=by rw [toSL_map,List.length_map]
theorem toS_eq (t:Tr):toS t=⟨t.kd,t.nu,t.tx,t.ns,toSL t.ks⟩:=by cases t;rw [toS];rfl
structure Tl (w:World) (l:List S107) (A:Option Addr) (c:Nat) (g2 g4 g5 g6:Nat) (kd nu:Int) (tx nm:ByteArray) (up:Int) (vz:Value) (zs:List Int) (c3 c4 v3:Value) (ms:List ByteArray) (v4:Value) (xs:List S89) (W:World):Prop where
 bel:Below w.heap.size w W
 lo:w.heap.size≤g6∧g2≠g6∧g5≠g6∧g4 < g6∧w.heap.size≤g4
 k2:W.heap[g2]? = some (.cells #[.slice A l.length c] 31 (0,0))
 k4:W.heap[g4]? = some (.cells #[.int .i64 0,.int .i64 0,.string ⟨#[]⟩,.slice none 0 0,.slice none 0 0] 89 (0,0))
 k5:W.heap[g5]? = some (.cells #[.int .i64 kd,.int .i64 nu,.string tx,.string nm,.int .i64 up] 107 (0,0))
 ob:W.heap[g6]? = some (.cells #[.int .i64 kd,.int .i64 nu,.string tx,c3,c4] 89 (0,0))
 rz:Kd.R (Kd.int .i64) 3 W w.heap.size (fun k=>g6 < k) vz zs
 r3:Kd.R Kd.string 9 W w.heap.size (fun k=>g6 < k) v3 ms
 r4:Kd.R k89 89 W w.heap.size (fun k=>g6 < k∧some k≠v3.ownBlock) v4 xs
section
variable {w W W':World} {l:List S107} {A:Option Addr} {c g2 g4 g5 g6:Nat} {kd nu:Int} {tx nm:ByteArray} {up:Int} {vz:Value} {zs:List Int} {c3 c4 v3:Value} {ms:List ByteArray} {v4:Value} {xs:List S89}
theorem Tl.move (h:Tl w l A c g2 g4 g5 g6 kd nu tx nm up vz zs c3 c4 v3 ms v4 xs W) (hb:Below W.heap.size W W'):Tl w l A c g2 g4 g5 g6 kd nu tx nm up vz zs c3 c4 v3 ms v4 xs W' :=
 ⟨below_step h.bel hb,h.lo,blk_below h.k2 hb,blk_below h.k4 hb,blk_below h.k5 hb,blk_below h.ob hb,Kd.R_below h.rz hb,Kd.R_below h.r3 hb,Kd.R_below h.r4 hb⟩
theorem Tl.fresh (h:Tl w l A c g2 g4 g5 g6 kd nu tx nm up vz zs c3 c4 v3 ms v4 xs W):∀ k,W.heap.size≤k→g6 < k∧some k≠v3.ownBlock:=fun k hk =>
 ⟨by have:=blk_lt h.ob;omega,fun e=>by have:=Kd.R_lt h.r3 k e.symm;omega⟩
theorem Tl.part (h:Tl w l A c g2 g4 g5 g6 kd nu tx nm up vz zs c3 c4 v3 ms v4 xs W) (hb:Below W.heap.size W W') {t:Tr} {x3 x4:Value} (h3:Kd.R Kd.string 9 W' W.heap.size (fun _=>True) x3 t.ns) (h4:Kd.R k89 89 W' W.heap.size (fun k_=>some k_≠x3.ownBlock) x4 (toSL t.ks)) :
  k89.M W' w.heap.size (fun k=>g6 < k∧some k≠v3.ownBlock∧some k≠v4.ownBlock) (toS t) [.int .i64 t.kd,.int .i64 t.nu,.string t.tx,x3,x4]:=by
 have q:∀ k,W.heap.size≤k→(g6 < k∧some k≠v3.ownBlock∧some k≠v4.ownBlock):=fun k hk =>
  ⟨(h.fresh k hk).1,(h.fresh k hk).2,fun e=>by have:=Kd.R_lt h.r4 k e.symm;omega⟩
 have a3:=Kd.R_lower (Kd.R_mono (Kd.R_bound h3) (fun k hk=>q k hk.2.1)) h.bel.size
 have a4:=Kd.R_lower (Kd.R_mono (Kd.R_bound h4) (fun k hk=>q k hk.2.1)) h.bel.size
 have e:=k89_mkM W' w.heap.size (fun k=>g6 < k∧some k≠v3.ownBlock∧some k≠v4.ownBlock) (toS t) (v3:=x3) (by rw [toS_eq];exact a3) (v4:=x4) (by rw [toS_eq];exact a4)
 rw [toS_eq] at e ⊢
 exact e
theorem Tl.name (h:Tl w l A c g2 g4 g5 g6 kd nu tx nm up vz zs c3 c4 v3 ms v4 xs W) {v3':Value} {ms':List ByteArray} (hr:Kd.R Kd.string 9 W' w.heap.size (fun k=>g6 < k) v3' ms') (hb:Below w.heap.size w W') (hg:W.grownBy W' v3.ownBlock) (hat:v3'.ownBlock=v3.ownBlock∨∃ b,v3'.ownBlock=some b∧W.heap.size≤b):Tl w l A c g2 g4 g5 g6 kd nu tx nm up vz zs c3 c4 v3' ms' v4 xs W' :=
 ⟨hb,h.lo,blk_grown h.k2 hg (Kd.R_ne h.r3 h.k2 (by decide)),blk_grown h.k4 hg (Kd.R_ne h.r3 h.k4 (by decide)),blk_grown h.k5 hg (Kd.R_ne h.r3 h.k5 (by decide)),blk_grown h.ob hg (Kd.R_ne h.r3 h.ob (by decide)),Kd.R_over h.rz h.r3 (by decide) hg,hr,Kd.R_after h.r4 hg hat⟩
theorem Tl.kid (h:Tl w l A c g2 g4 g5 g6 kd nu tx nm up vz zs c3 c4 v3 ms v4 xs W) {v4':Value} {xs':List S89} (hr:Kd.R k89 89 W' w.heap.size (fun k=>g6 < k∧some k≠v3.ownBlock) v4' xs') (hb:Below w.heap.size w W') (hg:W.grownBy W' v4.ownBlock):Tl w l A c g2 g4 g5 g6 kd nu tx nm up vz zs c3 c4 v3 ms v4' xs' W' :=
 ⟨hb,h.lo,blk_grown h.k2 hg (Kd.R_ne h.r4 h.k2 (by decide)),blk_grown h.k4 hg (fun e=>absurd (h.r4.1 g4 e.symm).1 (by have:=h.lo;omega)),blk_grown h.k5 hg (Kd.R_ne h.r4 h.k5 (by decide)),blk_grown h.ob hg (fun e=>absurd (h.r4.1 g6 e.symm).1 (Nat.lt_irrefl _)),Kd.R_over h.rz h.r4 (by decide) hg,Kd.R_over h.r3 h.r4 (by decide) hg,hr⟩
theorem Tl.set3 (h:Tl w l A c g2 g4 g5 g6 kd nu tx nm up vz zs c3 c4 v3 ms v4 xs W) (x:Value):Tl w l A c g2 g4 g5 g6 kd nu tx nm up vz zs x c4 v3 ms v4 xs (W.setCell ⟨g6,3,none⟩ x):=by
 refine ⟨below_set h.bel h.lo.1,h.lo,blk_far h.k2 h.lo.2.1 x,blk_far h.k4 (show g4≠g6 from Nat.ne_of_lt h.lo.2.2.2.1) x,blk_far h.k5 h.lo.2.2.1 x,?_,Kd.R_far h.rz (fun k (hk:g6 < k)=>Nat.ne_of_gt hk) x,Kd.R_far h.r3 (fun k (hk:g6 < k)=>Nat.ne_of_gt hk) x,Kd.R_far h.r4 (fun k hk=>Nat.ne_of_gt hk.1) x⟩
 have:=blk_set h.ob 3 x
 simpa using this
theorem Tl.set4 (h:Tl w l A c g2 g4 g5 g6 kd nu tx nm up vz zs c3 c4 v3 ms v4 xs W) (x:Value):Tl w l A c g2 g4 g5 g6 kd nu tx nm up vz zs c3 x v3 ms v4 xs (W.setCell ⟨g6,4,none⟩ x):=by
 refine ⟨below_set h.bel h.lo.1,h.lo,blk_far h.k2 h.lo.2.1 x,blk_far h.k4 (show g4≠g6 from Nat.ne_of_lt h.lo.2.2.2.1) x,blk_far h.k5 h.lo.2.2.1 x,?_,Kd.R_far h.rz (fun k (hk:g6 < k)=>Nat.ne_of_gt hk) x,Kd.R_far h.r3 (fun k (hk:g6 < k)=>Nat.ne_of_gt hk) x,Kd.R_far h.r4 (fun k hk=>Nat.ne_of_gt hk.1) x⟩
 have:=blk_set h.ob 4 x
 simpa using this
end
def TrCall (t:Tr):Prop:=∀ (l:List S107) (A:Option Addr) (c k:Nat) (nm:ByteArray) (up:Int) (w:World),Pl l k t nm up→Kd.C k107 w A l.length l→l.length≤c →
 Calls Tryz.prog 65 #[.agg #[.slice A l.length c],.int .i64 (k:Int)] w fun e w'=>∃ v3 v4,e=.returned (.agg #[.int .i64 t.kd,.int .i64 t.nu,.string t.tx,v3,v4])∧Kd.R Kd.string 9 w' w.heap.size (fun _=>True) v3 t.ns∧Kd.R k89 89 w' w.heap.size (fun k_=>some k_≠v3.ownBlock) v4 (toSL t.ks)∧Below w.heap.size w w'
theorem TrCall.go {t:Tr} (h:TrCall t) (l:List S107) (A:Option Addr) (c k:Nat) (nm:ByteArray) (up:Int) (w:World) (h1:Pl l k t nm up) (h2:Kd.C k107 w A l.length l) (h3:l.length≤c) :
 Calls Tryz.prog 65 #[.agg #[.slice A l.length c],.int .i64 (k:Int)] w fun e w'=>∃ v3 v4,e=.returned (.agg #[.int .i64 t.kd,.int .i64 t.nu,.string t.tx,v3,v4])∧Kd.R Kd.string 9 w' w.heap.size (fun _=>True) v3 t.ns∧Kd.R k89 89 w' w.heap.size (fun k_=>some k_≠v3.ownBlock) v4 (toSL t.ks)∧Below w.heap.size w w':=h l A c k nm up w h1 h2 h3
theorem nodeT_at {w:World} {A:Option Addr} {l:List S107} {k:Nat} {kd nu:Int} {tx nm:ByteArray} {up:Int} (h:Kd.C k107 w A l.length l) (hk:k < l.length) (hx:rd_T107 l (k:Int)=⟨kd,nu,tx,nm,up⟩):∃ ad,A=some ad∧w.cell? (ad.add (k * 5))=some (.int .i64 kd)∧w.cell? ⟨(ad.add (k * 5)).block,(ad.add (k * 5)).off+1,none⟩=some (.int .i64 nu)∧w.cell? ⟨(ad.add (k * 5)).block,(ad.add (k * 5)).off+2,none⟩=some (.string tx)∧w.cell? ⟨(ad.add (k * 5)).block,(ad.add (k * 5)).off+3,none⟩=some (.string nm)∧w.cell? ⟨(ad.add (k * 5)).block,(ad.add (k * 5)).off+4,none⟩=some (.int .i64 up):=by
 have q:=at_T107 h (k:Int) (by omega) (by omega)
 rw [hx] at q
 obtain ⟨ad,e,h0,h1,h2,h3,h4⟩:=q
 exact ⟨ad,e,h0,h1,h2,h3,h4⟩
theorem starts_at:∀ (ks:List Tr) (k i:Nat) (h:i < ks.length),(starts ks k)[i]? = some (k+cntL (ks.take i))
 | t :: ts,k,0,_=>by simp [starts,cntL]
 | t :: ts,k,i+1,h=>by
  rw [starts,List.getElem?_cons_succ,starts_at ts (k+cnt t) i (by simpa using h),List.take_succ_cons,cntL]
  congr 1
  omega
set_option maxRecDepth 100000 in
set_option maxHeartbeats 8000000 in
theorem l1Tree_c (t:Tr):TrCall t:=by
 refine Tr.ind (P:=TrCall) ?_ t
 intro kd nu tx ns ks ih l A c k nm up w hp hr hc
 simp only [Tr.kd,Tr.nu,Tr.tx,Tr.ns,Tr.ks]
 have hlt:=hp.lt
 have hcp:=cnt_pos (.mk kd nu tx ns ks)
 have hlen:=hp.len
 have hwf:=hp.wf_
 have hks:ks.length≤80∧cnt (.mk kd nu tx ns ks)≤80:=by have:=cnt_ge_len ks;simp only [cnt] at hlt ⊢;omega
 have hns:(kd=7→ns.length=ks.length)∧(kd≠7→ns=[]):=by
  rw [wf] at hwf
  simp only [Bool.and_eq_true] at hwf
  refine ⟨fun h7=>?_,fun h7=>?_⟩
  ·have:=hwf.1.1.2
   rw [if_pos (by simpa using h7)] at this
   simp at this
   exact this.1.1
  ·have:=hwf.1.1.2
   rw [if_neg (by simpa using h7)] at this
   simpa using this
 obtain ⟨ad,rfl,n0,n1,n2,n3,n4⟩:=nodeT_at hr (by omega) hp.node
 simp only [Tr.kd,Tr.nu,Tr.tx] at n0 n1 n2
 have HP:=Aside0.mk hp
 have HR:=Aside0.mk hr
 have HC:=Aside0.mk hc
 have HNS:=Aside0.mk hns
 have HKS:=Aside0.mk hks
 have IH:=Aside0.mk ih
 obtain ⟨zs,hzs⟩:∃ zs,zs=(starts ks (k+1)).map fun (j:Nat)=>(j:Int):=⟨_,rfl⟩
 have KF:=Aside0.mk (show spec_l1Kids.f 100 l k=some zs by rw [hzs];exact hp.kids 100 (Nat.le_refl _))
 have hzl:zs.length=ks.length:=by rw [hzs,List.length_map,starts_len]
 have ZA:=Aside0.mk (show ∀ i,i < ks.length→zs[i]? = some (((k+1+cntL (ks.take i):Nat)):Int) from fun i hi=>by rw [hzs,List.getElem?_map,starts_at ks (k+1) i hi];rfl)
 have ZL:=Aside0.mk hzl
 clear hzs hzl
 have hk1:(k:Int) < (l.length:Int):=by omega
 have hk2:(l.length:Int)≤80:=by omega
 obtain ⟨W1,hW1⟩:∃ W1,W1=w.alloc (.cells #[.slice (some ad) l.length c] 31):=⟨_,rfl⟩
 obtain ⟨W2,hW2⟩:∃ W2,W2=W1.alloc (.cells #[.int .i64 0,.int .i64 0,.string ⟨#[]⟩,.slice none 0 0,.slice none 0 0] 89):=⟨_,rfl⟩
 obtain ⟨g2,hg2⟩:∃ g,g=w.heap.size:=⟨_,rfl⟩
 obtain ⟨g4,hg4⟩:∃ g,g=w.heap.size+1:=⟨_,rfl⟩
 have hs1:W1.heap.size=w.heap.size+1:=by rw [hW1];simp
 have b1:Below w.heap.size w W1:=by rw [hW1];exact below_alloc (Below.refl _ _) _
 have b2:Below W1.heap.size W1 W2:=by rw [hW2];exact below_alloc (Below.refl _ _) _
 have B2:=Aside0.mk (below_step b1 b2)
 have K2:=Aside0.mk (blk_below (show W1.heap[g2]? = some (.cells #[.slice (some ad) l.length c] 31 (0,0)) by rw [hW1,hg2];exact blk_new w _) b2)
 have K4:=Aside0.mk (show W2.heap[g4]? = some (.cells #[.int .i64 0,.int .i64 0,.string ⟨#[]⟩,.slice none 0 0,.slice none 0 0] 89 (0,0)) by rw [hW2,hg4,←hs1];exact blk_new W1 _)
 have LO:=Aside0.mk (show w.heap.size≤g2∧w.heap.size≤g4∧g2 < W2.heap.size∧g4 < W2.heap.size∧g2≠g4 from ⟨by omega,by omega,blk_lt K2.out,blk_lt K4.out,by omega⟩)
 have t20:W2.cell? ⟨g2,0,none⟩=some (.slice (some ad) l.length c):=(blk_cell K2.out 0).trans rfl
 have mv:∀ {a v},w.cell? a=some v→W2.cell? a=some v:=fun {a v} e=>(B2.out.cell (World.block_lt_of_cell? w _ e)).trans e
 have m0:=mv n0
 have m1:=mv n1
 have m2:=mv n2
 have m3:=mv n3
 have m4:=mv n4
 clear mv n0 n1 n2 n3 n4 hp hr hc hns hks ih b1 b2 hlt hcp hlen hwf
 go_enter Tryz.func65,Tryz.ntmps65
 go_upto_region 1 with fail
 rw [←hW1,←hW2,←hg4,←hg2]
 clear hW1 hW2 hg2 hg4 hs1
 go_upto_region 2 with (first | ((with_reducible refine gate_dst (N:=5) rfl ?_);refine box_event ?hg (N:=5) ?hd (cs:=#[.int .i64 0,.int .i64 0,.string ⟨#[]⟩,.string ⟨#[]⟩,.int .i64 0]) (t:=107) ?hr ?_;(case hd=>rfl);(case hg=>rfl);(case hr=>first | (go_simp;done) | (go_simp;rfl));intro gxa hg wxa hbox hb;have GXa:=Aside0.mk hg;have KXa:=Aside0.mk hbox;have BXa:=Aside0.mk hb;have z0:wxa.cell? ⟨gxa,0,none⟩=some (.int .i64 0):=(blk_cell hbox 0).trans rfl;have z1:wxa.cell? ⟨gxa,1,none⟩=some (.int .i64 0):=(blk_cell hbox 1).trans rfl;have z2:wxa.cell? ⟨gxa,2,none⟩=some (.string ⟨#[]⟩):=(blk_cell hbox 2).trans rfl;have z3:wxa.cell? ⟨gxa,3,none⟩=some (.string ⟨#[]⟩):=(blk_cell hbox 3).trans rfl;have z4:wxa.cell? ⟨gxa,4,none⟩=some (.int .i64 0):=(blk_cell hbox 4).trans rfl;have f0:=blk_frozen hbox 0;have f1:=blk_frozen hbox 1;have f2:=blk_frozen hbox 2;have f3:=blk_frozen hbox 3;have f4:=blk_frozen hbox 4;clear hb hbox hg))
 clear z0 z1 z2 z3 z4 f0 f1 f2 f3 f4 t20 m0 m1 m2 m3 m4
 obtain ⟨g5,hg5⟩:∃ g,g=gxa:=⟨_,rfl⟩
 obtain ⟨w4,hw4⟩:∃ W,W=(((((wxa.setCell ⟨gxa,0,none⟩ (.int .i64 kd)).setCell ⟨gxa,1,none⟩ (.int .i64 nu)).setCell ⟨gxa,2,none⟩ (.string tx)).setCell ⟨gxa,3,none⟩ (.string nm)).setCell ⟨gxa,4,none⟩ (.int .i64 up)):=⟨_,rfl⟩
 rw [←hw4]
 have S4:Below W2.heap.size W2 w4:=by rw [hw4];exact below_put5t BXa.out (Nat.le_of_eq GXa.out.symm)
 have K5:=Aside0.mk (show w4.heap[gxa]? = some (.cells #[.int .i64 kd,.int .i64 nu,.string tx,.string nm,.int .i64 up] 107 (0,0)) by rw [hw4];exact put5t KXa.out)
 have K24:=Aside0.mk (blk_below K2.out S4)
 have K44:=Aside0.mk (blk_below K4.out S4)
 have B4:=Aside0.mk (below_step B2.out S4)
 have L5:=Aside0.mk (show g4 < gxa by have:=LO.out;have:=GXa.out;omega)
 rw [←hg5] at K5 L5 ⊢
 clear hw4 hg5 S4
 have n0:w4.cell? ⟨g5,0,none⟩=some (.int .i64 kd):=(blk_cell K5.out 0).trans rfl
 have n1:w4.cell? ⟨g5,1,none⟩=some (.int .i64 nu):=(blk_cell K5.out 1).trans rfl
 have n2:w4.cell? ⟨g5,2,none⟩=some (.string tx):=(blk_cell K5.out 2).trans rfl
 go_upto_region 3 with (first | ((with_reducible refine gate_dst (N:=6) rfl ?_);refine box_event ?hg (N:=6) ?hd (cs:=#[.int .i64 0,.int .i64 0,.string ⟨#[]⟩,.slice none 0 0,.slice none 0 0]) (t:=89) ?hr ?_;(case hd=>rfl);(case hg=>rfl);(case hr=>first | (go_simp;done) | (go_simp;rfl));intro gxb hg wxb hbox hb;have GXb:=Aside0.mk hg;have KXb:=Aside0.mk hbox;have BXb:=Aside0.mk hb;have z0:wxb.cell? ⟨gxb,0,none⟩=some (.int .i64 0):=(blk_cell hbox 0).trans rfl;have z1:wxb.cell? ⟨gxb,1,none⟩=some (.int .i64 0):=(blk_cell hbox 1).trans rfl;have z2:wxb.cell? ⟨gxb,2,none⟩=some (.string ⟨#[]⟩):=(blk_cell hbox 2).trans rfl;have z3:wxb.cell? ⟨gxb,3,none⟩=some (.slice none 0 0):=(blk_cell hbox 3).trans rfl;have z4:wxb.cell? ⟨gxb,4,none⟩=some (.slice none 0 0):=(blk_cell hbox 4).trans rfl;have f0:=blk_frozen hbox 0;have f1:=blk_frozen hbox 1;have f2:=blk_frozen hbox 2;have f3:=blk_frozen hbox 3;have f4:=blk_frozen hbox 4;clear hb hbox hg))
 clear z0 z1 z2 z3 z4 f0 f1 f2 f3 f4 n0 n1 n2
 obtain ⟨g6,hg6⟩:∃ g,g=gxb:=⟨_,rfl⟩
 obtain ⟨w5,hw5⟩:∃ W,W=(((((wxb.setCell ⟨gxb,0,none⟩ (.int .i64 kd)).setCell ⟨gxb,1,none⟩ (.int .i64 nu)).setCell ⟨gxb,2,none⟩ (.string tx)).setCell ⟨gxb,3,none⟩ (.slice none 0 0)).setCell ⟨gxb,4,none⟩ (.slice none 0 0)):=⟨_,rfl⟩
 rw [←hw5]
 have S5:Below w4.heap.size w4 w5:=by rw [hw5];exact below_put5t BXb.out (Nat.le_of_eq GXb.out.symm)
 have K6:=Aside0.mk (show w5.heap[gxb]? = some (.cells #[.int .i64 kd,.int .i64 nu,.string tx,.slice none 0 0,.slice none 0 0] 89 (0,0)) by rw [hw5];exact put5t KXb.out)
 have K25:=Aside0.mk (blk_below K24.out S5)
 have K45:=Aside0.mk (blk_below K44.out S5)
 have K55:=Aside0.mk (blk_below K5.out S5)
 have B5:=Aside0.mk (below_step B4.out S5)
 have L6:=Aside0.mk (show g4 < gxb∧g2≠gxb∧g5≠gxb∧w.heap.size≤gxb∧g4 < w5.heap.size by have q1:=LO.out;have q2:=GXb.out;have q3:=blk_lt K5.out;have q4:=blk_lt K24.out;have q5:=L5.out;have q6:=blk_lt K6.out;have q7:=blk_lt K45.out;omega)
 rw [←hg6] at K6 L6 ⊢
 clear hw5 hg6 S5
 have t20:w5.cell? ⟨g2,0,none⟩=some (.slice (some ad) l.length c):=(blk_cell K25.out 0).trans rfl
 have CK:=Aside0.mk (spec_l1Kids.calls 100 (some ad) c l (k:Int) _ w5 (Kd.C_below HR.out B5.out) HC.out KF.out)
 go_upto_block 0 with (first | (go_at_call 110;(with_reducible refine CK.out.mono ?_);rintro e w6 ⟨vz,rfl,hz,hb⟩;obtain ⟨Az,cz,rfl⟩:=Kd.R_slice hz;have S0:=Aside0.mk (show Tl w l (some ad) c g2 g4 g5 g6 kd nu tx nm up (.slice Az zs.length cz) zs (.slice none 0 0) (.slice none 0 0) (.slice none 0 0) [] (.slice none 0 0) [] w6 from ⟨below_step B5.out hb,⟨L6.out.2.2.2.1,L6.out.2.1,L6.out.2.2.1,L6.out.1,LO.out.2.1⟩,blk_below K25.out hb,blk_below K45.out hb,blk_below K55.out hb,blk_below K6.out hb,Kd.R_lower (Kd.R_mono (Kd.R_bound hz) (fun k hk=>by have:=blk_lt K6.out;have:=hk.2.1;omega)) B5.out.size,Kd.R_nil _ _ _ _ _,Kd.R_nil _ _ _ _ _⟩);clear hz hb))
 clear t20
 have hq0:zs.length=ks.length:=ZL.out
 rw [hq0] at S0 ⊢
 clear hq0
 go_wp2
 go_loopg [25] ks.length (fun m v25 W=>∃ (i:Nat) (u3 u4:Value),v25=.int .i64 (i:Int)∧Aside0 (i+m=ks.length)∧Aside0 (Tl w l (some ad) c g2 g4 g5 g6 kd nu tx nm up (.slice Az ks.length cz) zs u3 u4 u3 (if kd=7 then ns.take i else []) u4 (toSL (ks.take i)) W))
 case atStart=>exact ⟨0,_,_,rfl,⟨by omega⟩,by rw [List.take_zero,List.take_zero,ite_self];exact S0⟩
 case round =>
  obtain ⟨i,u3,u4,rfl,HI,HS⟩:=hrel
  cases gk with
  | zero =>
   have hin:decide (i < ks.length)=false:=decide_eq_false (by have:=HI.out;omega)
   have S9:=HS.out
   rw [show ks.take i=ks from List.take_of_length_le (by have:=HI.out;omega),show (if kd=7 then ns.take i else [])=ns by
    by_cases h7:kd=7
    ·rw [if_pos h7];exact List.take_of_length_le (by have:=HI.out;have:=HNS.out.1 h7;omega)
    ·rw [if_neg h7,HNS.out.2 h7]] at S9
   have S9:=Aside0.mk S9
   have q0:wr.cell? ⟨g6,0,none⟩=some (.int .i64 kd):=(blk_cell S9.out.ob 0).trans rfl
   have q1:wr.cell? ⟨g6,1,none⟩=some (.int .i64 nu):=(blk_cell S9.out.ob 1).trans rfl
   have q2:wr.cell? ⟨g6,2,none⟩=some (.string tx):=(blk_cell S9.out.ob 2).trans rfl
   have q3:wr.cell? ⟨g6,3,none⟩=some u3:=(blk_cell S9.out.ob 3).trans rfl
   have q4:wr.cell? ⟨g6,4,none⟩=some u4:=(blk_cell S9.out.ob 4).trans rfl
   have z0:wr.cell? ⟨g4,0,none⟩=some (.int .i64 0):=(blk_cell S9.out.k4 0).trans rfl
   have z1:wr.cell? ⟨g4,1,none⟩=some (.int .i64 0):=(blk_cell S9.out.k4 1).trans rfl
   have z2:wr.cell? ⟨g4,2,none⟩=some (.string ⟨#[]⟩):=(blk_cell S9.out.k4 2).trans rfl
   have z3:wr.cell? ⟨g4,3,none⟩=some (.slice none 0 0):=(blk_cell S9.out.k4 3).trans rfl
   have z4:wr.cell? ⟨g4,4,none⟩=some (.slice none 0 0):=(blk_cell S9.out.k4 4).trans rfl
   have f0:=blk_frozen S9.out.k4 0
   have f1:=blk_frozen S9.out.k4 1
   have f2:=blk_frozen S9.out.k4 2
   have f3:=blk_frozen S9.out.k4 3
   have f4:=blk_frozen S9.out.k4 4
   clear HS
   obtain ⟨A3,c3,rfl⟩:=Kd.R_slice S9.out.r3
   obtain ⟨A4,c4,rfl⟩:=Kd.R_slice S9.out.r4
   go_wp2
   refine bodyPost_ret (results_cell_row rfl _ _ g4 89 _ (0,0) _ rfl (put5t S9.out.k4) Tryz.underlying89 rfl (by kernel_rfl)) rfl ?_
   have lo:=S9.out.lo
   have hB:=below_put5t (a:=.int .i64 kd) (b:=.int .i64 nu) (c:=.string tx) (d:=.slice A3 ns.length c3) (e:=.slice A4 (toSL ks).length c4) S9.out.bel lo.2.2.2.2
   have n3:∀ k,g6 < k→k≠g4:=fun k hk=>by omega
   exact ⟨_,_,rfl,Kd.R_mono (R_put5t S9.out.r3 n3) (fun _ _=>trivial),Kd.R_mono (R_put5t S9.out.r4 (fun k hk=>n3 k hk.1)) (fun k hk=>hk.2),hB⟩
  | succ m =>
   have hi:i < ks.length:=by have:=HI.out;omega
   have hin:decide (i < ks.length)=true:=decide_eq_true hi
   have hi2:(i:Int) < (ks.length:Int):=by omega
   have b1:(i:Int)≤80:=by have:=HKS.out.1;omega
   obtain ⟨az,rfl,kz⟩:∃ az,Az=some az∧wr.cell? (az.add i)=some (.int .i64 ((k+1+cntL (ks.take i):Nat):Int)):=by
    obtain ⟨az,cc,e,_,hK,hcc⟩:=Kd.C_get (Kd.R_reads' HS.out.rz).2.2 0 (i:Int) (by omega) (by have:=ZL.out;omega)
    have h0:=hcc 0 _ (by rw [show cc=[.int .i64 (zs.getD (i:Int).toNat 0)] from hK];rfl)
    have e1:(i:Int).toNat * (Kd.int .i64).sz+0=i:=by show (i:Int).toNat * 1+0=i;omega
    rw [e1,List.getD_eq_getElem?_getD,Int.toNat_natCast,ZA.out i hi] at h0
    exact ⟨az,e,h0⟩
   obtain ⟨t,ht⟩:∃ t,t=ks[i]:=⟨_,rfl⟩
   obtain ⟨j,hj⟩:∃ j,j=k+1+cntL (ks.take i):=⟨_,rfl⟩
   obtain ⟨ny,hny⟩:∃ ny,ny=(if kd=7 then (ns.drop i).headD nil_ else nil_):=⟨_,rfl⟩
   have hsplit:ks=ks.take i++ks[i] :: ks.drop (i+1):=by rw [←List.drop_eq_getElem_cons hi,List.take_append_drop]
   have PA:=Aside0.mk (show Pl l j t ny (k:Int) by
    have h1:=HP.out
    rw [hsplit] at h1
    have h2:=h1.part
    rw [List.length_take,Nat.min_eq_left (by omega)] at h2
    rw [ht,hj,hny]
    exact h2)
   have IHT:=Aside0.mk (show TrCall t by rw [ht];exact IH.out _ (List.getElem_mem hi))
   rw [←hj] at kz
   have hjl:j+cnt t≤l.length:=PA.out.lt
   have hjp:=cnt_pos t
   have hj2:(j:Int) < (l.length:Int):=by omega
   obtain ⟨ad',ea,_,_,_,kny,_⟩:=nodeT_at HR.out (by omega) PA.out.node
   obtain rfl:=Option.some.inj ea
   obtain ⟨xs,hxs⟩:∃ xs,xs=toSL (ks.take i):=⟨_,rfl⟩
   obtain ⟨ms,hms⟩:∃ ms,ms=(if kd=7 then ns.take i else ([]:List ByteArray)):=⟨_,rfl⟩
   have S0:=HS.out
   rw [←hxs,←hms] at S0
   have LX:=Aside0.mk (show xs.length≤80∧ms.length≤80 by
    have:=HKS.out.1
    refine ⟨by rw [hxs,toSL_len,List.length_take];omega,?_⟩
    rw [hms]
    by_cases h7:kd=7
    ·rw [if_pos h7,List.length_take];omega
    ·rw [if_neg h7];simp)
   have EX:=Aside0.mk (show toSL (ks.take (i+1))=xs++[toS t] by rw [hxs,ht,toSL_map,toSL_map,List.take_succ_eq_append_getElem hi,List.map_append];rfl)
   have E7:=Aside0.mk (show kd=7→ns.take (i+1)=ms++[ny] from fun h7=>by
    have h1:=HNS.out.1 h7
    rw [hms,hny,if_pos h7,if_pos h7,List.take_succ_eq_append_getElem (by omega:i < ns.length),List.drop_eq_getElem_cons (by omega:i < ns.length)];rfl)
   have EN:=Aside0.mk (show kd≠7→([]:List ByteArray)=ms from fun h7=>by rw [hms,if_neg h7])
   have S1d:=Aside0.mk (S0.move (below_drew1 (Below.refl _ _)))
   clear HS S0 hxs hms ht hny hsplit ea hjl hjp hj
   go_upto_region 6 with fail
   clear kz
   refine start_ (n:=9) (S:=fun w'=>w'.cell? ⟨g6,4,none⟩=some u4∧w'.cell? ⟨g2,0,none⟩=some (.slice (some ad) l.length c)) (ds:=[8]) #[false,false,false,false,false,false,false,false,false] (by kernel_rfl) rfl rfl ⟨(blk_cell S1d.out.ob 4).trans rfl,(blk_cell S1d.out.k2 0).trans rfl⟩ (fun hHeld=>?_)
   generalize wr.drew=w1 at S1d hHeld ⊢
   have S1:=S1d
   refine pure_ (i:=0) (N:=(some 29)) (v:=?_) (a':=?_) #[true,false,false,false,false,false,false,false,false] rfl rfl (by kernel_rfl) (fun _ _ _ h=>h) (Or.inl ⟨by rfl,?_⟩) ?_ ?_
   rotate_left
   ·intro w'
    go_simp
    with_reducible rfl
   rotate_left
   ·simp only [Act.put,List.setIfInBounds_toArray,List.set_cons_zero,List.set_cons_succ,i64_w,i32_w]
    rfl
   refine pure_ (i:=3) (N:=(some 32)) (v:=?_) (a':=?_) #[true,false,false,true,false,false,false,false,false] rfl rfl (by kernel_rfl) (fun _ _ _ h=>h) (Or.inl ⟨by rfl,?_⟩) ?_ ?_
   rotate_left
   ·intro w'
    go_simp
    with_reducible rfl
   rotate_left
   ·simp only [Act.put,List.setIfInBounds_toArray,List.set_cons_zero,List.set_cons_succ,i64_w,i32_w]
    rfl
   refine take_ (i:=1) (N:=(some 30)) (v:=?_) (a':=?_) #[true,true,false,true,false,false,false,false,false] rfl rfl (by kernel_rfl) (fun _ _ _ h=>h) (Or.inl ⟨by rfl,?_⟩) hHeld ?_ ?_
   rotate_left
   ·rintro w' ⟨s0,s1⟩
    go_simp
    with_reducible rfl
   rotate_left
   ·simp only [Act.put,List.setIfInBounds_toArray,List.set_cons_zero,List.set_cons_succ,i64_w,i32_w]
    rfl
   refine take_ (i:=2) (N:=(some 31)) (v:=?_) (a':=?_) #[true,true,true,true,false,false,false,false,false] rfl rfl (by kernel_rfl) (fun _ _ _ h=>h) (Or.inl ⟨by rfl,?_⟩) hHeld ?_ ?_
   rotate_left
   ·rintro w' ⟨s0,s1⟩
    go_simp
    with_reducible rfl
   rotate_left
   ·simp only [Act.put,List.setIfInBounds_toArray,List.set_cons_zero,List.set_cons_succ,i64_w,i32_w]
    rfl
   refine one_ (i:=4) (N:=(some 33)) #[true,true,true,true,true,false,false,false,false] rfl rfl (by kernel_rfl) (by decide) (fun K hK=>?_)
   refine goes_ Tryz.func65 (by kernel_rfl) rfl #[.agg #[.slice (some ad) l.length c],.int .i64 (j:Int)] (by rfl) rfl rfl (by (try simp only [List.map_toArray,List.map_cons,List.map_nil]);first | done | rfl) ?_
   with_reducible refine (IHT.out.go l (some ad) c j ny (k:Int) w1 PA.out (Kd.C_below HR.out S1.out.bel) HC.out).mono ?_
   rintro e w2 ⟨x3,x4,rfl,hx3,hx4,hb⟩
   refine ⟨_,rfl,?_⟩
   have S2:=Aside0.mk (S1.out.move hb)
   have MX:=Aside0.mk (Tl.part S1.out hb hx3 hx4)
   clear hb hx3 hx4
   refine hK.out _ _ ⟨(blk_cell S2.out.ob 4).trans rfl,(blk_cell S2.out.k2 0).trans rfl⟩ (fun hHeld=>?_)
   clear hK K
   refine norm_ (a':=?_) ?_ ?_
   rotate_left
   ·show Act.put _ (some 33) _=_
    simp only [Act.put,List.setIfInBounds_toArray,List.set_cons_zero,List.set_cons_succ,i64_w,i32_w]
    rfl
   refine one_ (i:=5) (N:=(some 34)) #[true,true,true,true,true,true,false,false,false] rfl rfl (by kernel_rfl) (by decide) (fun K hK=>?_)
   refine value_ (w1:=?_) (v:=?_) (by rfl) rfl ?_ ?_
   rotate_left 2
   ·go_simp
    constructor
    ·rfl
    ·rfl
   have SB:=Aside0.mk (S2.out.move (below_alloc (Below.refl _ _) (.cells #[.int .i64 t.kd,.int .i64 t.nu,.string t.tx,x3,x4] 89 (0,0))))
   refine hK.out _ _ ⟨(blk_cell SB.out.ob 4).trans rfl,(blk_cell SB.out.k2 0).trans rfl⟩ (fun hHeld=>?_)
   clear hK K
   refine norm_ (a':=?_) ?_ ?_
   rotate_left
   ·show Act.put _ (some 34) _=_
    simp only [Act.put,List.setIfInBounds_toArray,List.set_cons_zero,List.set_cons_succ,i64_w,i32_w]
    rfl
   refine one_ (i:=6) (N:=(some 35)) #[true,true,true,true,true,true,true,false,false] rfl rfl (by kernel_rfl) (by decide) (fun K hK=>?_)
   refine Kd.R_append_step k89 (w0:=w) w.heap.size (by rfl) (.tmp 30) (.tmp 34) 87 89 (.agg #[(.int .i64 0),(.int .i64 0),(.string ⟨#[]⟩),(.slice none 0 0),(.slice none 0 0)]) 80 rfl Tryz.underlying87 info89 rfl (by decide) (by omega) u4 xs (toS t) [.int .i64 t.kd,.int .i64 t.nu,.string t.tx,x3,x4] (fun k=>g6 < k∧some k≠u3.ownBlock) (fun k=>g6 < k∧some k≠u3.ownBlock∧some k≠u4.ownBlock) rfl rfl ?aP (fun _ hk=>⟨⟨hk.1,hk.2.1⟩,hk.2.2⟩) ?aF ?aO ?aB ?aS ?aL ?_
   (case aP=>exact MX.out)
   (case aF=>exact S2.out.fresh)
   (case aO=>exact S2.out.r4)
   (case aB=>exact S2.out.bel)
   (case aS=>exact S2.out.bel.size)
   (case aL=>have:=LX.out;omega)
   intro v4q w3 ho hb hg hat
   obtain ⟨A4q,c4q,e4⟩:=Kd.R_slice ho
   obtain ⟨n4,hn4⟩:∃ n,n=(xs++[toS t]).length:=⟨_,rfl⟩
   rw [←hn4] at e4
   subst e4
   clear hn4
   have S3:=Aside0.mk (S2.out.kid ho hb hg)
   clear ho hb hg hat
   refine hK.out _ _ ⟨(blk_cell S3.out.ob 4).trans rfl,(blk_cell S3.out.k2 0).trans rfl⟩ (fun hHeld=>?_)
   clear hK K
   refine norm_ (a':=?_) ?_ ?_
   rotate_left
   ·show Act.put _ (some 35) _=_
    simp only [Act.put,List.setIfInBounds_toArray,List.set_cons_zero,List.set_cons_succ,i64_w,i32_w]
    rfl
   refine pure_ (i:=7) (N:=(some 36)) (v:=?_) (a':=?_) #[true,true,true,true,true,true,true,true,false] rfl rfl (by kernel_rfl) (fun _ _ _ h=>h) (Or.inl ⟨by rfl,?_⟩) ?_ ?_
   rotate_left
   ·intro w'
    go_simp
    with_reducible rfl
   rotate_left
   ·simp only [Act.put,List.setIfInBounds_toArray,List.set_cons_zero,List.set_cons_succ,i64_w,i32_w]
    rfl
   refine last_ (i:=8) (N:=none) #[true,true,true,true,true,true,true,true,true] rfl rfl (by kernel_rfl) (by decide) (fun K hK=>?_)
   have hs:=(blk_cell S3.out.ob 4).trans rfl
   have hfs:=blk_frozen S3.out.ob 4
   refine skip_ (w1:=?_) (by rfl) rfl ?_ ?_
   rotate_left
   ·go_simp
    rfl
   refine hK.out _ _ ?_
   clear hK K hs hfs hHeld
   have S4':=S3.out.set4 (.slice A4q n4 c4q)
   obtain ⟨w4,hw4⟩:∃ W,W=w3.setCell ⟨g6,4,none⟩ (.slice A4q n4 c4q):=⟨_,rfl⟩
   rw [←hw4] at S4' ⊢
   have S4:=Aside0.mk S4'
   clear S4' hw4
   refine done_ (by kernel_rfl) ?_
   have n0:w4.cell? ⟨g5,0,none⟩=some (.int .i64 kd):=(blk_cell S4.out.k5 0).trans rfl
   have F0:=Aside0.mk (Kd.R_slice S4.out.r3)
   by_cases h7:kd=7
   ·have h7b:(kd==7)=true:=by simpa using h7
    have H7:=Aside0.mk h7
    have S5d:=Aside0.mk (S4.out.move (below_drew1 (Below.refl _ _)))
    clear h7
    go_upto_region 8 with fail
    clear n0
    refine start_ (n:=12) (S:=fun w'=>w'.cell? ⟨g6,3,none⟩=some u3∧w'.cell? ⟨g2,0,none⟩=some (.slice (some ad) l.length c)∧w'.cell? ⟨(ad.add (j * 5)).block,(ad.add (j * 5)).off+3,none⟩=some (.string ny)) (ds:=[11]) #[false,false,false,false,false,false,false,false,false,false,false,false] (by kernel_rfl) rfl rfl ⟨(blk_cell S5d.out.ob 3).trans rfl,(blk_cell S5d.out.k2 0).trans rfl,(S5d.out.bel.cell (World.block_lt_of_cell? w _ kny)).trans kny⟩ (fun hHeld=>?_)
    generalize w4.drew=w5 at S5d hHeld ⊢
    have S5:=S5d
    refine pure_ (i:=0) (N:=(some 40)) (v:=?_) (a':=?_) #[true,false,false,false,false,false,false,false,false,false,false,false] rfl rfl (by kernel_rfl) (fun _ _ _ h=>h) (Or.inl ⟨by rfl,?_⟩) ?_ ?_
    rotate_left
    ·intro w'
     go_simp
     with_reducible rfl
    rotate_left
    ·simp only [Act.put,List.setIfInBounds_toArray,List.set_cons_zero,List.set_cons_succ,i64_w,i32_w]
     rfl
    refine pure_ (i:=2) (N:=(some 42)) (v:=?_) (a':=?_) #[true,false,true,false,false,false,false,false,false,false,false,false] rfl rfl (by kernel_rfl) (fun _ _ _ h=>h) (Or.inl ⟨by rfl,?_⟩) ?_ ?_
    rotate_left
    ·intro w'
     go_simp
     with_reducible rfl
    rotate_left
    ·simp only [Act.put,List.setIfInBounds_toArray,List.set_cons_zero,List.set_cons_succ,i64_w,i32_w]
     rfl
    refine pure_ (i:=4) (N:=(some 44)) (v:=?_) (a':=?_) #[true,false,true,false,true,false,false,false,false,false,false,false] rfl rfl (by kernel_rfl) (fun _ _ _ h=>h) (Or.inl ⟨by rfl,?_⟩) ?_ ?_
    rotate_left
    ·intro w'
     go_simp
     with_reducible rfl
    rotate_left
    ·simp only [Act.put,List.setIfInBounds_toArray,List.set_cons_zero,List.set_cons_succ,i64_w,i32_w]
     rfl
    refine take_ (i:=1) (N:=(some 41)) (v:=?_) (a':=?_) #[true,true,true,false,true,false,false,false,false,false,false,false] rfl rfl (by kernel_rfl) (fun _ _ _ h=>h) (Or.inl ⟨by rfl,?_⟩) hHeld ?_ ?_
    rotate_left
    ·rintro w' ⟨s0,s1,s2⟩
     go_simp
     with_reducible rfl
    rotate_left
    ·simp only [Act.put,List.setIfInBounds_toArray,List.set_cons_zero,List.set_cons_succ,i64_w,i32_w]
     rfl
    refine take_ (i:=3) (N:=(some 43)) (v:=?_) (a':=?_) #[true,true,true,true,true,false,false,false,false,false,false,false] rfl rfl (by kernel_rfl) (fun _ _ _ h=>h) (Or.inl ⟨by rfl,?_⟩) hHeld ?_ ?_
    rotate_left
    ·rintro w' ⟨s0,s1,s2⟩
     go_simp
     with_reducible rfl
    rotate_left
    ·simp only [Act.put,List.setIfInBounds_toArray,List.set_cons_zero,List.set_cons_succ,i64_w,i32_w]
     rfl
    refine pure_ (i:=5) (N:=(some 45)) (v:=?_) (a':=?_) #[true,true,true,true,true,true,false,false,false,false,false,false] rfl rfl (by kernel_rfl) (fun _ _ _ h=>h) (Or.inl ⟨by rfl,?_⟩) ?_ ?_
    rotate_left
    ·intro w'
     go_simp
     with_reducible rfl
    rotate_left
    ·simp only [Act.put,List.setIfInBounds_toArray,List.set_cons_zero,List.set_cons_succ,i64_w,i32_w]
     rfl
    refine pure_ (i:=6) (N:=(some 46)) (v:=?_) (a':=?_) #[true,true,true,true,true,true,true,false,false,false,false,false] rfl rfl (by kernel_rfl) (fun _ _ _ h=>h) (Or.inl ⟨by rfl,?_⟩) ?_ ?_
    rotate_left
    ·intro w'
     go_simp
     with_reducible rfl
    rotate_left
    ·simp only [Act.put,List.setIfInBounds_toArray,List.set_cons_zero,List.set_cons_succ,i64_w,i32_w]
     rfl
    refine take_ (i:=7) (N:=(some 47)) (v:=?_) (a':=?_) #[true,true,true,true,true,true,true,true,false,false,false,false] rfl rfl (by kernel_rfl) (fun _ _ _ h=>h) (Or.inl ⟨by rfl,?_⟩) hHeld ?_ ?_
    rotate_left
    ·rintro w' ⟨s0,s1,s2⟩
     go_simp
     with_reducible rfl
    rotate_left
    ·simp only [Act.put,List.setIfInBounds_toArray,List.set_cons_zero,List.set_cons_succ,i64_w,i32_w]
     rfl
    refine one_ (i:=8) (N:=(some 48)) #[true,true,true,true,true,true,true,true,true,false,false,false] rfl rfl (by kernel_rfl) (by decide) (fun K hK=>?_)
    refine value_ (w1:=?_) (v:=?_) (by rfl) rfl ?_ ?_
    rotate_left 2
    ·go_simp
     constructor
     ·rfl
     ·rfl
    have SC:=Aside0.mk (S5.out.move (below_alloc (Below.refl _ _) (.cells #[.string ny] 9 (0,0))))
    refine hK.out _ _ ⟨(blk_cell SC.out.ob 3).trans rfl,(blk_cell SC.out.k2 0).trans rfl,(SC.out.bel.cell (World.block_lt_of_cell? w _ kny)).trans kny⟩ (fun hHeld=>?_)
    clear hK K
    refine norm_ (a':=?_) ?_ ?_
    rotate_left
    ·show Act.put _ (some 48) _=_
     simp only [Act.put,List.setIfInBounds_toArray,List.set_cons_zero,List.set_cons_succ,i64_w,i32_w]
     rfl
    refine one_ (i:=9) (N:=(some 49)) #[true,true,true,true,true,true,true,true,true,true,false,false] rfl rfl (by kernel_rfl) (by decide) (fun K hK=>?_)
    refine Kd.R_append_step Kd.string (w0:=w) w.heap.size (by rfl) (.tmp 41) (.tmp 48) 26 9 (.string ⟨#[]⟩) 16 rfl Tryz.underlying26 info9 rfl (by decide) (by omega) u3 ms ny [.string ny] (fun k=>g6 < k) (fun _=>False) rfl rfl ?aP (fun _ hk=>hk.elim) ?aF ?aO ?aB ?aS ?aL ?_
    (case aP=>exact rfl)
    (case aF=>exact fun k hk=>(S5.out.fresh k hk).1)
    (case aO=>exact S5.out.r3)
    (case aB=>exact S5.out.bel)
    (case aS=>exact S5.out.bel.size)
    (case aL=>have:=LX.out;omega)
    intro v3q w6 ho hb hg hat
    obtain ⟨A3q,c3q,e3⟩:=Kd.R_slice ho
    obtain ⟨n3,hn3⟩:∃ n,n=(ms++[ny]).length:=⟨_,rfl⟩
    rw [←hn3] at e3
    subst e3
    clear hn3
    have S6:=Aside0.mk (S5.out.name ho hb hg hat)
    clear ho hb hg hat
    refine hK.out _ _ ⟨(blk_cell S6.out.ob 3).trans rfl,(blk_cell S6.out.k2 0).trans rfl,(S6.out.bel.cell (World.block_lt_of_cell? w _ kny)).trans kny⟩ (fun hHeld=>?_)
    clear hK K
    refine norm_ (a':=?_) ?_ ?_
    rotate_left
    ·show Act.put _ (some 49) _=_
     simp only [Act.put,List.setIfInBounds_toArray,List.set_cons_zero,List.set_cons_succ,i64_w,i32_w]
     rfl
    refine pure_ (i:=10) (N:=(some 50)) (v:=?_) (a':=?_) #[true,true,true,true,true,true,true,true,true,true,true,false] rfl rfl (by kernel_rfl) (fun _ _ _ h=>h) (Or.inl ⟨by rfl,?_⟩) ?_ ?_
    rotate_left
    ·intro w'
     go_simp
     with_reducible rfl
    rotate_left
    ·simp only [Act.put,List.setIfInBounds_toArray,List.set_cons_zero,List.set_cons_succ,i64_w,i32_w]
     rfl
    refine last_ (i:=11) (N:=none) #[true,true,true,true,true,true,true,true,true,true,true,true] rfl rfl (by kernel_rfl) (by decide) (fun K hK=>?_)
    have hs:=(blk_cell S6.out.ob 3).trans rfl
    have hfs:=blk_frozen S6.out.ob 3
    refine skip_ (w1:=?_) (by rfl) rfl ?_ ?_
    rotate_left
    ·go_simp
     rfl
    refine hK.out _ _ ?_
    clear hK K hs hfs hHeld
    have S7':=S6.out.set3 (.slice A3q n3 c3q)
    obtain ⟨w7,hw7⟩:∃ W,W=w6.setCell ⟨g6,3,none⟩ (.slice A3q n3 c3q):=⟨_,rfl⟩
    rw [←hw7] at S7' ⊢
    have S7:=Aside0.mk S7'
    clear S7' hw7
    refine done_ (by kernel_rfl) ?_
    go_wp2
    go_roundg m
    case rel=>exact ⟨i+1,_,_,by go_num,⟨by have:=HI.out;omega⟩,⟨by rw [if_pos H7.out,E7.out H7.out,EX.out];exact S7.out⟩⟩
    case measure=>omega
   ·have h7b:(kd==7)=false:=by simpa using h7
    have H7:=Aside0.mk h7
    clear h7
    go_wp2
    go_roundg m
    case rel=>exact ⟨i+1,_,_,by go_num,⟨by have:=HI.out;omega⟩,⟨by rw [if_neg H7.out,EN.out H7.out,EX.out];exact S4.out⟩⟩
    case measure=>omega
theorem l1Tree_0 {t:Tr} {l:List S107} {A:Option Addr} {c:Nat} {w:World} (h1:Pl l 0 t nil_ (-1)) (h2:Kd.C k107 w A l.length l) (h3:l.length≤c) :
  Calls Tryz.prog 65 #[.agg #[.slice A l.length c],.int .i64 0] w fun e w'=>∃ v3 v4,e=.returned (.agg #[.int .i64 t.kd,.int .i64 t.nu,.string t.tx,v3,v4])∧Kd.R Kd.string 9 w' w.heap.size (fun _=>True) v3 t.ns∧Kd.R k89 89 w' w.heap.size (fun k_=>some k_≠v3.ownBlock) v4 (toSL t.ks)∧Below w.heap.size w w':=l1Tree_c t l A c 0 nil_ (-1) w h1 h2 h3
end Go.Proofs.YtoaafohpmhdjnaaGreatDoor.VT
