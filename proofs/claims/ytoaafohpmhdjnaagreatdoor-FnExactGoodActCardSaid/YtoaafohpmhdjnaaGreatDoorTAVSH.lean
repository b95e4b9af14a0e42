import Derived.Test.YtoaafohpmhdjnaaGreatDoorTAYPA
import Derived.WalkLawsBesides
import Derived.RegionTactic
import Derived.ChangeAlike
import Derived.Test.YtoaafohpmhdjnaaGreatDoorTAPVGx0
/- spec.l1Shape, walked. Conditions: at most 2^30 nodes, texts of at most 2^30 bytes. -/
namespace Go.Proofs.YtoaafohpmhdjnaaGreatDoor.VT
open Go.RowKit Go.Proofs.YtoaafohpmhdjnaaGreatDoor.PVG Go.Proofs.YtoaafohpmhdjnaaGreatDoorW.PrintWords Go.Proofs.YtoaafohpmhdjnaaGreatDoorW.PrintLast Go.Proofs.YtoaafohpmhdjnaaGreatDoorW.PrintMore
set_option linter.unusedVariables false
set_option linter.unusedSimpArgs false
theorem R_addr {α:Type} {d:Kd α} {e base b:Nat} {W:World} {ok:Nat→Prop} {v:Value} {xs:List α} (h:d.R e W base ok v xs) (hb:v.ownBlock=some b):∃ c,v=.slice (some ⟨b,0,none⟩) xs.length c:=by
 obtain ⟨_,inner,ho,_⟩:=h
 rcases ho.2 with ⟨rfl,_⟩ | ⟨g,cap,cur,rfl,_⟩
 ·simp [Value.ownBlock] at hb
 ·have:g=b:=by simpa [Value.ownBlock] using hb
  subst this
  exact ⟨cap,rfl⟩
section
variable {α:Type} {enc:α→Value} {h1:∀ x,(enc x).oneCell'=true} {e base g n cap:Nat} {W:World} {ok:Nat→Prop} {xs:List α}
theorem row_at (h:(Kd.scalar enc h1).R e W base ok (.slice (some ⟨g,0,none⟩) n cap) xs) (z:α) (i:Nat) (hi:i < n):W.cell? ⟨g,i,none⟩=some (enc (xs.getD i z))∧W.frozen? ⟨g,i,none⟩=false:=by
 obtain ⟨c,hcl,hM,hcc,hf⟩:=Kd.R_elem h z (i:Int) (by omega) (by omega)
 obtain rfl:c=[enc (xs.getD i z)]:=hM
 have a:=hcc 0 _ rfl
 have b:=hf 0
 simpa [Kd.scalar] using And.intro a b
theorem row_set (h:(Kd.scalar enc h1).R e W base ok (.slice (some ⟨g,0,none⟩) n cap) xs) (z:α) (i:Nat) (hi:i < n) (x:α):(Kd.scalar enc h1).R e (W.setCell ⟨g,i,none⟩ (enc x)) base ok (.slice (some ⟨g,0,none⟩) n cap) (xs.set i x):=by
 obtain ⟨c,hcl,hM,hcc,hf⟩:=Kd.R_elem h z (i:Int) (by omega) (by omega)
 have h2:=(Kd.R_seg h (i:Int) (by omega) (by omega) (seg:=[enc x]) (j:=0) hcl hcc (by simp [Kd.scalar]) (x':=x) (okp:=fun k=>ok k∧k≠g) (by
  obtain rfl:c=[enc (xs.getD i z)]:=hM
  exact rfl) (fun _ hk=>hk)).1
 have e1:(W.setCells g ((i:Int).toNat * (Kd.scalar enc h1).sz+0) [enc x])=W.setCell ⟨g,i,none⟩ (enc x):=by
  have:(i:Int).toNat * (Kd.scalar enc h1).sz+0=i:=by simp [Kd.scalar]
  rw [this]
  rfl
 rw [e1] at h2
 simpa using h2
end
structure Sh (w:World) (A:Option Addr) (c:Nat) (l:List S107) (gb g3 c3 g4 c4 g5 c5:Nat) (d:List Int) (la:List ByteArray) (so:List Bool) (W:World):Prop where
 r3:Kd.R (Kd.int .i64) 3 W w.heap.size (fun _=>True) (.slice (some ⟨g3,0,none⟩) l.length c3) d
 r4:Kd.R Kd.string 9 W w.heap.size (fun _=>True) (.slice (some ⟨g4,0,none⟩) l.length c4) la
 r5:Kd.R Kd.bool 4 W w.heap.size (fun _=>True) (.slice (some ⟨g5,0,none⟩) l.length c5) so
 bk:W.heap[gb]? = some (.cells #[.slice A l.length c] 31 (0,0))
 ge:w.heap.size≤gb
 bel:Below w.heap.size w W
section
variable {w W W':World} {A:Option Addr} {c:Nat} {l:List S107} {gb g3 c3 g4 c4 g5 c5:Nat} {d:List Int} {la:List ByteArray} {so:List Bool}
theorem Sh.below (h:Sh w A c l gb g3 c3 g4 c4 g5 c5 d la so W) (hb:Below W.heap.size W W'):Sh w A c l gb g3 c3 g4 c4 g5 c5 d la so W' :=
 ⟨Kd.R_below h.r3 hb,Kd.R_below h.r4 hb,Kd.R_below h.r5 hb,blk_below h.bk hb,h.ge,below_step h.bel hb⟩
theorem Sh.drew (h:Sh w A c l gb g3 c3 g4 c4 g5 c5 d la so W):Sh w A c l gb g3 c3 g4 c4 g5 c5 d la so W.drew:=h.below (below_drew1 (Below.refl _ _))
theorem Sh.drewN (h:Sh w A c l gb g3 c3 g4 c4 g5 c5 d la so W) (n:Nat):Sh w A c l gb g3 c3 g4 c4 g5 c5 d la so (W.drewN n):=h.below (pw_below_drewN (Below.refl _ _) n)
theorem Sh.alloc (h:Sh w A c l gb g3 c3 g4 c4 g5 c5 d la so W) (o:Obj):Sh w A c l gb g3 c3 g4 c4 g5 c5 d la so (W.alloc o):=h.below (below_alloc (Below.refl _ _) o)
theorem Sh.ty {g t:Nat} {cs:Array Value} (h:Sh w A c l gb g3 c3 g4 c4 g5 c5 d la so W) (hg:W.heap[g]? = some (.cells cs t (0,0))) (h0:w.heap.size≤g) (ht:t≠3∧t≠9∧t≠4) (hne:g≠gb) (j:Nat) (u:Value):Sh w A c l gb g3 c3 g4 c4 g5 c5 d la so (W.setCell ⟨g,j,none⟩ u) :=
 ⟨Kd.R_set h.r3 hg (by intro q hq;simp [Kd.int,Kd.scalar] at hq;omega) j u,Kd.R_set h.r4 hg (by intro q hq;simp [Kd.string,Kd.scalar] at hq;omega) j u,Kd.R_set h.r5 hg (by intro q hq;simp [Kd.bool,Kd.scalar] at hq;omega) j u,blk_far h.bk hne.symm u,h.ge,below_set h.bel h0⟩
theorem Sh.row3 (h:Sh w A c l gb g3 c3 g4 c4 g5 c5 d la so W):w.heap.size≤g3∧∃ cs,W.heap[g3]? = some (.cells cs 3 (0,0)):=by
 obtain ⟨inner,ho⟩:=Kd.R_own h.r3
 exact ⟨own_base ho g3 rfl,own_typed ho g3 rfl⟩
theorem Sh.row4 (h:Sh w A c l gb g3 c3 g4 c4 g5 c5 d la so W):w.heap.size≤g4∧∃ cs,W.heap[g4]? = some (.cells cs 9 (0,0)):=by
 obtain ⟨inner,ho⟩:=Kd.R_own h.r4
 exact ⟨own_base ho g4 rfl,own_typed ho g4 rfl⟩
theorem Sh.row5 (h:Sh w A c l gb g3 c3 g4 c4 g5 c5 d la so W):w.heap.size≤g5∧∃ cs,W.heap[g5]? = some (.cells cs 4 (0,0)):=by
 obtain ⟨inner,ho⟩:=Kd.R_own h.r5
 exact ⟨own_base ho g5 rfl,own_typed ho g5 rfl⟩
theorem Sh.set3 (h:Sh w A c l gb g3 c3 g4 c4 g5 c5 d la so W) (i:Nat) (hi:i < l.length) (x:Int):Sh w A c l gb g3 c3 g4 c4 g5 c5 (d.set i x) la so (W.setCell ⟨g3,i,none⟩ (.int .i64 x)):=by
 obtain ⟨h0,cs,hg⟩:=h.row3
 exact ⟨row_set h.r3 0 i hi x,Kd.R_set h.r4 hg (by decide) i _,Kd.R_set h.r5 hg (by decide) i _,blk_far h.bk (blk_ne h.bk hg (by decide)) _,h.ge,below_set h.bel h0⟩
theorem Sh.set4 (h:Sh w A c l gb g3 c3 g4 c4 g5 c5 d la so W) (i:Nat) (hi:i < l.length) (x:ByteArray):Sh w A c l gb g3 c3 g4 c4 g5 c5 d (la.set i x) so (W.setCell ⟨g4,i,none⟩ (.string x)):=by
 obtain ⟨h0,cs,hg⟩:=h.row4
 exact ⟨Kd.R_set h.r3 hg (by decide) i _,row_set h.r4 nil_ i hi x,Kd.R_set h.r5 hg (by decide) i _,blk_far h.bk (blk_ne h.bk hg (by decide)) _,h.ge,below_set h.bel h0⟩
theorem Sh.set5 (h:Sh w A c l gb g3 c3 g4 c4 g5 c5 d la so W) (i:Nat) (hi:i < l.length) (x:Bool):Sh w A c l gb g3 c3 g4 c4 g5 c5 d la (so.set i x) (W.setCell ⟨g5,i,none⟩ (.bool x)):=by
 obtain ⟨h0,cs,hg⟩:=h.row5
 exact ⟨Kd.R_set h.r3 hg (by decide) i _,Kd.R_set h.r4 hg (by decide) i _,row_set h.r5 false i hi x,blk_far h.bk (blk_ne h.bk hg (by decide)) _,h.ge,below_set h.bel h0⟩
theorem Sh.box (h:Sh w A c l gb g3 c3 g4 c4 g5 c5 d la so W):W.cell? ⟨gb,0,none⟩=some (.slice A l.length c)∧W.frozen? ⟨gb,0,none⟩=false:=⟨(blk_cell h.bk 0).trans rfl,blk_frozen h.bk 0⟩
theorem Sh.k3 {gn:Nat} {cs:Array Value} (h:Sh w A c l gb g3 c3 g4 c4 g5 c5 d la so W) (hK:W.heap[gn]? = some (.cells cs 107 (0,0))) (i:Nat) (u:Value):(W.setCell ⟨g3,i,none⟩ u).heap[gn]? = some (.cells cs 107 (0,0)):=by
 obtain ⟨_,cs',hg⟩:=h.row3
 exact blk_far hK (blk_ne hK hg (by decide)) u
theorem Sh.k4 {gn:Nat} {cs:Array Value} (h:Sh w A c l gb g3 c3 g4 c4 g5 c5 d la so W) (hK:W.heap[gn]? = some (.cells cs 107 (0,0))) (i:Nat) (u:Value):(W.setCell ⟨g4,i,none⟩ u).heap[gn]? = some (.cells cs 107 (0,0)):=by
 obtain ⟨_,cs',hg⟩:=h.row4
 exact blk_far hK (blk_ne hK hg (by decide)) u
theorem Sh.k5 {gn:Nat} {cs:Array Value} (h:Sh w A c l gb g3 c3 g4 c4 g5 c5 d la so W) (hK:W.heap[gn]? = some (.cells cs 107 (0,0))) (i:Nat) (u:Value):(W.setCell ⟨g5,i,none⟩ u).heap[gn]? = some (.cells cs 107 (0,0)):=by
 obtain ⟨_,cs',hg⟩:=h.row5
 exact blk_far hK (blk_ne hK hg (by decide)) u
theorem Sh.nn (h:Sh w A c l gb g3 c3 g4 c4 g5 c5 d la so W):g3≠g4∧g3≠g5∧g4≠g5:=by
 obtain ⟨_,_,h3⟩:=h.row3
 obtain ⟨_,_,h4⟩:=h.row4
 obtain ⟨_,_,h5⟩:=h.row5
 exact ⟨blk_ne h3 h4 (by decide),blk_ne h3 h5 (by decide),blk_ne h4 h5 (by decide)⟩
theorem Sh.node (h:Sh w A c l gb g3 c3 g4 c4 g5 c5 d la so W) (hr:Kd.C k107 w A l.length l) (i:Nat) (hi:i < l.length):∃ ad,A=some ad∧W.cell? (ad.add (i * 5))=some (.int .i64 (nd l i).f0)∧W.cell? ⟨(ad.add (i * 5)).block,(ad.add (i * 5)).off+1,none⟩=some (.int .i64 (nd l i).f1)∧W.cell? ⟨(ad.add (i * 5)).block,(ad.add (i * 5)).off+2,none⟩=some (.string (nd l i).f2)∧W.cell? ⟨(ad.add (i * 5)).block,(ad.add (i * 5)).off+3,none⟩=some (.string (nd l i).f3)∧W.cell? ⟨(ad.add (i * 5)).block,(ad.add (i * 5)).off+4,none⟩=some (.int .i64 (nd l i).f4):=by
 obtain ⟨ad,e,h0,h1,h2,h3,h4⟩:=at_T107 hr (i:Int) (by omega) (by omega)
 have q:∀ {a:Addr} {v:Value},w.cell? a=some v→W.cell? a=some v:=fun {a v} e=>(h.bel.cell (World.block_lt_of_cell? w _ e)).trans e
 exact ⟨ad,e,q h0,q h1,q h2,q h3,q h4⟩
end
theorem info4:(Tryz.prog.info? 4).map (fun i=>(i.zero,i.size,i.bytes))=some (some (.bool false),1,1):=by kernel_rfl
theorem made {α:Type} {d:Kd α} {e base n X:Nat} {W:World} {ok:Nat→Prop} {v:Value} {z:α} (h:d.R e W base ok v (List.replicate ((n:Nat):Int).toNat z)) (hn:∃ b,v.ownBlock=some b∧X≤b):∃ b c,v=.slice (some ⟨b,0,none⟩) n c∧d.R e W base ok (.slice (some ⟨b,0,none⟩) n c) (List.replicate n z):=by
 obtain ⟨b,hb,_⟩:=hn
 obtain ⟨c,rfl⟩:=R_addr h hb
 rw [List.length_replicate,Int.toNat_natCast] at h
 rw [List.length_replicate,Int.toNat_natCast]
 exact ⟨b,c,rfl,h⟩
set_option maxRecDepth 100000 in
set_option maxHeartbeats 8000000 in
theorem shape_c (A:Option Addr) (c:Nat) (l:List S107) (w:World) (hr:Kd.C k107 w A l.length l) (hc:l.length≤c) (hl:l.length≤1073741824) (hs:∀ x,x∈l→x.f2.size≤1073741824∧x.f3.size≤1073741824) :
  Calls Tryz.prog 106 #[.agg #[.slice A l.length c]] w fun e w'=>e=.returned (.bool (shapeB l))∧Below w.heap.size w w':=by
 have HR:=Aside0.mk hr
 have HL:=Aside0.mk hl
 have HZ:=Aside0.mk hs
 clear hr hl hs
 have q1:(l.length:Int).toNat * 8≤281474976710656:=by have:=HL.out;omega
 have q2:(l.length:Int).toNat * 16≤281474976710656:=by have:=HL.out;omega
 have q3:(l.length:Int).toNat * 1≤281474976710656:=by have:=HL.out;omega
 have Q1:=Aside0.mk q1
 have Q2:=Aside0.mk q2
 have Q3:=Aside0.mk q3
 clear q1 q2 q3
 have B0:=Aside0.mk (below_alloc (Below.refl w.heap.size w) (.cells #[.slice A l.length c] 31))
 have K0:=Aside0.mk (blk_new w (.cells #[.slice A l.length c] 31))
 obtain ⟨W0,hW0⟩:∃ W0,W0=w.alloc (.cells #[.slice A l.length c] 31):=⟨_,rfl⟩
 go_enter Tryz.func106,Tryz.ntmps106
 go_upto_region 1 with (fail)
 rw [←hW0] at B0 K0 ⊢
 clear hW0
 have hcz:W0.cell? ⟨w.heap.size,0,none⟩=some (.slice A l.length c):=(blk_cell K0.out 0).trans rfl
 have hfz:=blk_frozen K0.out 0
 go_wp2_with (first | ((with_reducible refine gate_dst (N:=12) rfl ?_);refine Kd.R_make (Kd.int .i64) _ 3 rfl (N:=12) rfl 74 _ _ rfl (l.length:Int) rfl rfl Tryz.underlying74 (.int .i64 0) 8 info3 rfl (by decide) (by omega) 0 (ok:=fun _=>True) (okp:=fun _=>True) rfl (fun _ hk=>hk) trivial (by omega) Q1.out (Below.refl _ _) (Nat.le_refl _) ?_;intro v3 W1 ho hb hg_ hnew_;clear hg_;obtain ⟨g3,c3,rfl,ho⟩:=made ho hnew_;clear hnew_;have R3:=Aside0.mk (Kd.R_lower ho (below_size B0.out));have B1:=Aside0.mk (below_step B0.out hb);have K1:=Aside0.mk (blk_below K0.out hb);clear ho hb hcz hfz;have hcz:W1.cell? ⟨w.heap.size,0,none⟩=some (.slice A l.length c):=(blk_cell K1.out 0).trans rfl;have hfz:=blk_frozen K1.out 0) | ((with_reducible refine gate_dst (N:=16) rfl ?_);refine Kd.R_make Kd.string _ 9 rfl (N:=16) rfl 26 _ _ rfl (l.length:Int) rfl rfl Tryz.underlying26 (.string ⟨#[]⟩) 16 info9 rfl (by decide) (by omega) nil_ (ok:=fun _=>True) (okp:=fun _=>True) rfl (fun _ hk=>hk) trivial (by omega) Q2.out (Below.refl _ _) (Nat.le_refl _) ?_;intro v3 W2 ho hb hg_ hnew_;clear hg_;obtain ⟨g4,c4,rfl,ho⟩:=made ho hnew_;clear hnew_;have R4:=Aside0.mk (Kd.R_lower ho (below_size B1.out));have R32:=Aside0.mk (Kd.R_below R3.out hb);have B2:=Aside0.mk (below_step B1.out hb);have K2:=Aside0.mk (blk_below K1.out hb);clear ho hb hcz hfz;have hcz:W2.cell? ⟨w.heap.size,0,none⟩=some (.slice A l.length c):=(blk_cell K2.out 0).trans rfl;have hfz:=blk_frozen K2.out 0) | ((with_reducible refine gate_dst (N:=20) rfl ?_);refine Kd.R_make Kd.bool _ 4 rfl (N:=20) rfl 184 _ _ rfl (l.length:Int) rfl rfl Tryz.underlying184 (.bool false) 1 info4 rfl (by decide) (by omega) false (ok:=fun _=>True) (okp:=fun _=>True) rfl (fun _ hk=>hk) trivial (by omega) Q3.out (Below.refl _ _) (Nat.le_refl _) ?_;intro v3 W3 ho hb hg_ hnew_;clear hg_;obtain ⟨g5,c5,rfl,ho⟩:=made ho hnew_;clear hnew_;have SS:=Aside0.mk (Sh.mk (c:=c) (Kd.R_below R32.out hb) (Kd.R_below R4.out hb) (Kd.R_lower ho (below_size B2.out)) (blk_below K2.out hb) (Nat.le_refl _) (below_step B2.out hb));clear ho hb hcz hfz;obtain ⟨hcz,hfz⟩:=SS.out.box))
 go_loopg [24] l.length (fun m v24 W=>∃ (i:Nat) (d:List Int) (la:List ByteArray) (so:List Bool),v24=.int .i64 (i:Int)∧Aside0 (i+m=l.length)∧Aside0 (shapeGo l m i d la so=shapeB l)∧Aside0 (Sh w A c l w.heap.size g3 c3 g4 c4 g5 c5 d la so W)∧Aside0 (∀ j,0≤d.getD j 0∧d.getD j 0≤6)∧Aside0 (∀ j,j < i→(nd l j).f4 < j∧-1≤(nd l j).f4)∧Aside0 (∀ j,i≤j→d.getD j 0=0))
 case atStart=>exact ⟨0,_,_,_,rfl,⟨by omega⟩,⟨rfl⟩,SS,⟨fun j=>by rw [List.getD_eq_getElem?_getD,List.getElem?_replicate];split <;> simp⟩,⟨fun j hj=>by omega⟩,⟨fun j _=>by rw [List.getD_eq_getElem?_getD,List.getElem?_replicate];split <;> rfl⟩⟩
 case round =>
  clear hcz hfz SS B0 K0 B1 K1 B2 K2 R3 R32 R4
  obtain ⟨i,d,la,so,rfl,HM,HG,HS,HD,HU,H0⟩:=hrel
  cases gk with
  | zero =>
   obtain ⟨hcz,hfz⟩:=HS.out.box
   have hlt:decide (i < l.length)=false:=by have:=HM.out;simp;omega
   go_wp2_with (first | (go_at_call 89;(with_reducible refine (in_c (l.length:Int) 1 80 _ _ rfl).mono ?_);rintro e w' ⟨rfl,⟨n_,rfl⟩⟩))
   go_ret
   have e0:=HG.out
   rw [shapeGo] at e0
   exact ⟨by rw [←e0];rfl,(HS.out.drewN _).bel⟩
  | succ m =>
   have hi:i < l.length:=by have:=HM.out;omega
   obtain ⟨hcz,hfz⟩:=HS.out.box
   obtain ⟨ad,rfl,n0,n1,n2,n3,n4⟩:=HS.out.node HR.out i hi
   have hlt:decide (i < l.length)=true:=by simp;omega
   go_upto_region 7 with (fail)
   have S1:=Aside0.mk (HS.out.alloc (.cells #[.int .i64 (nd l i).f0,.int .i64 (nd l i).f1,.string (nd l i).f2,.string (nd l i).f3,.int .i64 (nd l i).f4] 107))
   have K1:=Aside0.mk (blk_new wr (.cells #[.int .i64 (nd l i).f0,.int .i64 (nd l i).f1,.string (nd l i).f2,.string (nd l i).f3,.int .i64 (nd l i).f4] 107))
   have GN:=Aside0.mk (below_size HS.out.bel)
   have GB:=Aside0.mk (show wr.heap.size≠w.heap.size by have:=blk_lt HS.out.bk;omega)
   obtain ⟨W1,hW1⟩:∃ W1,W1=wr.alloc (.cells #[.int .i64 (nd l i).f0,.int .i64 (nd l i).f1,.string (nd l i).f2,.string (nd l i).f3,.int .i64 (nd l i).f4] 107):=⟨_,rfl⟩
   rw [←hW1] at S1 K1 ⊢
   clear hW1
   obtain ⟨gn,hgn⟩:∃ g,g=wr.heap.size:=⟨_,rfl⟩
   rw [←hgn] at K1 GN GB ⊢
   have hmem:nd l i∈l:=by rw [←getD_at hi];exact List.getElem_mem hi
   have Z2:=Aside0.mk (show (nd l i).f2.size < 9223372036854775807 by have:=(HZ.out _ hmem).1;omega)
   have Z3:=Aside0.mk (show (nd l i).f3.size < 9223372036854775807 by have:=(HZ.out _ hmem).2;omega)
   clear hgn hmem hcz hfz n0 n1 n2 n3 n4 hlt
   go_cut [70] (fun v70 wc=>v70=.bool (badN (nd l i))∧Aside0 (Sh w (some ad) c l w.heap.size g3 c3 g4 c4 g5 c5 d la so wc)∧Aside0 (wc.heap[gn]? = some (.cells #[.int .i64 (nd l i).f0,.int .i64 (nd l i).f1,.string (nd l i).f2,.string (nd l i).f3,.int .i64 (nd l i).f4] 107 (0,0))))
   case first=>as_aux_lemma =>
    have k0:W1.cell? ⟨gn,0,none⟩=some (.int .i64 (nd l i).f0):=(blk_cell K1.out 0).trans rfl
    have k1:W1.cell? ⟨gn,1,none⟩=some (.int .i64 (nd l i).f1):=(blk_cell K1.out 1).trans rfl
    have k2:W1.cell? ⟨gn,2,none⟩=some (.string (nd l i).f2):=(blk_cell K1.out 2).trans rfl
    have k3:W1.cell? ⟨gn,3,none⟩=some (.string (nd l i).f3):=(blk_cell K1.out 3).trans rfl
    cases e1:inB (nd l i).f0 1 7 with
    | false =>
     have BN:=Aside0.mk (show badN (nd l i)=true by simp [badN,e1])
     have E1:=Aside0.mk e1;clear e1
     go_wp2_with (first | (go_at_call 89;(with_reducible refine (in_c _ _ _ _ _ E1.out).mono ?_);rintro e w' ⟨rfl,⟨n_,rfl⟩⟩) | (go_at_call 151;(with_reducible refine (num_c _ _ _ E4.out).mono ?_);rintro e w' ⟨rfl,⟨n_,rfl⟩⟩) | (go_at_call 119;first | ((with_reducible refine (sprt_c (nd l i).f2 _ _ Z2.out E7.out).mono ?_);rintro e w' ⟨rfl,⟨n_,rfl⟩⟩) | ((with_reducible refine (sprt_c (nd l i).f3 _ _ Z3.out rfl).mono ?_);rintro e w' ⟨rfl,⟨n_,rfl⟩⟩)))
     go_meet
     case rel=>exact ⟨by rw [BN.out],⟨by repeat (first | exact S1.out | apply Sh.drewN | apply Sh.drew)⟩,⟨by repeat (first | exact K1.out | refine blk_drewN ?_ _)⟩⟩
    | true =>
     cases e2:((nd l i).f0 != 4) with
     | false =>
      cases e4:inB (nd l i).f1 (-1000000000) 1000000000 with
      | false =>
       have BN:=Aside0.mk (show badN (nd l i)=true by simp [badN,e1,e2,e4])
       have E1:=Aside0.mk e1;clear e1
       have E4:=Aside0.mk e4;clear e4
       go_wp2_with (first | (go_at_call 89;(with_reducible refine (in_c _ _ _ _ _ E1.out).mono ?_);rintro e w' ⟨rfl,⟨n_,rfl⟩⟩) | (go_at_call 151;(with_reducible refine (num_c _ _ _ E4.out).mono ?_);rintro e w' ⟨rfl,⟨n_,rfl⟩⟩) | (go_at_call 119;first | ((with_reducible refine (sprt_c (nd l i).f2 _ _ Z2.out E7.out).mono ?_);rintro e w' ⟨rfl,⟨n_,rfl⟩⟩) | ((with_reducible refine (sprt_c (nd l i).f3 _ _ Z3.out rfl).mono ?_);rintro e w' ⟨rfl,⟨n_,rfl⟩⟩)))
       go_meet
       case rel=>exact ⟨by rw [BN.out],⟨by repeat (first | exact S1.out | apply Sh.drewN | apply Sh.drew)⟩,⟨by repeat (first | exact K1.out | refine blk_drewN ?_ _)⟩⟩
      | true =>
       cases e5:((nd l i).f0 != 5) with
       | false =>
        cases e7:prt (nd l i).f2 with
        | false =>
         have BN:=Aside0.mk (show badN (nd l i)=true by simp [badN,e1,e2,e4,e5,e7])
         have E1:=Aside0.mk e1;clear e1
         have E4:=Aside0.mk e4;clear e4
         have E7:=Aside0.mk e7;clear e7
         go_wp2_with (first | (go_at_call 89;(with_reducible refine (in_c _ _ _ _ _ E1.out).mono ?_);rintro e w' ⟨rfl,⟨n_,rfl⟩⟩) | (go_at_call 151;(with_reducible refine (num_c _ _ _ E4.out).mono ?_);rintro e w' ⟨rfl,⟨n_,rfl⟩⟩) | (go_at_call 119;first | ((with_reducible refine (sprt_c (nd l i).f2 _ _ Z2.out E7.out).mono ?_);rintro e w' ⟨rfl,⟨n_,rfl⟩⟩) | ((with_reducible refine (sprt_c (nd l i).f3 _ _ Z3.out rfl).mono ?_);rintro e w' ⟨rfl,⟨n_,rfl⟩⟩)))
         go_meet
         case rel=>exact ⟨by rw [BN.out],⟨by repeat (first | exact S1.out | apply Sh.drewN | apply Sh.drew)⟩,⟨by repeat (first | exact K1.out | refine blk_drewN ?_ _)⟩⟩
        | true =>
         have BN:=Aside0.mk (show badN (nd l i) = !prt (nd l i).f3 by simp [badN,e1,e2,e4,e5,e7])
         have E1:=Aside0.mk e1;clear e1
         have E4:=Aside0.mk e4;clear e4
         have E7:=Aside0.mk e7;clear e7
         go_wp2_with (first | (go_at_call 89;(with_reducible refine (in_c _ _ _ _ _ E1.out).mono ?_);rintro e w' ⟨rfl,⟨n_,rfl⟩⟩) | (go_at_call 151;(with_reducible refine (num_c _ _ _ E4.out).mono ?_);rintro e w' ⟨rfl,⟨n_,rfl⟩⟩) | (go_at_call 119;first | ((with_reducible refine (sprt_c (nd l i).f2 _ _ Z2.out E7.out).mono ?_);rintro e w' ⟨rfl,⟨n_,rfl⟩⟩) | ((with_reducible refine (sprt_c (nd l i).f3 _ _ Z3.out rfl).mono ?_);rintro e w' ⟨rfl,⟨n_,rfl⟩⟩)))
         go_meet
         case rel=>exact ⟨by rw [BN.out],⟨by repeat (first | exact S1.out | apply Sh.drewN | apply Sh.drew)⟩,⟨by repeat (first | exact K1.out | refine blk_drewN ?_ _)⟩⟩
       | true =>
        cases e6:emp (nd l i).f2 with
        | false =>
         have BN:=Aside0.mk (show badN (nd l i)=true by simp [badN,e1,e2,e4,e5,e6])
         have E1:=Aside0.mk e1;clear e1
         have E4:=Aside0.mk e4;clear e4
         have e6':=emp_list e6;clear e6
         go_wp2_with (first | (go_at_call 89;(with_reducible refine (in_c _ _ _ _ _ E1.out).mono ?_);rintro e w' ⟨rfl,⟨n_,rfl⟩⟩) | (go_at_call 151;(with_reducible refine (num_c _ _ _ E4.out).mono ?_);rintro e w' ⟨rfl,⟨n_,rfl⟩⟩) | (go_at_call 119;first | ((with_reducible refine (sprt_c (nd l i).f2 _ _ Z2.out E7.out).mono ?_);rintro e w' ⟨rfl,⟨n_,rfl⟩⟩) | ((with_reducible refine (sprt_c (nd l i).f3 _ _ Z3.out rfl).mono ?_);rintro e w' ⟨rfl,⟨n_,rfl⟩⟩)))
         go_meet
         case rel=>exact ⟨by rw [BN.out],⟨by repeat (first | exact S1.out | apply Sh.drewN | apply Sh.drew)⟩,⟨by repeat (first | exact K1.out | refine blk_drewN ?_ _)⟩⟩
        | true =>
         cases e7:prt (nd l i).f2 with
         | false =>
          have BN:=Aside0.mk (show badN (nd l i)=true by simp [badN,e1,e2,e4,e5,e6,e7])
          have E1:=Aside0.mk e1;clear e1
          have E4:=Aside0.mk e4;clear e4
          have e6':=emp_list e6;clear e6
          have E7:=Aside0.mk e7;clear e7
          go_wp2_with (first | (go_at_call 89;(with_reducible refine (in_c _ _ _ _ _ E1.out).mono ?_);rintro e w' ⟨rfl,⟨n_,rfl⟩⟩) | (go_at_call 151;(with_reducible refine (num_c _ _ _ E4.out).mono ?_);rintro e w' ⟨rfl,⟨n_,rfl⟩⟩) | (go_at_call 119;first | ((with_reducible refine (sprt_c (nd l i).f2 _ _ Z2.out E7.out).mono ?_);rintro e w' ⟨rfl,⟨n_,rfl⟩⟩) | ((with_reducible refine (sprt_c (nd l i).f3 _ _ Z3.out rfl).mono ?_);rintro e w' ⟨rfl,⟨n_,rfl⟩⟩)))
          go_meet
          case rel=>exact ⟨by rw [BN.out],⟨by repeat (first | exact S1.out | apply Sh.drewN | apply Sh.drew)⟩,⟨by repeat (first | exact K1.out | refine blk_drewN ?_ _)⟩⟩
         | true =>
          have BN:=Aside0.mk (show badN (nd l i) = !prt (nd l i).f3 by simp [badN,e1,e2,e4,e5,e6,e7])
          have E1:=Aside0.mk e1;clear e1
          have E4:=Aside0.mk e4;clear e4
          have e6':=emp_list e6;clear e6
          have E7:=Aside0.mk e7;clear e7
          go_wp2_with (first | (go_at_call 89;(with_reducible refine (in_c _ _ _ _ _ E1.out).mono ?_);rintro e w' ⟨rfl,⟨n_,rfl⟩⟩) | (go_at_call 151;(with_reducible refine (num_c _ _ _ E4.out).mono ?_);rintro e w' ⟨rfl,⟨n_,rfl⟩⟩) | (go_at_call 119;first | ((with_reducible refine (sprt_c (nd l i).f2 _ _ Z2.out E7.out).mono ?_);rintro e w' ⟨rfl,⟨n_,rfl⟩⟩) | ((with_reducible refine (sprt_c (nd l i).f3 _ _ Z3.out rfl).mono ?_);rintro e w' ⟨rfl,⟨n_,rfl⟩⟩)))
          go_meet
          case rel=>exact ⟨by rw [BN.out],⟨by repeat (first | exact S1.out | apply Sh.drewN | apply Sh.drew)⟩,⟨by repeat (first | exact K1.out | refine blk_drewN ?_ _)⟩⟩
     | true =>
      cases e3:((nd l i).f1 != 0) with
      | false =>
       cases e4:inB (nd l i).f1 (-1000000000) 1000000000 with
       | false =>
        have BN:=Aside0.mk (show badN (nd l i)=true by simp [badN,e1,e2,e3,e4])
        have E1:=Aside0.mk e1;clear e1
        have E4:=Aside0.mk e4;clear e4
        go_wp2_with (first | (go_at_call 89;(with_reducible refine (in_c _ _ _ _ _ E1.out).mono ?_);rintro e w' ⟨rfl,⟨n_,rfl⟩⟩) | (go_at_call 151;(with_reducible refine (num_c _ _ _ E4.out).mono ?_);rintro e w' ⟨rfl,⟨n_,rfl⟩⟩) | (go_at_call 119;first | ((with_reducible refine (sprt_c (nd l i).f2 _ _ Z2.out E7.out).mono ?_);rintro e w' ⟨rfl,⟨n_,rfl⟩⟩) | ((with_reducible refine (sprt_c (nd l i).f3 _ _ Z3.out rfl).mono ?_);rintro e w' ⟨rfl,⟨n_,rfl⟩⟩)))
        go_meet
        case rel=>exact ⟨by rw [BN.out],⟨by repeat (first | exact S1.out | apply Sh.drewN | apply Sh.drew)⟩,⟨by repeat (first | exact K1.out | refine blk_drewN ?_ _)⟩⟩
       | true =>
        cases e5:((nd l i).f0 != 5) with
        | false =>
         cases e7:prt (nd l i).f2 with
         | false =>
          have BN:=Aside0.mk (show badN (nd l i)=true by simp [badN,e1,e2,e3,e4,e5,e7])
          have E1:=Aside0.mk e1;clear e1
          have E4:=Aside0.mk e4;clear e4
          have E7:=Aside0.mk e7;clear e7
          go_wp2_with (first | (go_at_call 89;(with_reducible refine (in_c _ _ _ _ _ E1.out).mono ?_);rintro e w' ⟨rfl,⟨n_,rfl⟩⟩) | (go_at_call 151;(with_reducible refine (num_c _ _ _ E4.out).mono ?_);rintro e w' ⟨rfl,⟨n_,rfl⟩⟩) | (go_at_call 119;first | ((with_reducible refine (sprt_c (nd l i).f2 _ _ Z2.out E7.out).mono ?_);rintro e w' ⟨rfl,⟨n_,rfl⟩⟩) | ((with_reducible refine (sprt_c (nd l i).f3 _ _ Z3.out rfl).mono ?_);rintro e w' ⟨rfl,⟨n_,rfl⟩⟩)))
          go_meet
          case rel=>exact ⟨by rw [BN.out],⟨by repeat (first | exact S1.out | apply Sh.drewN | apply Sh.drew)⟩,⟨by repeat (first | exact K1.out | refine blk_drewN ?_ _)⟩⟩
         | true =>
          have BN:=Aside0.mk (show badN (nd l i) = !prt (nd l i).f3 by simp [badN,e1,e2,e3,e4,e5,e7])
          have E1:=Aside0.mk e1;clear e1
          have E4:=Aside0.mk e4;clear e4
          have E7:=Aside0.mk e7;clear e7
          go_wp2_with (first | (go_at_call 89;(with_reducible refine (in_c _ _ _ _ _ E1.out).mono ?_);rintro e w' ⟨rfl,⟨n_,rfl⟩⟩) | (go_at_call 151;(with_reducible refine (num_c _ _ _ E4.out).mono ?_);rintro e w' ⟨rfl,⟨n_,rfl⟩⟩) | (go_at_call 119;first | ((with_reducible refine (sprt_c (nd l i).f2 _ _ Z2.out E7.out).mono ?_);rintro e w' ⟨rfl,⟨n_,rfl⟩⟩) | ((with_reducible refine (sprt_c (nd l i).f3 _ _ Z3.out rfl).mono ?_);rintro e w' ⟨rfl,⟨n_,rfl⟩⟩)))
          go_meet
          case rel=>exact ⟨by rw [BN.out],⟨by repeat (first | exact S1.out | apply Sh.drewN | apply Sh.drew)⟩,⟨by repeat (first | exact K1.out | refine blk_drewN ?_ _)⟩⟩
        | true =>
         cases e6:emp (nd l i).f2 with
         | false =>
          have BN:=Aside0.mk (show badN (nd l i)=true by simp [badN,e1,e2,e3,e4,e5,e6])
          have E1:=Aside0.mk e1;clear e1
          have E4:=Aside0.mk e4;clear e4
          have e6':=emp_list e6;clear e6
          go_wp2_with (first | (go_at_call 89;(with_reducible refine (in_c _ _ _ _ _ E1.out).mono ?_);rintro e w' ⟨rfl,⟨n_,rfl⟩⟩) | (go_at_call 151;(with_reducible refine (num_c _ _ _ E4.out).mono ?_);rintro e w' ⟨rfl,⟨n_,rfl⟩⟩) | (go_at_call 119;first | ((with_reducible refine (sprt_c (nd l i).f2 _ _ Z2.out E7.out).mono ?_);rintro e w' ⟨rfl,⟨n_,rfl⟩⟩) | ((with_reducible refine (sprt_c (nd l i).f3 _ _ Z3.out rfl).mono ?_);rintro e w' ⟨rfl,⟨n_,rfl⟩⟩)))
          go_meet
          case rel=>exact ⟨by rw [BN.out],⟨by repeat (first | exact S1.out | apply Sh.drewN | apply Sh.drew)⟩,⟨by repeat (first | exact K1.out | refine blk_drewN ?_ _)⟩⟩
         | true =>
          cases e7:prt (nd l i).f2 with
          | false =>
           have BN:=Aside0.mk (show badN (nd l i)=true by simp [badN,e1,e2,e3,e4,e5,e6,e7])
           have E1:=Aside0.mk e1;clear e1
           have E4:=Aside0.mk e4;clear e4
           have e6':=emp_list e6;clear e6
           have E7:=Aside0.mk e7;clear e7
           go_wp2_with (first | (go_at_call 89;(with_reducible refine (in_c _ _ _ _ _ E1.out).mono ?_);rintro e w' ⟨rfl,⟨n_,rfl⟩⟩) | (go_at_call 151;(with_reducible refine (num_c _ _ _ E4.out).mono ?_);rintro e w' ⟨rfl,⟨n_,rfl⟩⟩) | (go_at_call 119;first | ((with_reducible refine (sprt_c (nd l i).f2 _ _ Z2.out E7.out).mono ?_);rintro e w' ⟨rfl,⟨n_,rfl⟩⟩) | ((with_reducible refine (sprt_c (nd l i).f3 _ _ Z3.out rfl).mono ?_);rintro e w' ⟨rfl,⟨n_,rfl⟩⟩)))
           go_meet
           case rel=>exact ⟨by rw [BN.out],⟨by repeat (first | exact S1.out | apply Sh.drewN | apply Sh.drew)⟩,⟨by repeat (first | exact K1.out | refine blk_drewN ?_ _)⟩⟩
          | true =>
           have BN:=Aside0.mk (show badN (nd l i) = !prt (nd l i).f3 by simp [badN,e1,e2,e3,e4,e5,e6,e7])
           have E1:=Aside0.mk e1;clear e1
           have E4:=Aside0.mk e4;clear e4
           have e6':=emp_list e6;clear e6
           have E7:=Aside0.mk e7;clear e7
           go_wp2_with (first | (go_at_call 89;(with_reducible refine (in_c _ _ _ _ _ E1.out).mono ?_);rintro e w' ⟨rfl,⟨n_,rfl⟩⟩) | (go_at_call 151;(with_reducible refine (num_c _ _ _ E4.out).mono ?_);rintro e w' ⟨rfl,⟨n_,rfl⟩⟩) | (go_at_call 119;first | ((with_reducible refine (sprt_c (nd l i).f2 _ _ Z2.out E7.out).mono ?_);rintro e w' ⟨rfl,⟨n_,rfl⟩⟩) | ((with_reducible refine (sprt_c (nd l i).f3 _ _ Z3.out rfl).mono ?_);rintro e w' ⟨rfl,⟨n_,rfl⟩⟩)))
           go_meet
           case rel=>exact ⟨by rw [BN.out],⟨by repeat (first | exact S1.out | apply Sh.drewN | apply Sh.drew)⟩,⟨by repeat (first | exact K1.out | refine blk_drewN ?_ _)⟩⟩
      | true =>
       have BN:=Aside0.mk (show badN (nd l i)=true by simp [badN,e1,e2,e3])
       have E1:=Aside0.mk e1;clear e1
       go_wp2_with (first | (go_at_call 89;(with_reducible refine (in_c _ _ _ _ _ E1.out).mono ?_);rintro e w' ⟨rfl,⟨n_,rfl⟩⟩) | (go_at_call 151;(with_reducible refine (num_c _ _ _ E4.out).mono ?_);rintro e w' ⟨rfl,⟨n_,rfl⟩⟩) | (go_at_call 119;first | ((with_reducible refine (sprt_c (nd l i).f2 _ _ Z2.out E7.out).mono ?_);rintro e w' ⟨rfl,⟨n_,rfl⟩⟩) | ((with_reducible refine (sprt_c (nd l i).f3 _ _ Z3.out rfl).mono ?_);rintro e w' ⟨rfl,⟨n_,rfl⟩⟩)))
       go_meet
       case rel=>exact ⟨by rw [BN.out],⟨by repeat (first | exact S1.out | apply Sh.drewN | apply Sh.drew)⟩,⟨by repeat (first | exact K1.out | refine blk_drewN ?_ _)⟩⟩
   case rest=>as_aux_lemma =>
    obtain ⟨rfl,S2,K2⟩:=hcut
    clear S1 K1
    have k0:wc.cell? ⟨gn,0,none⟩=some (.int .i64 (nd l i).f0):=(blk_cell K2.out 0).trans rfl
    have k1:wc.cell? ⟨gn,1,none⟩=some (.int .i64 (nd l i).f1):=(blk_cell K2.out 1).trans rfl
    have k2:wc.cell? ⟨gn,2,none⟩=some (.string (nd l i).f2):=(blk_cell K2.out 2).trans rfl
    have k3:wc.cell? ⟨gn,3,none⟩=some (.string (nd l i).f3):=(blk_cell K2.out 3).trans rfl
    cases hb:badN (nd l i) with
    | true =>
     go_wp2
     go_ret
     have e0:=HG.out
     rw [shapeGo,if_pos hb] at e0
     exact ⟨by rw [←e0];rfl,S2.out.bel⟩
    | false =>
     have HB:=Aside0.mk hb
     clear hb
     have HI:=Aside0.mk hi
     go_upto_if 73 with (first | (go_at_call 152;(with_reducible refine (sholds_c (nd l i).f0 _ _ rfl).mono ?_);rintro e w' ⟨rfl,⟨n_,rfl⟩⟩))
     have S20:=Aside0.mk (S2.out.drewN n_)
     have K20:=Aside0.mk (blk_drewN K2.out n_)
     obtain ⟨W20,hW20⟩:∃ W20,W20=wc.drewN n_:=⟨_,rfl⟩
     rw [←hW20] at S20 K20 ⊢
     clear hW20 k0 k1 k2 k3 S2 K2
     have GC:=Aside0.mk (row_at S20.out.r3 0 i HI.out)
     go_cut [] (fun wc=>∃ d1,Aside0 (d1=if holdsB (nd l i).f0 then d.set i 1 else d)∧Aside0 (Sh w (some ad) c l w.heap.size g3 c3 g4 c4 g5 c5 d1 la so wc)∧Aside0 (wc.heap[gn]? = some (.cells #[.int .i64 (nd l i).f0,.int .i64 (nd l i).f1,.string (nd l i).f2,.string (nd l i).f3,.int .i64 (nd l i).f4] 107 (0,0))))
     case first=>as_aux_lemma =>
      cases eh:holdsB (nd l i).f0 with
      | true =>
       obtain ⟨gc,gf⟩:=GC.out
       go_wp2
       go_meet
       case rel=>exact ⟨d.set i 1,⟨by rw [eh];rfl⟩,⟨S20.out.set3 i HI.out 1⟩,⟨S20.out.k3 K20.out _ _⟩⟩
      | false =>
       go_wp2
       go_meet
       case rel=>exact ⟨d,⟨by rw [eh];rfl⟩,S20,K20⟩
     case rest=>as_aux_lemma =>
      clear S20 K20 GC
      obtain ⟨d1,D1,S3,K3⟩:=hcut
      have k0:wc.cell? ⟨gn,0,none⟩=some (.int .i64 (nd l i).f0):=(blk_cell K3.out 0).trans rfl
      have k3:wc.cell? ⟨gn,3,none⟩=some (.string (nd l i).f3):=(blk_cell K3.out 3).trans rfl
      have k4:wc.cell? ⟨gn,4,none⟩=some (.int .i64 (nd l i).f4):=(blk_cell K3.out 4).trans rfl
      by_cases h0:i=0
      ·have hz:((i:Int)==0)=true:=by simp [h0]
       have H0':=Aside0.mk h0
       clear h0
       have e0:=HG.out
       rw [shapeGo,if_neg (by rw [HB.out];simp),if_pos H0'.out,←D1.out] at e0
       cases r1:((nd l i).f4 != -1) with
       | true =>
        rw [if_neg (by rintro ⟨h,_⟩;rw [h] at r1;simp at r1)] at e0
        have E0:=Aside0.mk e0
        clear e0
        go_wp2
        go_ret
        exact ⟨by rw [←E0.out];rfl,S3.out.bel⟩
       | false =>
        cases r2:emp (nd l i).f3 with
        | false =>
         rw [if_neg (by rintro ⟨_,h⟩;rw [r2] at h;cases h)] at e0
         have E0:=Aside0.mk e0
         clear e0
         have r3:=emp_list r2
         clear r2
         go_wp2
         go_ret
         exact ⟨by rw [←E0.out];rfl,S3.out.bel⟩
        | true =>
         have r4:(nd l i).f4 = -1:=by simpa using r1
         rw [if_pos ⟨r4,r2⟩] at e0
         have E0:=Aside0.mk e0
         have R4:=Aside0.mk r4
         clear e0 r4
         have r3:=emp_list r2
         clear r2
         have b1:(i:Int)≤1073741824:=by have:=HL.out;have:=HI.out;omega
         go_wp2
         go_roundg m
         case rel=>exact ⟨i+1,d1,la,so,by first | rfl | go_num,⟨by have:=HM.out;omega⟩,E0,S3,⟨by
          intro j
          rw [D1.out]
          split
          ·rw [getD_set];split
           ·omega
           ·exact HD.out j
          ·exact HD.out j⟩,⟨by
          intro j hj
          have:=H0'.out
          obtain rfl:j=i:=by omega
          rw [R4.out];omega⟩,⟨by
          intro j hj
          rw [D1.out]
          split
          ·rw [getD_set,if_neg (by omega)];exact H0.out j (by omega)
          ·exact H0.out j (by omega)⟩⟩
         case measure=>omega
      ·have hz:((i:Int)==0)=false:=by simp;omega
       have b0:1≤(i:Int):=by omega
       have b1:(i:Int)≤1073741824:=by have:=HL.out;have:=HI.out;omega
       have e0:=HG.out
       rw [shapeGo,if_neg (by rw [HB.out];simp),if_neg h0] at e0
       have H1:=Aside0.mk h0
       clear h0
       cases a1:inB (nd l i).f4 0 ((i:Int) - 1) with
       | false =>
        rw [a1,if_pos (by simp)] at e0
        have E0:=Aside0.mk e0
        have A1:=Aside0.mk a1
        clear e0 a1
        go_wp2_with (first | (go_at_call 89;(with_reducible refine (in_c _ _ _ _ _ A1.out).mono ?_);rintro e w' ⟨rfl,⟨n_,rfl⟩⟩))
        go_ret
        exact ⟨by rw [←E0.out];rfl,(S3.out.drewN _).bel⟩
       | true =>
        have u0:0≤(nd l i).f4∧(nd l i).f4 < i:=by simp [inB] at a1;omega
        have hu:(nd l i).f4.toNat < l.length:=by have:=HI.out;omega
        obtain ⟨ad',ea,n0,n1,n2,n3,n4⟩:=S3.out.node HR.out (nd l i).f4.toNat hu
        cases ea
        have ul:(nd l i).f4 < (l.length:Int):=by omega
        have U0:=Aside0.mk u0
        obtain ⟨u1,u2⟩:=u0
        have hcz:=S3.out.box
        obtain ⟨hcz,hfz⟩:=hcz
        cases a2:holdsB (nd l (nd l i).f4.toNat).f0 with
        | false =>
         rw [a1,a2,if_pos (by simp)] at e0
         have E0:=Aside0.mk e0
         have A1:=Aside0.mk a1
         have A2:=Aside0.mk a2
         clear e0 a1 a2
         go_wp2_with (first | (go_at_call 89;(with_reducible refine (in_c _ _ _ _ _ A1.out).mono ?_);rintro e w' ⟨rfl,⟨n_,rfl⟩⟩) | (go_at_call 152;(with_reducible refine (sholds_c _ _ _ A2.out).mono ?_);rintro e w' ⟨rfl,⟨n_,rfl⟩⟩))
         go_ret
         exact ⟨by rw [←E0.out];rfl,(S3.out.drewN _).bel⟩
        | true =>
         rw [a1,a2,if_neg (by simp)] at e0
         have E0:=Aside0.mk e0
         have A1:=Aside0.mk a1
         have A2:=Aside0.mk a2
         clear e0 a1 a2
         go_upto_block 2 with (first | (go_at_call 89;(with_reducible refine (in_c _ _ _ _ _ A1.out).mono ?_);rintro e w' ⟨rfl,⟨n_,rfl⟩⟩) | (go_at_call 152;(with_reducible refine (sholds_c _ _ _ A2.out).mono ?_);rintro e w' ⟨rfl,⟨n_,rfl⟩⟩))
         go_cut [8] (fun v8 wc=>v8=.int .i64 (chn l (i+1) ((i:Int) - 1) (nd l i).f4)∧Aside0 (Sh w (some ad) c l w.heap.size g3 c3 g4 c4 g5 c5 d1 la so wc)∧Aside0 (wc.heap[gn]? = some (.cells #[.int .i64 (nd l i).f0,.int .i64 (nd l i).f1,.string (nd l i).f2,.string (nd l i).f3,.int .i64 (nd l i).f4] 107 (0,0))))
         case first=>as_aux_lemma =>
          clear k0 k3 k4 n0 n1 n2 n3 n4 hcz hfz HS hz u1 u2 ul
          obtain ⟨wq,rfl⟩:∃ wq:World,wq=wr:=⟨_,rfl⟩
          go_wp2
          go_loopg [8] (i+1) (fun m2 v8 W=>∃ a:Int,v8=.int .i64 a∧Aside0 (chn l m2 a (nd l i).f4=chn l (i+1) ((i:Int) - 1) (nd l i).f4)∧Aside0 (-1≤a∧a+1≤m2∧a < i)∧Aside0 (Sh w (some ad) c l w.heap.size g3 c3 g4 c4 g5 c5 d1 la so W)∧Aside0 (W.heap[gn]? = some (.cells #[.int .i64 (nd l i).f0,.int .i64 (nd l i).f1,.string (nd l i).f2,.string (nd l i).f3,.int .i64 (nd l i).f4] 107 (0,0))))
          case atStart=>exact ⟨(i:Int) - 1,rfl,⟨rfl⟩,⟨by have:=U0.out;omega⟩,⟨S3.out.drewN _⟩,⟨blk_drewN K3.out _⟩⟩
          case round =>
           clear S3 K3
           obtain ⟨a,rfl,HC,HA,S6,K6⟩:=hrel
           have k4:wr.cell? ⟨gn,4,none⟩=some (.int .i64 (nd l i).f4):=(blk_cell K6.out 4).trans rfl
           obtain ⟨hcz,hfz⟩:=S6.out.box
           by_cases hau:a=(nd l i).f4
           ·have hb1:(a != (nd l i).f4)=false:=by simp [hau]
            have HAU:=Aside0.mk hau
            clear hau
            go_wp2
            go_meet
            case rel =>
             have e1:=HC.out
             refine ⟨?_,S6,K6⟩
             rw [←e1]
             cases gk <;> simp [chn,HAU.out]
           ·have hb1:(a != (nd l i).f4)=true:=by simp [hau]
            have HAU:=Aside0.mk hau
            clear hau
            by_cases ha0:0≤a
            ·have ha1:a < (l.length:Int):=by have:=HA.out;have:=HI.out;omega
             obtain ⟨ad',ea,n0,n1,n2,n3,n4⟩:=S6.out.node HR.out a.toNat (by omega)
             cases ea
             cases gk with
             | zero=>have:=HA.out;omega
             | succ m3 =>
              go_wp2
              go_roundg m3
              case rel =>
               have e1:=HC.out
               rw [chn,if_neg HAU.out,if_pos ha0] at e1
               have:=HU.out a.toNat (by have:=HA.out;omega)
               exact ⟨(nd l a.toNat).f4,rfl,⟨e1⟩,⟨by have:=HA.out;omega⟩,S6,K6⟩
              case measure=>omega
            ·have ha1:a < 0:=by omega
             have HA0:=Aside0.mk ha0
             clear ha0
             go_wp2
             go_meet
             case rel =>
              have e1:=HC.out
              refine ⟨?_,S6,K6⟩
              rw [←e1]
              cases gk with
              | zero=>rfl
              | succ m3=>rw [chn,if_neg HAU.out,if_neg (by have:=HA0.out;omega)]
         case rest=>as_aux_lemma =>
          clear k0 k3 k4 n0 n1 n2 n3 n4 hcz hfz S3 K3
          obtain ⟨rfl,S4,K4⟩:=hcut
          have k0:wc.cell? ⟨gn,0,none⟩=some (.int .i64 (nd l i).f0):=(blk_cell K4.out 0).trans rfl
          have k3:wc.cell? ⟨gn,3,none⟩=some (.string (nd l i).f3):=(blk_cell K4.out 3).trans rfl
          have k4:wc.cell? ⟨gn,4,none⟩=some (.int .i64 (nd l i).f4):=(blk_cell K4.out 4).trans rfl
          have e0:=E0.out
          clear E0
          obtain ⟨C,hC⟩:∃ C,C=chn l (i+1) ((i:Int) - 1) (nd l i).f4:=⟨_,rfl⟩
          rw [←hC] at e0 ⊢
          clear hC
          by_cases hneg:C < 0
          ·rw [if_pos hneg] at e0
           have E0:=Aside0.mk e0
           clear e0
           go_wp2
           go_ret
           exact ⟨by rw [←E0.out];rfl,S4.out.bel⟩
          ·rw [if_neg hneg] at e0
           have E0:=Aside0.mk e0
           clear e0
           go_upto_region 21 with (fail)
           have u0:=U0.out
           have HN:=Aside0.mk (show 0≤(hN (nd l i).f0:Int)∧(hN (nd l i).f0:Int)≤1 by unfold hN;split <;> simp)
           have hd1:d1.getD i 0=(hN (nd l i).f0:Int):=by
            rw [D1.out]
            cases eh:holdsB (nd l i).f0 with
            | true =>
             have hlen:d.length=l.length:=by have:=(Kd.R_reads' HS.out.r3).1;omega
             rw [if_pos rfl,getD_set,if_pos ⟨rfl,by rw [hlen];exact HI.out⟩,hN_t eh];rfl
            | false=>rw [if_neg (by simp),H0.out i (Nat.le_refl _),hN_f eh];rfl
           have hd2:d1.getD (nd l i).f4.toNat 0=d.getD (nd l i).f4.toNat 0:=by
            rw [D1.out]
            split
            ·rw [getD_set,if_neg (by omega)]
            ·rfl
           have hset:d1.set i (hN (nd l i).f0+d.getD (nd l i).f4.toNat 0)=d.set i (hN (nd l i).f0+d.getD (nd l i).f4.toNat 0):=by
            rw [D1.out]
            split
            ·rw [List.set_set]
            ·rfl
           have HD1:=Aside0.mk hd1
           have HD2:=Aside0.mk hd2
           have HSET:=Aside0.mk hset
           clear hd1 hd2 hset HS
           go_cut [] (fun wc=>Aside0 (Sh w (some ad) c l w.heap.size g3 c3 g4 c4 g5 c5 (d.set i (hN (nd l i).f0+d.getD (nd l i).f4.toNat 0)) la so wc)∧Aside0 (wc.heap[gn]? = some (.cells #[.int .i64 (nd l i).f0,.int .i64 (nd l i).f1,.string (nd l i).f2,.string (nd l i).f3,.int .i64 (nd l i).f4] 107 (0,0))))
           case first=>as_aux_lemma =>
            obtain ⟨p1,p2⟩:=row_at S4.out.r3 0 i HI.out
            obtain ⟨p3,p4⟩:=row_at S4.out.r3 0 (nd l i).f4.toNat (by have:=HI.out;omega)
            rw [HD1.out] at p1
            rw [HD2.out] at p3
            have q1:=HN.out
            have q2:=HD.out (nd l i).f4.toNat
            have T4:=Aside0.mk (S4.out.set3 i HI.out (hN (nd l i).f0+d.getD (nd l i).f4.toNat 0))
            rw [HSET.out] at T4
            have L4:=Aside0.mk (S4.out.k3 K4.out i (.int .i64 (hN (nd l i).f0+d.getD (nd l i).f4.toNat 0)))
            have HI':=HI.out
            obtain ⟨u1,u2⟩:=u0
            have u3:(nd l i).f4 < (l.length:Int):=by omega
            obtain ⟨q3,q4⟩:=q1
            obtain ⟨q5,q6⟩:=q2
            clear k0 k3 hneg
            go_region
            go_wp2
            go_meet
            case rel =>
             have e2:wrap64 ((hN (nd l i).f0:Int)+d[(nd l i).f4.toNat]?.getD 0)=(hN (nd l i).f0:Int)+d.getD (nd l i).f4.toNat 0:=by
              rw [List.getD_eq_getElem?_getD] at q5 q6 ⊢
              unfold wrap64
              omega
             rw [e2]
             exact ⟨⟨T4.out.drew⟩,⟨blk_drew L4.out⟩⟩
           case rest=>as_aux_lemma =>
            clear S4 K4 k0 k3 k4
            obtain ⟨S5,K5⟩:=hcut
            have e0:=E0.out
            clear E0
            obtain ⟨dd,hdd⟩:∃ dd:Int,dd=hN (nd l i).f0+d.getD (nd l i).f4.toNat 0:=⟨_,rfl⟩
            rw [←hdd] at S5 e0
            have HDD:=Aside0.mk (show 0≤dd by have:=HN.out;have:=(HD.out (nd l i).f4.toNat).1;omega)
            have HR7:∀ (la':List ByteArray) (so':List Bool),dd≤6→shapeGo l m (i+1) (d.set i dd) la' so'=shapeB l→∀ W,Sh w (some ad) c l w.heap.size g3 c3 g4 c4 g5 c5 (d.set i dd) la' so' W →
              ∃ (i':Nat) (d':List Int) (la:List ByteArray) (so:List Bool),Value.int .i64 ((i:Int)+1)=.int .i64 (i':Int)∧Aside0 (i'+m=l.length)∧Aside0 (shapeGo l m i' d' la so=shapeB l)∧Aside0 (Sh w (some ad) c l w.heap.size g3 c3 g4 c4 g5 c5 d' la so W)∧Aside0 (∀ j,0≤d'.getD j 0∧d'.getD j 0≤6)∧Aside0 (∀ j,j < i'→(nd l j).f4 < j∧-1≤(nd l j).f4)∧Aside0 (∀ j,i'≤j→d'.getD j 0=0):=by
             intro la' so' h6 hg W hS
             refine ⟨i+1,_,la',so',by go_num,⟨by have:=HM.out;omega⟩,⟨hg⟩,⟨hS⟩,⟨fun j=>?_⟩,⟨fun j hj=>?_⟩,⟨fun j hj=>?_⟩⟩
             ·rw [getD_set]
              split
              ·exact ⟨HDD.out,h6⟩
              ·exact HD.out j
             ·by_cases ej:j=i
              ·subst ej
               have:=U0.out
               omega
              ·exact HU.out j (by omega)
             ·rw [getD_set,if_neg (by omega)]
              exact H0.out j (by omega)
            have HRN:=Aside0.mk HR7
            clear HR7 hdd HN HD1 HD2 HSET D1 HD HU H0 H1 HM
            have k3:wc.cell? ⟨gn,3,none⟩=some (.string (nd l i).f3):=(blk_cell K5.out 3).trans rfl
            have k4:wc.cell? ⟨gn,4,none⟩=some (.int .i64 (nd l i).f4):=(blk_cell K5.out 4).trans rfl
            have hul:(nd l i).f4.toNat < l.length:=by have:=HI.out;omega
            obtain ⟨ad',ea,n0,_,_,_,_⟩:=S5.out.node HR.out (nd l i).f4.toNat hul
            cases ea
            obtain ⟨hcz,hfz⟩:=S5.out.box
            obtain ⟨p1,p2⟩:=row_at S5.out.r3 0 i HI.out
            have hlen:d.length=l.length:=by have:=(Kd.R_reads' S5.out.r3).1;rw [List.length_set] at this;omega
            rw [getD_set,if_pos ⟨rfl,by rw [hlen];exact HI.out⟩] at p1
            have HLEN:=Aside0.mk hlen
            clear hlen
            obtain ⟨g1,g2,g3'⟩:=S5.out.nn
            have hgn1:gn≠g4:=by obtain ⟨_,cs',hg⟩:=S5.out.row4;exact blk_ne K5.out hg (by decide)
            have hgn2:gn≠g5:=by obtain ⟨_,cs',hg⟩:=S5.out.row5;exact blk_ne K5.out hg (by decide)
            have HI':=HI.out
            obtain ⟨u1,u2⟩:=u0
            have u3:(nd l i).f4 < (l.length:Int):=by omega
            have b2:(i:Int)+1≤1073741825:=by omega
            have HUL:=Aside0.mk hul
            clear hul
            by_cases h7:(nd l (nd l i).f4.toNat).f0=7
            ·have h7b:((nd l (nd l i).f4.toNat).f0==7)=true:=by simp [h7]
             rw [if_pos h7] at e0
             clear h7
             obtain ⟨p3,p4⟩:=row_at S5.out.r5 false (nd l i).f4.toNat HUL.out
             obtain ⟨p5,p6⟩:=row_at S5.out.r4 nil_ (nd l i).f4.toNat HUL.out
             obtain ⟨la1,hla1⟩:∃ s,s=la.getD (nd l i).f4.toNat nil_:=⟨_,rfl⟩
             rw [←hla1] at p5 e0
             clear hla1
             cases es:so.getD (nd l i).f4.toNat false with
             | false =>
              rw [es] at p3 e0
              rw [Bool.false_and,if_neg (by simp)] at e0
              have E0:=Aside0.mk e0
              clear e0 es
              go_upto_region 23 with (fail)
              go_quiet (fail)
              clear hz b0 hu ul hneg
              go_upto_region 29 with (fail)
              have S6:=Aside0.mk (((S5.out.drewN nq).set4 _ HUL.out (nd l i).f3).set5 _ HUL.out true)
              obtain ⟨W6,hW6⟩:∃ W6,W6=((wc.drewN nq).setCell ⟨g4,(nd l i).f4.toNat,none⟩ (.string (nd l i).f3)).setCell ⟨g5,(nd l i).f4.toNat,none⟩ (.bool true):=⟨_,rfl⟩
              rw [←hW6] at S6 ⊢
              clear hW6 p1 p2 p3 p4 p5 p6 k3 k4 n0 hcz hfz h7b
              obtain ⟨p1,p2⟩:=row_at S6.out.r3 0 i HI.out
              rw [getD_set,if_pos ⟨rfl,by rw [HLEN.out];exact HI.out⟩] at p1
              have e0:=E0.out
              clear E0
              by_cases h6:dd > 6
              ·rw [if_pos h6] at e0
               have E0:=Aside0.mk e0
               clear e0
               go_wp2
               go_ret
               exact ⟨by rw [←E0.out];rfl,S6.out.bel⟩
              ·rw [if_neg h6] at e0
               have E0:=Aside0.mk e0
               clear e0
               have H6:=Aside0.mk h6
               have h6':dd≤6:=by omega
               clear h6 b2 u1 u2 u3
               go_wp2
               go_roundg m
               case rel=>exact HRN.out _ _ (by have:=H6.out;omega) E0.out _ S6.out
               case measure=>omega
             | true =>
              rw [es] at p3 e0
              cases elt:lt la1 (nd l i).f3 with
              | false =>
               rw [elt,if_pos (by rfl)] at e0
               have E0:=Aside0.mk e0
               have elt':Op.bytesLess la1.toList (nd l i).f3.toList=false:=elt
               clear e0 es elt
               go_upto_region 23 with (fail)
               go_quiet (fail)
               go_wp2
               go_ret
               exact ⟨by rw [←E0.out];rfl,(S5.out.drewN nq).bel⟩
              | true =>
               rw [elt,if_neg (by simp)] at e0
               have E0:=Aside0.mk e0
               have elt':Op.bytesLess la1.toList (nd l i).f3.toList=true:=elt
               clear e0 es elt
               go_upto_region 23 with (fail)
               go_quiet (fail)
               clear hz b0 hu ul hneg
               go_upto_region 29 with (fail)
               have S6:=Aside0.mk (((S5.out.drewN nq).set4 _ HUL.out (nd l i).f3).set5 _ HUL.out true)
               obtain ⟨W6,hW6⟩:∃ W6,W6=((wc.drewN nq).setCell ⟨g4,(nd l i).f4.toNat,none⟩ (.string (nd l i).f3)).setCell ⟨g5,(nd l i).f4.toNat,none⟩ (.bool true):=⟨_,rfl⟩
               rw [←hW6] at S6 ⊢
               clear hW6 p1 p2 p3 p4 p5 p6 k3 k4 n0 hcz hfz h7b
               obtain ⟨p1,p2⟩:=row_at S6.out.r3 0 i HI.out
               rw [getD_set,if_pos ⟨rfl,by rw [HLEN.out];exact HI.out⟩] at p1
               have e0:=E0.out
               clear E0
               by_cases h6:dd > 6
               ·rw [if_pos h6] at e0
                have E0:=Aside0.mk e0
                clear e0
                go_wp2
                go_ret
                exact ⟨by rw [←E0.out];rfl,S6.out.bel⟩
               ·rw [if_neg h6] at e0
                have E0:=Aside0.mk e0
                clear e0
                have H6:=Aside0.mk h6
                have h6':dd≤6:=by omega
                clear h6 b2 u1 u2 u3
                go_wp2
                go_roundg m
                case rel=>exact HRN.out _ _ (by have:=H6.out;omega) E0.out _ S6.out
                case measure=>omega
            ·have h7b:((nd l (nd l i).f4.toNat).f0==7)=false:=by simp [h7]
             rw [if_neg h7] at e0
             clear h7
             cases en:emp (nd l i).f3 with
             | false =>
              rw [en,if_pos (by rfl)] at e0
              have E0:=Aside0.mk e0
              have en':=emp_list en
              clear e0 en hz b0 hu ul hneg
              go_wp2
              go_ret
              exact ⟨by rw [←E0.out];rfl,S5.out.bel⟩
             | true =>
              rw [en,if_neg (by simp)] at e0
              have en':=emp_list en
              clear en hz b0 hu ul hneg
              by_cases h6:dd > 6
              ·rw [if_pos h6] at e0
               have E0:=Aside0.mk e0
               clear e0
               go_wp2
               go_ret
               exact ⟨by rw [←E0.out];rfl,S5.out.bel⟩
              ·rw [if_neg h6] at e0
               have E0:=Aside0.mk e0
               clear e0
               have H6:=Aside0.mk h6
               have h6':dd≤6:=by omega
               clear h6 b2 u1 u2 u3
               go_wp2
               go_roundg m
               case rel=>exact HRN.out _ _ (by have:=H6.out;omega) E0.out _ S5.out
               case measure=>omega
end Go.Proofs.YtoaafohpmhdjnaaGreatDoor.VT
