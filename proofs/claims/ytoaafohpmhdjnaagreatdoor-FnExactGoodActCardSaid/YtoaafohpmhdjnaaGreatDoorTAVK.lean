import Derived.Test.YtoaafohpmhdjnaaGreatDoorTAYPA
import Derived.Test.YtoaafohpmhdjnaaGreatDoorTAPVGx0
/- How a value's tree lies in memory: pointers to structs, each with a row of names and a row of pointers. Conditions: none. -/
namespace Go.Proofs.YtoaafohpmhdjnaaGreatDoorW.PrintWords.Kd
open Go.RowKit Go.Proofs.YtoaafohpmhdjnaaGreatDoorW.PrintWords
def ptr {α:Type} (t:Nat) (d:Kd α):Kd α where
 sz:=1
 E:=t :: d.E
 K:=fun w x cs=>∃ g inner,cs=[.pointer (some ⟨g,0,none⟩)]∧w.heap[g]? = some (.cells (List.toArray inner) t (0,0))∧d.K w x inner
 M:=fun w base ok x cs=>∃ g inner,cs=[.pointer (some ⟨g,0,none⟩)]∧ok g∧base≤g∧w.heap[g]? = some (.cells (List.toArray inner) t (0,0))∧d.M w base (fun k=>ok k∧k≠g) x inner
 K_len:=by
  rintro w x cs ⟨g,inner,rfl,_⟩
  rfl
 K_one:=by
  rintro w x cs ⟨g,inner,rfl,_⟩ u hu
  rw [List.mem_singleton.1 hu]
  rfl
 K_below:=by
  rintro w w1 x cs hb ⟨g,inner,rfl,hg,hk⟩
  exact ⟨g,inner,rfl,(hb.block g (blk_lt hg)).trans hg,d.K_below hb hk⟩
 K_of_M:=by
  rintro w base ok x cs ⟨g,inner,rfl,_,_,hg,hm⟩
  exact ⟨g,inner,rfl,hg,d.K_of_M hm⟩
 M_mono:=by
  rintro w base ok ok' x cs hok ⟨g,inner,rfl,h1,h2,hg,hm⟩
  exact ⟨g,inner,rfl,hok g h1,h2,hg,d.M_mono (fun k hk=>⟨hok k hk.1,hk.2⟩) hm⟩
 M_bound:=by
  rintro w base ok x cs ⟨g,inner,rfl,h1,h2,hg,hm⟩
  refine ⟨g,inner,rfl,⟨h1,h2,blk_lt hg,t,List.mem_cons_self ..,_,hg⟩,h2,hg,d.M_mono ?_ (d.M_bound hm)⟩
  rintro k ⟨⟨h3,h4⟩,h5,h6,q,hq,hc⟩
  exact ⟨⟨h3,h5,h6,q,List.mem_cons_of_mem _ hq,hc⟩,h4⟩
 M_move:=by
  rintro w w1 base ok x cs hm ⟨g,inner,rfl,h1,h2,hg,hd⟩
  exact ⟨g,inner,rfl,h1,h2,(hm g h1).trans hg,d.M_move (fun k hk=>hm k hk.1) hd⟩
 M_lower:=by
  rintro w base base' ok x cs hb ⟨g,inner,rfl,h1,h2,hg,hd⟩
  exact ⟨g,inner,rfl,h1,by omega,hg,d.M_lower hb hd⟩
theorem mono_ptr {α β:Type} (t:Nat) {G:Kd α→Kd β} (hG:Mono G):Mono (fun d=>ptr t (G d)):=by
 refine ⟨fun _ _ _=>rfl,?_,?_⟩
 ·rintro d d' hs h w x cs ⟨g,inner,rfl,hg,hk⟩
  exact ⟨g,inner,rfl,hg,hG.K d d' hs h _ _ _ hk⟩
 ·rintro d d' hs h w base ok x cs ⟨g,inner,rfl,h1,h2,hg,hd⟩
  exact ⟨g,inner,rfl,h1,h2,hg,hG.M d d' hs h _ _ _ _ _ hd⟩
theorem sub_ptr {α β:Type} {E:List Nat} (t:Nat) {G:Kd α→Kd β} (ht:t∈E) (hG:Sub G E):Sub (fun d=>ptr t (G d)) E:=fun d h q hq=>by
 rcases List.mem_cons.1 hq with rfl | hq
 ·exact ht
 ·exact hG d h q hq
end Go.Proofs.YtoaafohpmhdjnaaGreatDoorW.PrintWords.Kd
namespace Go.Proofs.YtoaafohpmhdjnaaGreatDoor.VT
open Go.RowKit Go.Proofs.YtoaafohpmhdjnaaGreatDoor.PVG Go.Proofs.YtoaafohpmhdjnaaGreatDoorW.PrintWords Go.Proofs.YtoaafohpmhdjnaaGreatDoorW.PrintLast Go.Proofs.YtoaafohpmhdjnaaGreatDoorW.PrintMore
set_option linter.unusedVariables false
set_option linter.unusedSimpArgs false
def GV (d:Kd Tr):Kd Tr:=Kd.ptr 110 (Kd.iso (Kd.pair (Kd.int .i64) (Kd.pair (Kd.int .i64) (Kd.pair Kd.string (Kd.pair (Kd.slice 9 Kd.string) (Kd.slice 92 d))))) (fun t:Tr=>(t.kd,t.nu,t.tx,t.ns,t.ks)))
theorem monoV:Kd.Mono GV:=Kd.mono_ptr 110 (Kd.mono_iso _ (Kd.mono_pair (Kd.mono_const _) (Kd.mono_pair (Kd.mono_const _) (Kd.mono_pair (Kd.mono_const _) (Kd.mono_pair (Kd.mono_const _) (Kd.mono_slice 92 Kd.mono_id))))))
theorem subV:Kd.Sub GV [9,92,110]:=Kd.sub_ptr 110 (by decide) (Kd.sub_iso _ (Kd.sub_pair (Kd.sub_const _ (by decide)) (Kd.sub_pair (Kd.sub_const _ (by decide)) (Kd.sub_pair (Kd.sub_const _ (by decide)) (Kd.sub_pair (Kd.sub_const _ (by decide)) (Kd.sub_slice 92 (by decide) Kd.sub_id))))))
theorem szV:∀ n,(Kd.upto GV 1 [9,92,110] n).sz=1:=Kd.upto_sz (fun _=>rfl)
def kP:Kd Tr:=Kd.fix GV 1 [9,92,110] szV (Kd.upto_E subV)
theorem kP_open {w:World} {t:Tr} {cs:List Value} (h:kP.K w t cs):∃ g A3 c3 A4 c4,cs=[.pointer (some ⟨g,0,none⟩)]∧w.heap[g]? = some (.cells #[.int .i64 t.kd,.int .i64 t.nu,.string t.tx,.slice A3 t.ns.length c3,.slice A4 t.ks.length c4] 110 (0,0))∧t.ns.length≤c3∧Kd.string.C w A3 t.ns.length t.ns∧t.ks.length≤c4∧kP.C w A4 t.ks.length t.ks:=by
 obtain ⟨n,h⟩:=h
 cases n with
 | zero=>exact h.elim
 | succ n =>
  obtain ⟨g,inner,rfl,hg,⟨_,_,rfl,rfl,⟨_,_,rfl,rfl,⟨_,_,rfl,rfl,⟨_,_,rfl,⟨A3,c3,rfl,l3,g3⟩,⟨A4,c4,rfl,l4,g4⟩⟩⟩⟩⟩⟩:=h
  exact ⟨g,A3,c3,A4,c4,rfl,hg,l3,g3,l4,Kd.fix_C g4⟩
theorem kP_mk (w:World) (t:Tr) {g:Nat} {A3 A4:Option Addr} {c3 c4:Nat} (hg:w.heap[g]? = some (.cells #[.int .i64 t.kd,.int .i64 t.nu,.string t.tx,.slice A3 t.ns.length c3,.slice A4 t.ks.length c4] 110 (0,0))) (l3:t.ns.length≤c3) (g3:Kd.string.C w A3 t.ns.length t.ns) (l4:t.ks.length≤c4) (g4:kP.C w A4 t.ks.length t.ks):kP.K w t [.pointer (some ⟨g,0,none⟩)]:=by
 obtain ⟨n4,q4⟩:=Kd.fix_C_back monoV g4
 exact ⟨n4+1,g,_,rfl,hg,⟨[.int .i64 t.kd],[.int .i64 t.nu,.string t.tx,.slice A3 t.ns.length c3,.slice A4 t.ks.length c4],rfl,rfl,⟨[.int .i64 t.nu],[.string t.tx,.slice A3 t.ns.length c3,.slice A4 t.ks.length c4],rfl,rfl,⟨[.string t.tx],[.slice A3 t.ns.length c3,.slice A4 t.ks.length c4],rfl,rfl,⟨[.slice A3 t.ns.length c3],[.slice A4 t.ks.length c4],rfl,⟨A3,c3,rfl,l3,g3⟩,⟨A4,c4,rfl,l4,q4⟩⟩⟩⟩⟩⟩
theorem kP_mkM (w:World) (base:Nat) (ok:Nat→Prop) (t:Tr) {g:Nat} {v3 v4:Value} (h1:ok g) (h2:base≤g) (hg:w.heap[g]? = some (.cells #[.int .i64 t.kd,.int .i64 t.nu,.string t.tx,v3,v4] 110 (0,0))) (g3:Kd.string.R 9 w base (fun k=>ok k∧k≠g) v3 t.ns) (g4:kP.R 92 w base (fun k=>ok k∧k≠g) v4 t.ks):kP.M w base ok t [.pointer (some ⟨g,0,none⟩)]:=by
 obtain ⟨n4,q4⟩:=Kd.fix_R_back monoV g4
 exact ⟨n4+1,g,_,rfl,h1,h2,hg,⟨[.int .i64 t.kd],[.int .i64 t.nu,.string t.tx,v3,v4],rfl,rfl,⟨[.int .i64 t.nu],[.string t.tx,v3,v4],rfl,rfl,⟨[.string t.tx],[v3,v4],rfl,rfl,⟨[v3],[v4],rfl,⟨v3,rfl,g3⟩,⟨v4,rfl,q4⟩⟩⟩⟩⟩⟩
structure VAt (w:World) (g:Nat) (t:Tr) (A3:Option Addr) (c3:Nat) (A4:Option Addr) (c4:Nat):Prop where
 hg:w.heap[g]? = some (.cells #[.int .i64 t.kd,.int .i64 t.nu,.string t.tx,.slice A3 t.ns.length c3,.slice A4 t.ks.length c4] 110 (0,0))
 l3:t.ns.length≤c3
 g3:Kd.string.C w A3 t.ns.length t.ns
 l4:t.ks.length≤c4
 g4:kP.C w A4 t.ks.length t.ks
def IsV (w:World) (g:Nat) (t:Tr):Prop:=kP.K w t [.pointer (some ⟨g,0,none⟩)]
theorem IsV.at_ {w:World} {g:Nat} {t:Tr} (h:IsV w g t):∃ A3 c3 A4 c4,VAt w g t A3 c3 A4 c4:=by
 obtain ⟨g',A3,c3,A4,c4,e,hg,l3,g3,l4,g4⟩:=kP_open h
 cases e
 exact ⟨A3,c3,A4,c4,hg,l3,g3,l4,g4⟩
theorem VAt.is {w:World} {g:Nat} {t:Tr} {A3:Option Addr} {c3:Nat} {A4:Option Addr} {c4:Nat} (h:VAt w g t A3 c3 A4 c4):IsV w g t:=kP_mk w t h.hg h.l3 h.g3 h.l4 h.g4
theorem IsV.below {w w':World} {g:Nat} {t:Tr} (h:IsV w g t) (hb:Below w.heap.size w w'):IsV w' g t:=kP.K_below hb h
theorem VAt.below {w w':World} {g:Nat} {t:Tr} {A3:Option Addr} {c3:Nat} {A4:Option Addr} {c4:Nat} (h:VAt w g t A3 c3 A4 c4) (hb:Below w.heap.size w w'):VAt w' g t A3 c3 A4 c4 :=
 ⟨blk_below h.hg hb,h.l3,Kd.C_below h.g3 hb,h.l4,Kd.C_below h.g4 hb⟩
theorem VAt.lt {w:World} {g:Nat} {t:Tr} {A3:Option Addr} {c3:Nat} {A4:Option Addr} {c4:Nat} (h:VAt w g t A3 c3 A4 c4):g < w.heap.size:=blk_lt h.hg
theorem VAt.cells {w:World} {g:Nat} {t:Tr} {A3:Option Addr} {c3:Nat} {A4:Option Addr} {c4:Nat} (h:VAt w g t A3 c3 A4 c4):w.cell? ⟨g,0,none⟩=some (.int .i64 t.kd)∧w.cell? ⟨g,1,none⟩=some (.int .i64 t.nu)∧w.cell? ⟨g,2,none⟩=some (.string t.tx)∧w.cell? ⟨g,3,none⟩=some (.slice A3 t.ns.length c3)∧w.cell? ⟨g,4,none⟩=some (.slice A4 t.ks.length c4) :=
 ⟨(blk_cell h.hg 0).trans rfl,(blk_cell h.hg 1).trans rfl,(blk_cell h.hg 2).trans rfl,(blk_cell h.hg 3).trans rfl,(blk_cell h.hg 4).trans rfl⟩
theorem VAt.kid {w:World} {g:Nat} {t:Tr} {A3:Option Addr} {c3:Nat} {A4:Option Addr} {c4:Nat} (h:VAt w g t A3 c3 A4 c4) (i:Nat) (hi:i < t.ks.length):∃ ad p,A4=some ad∧w.cell? (ad.add i)=some (.pointer (some ⟨p,0,none⟩))∧IsV w p t.ks[i]:=by
 obtain ⟨ad,c,e,_,hK,hc⟩:=Kd.C_get h.g4 (.mk 0 0 nil_ [] []) (i:Int) (by omega) (by omega)
 obtain ⟨p,A3',c3',A4',c4',rfl,_⟩:=kP_open hK
 have h0:=hc 0 _ rfl
 have e1:(i:Int).toNat * kP.sz+0=i:=by show (i:Int).toNat * 1+0=i;omega
 rw [e1] at h0
 rw [List.getD_eq_getElem?_getD,Int.toNat_natCast,List.getElem?_eq_getElem hi] at hK
 exact ⟨ad,p,e,h0,hK⟩
theorem VAt.name {w:World} {g:Nat} {t:Tr} {A3:Option Addr} {c3:Nat} {A4:Option Addr} {c4:Nat} (h:VAt w g t A3 c3 A4 c4) (i:Nat) (hi:i < t.ns.length):∃ ad,A3=some ad∧w.cell? (ad.add i)=some (.string (t.ns[i])):=by
 obtain ⟨ad,c,e,_,hK,hc⟩:=Kd.C_get h.g3 nil_ (i:Int) (by omega) (by omega)
 have hK:c=[.string (t.ns.getD (i:Int).toNat nil_)]:=hK
 rw [List.getD_eq_getElem?_getD,Int.toNat_natCast,List.getElem?_eq_getElem hi] at hK
 subst hK
 have h0:=hc 0 _ rfl
 have e1:(i:Int).toNat * Kd.string.sz+0=i:=by show (i:Int).toNat * 1+0=i;omega
 rw [e1] at h0
 exact ⟨ad,e,h0⟩
end Go.Proofs.YtoaafohpmhdjnaaGreatDoor.VT
