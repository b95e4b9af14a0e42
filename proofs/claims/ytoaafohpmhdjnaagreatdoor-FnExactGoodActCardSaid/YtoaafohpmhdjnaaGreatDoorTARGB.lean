import Derived.Test.YtoaafohpmhdjnaaGreatDoorTARGE
/- strings.makeGenericReplacer over "~0", "~", "~1", "/": walked. Conditions: the four texts. -/
namespace Go.Proofs.YtoaafohpmhdjnaaGreatDoor.RX
open Go.RowKit Go.Proofs.YtoaafohpmhdjnaaGreatDoor.PVG Go.Proofs.YtoaafohpmhdjnaaGreatDoorW.PrintWords Go.Proofs.YtoaafohpmhdjnaaGreatDoorW.PrintLast Go.Proofs.YtoaafohpmhdjnaaGreatDoorW.PrintMore
set_option linter.unusedVariables false
set_option linter.unusedSimpArgs false
def oldU:List ByteArray:=[⟨#[126,48]⟩,⟨#[126]⟩,⟨#[126,49]⟩,⟨#[47]⟩]
def ones (i:Nat):Int:=if i=126∨i=48∨i=49 then 1 else 0
def fin (i:Nat):Int:=if i=48 then 0 else if i=49 then 1 else if i=126 then 2 else 3
def cI (k:Nat):Int:=if 126 < k then 3 else if 49 < k then 2 else if 48 < k then 1 else 0
def mp (k:Nat) (i:Nat):Int:=if i < k then fin i else ones i
theorem mp_0:mp 0=ones:=by funext i;simp [mp]
theorem mp_256 (i:Nat) (h:i < 256):mp 256 i=fin i:=by simp [mp,h]
theorem mp_at (k:Nat):mp k k=ones k:=by simp [mp]
theorem mp_next (k:Nat):updI (mp k) k (fin k)=mp (k+1):=by
 funext i
 unfold updI mp
 by_cases h:i=k
 ·subst h;simp
 ·rw [if_neg h]
  by_cases h2:i < k
  ·rw [if_pos h2,if_pos (by omega)]
  ·rw [if_neg h2,if_neg (by omega)]
theorem ones_up:updI (updI (updI (updI (fun _=>0) 126 1) 48 1) 126 1) 49 1=ones:=by
 funext i
 unfold updI ones
 by_cases h1:i=49
 ·simp [h1]
 ·by_cases h2:i=126
  ·simp [h2]
  ·by_cases h3:i=48
   ·simp [h3]
   ·simp [h1,h2,h3]
theorem cI_b (k:Nat):0≤cI k∧cI k≤3:=by unfold cI;(repeat' split) <;> omega
theorem cI_no {k:Nat} (h1:k≠48) (h2:k≠49) (h3:k≠126):cI (k+1)=cI k:=by
 unfold cI
 have e1:(126 < k+1)=(126 < k):=by apply propext;omega
 have e2:(49 < k+1)=(49 < k):=by apply propext;omega
 have e3:(48 < k+1)=(48 < k):=by apply propext;omega
 simp only [e1,e2,e3]
theorem ones_no {k:Nat} (h1:k≠48) (h2:k≠49) (h3:k≠126):ones k=0:=by simp [ones,h1,h2,h3]
theorem fin_no {k:Nat} (h1:k≠48) (h2:k≠49) (h3:k≠126):fin k=3:=by simp [fin,h1,h2,h3]
structure TrieAt (W:World) (gR gT n1 gU n2 n3:Nat):Prop where
 kR:∃ f,(∀ i,i < 256→f i=fin i)∧W.heap[gR]? = some (.cells (grc (.slice (some ⟨gT,0,none⟩) 3 3) 3 f) 281 (0,0))
 kT:W.heap[gT]? = some (.cells #[.pointer none,.pointer none,.pointer (some ⟨n1,0,none⟩)] 276 (0,0))
 k1:W.heap[n1]? = some (.cells (nd5 (⟨#[]⟩:ByteArray) 0 (⟨#[]⟩:ByteArray) (.pointer none) (.slice (some ⟨gU,0,none⟩) 3 3)) 279 (0,0))
 kU:W.heap[gU]? = some (.cells #[.pointer (some ⟨n2,0,none⟩),.pointer (some ⟨n3,0,none⟩),.pointer none] 276 (0,0))
 k2:W.heap[n2]? = some (.cells (nd5 ⟨#[126]⟩ 4 (⟨#[]⟩:ByteArray) (.pointer none) (.slice none 0 0)) 279 (0,0))
 k3:W.heap[n3]? = some (.cells (nd5 ⟨#[47]⟩ 2 (⟨#[]⟩:ByteArray) (.pointer none) (.slice none 0 0)) 279 (0,0))
theorem TrieAt.kept {W W':World} {gR gT n1 gU n2 n3:Nat} {S:Nat→Prop} (h:TrieAt W gR gT n1 gU n2 n3) (hk:Kept W W' S) (hS:∀ k cs t,S k→W.heap[k]? = some (.cells cs t (0,0))→t≠281∧t≠276∧t≠279):TrieAt W' gR gT n1 gU n2 n3:=by
 obtain ⟨⟨f,hf,h0⟩,h1,h2,h3,h4,h5⟩:=h
 exact ⟨⟨f,hf,blk_kept h0 hk (fun hs=>(hS _ _ _ hs h0).1 rfl)⟩,blk_kept h1 hk (fun hs=>(hS _ _ _ hs h1).2.1 rfl),blk_kept h2 hk (fun hs=>(hS _ _ _ hs h2).2.2 rfl),blk_kept h3 hk (fun hs=>(hS _ _ _ hs h3).2.1 rfl),blk_kept h4 hk (fun hs=>(hS _ _ _ hs h4).2.2 rfl),blk_kept h5 hk (fun hs=>(hS _ _ _ hs h5).2.2 rfl)⟩
theorem TrieAt.below {W W':World} {gR gT n1 gU n2 n3:Nat} (h:TrieAt W gR gT n1 gU n2 n3) (hb:Below W.heap.size W W'):TrieAt W' gR gT n1 gU n2 n3:=h.kept (Kept.of_below hb (fun _=>False)) (fun _ _ _ hs _=>hs.elim)
def RepU (w W:World) (gR:Nat):Prop:=Below w.heap.size w W∧∃ gT n1 gU n2 n3,TrieAt W gR gT n1 gU n2 n3
theorem allocG (W:World):(Instr.alloc 281 true (.tuple #[])).run Tryz.prog W=.ok (.pointer (some ⟨W.heap.size,0,none⟩)) (W.alloc (.cells (grc (.slice none 0 0) 0 (fun _=>0)) 281)):=by kernel_rfl
theorem allocG_ev {ρ:Operand→Value} {o:Oper} (ho:o.op=.alloc 281) (W:World):(execOp ρ o).run Tryz.prog W=.ok (.value (.pointer (some ⟨W.heap.size,0,none⟩))) (W.alloc (.cells (grc (.slice none 0 0) 0 (fun _=>0)) 281)):=by
 unfold execOp
 rw [ho]
 simp only [Sem.run_bind,allocG,Result.andThen_ok,Sem.run_pure]
def mcs (f:Nat→Int):List Value:=(List.range 256).map fun i=>Value.int .u8 (f i)
theorem mcs_len (f:Nat→Int):(mcs f).length=256:=by simp [mcs]
theorem mcs_range {W:World} {g:Nat} {tb:Value} {ts:Int} {f:Nat→Int} (h:W.heap[g]? = some (.cells (grc tb ts f) 281 (0,0))):W.rangeAt g 6 (mcs f):=fun j v hv=>by
 have hj:j < 256:=by have:=(List.getElem?_eq_some_iff.1 hv).1;rwa [mcs_len] at this
 rw [gr_map h j hj,←hv]
 simp [mcs,hj]
theorem sizeM:(Tryz.prog.info? 252).map (·.size)=some 256:=by kernel_rfl
theorem undM:Tryz.prog.underlying 252=some (.array 256 5):=by kernel_rfl
theorem index_run (cs:Array Value) (k:Nat) (v:Value) (h:cs[k]? = some v) (hk:k < 256) (W:World):(Instr.index 252 (.agg cs) (.int .i64 (k:Int))).run Tryz.prog W=.ok v W:=by
 have hk2:(0:Int)≤(k:Int)∧(k:Int) < 256:=by omega
 have hb:=Tryz.isAgg5
 have hz:=Tryz.sizeOf5
 unfold Instr.index
 simp [asIntOf,Sem.run_bind,Sem.run_pure,Result.andThen_ok,run_underlying undM W,hk2,part,hb,hz,h]
 intro hge
 omega
theorem index_ev {ρ:Operand→Value} {o:Oper} {x y:Operand} (f:Nat→Int) (k:Nat) (ho:o.op=.index 252 x y) (hx:ρ x=.agg (mcs f).toArray) (hy:ρ y=.int .i64 (k:Int)) (hk:k < 256) (W:World):(execOp ρ o).run Tryz.prog W=.ok (.value (.int .u8 (f k))) W:=by
 have hg:(mcs f).toArray[k]? = some (Value.int .u8 (f k)):=by rw [List.getElem?_toArray];simp [mcs,hk]
 have e:=index_run (mcs f).toArray k _ hg hk W
 unfold execOp
 rw [ho]
 simp only [hx,hy,Sem.run_bind,e,Result.andThen_ok,Sem.run_pure]
theorem at_oldU {w:World} {g:Nat} (h:Kd.C Kd.string w (some ⟨g,0,none⟩) 4 oldU):w.cell? ⟨g,0,none⟩=some (.string ⟨#[126,48]⟩)∧w.cell? ⟨g,1,none⟩=some (.string ⟨#[126]⟩)∧w.cell? ⟨g,2,none⟩=some (.string ⟨#[126,49]⟩)∧w.cell? ⟨g,3,none⟩=some (.string ⟨#[47]⟩):=by
 have q:∀ i:Int,0≤i→i < 4→w.cell? ((⟨g,0,none⟩:Addr).add i.toNat)=some (.string (rdOf ByteArray.empty oldU i)):=fun i h0 h1=>by
  obtain ⟨ad,e,hc⟩:=Kd.at_string h i h0 h1
  cases e
  exact hc
 exact ⟨(q 0 (by omega) (by omega)).trans rfl,(q 1 (by omega) (by omega)).trans rfl,(q 2 (by omega) (by omega)).trans rfl,(q 3 (by omega) (by omega)).trans rfl⟩
def GS (w:World) (gR:Nat) (tb:Value) (ts:Int) (f:Nat→Int) (W:World):Prop:=Below w.heap.size w W∧w.heap.size≤gR∧W.heap[gR]? = some (.cells (grc tb ts f) 281 (0,0))
theorem GS.drew {w:World} {gR:Nat} {tb:Value} {ts:Int} {f:Nat→Int} {W:World} (h:GS w gR tb ts f W):GS w gR tb ts f W.drew:=⟨below_drew1 h.1,h.2.1,blk_drew h.2.2⟩
theorem GS.map {w:World} {gR:Nat} {tb:Value} {ts:Int} {f:Nat→Int} {W:World} (h:GS w gR tb ts f W) (j:Nat) (hj:j < 256) (u:Int):GS w gR tb ts (updI f j u) (W.setCell ⟨gR,6+j,none⟩ (.int .u8 u)) :=
 ⟨below_set h.1 h.2.1,h.2.1,by have:=blk_set h.2.2 (6+j) (.int .u8 u);rw [grc_set _ _ _ _ _ hj] at this;exact this⟩
theorem GS.size {w:World} {gR:Nat} {tb:Value} {ts:Int} {f:Nat→Int} {W:World} (h:GS w gR tb ts f W) (u:Int):GS w gR tb u f (W.setCell ⟨gR,5,none⟩ (.int .i64 u)) :=
 ⟨below_set h.1 h.2.1,h.2.1,by have:=blk_set h.2.2 5 (.int .i64 u);rw [grc_set5] at this;exact this⟩
set_option maxRecDepth 100000 in
set_option maxHeartbeats 8000000 in
theorem mkgen_c (g c:Nat) (w:World) (hA:Kd.C Kd.string w (some ⟨g,0,none⟩) 4 oldU) :
  Calls Tryz.prog 217 #[.slice (some ⟨g,0,none⟩) 4 c] w fun e w'=>∃ gR,e=.returned (.pointer (some ⟨gR,0,none⟩))∧RepU w w' gR:=by
 have HO:=Aside0.mk (at_oldU hA)
 clear hA
 go_enter Tryz.func217,Tryz.ntmps217
 go_upto_region 2 with (first | ((with_reducible refine gate_dst (N:=13) rfl ?_);refine Kd.event_run rfl (allocG_ev rfl _) ?_;obtain ⟨W1,hW1⟩:∃ W,W=w.alloc (.cells (grc (.slice none 0 0) 0 (fun _=>0)) 281):=⟨_,rfl⟩;obtain ⟨gR,hgR⟩:∃ g,g=w.heap.size:=⟨_,rfl⟩;have G1:=Aside0.mk (show GS w gR (.slice none 0 0) 0 (fun _=>0) W1 from ⟨by rw [hW1];exact below_alloc (Below.refl _ _) _,by omega,by rw [hW1,hgR];exact blk_new w _⟩);rw [←hW1,←hgR];clear hW1 hgR))
 go_upto_region 10 with fail
 go_loopg [4] 2 (fun kq v4 W=>(kq=2∧v4=.int .i64 0∧Aside0 (GS w gR (.slice none 0 0) 0 (fun _=>0) W))∨(kq=1∧v4=.int .i64 2∧Aside0 (GS w gR (.slice none 0 0) 0 (updI (updI (fun _=>0) 126 1) 48 1) W))∨(kq=0∧v4=.int .i64 4∧Aside0 (GS w gR (.slice none 0 0) 0 (updI (updI (updI (updI (fun _=>0) 126 1) 48 1) 126 1) 49 1) W)))
 case atStart=>exact .inl ⟨rfl,rfl,G1⟩
 case round =>
  clear G1
  rcases hrel with ⟨rfl,rfl,HQ⟩ | ⟨rfl,rfl,HQ⟩ | ⟨rfl,rfl,HQ⟩
  ·have hq:=HQ.out
   have s0:wr.cell? ⟨g,0,none⟩=some (.string ⟨#[126,48]⟩):=(hq.1.cell (World.block_lt_of_cell? w _ HO.out.1)).trans HO.out.1
   have hb1:∀ h:0 < (⟨#[126,48]⟩:ByteArray).size,((⟨#[126,48]⟩:ByteArray)[0]'h).toNat=126:=fun _=>rfl
   have hb2:∀ h:1 < (⟨#[126,48]⟩:ByteArray).size,((⟨#[126,48]⟩:ByteArray)[1]'h).toNat=48:=fun _=>rfl
   clear hq
   obtain ⟨w0,rfl⟩:∃ w0:World,w0=wr:=⟨_,rfl⟩
   go_upto_region 6 with fail
   clear s0
   go_wp2
   go_loopg [6] 2 (fun kq v6 W=>(kq=2∧v6=.int .i64 0∧Aside0 (GS w gR (.slice none 0 0) 0 (fun _=>0) W))∨(kq=1∧v6=.int .i64 1∧Aside0 (GS w gR (.slice none 0 0) 0 (updI (fun _=>0) 126 1) W))∨(kq=0∧v6=.int .i64 2∧Aside0 (GS w gR (.slice none 0 0) 0 (updI (updI (fun _=>0) 126 1) 48 1) W)))
   case atStart=>exact .inl ⟨rfl,rfl,HQ⟩
   case round =>
    clear HQ
    rcases hrel with ⟨rfl,rfl,HQ⟩ | ⟨rfl,rfl,HQ⟩ | ⟨rfl,rfl,HQ⟩
    ·have hq:=HQ.out
     have kc:=gr_map hq.2.2 126 (by decide)
     have kz:=blk_frozen hq.2.2 132
     have HQ2:=Aside0.mk (hq.drew.map 126 (by decide) 1)
     clear hq
     replace kc:wr.cell? ⟨gR,132,none⟩=some (.int .u8 ((fun _=>0) 126)):=kc
     obtain ⟨v,kc⟩:∃ v:Int,wr.cell? ⟨gR,132,none⟩=some (.int .u8 v):=⟨_,kc⟩
     go_wp2
     go_region_with (fail)
     go_wp2
     go_roundg 1
     case measure=>omega
     case rel=>exact .inr (.inl ⟨rfl,rfl,HQ2⟩)
    ·have hq:=HQ.out
     have kc:=gr_map hq.2.2 48 (by decide)
     have kz:=blk_frozen hq.2.2 54
     have HQ2:=Aside0.mk (hq.drew.map 48 (by decide) 1)
     clear hq
     replace kc:wr.cell? ⟨gR,54,none⟩=some (.int .u8 ((updI (fun _=>0) 126 1) 48)):=kc
     obtain ⟨v,kc⟩:∃ v:Int,wr.cell? ⟨gR,54,none⟩=some (.int .u8 v):=⟨_,kc⟩
     go_wp2
     go_region_with (fail)
     go_wp2
     go_roundg 0
     case measure=>omega
     case rel=>exact .inr (.inr ⟨rfl,rfl,HQ2⟩)
    ·go_wp2
     go_roundg 1
     case measure=>omega
     case rel=>exact .inr (.inl ⟨rfl,rfl,HQ⟩)
  ·have hq:=HQ.out
   have s0:wr.cell? ⟨g,2,none⟩=some (.string ⟨#[126,49]⟩):=(hq.1.cell (World.block_lt_of_cell? w _ HO.out.2.2.1)).trans HO.out.2.2.1
   have hb1:∀ h:0 < (⟨#[126,49]⟩:ByteArray).size,((⟨#[126,49]⟩:ByteArray)[0]'h).toNat=126:=fun _=>rfl
   have hb2:∀ h:1 < (⟨#[126,49]⟩:ByteArray).size,((⟨#[126,49]⟩:ByteArray)[1]'h).toNat=49:=fun _=>rfl
   clear hq
   obtain ⟨w0,rfl⟩:∃ w0:World,w0=wr:=⟨_,rfl⟩
   go_upto_region 6 with fail
   clear s0
   go_wp2
   go_loopg [6] 2 (fun kq v6 W=>(kq=2∧v6=.int .i64 0∧Aside0 (GS w gR (.slice none 0 0) 0 (updI (updI (fun _=>0) 126 1) 48 1) W))∨(kq=1∧v6=.int .i64 1∧Aside0 (GS w gR (.slice none 0 0) 0 (updI (updI (updI (fun _=>0) 126 1) 48 1) 126 1) W))∨(kq=0∧v6=.int .i64 2∧Aside0 (GS w gR (.slice none 0 0) 0 (updI (updI (updI (updI (fun _=>0) 126 1) 48 1) 126 1) 49 1) W)))
   case atStart=>exact .inl ⟨rfl,rfl,HQ⟩
   case round =>
    clear HQ
    rcases hrel with ⟨rfl,rfl,HQ⟩ | ⟨rfl,rfl,HQ⟩ | ⟨rfl,rfl,HQ⟩
    ·have hq:=HQ.out
     have kc:=gr_map hq.2.2 126 (by decide)
     have kz:=blk_frozen hq.2.2 132
     have HQ2:=Aside0.mk (hq.drew.map 126 (by decide) 1)
     clear hq
     replace kc:wr.cell? ⟨gR,132,none⟩=some (.int .u8 ((updI (updI (fun _=>0) 126 1) 48 1) 126)):=kc
     obtain ⟨v,kc⟩:∃ v:Int,wr.cell? ⟨gR,132,none⟩=some (.int .u8 v):=⟨_,kc⟩
     go_wp2
     go_region_with (fail)
     go_wp2
     go_roundg 1
     case measure=>omega
     case rel=>exact .inr (.inl ⟨rfl,rfl,HQ2⟩)
    ·have hq:=HQ.out
     have kc:=gr_map hq.2.2 49 (by decide)
     have kz:=blk_frozen hq.2.2 55
     have HQ2:=Aside0.mk (hq.drew.map 49 (by decide) 1)
     clear hq
     replace kc:wr.cell? ⟨gR,55,none⟩=some (.int .u8 ((updI (updI (updI (fun _=>0) 126 1) 48 1) 126 1) 49)):=kc
     obtain ⟨v,kc⟩:∃ v:Int,wr.cell? ⟨gR,55,none⟩=some (.int .u8 v):=⟨_,kc⟩
     go_wp2
     go_region_with (fail)
     go_wp2
     go_roundg 0
     case measure=>omega
     case rel=>exact .inr (.inr ⟨rfl,rfl,HQ2⟩)
    ·go_wp2
     go_roundg 0
     case measure=>omega
     case rel=>exact .inr (.inr ⟨rfl,rfl,HQ⟩)
  ·have hq:=HQ.out
   rw [ones_up] at hq
   have HQ1:=Aside0.mk hq
   clear HQ hq
   go_upto_block 4 with (first | ((with_reducible refine gate_dst (N:=40) rfl ?_);refine wpList_load_mid rfl 252 (.tmp 39) rfl gR 6 rfl (mcs ones) (.array 256 5) (mcs_range HQ1.out.2.2) undM rfl (by rw [mcs_len];exact sizeM) ?_))
   go_wp2
   go_loopg [41] 256 (fun kq v41 W=>∃ k,kq=256 - k∧k≤256∧v41=.int .i64 (k:Int)∧Aside0 (GS w gR (.slice none 0 0) (cI k) ones W))
   case atStart=>exact ⟨0,rfl,by omega,rfl,HQ1⟩
   case round =>
    clear HQ1
    obtain ⟨k,hkq,hk',rfl,HQ⟩:=hrel
    by_cases hk:k < 256
    ·have hlt:decide ((k:Int) < 256)=true:=decide_eq_true (by omega)
     clear hk'
     by_cases h1:k=48
     ·subst h1
      have hb:ones 48=1:=by decide
      have hcI:cI (48+1)=1:=by decide
      have hcJ:cI 48=0:=by decide
      have HC2:=Aside0.mk (show GS w gR (.slice none 0 0) (cI (48+1)) ones (wr.setCell ⟨gR,5,none⟩ (.int .i64 1)) by rw [hcI];exact HQ.out.size _)
      have r5:wr.cell? ⟨gR,5,none⟩=some (.int .i64 0):=by have:=(gr_cells HQ.out.2.2).2.2.2.2.2;rw [hcJ] at this;exact this
      have z5:=blk_frozen HQ.out.2.2 5
      clear HQ hcI hcJ
      go_upto_region 13 with (first | ((with_reducible refine gate_dst (N:=43) rfl ?_);refine Kd.event_run rfl (index_ev ones 48 rfl rfl rfl (by decide) _) ?_;rw [hb];clear hb))
      go_wp2
      go_roundg (256 - (48+1))
      case measure=>omega
      case rel=>exact ⟨48+1,rfl,by omega,by go_num,HC2⟩
     ·by_cases h2:k=49
      ·subst h2
       have hb:ones 49=1:=by decide
       have hcI:cI (49+1)=2:=by decide
       have hcJ:cI 49=1:=by decide
       have HC2:=Aside0.mk (show GS w gR (.slice none 0 0) (cI (49+1)) ones (wr.setCell ⟨gR,5,none⟩ (.int .i64 2)) by rw [hcI];exact HQ.out.size _)
       have r5:wr.cell? ⟨gR,5,none⟩=some (.int .i64 1):=by have:=(gr_cells HQ.out.2.2).2.2.2.2.2;rw [hcJ] at this;exact this
       have z5:=blk_frozen HQ.out.2.2 5
       clear HQ hcI hcJ
       go_upto_region 13 with (first | ((with_reducible refine gate_dst (N:=43) rfl ?_);refine Kd.event_run rfl (index_ev ones 49 rfl rfl rfl (by decide) _) ?_;rw [hb];clear hb))
       go_wp2
       go_roundg (256 - (49+1))
       case measure=>omega
       case rel=>exact ⟨49+1,rfl,by omega,by go_num,HC2⟩
      ·by_cases h3:k=126
       ·subst h3
        have hb:ones 126=1:=by decide
        have hcI:cI (126+1)=3:=by decide
        have hcJ:cI 126=2:=by decide
        have HC2:=Aside0.mk (show GS w gR (.slice none 0 0) (cI (126+1)) ones (wr.setCell ⟨gR,5,none⟩ (.int .i64 3)) by rw [hcI];exact HQ.out.size _)
        have r5:wr.cell? ⟨gR,5,none⟩=some (.int .i64 2):=by have:=(gr_cells HQ.out.2.2).2.2.2.2.2;rw [hcJ] at this;exact this
        have z5:=blk_frozen HQ.out.2.2 5
        clear HQ hcI hcJ
        go_upto_region 13 with (first | ((with_reducible refine gate_dst (N:=43) rfl ?_);refine Kd.event_run rfl (index_ev ones 126 rfl rfl rfl (by decide) _) ?_;rw [hb];clear hb))
        go_wp2
        go_roundg (256 - (126+1))
        case measure=>omega
        case rel=>exact ⟨126+1,rfl,by omega,by go_num,HC2⟩
       ·have hb:ones k=0:=ones_no h1 h2 h3
        have hcI:=cI_no h1 h2 h3
        obtain ⟨cc,hcc⟩:∃ cc,cc=cI k:=⟨_,rfl⟩
        have hcb:0≤cc∧cc≤3:=by rw [hcc];exact cI_b k
        have HC2:=Aside0.mk (show GS w gR (.slice none 0 0) (cI (k+1)) ones (wr.setCell ⟨gR,5,none⟩ (.int .i64 cc)) by rw [hcI,hcc];exact HQ.out.size _)
        have r5:wr.cell? ⟨gR,5,none⟩=some (.int .i64 cc):=by rw [hcc];exact (gr_cells HQ.out.2.2).2.2.2.2.2
        have z5:=blk_frozen HQ.out.2.2 5
        obtain ⟨hc0,hc3⟩:=hcb
        clear HQ hcc hcI
        go_upto_region 13 with (first | ((with_reducible refine gate_dst (N:=43) rfl ?_);refine Kd.event_run rfl (index_ev ones k rfl rfl rfl hk _) ?_;rw [hb];clear hb))
        go_wp2
        go_roundg (256 - (k+1))
        case measure=>omega
        case rel=>exact ⟨k+1,rfl,by omega,by go_num,HC2⟩
    ·obtain rfl:k=256:=by omega
     have HQ2:=Aside0.mk (show GS w gR (.slice none 0 0) 3 (mp 0) wr by rw [mp_0];exact HQ.out)
     clear HQ hk hk'
     go_upto_block 6 with (first | ((with_reducible refine gate_dst (N:=57) rfl ?_);refine wpList_load_mid rfl 252 (.tmp 56) rfl gR 6 rfl (mcs ones) (.array 256 5) (mcs_range (show wr.heap[gR]? = some (.cells (grc (.slice none 0 0) 3 ones) 281 (0,0)) by have:=HQ2.out.2.2;rw [mp_0] at this;exact this)) undM rfl (by rw [mcs_len];exact sizeM) ?_))
     obtain ⟨w3,rfl⟩:∃ w3:World,w3=wr:=⟨_,rfl⟩
     go_wp2
     go_loopg [9,58] 256 (fun kq v9 v58 W=>∃ k,kq=256 - k∧k≤256∧v9=.int .u8 (cI k)∧v58=.int .i64 (k:Int)∧Aside0 (GS w gR (.slice none 0 0) 3 (mp k) W))
     case atStart=>exact ⟨0,rfl,by omega,rfl,rfl,HQ2⟩
     case round =>
      clear HQ2
      obtain ⟨k,hkq,hk',rfl,rfl,HQ⟩:=hrel
      by_cases hk:k < 256
      ·have hlt:decide ((k:Int) < 256)=true:=decide_eq_true (by omega)
       clear hk'
       by_cases h1:k=48
       ·subst h1
        have hb:ones 48=1:=by decide
        have hcI:cI (48+1)=1:=by decide
        have hcJ:cI 48=0:=by decide
        have HC2:=Aside0.mk (show GS w gR (.slice none 0 0) 3 (mp (48+1)) (wr.setCell ⟨gR,54,none⟩ (.int .u8 0)) by rw [←mp_next,show fin 48=0 from by decide];exact HQ.out.map 48 (by decide) _)
        obtain ⟨v,kc⟩:∃ v,wr.cell? ⟨gR,54,none⟩=some v:=⟨_,gr_map HQ.out.2.2 48 (by decide)⟩
        have z5:=blk_frozen HQ.out.2.2 54
        have HI:=Aside0.mk hcI
        clear HQ hcI
        rw [hcJ]
        clear hcJ
        go_upto_region 19 with (first | ((with_reducible refine gate_dst (N:=61) rfl ?_);refine Kd.event_run rfl (index_ev ones 48 rfl rfl rfl (by decide) _) ?_;rw [hb];clear hb))
        go_wp2
        go_roundg (256 - (48+1))
        case measure=>omega
        case rel=>exact ⟨48+1,rfl,by omega,by rw [HI.out],by go_num,HC2⟩
       ·by_cases h2:k=49
        ·subst h2
         have hb:ones 49=1:=by decide
         have hcI:cI (49+1)=2:=by decide
         have hcJ:cI 49=1:=by decide
         have HC2:=Aside0.mk (show GS w gR (.slice none 0 0) 3 (mp (49+1)) (wr.setCell ⟨gR,55,none⟩ (.int .u8 1)) by rw [←mp_next,show fin 49=1 from by decide];exact HQ.out.map 49 (by decide) _)
         obtain ⟨v,kc⟩:∃ v,wr.cell? ⟨gR,55,none⟩=some v:=⟨_,gr_map HQ.out.2.2 49 (by decide)⟩
         have z5:=blk_frozen HQ.out.2.2 55
         have HI:=Aside0.mk hcI
         clear HQ hcI
         rw [hcJ]
         clear hcJ
         go_upto_region 19 with (first | ((with_reducible refine gate_dst (N:=61) rfl ?_);refine Kd.event_run rfl (index_ev ones 49 rfl rfl rfl (by decide) _) ?_;rw [hb];clear hb))
         go_wp2
         go_roundg (256 - (49+1))
         case measure=>omega
         case rel=>exact ⟨49+1,rfl,by omega,by rw [HI.out],by go_num,HC2⟩
        ·by_cases h3:k=126
         ·subst h3
          have hb:ones 126=1:=by decide
          have hcI:cI (126+1)=3:=by decide
          have hcJ:cI 126=2:=by decide
          have HC2:=Aside0.mk (show GS w gR (.slice none 0 0) 3 (mp (126+1)) (wr.setCell ⟨gR,132,none⟩ (.int .u8 2)) by rw [←mp_next,show fin 126=2 from by decide];exact HQ.out.map 126 (by decide) _)
          obtain ⟨v,kc⟩:∃ v,wr.cell? ⟨gR,132,none⟩=some v:=⟨_,gr_map HQ.out.2.2 126 (by decide)⟩
          have z5:=blk_frozen HQ.out.2.2 132
          have HI:=Aside0.mk hcI
          clear HQ hcI
          rw [hcJ]
          clear hcJ
          go_upto_region 19 with (first | ((with_reducible refine gate_dst (N:=61) rfl ?_);refine Kd.event_run rfl (index_ev ones 126 rfl rfl rfl (by decide) _) ?_;rw [hb];clear hb))
          go_wp2
          go_roundg (256 - (126+1))
          case measure=>omega
          case rel=>exact ⟨126+1,rfl,by omega,by rw [HI.out],by go_num,HC2⟩
         ·have hb:mp k k=0:=by rw [mp_at];exact ones_no h1 h2 h3
          have hcI:=Aside0.mk (cI_no h1 h2 h3)
          have hf3:=fin_no h1 h2 h3
          have HC2:=Aside0.mk (show GS w gR (.slice none 0 0) 3 (mp (k+1)) (wr.drew.setCell ⟨gR,6+k,none⟩ (.int .u8 3)) by rw [←mp_next,hf3];exact HQ.out.drew.map k hk _)
          have r5:wr.cell? ⟨gR,5,none⟩=some (.int .i64 3):=(gr_cells HQ.out.2.2).2.2.2.2.2
          obtain ⟨v,kc⟩:∃ v,wr.cell? ⟨gR,6+k,none⟩=some v:=⟨_,gr_map HQ.out.2.2 k hk⟩
          have z5:=blk_frozen HQ.out.2.2 (6+k)
          have hk0:(0:Int)≤(k:Int):=by omega
          have hk1:(k:Int) < 256:=by omega
          clear HQ hf3
          go_upto_region 19 with (first | ((with_reducible refine gate_dst (N:=61) rfl ?_);refine Kd.event_run rfl (index_ev ones k rfl rfl rfl hk _) ?_;rw [show ones k=0 from ones_no h1 h2 h3]))
          go_wp2
          go_region_with (fail)
          go_wp2
          go_roundg (256 - (k+1))
          case measure=>omega
          case rel=>exact ⟨k+1,rfl,by omega,by rw [hcI.out],by go_num,HC2⟩
      ·obtain rfl:k=256:=by omega
       have r5:wr.cell? ⟨gR,5,none⟩=some (.int .i64 3):=(gr_cells HQ.out.2.2).2.2.2.2.2
       clear hk hk'
       have d4:wr.cell? ⟨gR,4,none⟩=some (.slice none 0 0):=(gr_cells HQ.out.2.2).2.2.2.2.1
       have y4:=blk_frozen HQ.out.2.2 4
       go_upto_region 25 with (first | ((with_reducible refine gate_dst (N:=88) rfl ?_);refine Kd.event_run rfl (make3_ev rfl rfl _) ?_;obtain ⟨W4,hW4⟩:∃ W,W=wr.alloc (.cells #[.pointer none,.pointer none,.pointer none] 276):=⟨_,rfl⟩;obtain ⟨gT,hgT⟩:∃ g,g=wr.heap.size:=⟨_,rfl⟩;have B4:=Aside0.mk (show Below wr.heap.size wr W4 by rw [hW4];exact below_alloc (Below.refl _ _) _);have T4:=Aside0.mk (show W4.heap[gT]? = some (.cells #[.pointer none,.pointer none,.pointer none] 276 (0,0)) by rw [hW4,hgT];exact blk_new wr _);have LT:=Aside0.mk (show gR < gT by rw [hgT];exact blk_lt HQ.out.2.2);rw [←hW4,←hgT];clear hW4 hgT;have d4:W4.cell? ⟨gR,4,none⟩=some (.slice none 0 0):=(gr_cells (blk_below HQ.out.2.2 B4.out)).2.2.2.2.1;have y4:=blk_frozen (blk_below HQ.out.2.2 B4.out) 4))
       obtain ⟨W5,hW5⟩:∃ W,W=W4.setCell ⟨gR,4,none⟩ (.slice (some ⟨gT,0,none⟩) 3 3):=⟨_,rfl⟩
       rw [←hW5]
       have R5:=Aside0.mk (show W5.heap[gR]? = some (.cells (grc (.slice (some ⟨gT,0,none⟩) 3 3) 3 (mp 256)) 281 (0,0)) by rw [hW5];have:=blk_set (blk_below HQ.out.2.2 B4.out) 4 (.slice (some ⟨gT,0,none⟩) 3 3);rw [grc_set4] at this;exact this)
       have T5:=Aside0.mk (show W5.heap[gT]? = some (.cells #[.pointer none,.pointer none,.pointer none] 276 (0,0)) by rw [hW5];exact blk_far T4.out (show gT≠gR from Nat.ne_of_gt LT.out) _)
       have B5:=Aside0.mk (show Below w.heap.size w W5 by rw [hW5];exact below_set (below_step HQ.out.1 B4.out) HQ.out.2.1)
       have GE:=Aside0.mk (show w.heap.size≤gR∧w.heap.size≤gT by have:=HQ.out.2.1;have:=LT.out;omega)
       clear hW5 HQ B4 T4 d4 y4 r5 hkq
       go_wp2
       go_loopg [12] 2 (fun kq v12 W=>(kq=2∧v12=.int .i64 0∧W=W5)∨(kq=1∧v12=.int .i64 2∧∃ n1 n2,Aside0 (Below w.heap.size w W∧(w.heap.size≤n1∧w.heap.size≤n2)∧W.heap[gR]? = some (.cells (grc (.slice (some ⟨gT,0,none⟩) 3 3) 3 (mp 256)) 281 (0,0))∧W.heap[gT]? = some (.cells #[.pointer none,.pointer none,.pointer (some ⟨n1,0,none⟩)] 276 (0,0))∧W.heap[n1]? = some (.cells (nd5 (⟨#[]⟩:ByteArray) 0 ⟨#[48]⟩ (.pointer (some ⟨n2,0,none⟩)) (.slice none 0 0)) 279 (0,0))∧W.heap[n2]? = some (.cells (nd5 ⟨#[126]⟩ 4 (⟨#[]⟩:ByteArray) (.pointer none) (.slice none 0 0)) 279 (0,0))))∨(kq=0∧v12=.int .i64 4∧Aside0 (RepU w W gR)))
       case atStart=>exact .inl ⟨rfl,rfl,rfl⟩
       case round =>
        rcases hrel with ⟨rfl,rfl,rfl⟩ | ⟨rfl,rfl,n1,n2,HQ⟩ | ⟨rfl,rfl,HQ⟩
        ·have s0:wr.cell? ⟨g,0,none⟩=some (.string ⟨#[126,48]⟩):=(B5.out.cell (World.block_lt_of_cell? w _ HO.out.1)).trans HO.out.1
         have s1:wr.cell? ⟨g,1,none⟩=some (.string ⟨#[126]⟩):=(B5.out.cell (World.block_lt_of_cell? w _ HO.out.2.1)).trans HO.out.2.1
         have hw1:wrap64 1=1:=by unfold wrap64;omega
         have hw2:wrap64 2=2:=by unfold wrap64;omega
         have hw3:wrap64 3=3:=by unfold wrap64;omega
         have hw4:wrap64 4=4:=by unfold wrap64;omega
         go_upto_region 28 with fail
         refine start_ (n:=18) (S:=fun w'=>w'.cell? ⟨g,0,none⟩=some (.string ⟨#[126,48]⟩)∧w'.cell? ⟨g,1,none⟩=some (.string ⟨#[126]⟩)) (ds:=[]) #[false,false,false,false,false,false,false,false,false,false,false,false,false,false,false,false,false,false] (by kernel_rfl) rfl rfl ⟨s0,s1⟩ (fun hHeld=>?_)
         refine pure_ (i:=0) (N:=(some 98)) (v:=?_) (a':=?_) #[true,false,false,false,false,false,false,false,false,false,false,false,false,false,false,false,false,false] rfl rfl (by kernel_rfl) (fun _ _ _ h=>h) (Or.inl ⟨by rfl,?_⟩) ?_ ?_
         rotate_left
         ·intro w'
          go_simp
          with_reducible rfl
         rotate_left
         ·simp only [Act.put,List.setIfInBounds_toArray,List.set_cons_zero,List.set_cons_succ,i64_w,i32_w]
          rfl
         refine pure_ (i:=1) (N:=(some 99)) (v:=?_) (a':=?_) #[true,true,false,false,false,false,false,false,false,false,false,false,false,false,false,false,false,false] rfl rfl (by kernel_rfl) (fun _ _ _ h=>h) (Or.inl ⟨by rfl,?_⟩) ?_ ?_
         rotate_left
         ·intro w'
          go_simp
          with_reducible rfl
         rotate_left
         ·simp only [Act.put,List.setIfInBounds_toArray,List.set_cons_zero,List.set_cons_succ,i64_w,i32_w]
          rfl
         refine pure_ (i:=2) (N:=(some 100)) (v:=?_) (a':=?_) #[true,true,true,false,false,false,false,false,false,false,false,false,false,false,false,false,false,false] rfl rfl (by kernel_rfl) (fun _ _ _ h=>h) (Or.inl ⟨by rfl,?_⟩) ?_ ?_
         rotate_left
         ·intro w'
          go_simp
          with_reducible rfl
         rotate_left
         ·simp only [Act.put,List.setIfInBounds_toArray,List.set_cons_zero,List.set_cons_succ,i64_w,i32_w]
          rfl
         refine pure_ (i:=3) (N:=(some 101)) (v:=?_) (a':=?_) #[true,true,true,true,false,false,false,false,false,false,false,false,false,false,false,false,false,false] rfl rfl (by kernel_rfl) (fun _ _ _ h=>h) (Or.inl ⟨by rfl,?_⟩) ?_ ?_
         rotate_left
         ·intro w'
          go_simp
          with_reducible rfl
         rotate_left
         ·simp only [Act.put,List.setIfInBounds_toArray,List.set_cons_zero,List.set_cons_succ,i64_w,i32_w]
          rfl
         refine pure_ (i:=4) (N:=(some 102)) (v:=?_) (a':=?_) #[true,true,true,true,true,false,false,false,false,false,false,false,false,false,false,false,false,false] rfl rfl (by kernel_rfl) (fun _ _ _ h=>h) (Or.inl ⟨by rfl,?_⟩) ?_ ?_
         rotate_left
         ·intro w'
          go_simp
          with_reducible rfl
         rotate_left
         ·simp only [Act.put,List.setIfInBounds_toArray,List.set_cons_zero,List.set_cons_succ,i64_w,i32_w]
          rfl
         refine pure_ (i:=5) (N:=(some 103)) (v:=?_) (a':=?_) #[true,true,true,true,true,true,false,false,false,false,false,false,false,false,false,false,false,false] rfl rfl (by kernel_rfl) (fun _ _ _ h=>h) (Or.inl ⟨by rfl,?_⟩) ?_ ?_
         rotate_left
         ·intro w'
          go_simp
          with_reducible rfl
         rotate_left
         ·simp only [Act.put,List.setIfInBounds_toArray,List.set_cons_zero,List.set_cons_succ,i64_w,i32_w]
          rfl
         refine pure_ (i:=7) (N:=(some 105)) (v:=?_) (a':=?_) #[true,true,true,true,true,true,false,true,false,false,false,false,false,false,false,false,false,false] rfl rfl (by kernel_rfl) (fun _ _ _ h=>h) (Or.inl ⟨by rfl,?_⟩) ?_ ?_
         rotate_left
         ·intro w'
          go_simp
          with_reducible rfl
         rotate_left
         ·simp only [Act.put,List.setIfInBounds_toArray,List.set_cons_zero,List.set_cons_succ,i64_w,i32_w]
          rfl
         refine pure_ (i:=8) (N:=(some 106)) (v:=?_) (a':=?_) #[true,true,true,true,true,true,false,true,true,false,false,false,false,false,false,false,false,false] rfl rfl (by kernel_rfl) (fun _ _ _ h=>h) (Or.inl ⟨by rfl,?_⟩) ?_ ?_
         rotate_left
         ·intro w'
          go_simp
          with_reducible rfl
         rotate_left
         ·simp only [Act.put,List.setIfInBounds_toArray,List.set_cons_zero,List.set_cons_succ,i64_w,i32_w]
          rfl
         refine pure_ (i:=9) (N:=(some 107)) (v:=?_) (a':=?_) #[true,true,true,true,true,true,false,true,true,true,false,false,false,false,false,false,false,false] rfl rfl (by kernel_rfl) (fun _ _ _ h=>h) (Or.inl ⟨by rfl,?_⟩) ?_ ?_
         rotate_left
         ·intro w'
          go_simp
          with_reducible rfl
         rotate_left
         ·simp only [Act.put,List.setIfInBounds_toArray,List.set_cons_zero,List.set_cons_succ,i64_w,i32_w]
          rfl
         refine pure_ (i:=10) (N:=(some 108)) (v:=?_) (a':=?_) #[true,true,true,true,true,true,false,true,true,true,true,false,false,false,false,false,false,false] rfl rfl (by kernel_rfl) (fun _ _ _ h=>h) (Or.inl ⟨by rfl,?_⟩) ?_ ?_
         rotate_left
         ·intro w'
          go_simp
          with_reducible rfl
         rotate_left
         ·simp only [Act.put,List.setIfInBounds_toArray,List.set_cons_zero,List.set_cons_succ,i64_w,i32_w]
          rfl
         refine pure_ (i:=12) (N:=(some 110)) (v:=?_) (a':=?_) #[true,true,true,true,true,true,false,true,true,true,true,false,true,false,false,false,false,false] rfl rfl (by kernel_rfl) (fun _ _ _ h=>h) (Or.inl ⟨by rfl,?_⟩) ?_ ?_
         rotate_left
         ·intro w'
          go_simp
          with_reducible rfl
         rotate_left
         ·simp only [Act.put,List.setIfInBounds_toArray,List.set_cons_zero,List.set_cons_succ,i64_w,i32_w]
          rfl
         refine pure_ (i:=13) (N:=(some 111)) (v:=?_) (a':=?_) #[true,true,true,true,true,true,false,true,true,true,true,false,true,true,false,false,false,false] rfl rfl (by kernel_rfl) (fun _ _ _ h=>h) (Or.inl ⟨by rfl,?_⟩) ?_ ?_
         rotate_left
         ·intro w'
          go_simp
          with_reducible rfl
         rotate_left
         ·simp only [Act.put,List.setIfInBounds_toArray,List.set_cons_zero,List.set_cons_succ,i64_w,i32_w]
          rfl
         refine pure_ (i:=14) (N:=(some 112)) (v:=?_) (a':=?_) #[true,true,true,true,true,true,false,true,true,true,true,false,true,true,true,false,false,false] rfl rfl (by kernel_rfl) (fun _ _ _ h=>h) (Or.inl ⟨by rfl,?_⟩) ?_ ?_
         rotate_left
         ·intro w'
          go_simp
          with_reducible rfl
         rotate_left
         ·simp only [Act.put,List.setIfInBounds_toArray,List.set_cons_zero,List.set_cons_succ,i64_w,i32_w]
          rfl
         refine pure_ (i:=15) (N:=(some 113)) (v:=?_) (a':=?_) #[true,true,true,true,true,true,false,true,true,true,true,false,true,true,true,true,false,false] rfl rfl (by kernel_rfl) (fun _ _ _ h=>h) (Or.inl ⟨by rfl,?_⟩) ?_ ?_
         rotate_left
         ·intro w'
          go_simp
          with_reducible rfl
         rotate_left
         ·simp only [Act.put,List.setIfInBounds_toArray,List.set_cons_zero,List.set_cons_succ,i64_w,i32_w]
          rfl
         refine pure_ (i:=16) (N:=(some 114)) (v:=?_) (a':=?_) #[true,true,true,true,true,true,false,true,true,true,true,false,true,true,true,true,true,false] rfl rfl (by kernel_rfl) (fun _ _ _ h=>h) (Or.inl ⟨by rfl,?_⟩) ?_ ?_
         rotate_left
         ·intro w'
          go_simp
          with_reducible rfl
         rotate_left
         ·simp only [Act.put,List.setIfInBounds_toArray,List.set_cons_zero,List.set_cons_succ,i64_w,i32_w]
          rfl
         refine take_ (i:=6) (N:=(some 104)) (v:=?_) (a':=?_) #[true,true,true,true,true,true,true,true,true,true,true,false,true,true,true,true,true,false] rfl rfl (by kernel_rfl) (fun _ _ _ h=>h) (Or.inl ⟨by rfl,?_⟩) hHeld ?_ ?_
         rotate_left
         ·rintro w' ⟨s0,s1⟩
          go_simp
          with_reducible rfl
         rotate_left
         ·simp only [Act.put,List.setIfInBounds_toArray,List.set_cons_zero,List.set_cons_succ,i64_w,i32_w]
          rfl
         refine take_ (i:=11) (N:=(some 109)) (v:=?_) (a':=?_) #[true,true,true,true,true,true,true,true,true,true,true,true,true,true,true,true,true,false] rfl rfl (by kernel_rfl) (fun _ _ _ h=>h) (Or.inl ⟨by rfl,?_⟩) hHeld ?_ ?_
         rotate_left
         ·rintro w' ⟨s0,s1⟩
          go_simp
          with_reducible rfl
         rotate_left
         ·simp only [Act.put,List.setIfInBounds_toArray,List.set_cons_zero,List.set_cons_succ,i64_w,i32_w]
          rfl
         refine one_ (i:=17) (N:=(some 115)) #[true,true,true,true,true,true,true,true,true,true,true,true,true,true,true,true,true,true] rfl rfl (by kernel_rfl) (by decide) (fun K hK=>?_)
         try rw [hw4]
         refine goes_ Tryz.func237 (by kernel_rfl) rfl #[.pointer (some ⟨gR,0,none⟩),.string ⟨#[126,48]⟩,.string ⟨#[126]⟩,.int .i64 4,.pointer (some ⟨gR,0,none⟩)] (by rfl) rfl rfl (by (try simp only [List.map_toArray,List.map_cons,List.map_nil]);first | done | rfl) ?_
         refine (add_root1 gR gT ⟨#[126]⟩ 4 (mp 256) wr.drew (blk_drew R5.out) (blk_drew T5.out) (mp_256 126 (by decide))).mono ?_
         rintro e W3 ⟨rfl,n1,n2,q1,q2,q3,q4,q5,q6,q7⟩
         refine ⟨_,rfl,?_⟩
         have M:=Aside0.mk (And.intro q1 (And.intro q2 (And.intro q3 (And.intro q4 (And.intro q5 q6)))))
         have WW:=Aside0.mk q7
         clear q1 q2 q3 q4 q5 q6 q7
         refine hK.out _ _ ⟨((WW.out w (below_drew1 B5.out) GE.out.2).cell (World.block_lt_of_cell? w _ HO.out.1)).trans HO.out.1,((WW.out w (below_drew1 B5.out) GE.out.2).cell (World.block_lt_of_cell? w _ HO.out.2.1)).trans HO.out.2.1⟩ (fun hHeld=>?_)
         clear hK K
         refine norm_ (a':=?_) ?_ ?_
         rotate_left
         ·show Act.put _ (some 115) _=_
          simp only [Act.put,List.setIfInBounds_toArray,List.set_cons_zero,List.set_cons_succ,i64_w,i32_w]
          rfl
         refine done_ (by kernel_rfl) ?_
         have RU:=Aside0.mk (show Below w.heap.size w W3∧(w.heap.size≤n1∧w.heap.size≤n2)∧_∧_∧_∧_ from ⟨WW.out w (below_drew1 B5.out) GE.out.2,⟨Nat.le_trans B5.out.size M.out.1,Nat.le_trans B5.out.size M.out.2.1⟩,blk_kept (blk_drew R5.out) M.out.2.2.2.2.2 (fun e=>absurd e (Nat.ne_of_lt LT.out)),M.out.2.2.1,M.out.2.2.2.1,M.out.2.2.2.2.1⟩)
         go_wp2
         go_roundg 1
         case measure=>omega
         case rel=>exact .inr (.inl ⟨rfl,rfl,n1,n2,RU⟩)
        ·have s0:wr.cell? ⟨g,2,none⟩=some (.string ⟨#[126,49]⟩):=(HQ.out.1.cell (World.block_lt_of_cell? w _ HO.out.2.2.1)).trans HO.out.2.2.1
         have s1:wr.cell? ⟨g,3,none⟩=some (.string ⟨#[47]⟩):=(HQ.out.1.cell (World.block_lt_of_cell? w _ HO.out.2.2.2)).trans HO.out.2.2.2
         clear R5 T5 B5
         have hw1:wrap64 1=1:=by unfold wrap64;omega
         have hw2:wrap64 2=2:=by unfold wrap64;omega
         have hw3:wrap64 3=3:=by unfold wrap64;omega
         have hw4:wrap64 4=4:=by unfold wrap64;omega
         go_upto_region 28 with fail
         refine start_ (n:=18) (S:=fun w'=>w'.cell? ⟨g,2,none⟩=some (.string ⟨#[126,49]⟩)∧w'.cell? ⟨g,3,none⟩=some (.string ⟨#[47]⟩)) (ds:=[]) #[false,false,false,false,false,false,false,false,false,false,false,false,false,false,false,false,false,false] (by kernel_rfl) rfl rfl ⟨s0,s1⟩ (fun hHeld=>?_)
         refine pure_ (i:=0) (N:=(some 98)) (v:=?_) (a':=?_) #[true,false,false,false,false,false,false,false,false,false,false,false,false,false,false,false,false,false] rfl rfl (by kernel_rfl) (fun _ _ _ h=>h) (Or.inl ⟨by rfl,?_⟩) ?_ ?_
         rotate_left
         ·intro w'
          go_simp
          with_reducible rfl
         rotate_left
         ·simp only [Act.put,List.setIfInBounds_toArray,List.set_cons_zero,List.set_cons_succ,i64_w,i32_w]
          rfl
         refine pure_ (i:=1) (N:=(some 99)) (v:=?_) (a':=?_) #[true,true,false,false,false,false,false,false,false,false,false,false,false,false,false,false,false,false] rfl rfl (by kernel_rfl) (fun _ _ _ h=>h) (Or.inl ⟨by rfl,?_⟩) ?_ ?_
         rotate_left
         ·intro w'
          go_simp
          with_reducible rfl
         rotate_left
         ·simp only [Act.put,List.setIfInBounds_toArray,List.set_cons_zero,List.set_cons_succ,i64_w,i32_w]
          rfl
         refine pure_ (i:=2) (N:=(some 100)) (v:=?_) (a':=?_) #[true,true,true,false,false,false,false,false,false,false,false,false,false,false,false,false,false,false] rfl rfl (by kernel_rfl) (fun _ _ _ h=>h) (Or.inl ⟨by rfl,?_⟩) ?_ ?_
         rotate_left
         ·intro w'
          go_simp
          with_reducible rfl
         rotate_left
         ·simp only [Act.put,List.setIfInBounds_toArray,List.set_cons_zero,List.set_cons_succ,i64_w,i32_w]
          rfl
         refine pure_ (i:=3) (N:=(some 101)) (v:=?_) (a':=?_) #[true,true,true,true,false,false,false,false,false,false,false,false,false,false,false,false,false,false] rfl rfl (by kernel_rfl) (fun _ _ _ h=>h) (Or.inl ⟨by rfl,?_⟩) ?_ ?_
         rotate_left
         ·intro w'
          go_simp
          with_reducible rfl
         rotate_left
         ·simp only [Act.put,List.setIfInBounds_toArray,List.set_cons_zero,List.set_cons_succ,i64_w,i32_w]
          rfl
         refine pure_ (i:=4) (N:=(some 102)) (v:=?_) (a':=?_) #[true,true,true,true,true,false,false,false,false,false,false,false,false,false,false,false,false,false] rfl rfl (by kernel_rfl) (fun _ _ _ h=>h) (Or.inl ⟨by rfl,?_⟩) ?_ ?_
         rotate_left
         ·intro w'
          go_simp
          with_reducible rfl
         rotate_left
         ·simp only [Act.put,List.setIfInBounds_toArray,List.set_cons_zero,List.set_cons_succ,i64_w,i32_w]
          rfl
         refine pure_ (i:=5) (N:=(some 103)) (v:=?_) (a':=?_) #[true,true,true,true,true,true,false,false,false,false,false,false,false,false,false,false,false,false] rfl rfl (by kernel_rfl) (fun _ _ _ h=>h) (Or.inl ⟨by rfl,?_⟩) ?_ ?_
         rotate_left
         ·intro w'
          go_simp
          with_reducible rfl
         rotate_left
         ·simp only [Act.put,List.setIfInBounds_toArray,List.set_cons_zero,List.set_cons_succ,i64_w,i32_w]
          rfl
         refine pure_ (i:=7) (N:=(some 105)) (v:=?_) (a':=?_) #[true,true,true,true,true,true,false,true,false,false,false,false,false,false,false,false,false,false] rfl rfl (by kernel_rfl) (fun _ _ _ h=>h) (Or.inl ⟨by rfl,?_⟩) ?_ ?_
         rotate_left
         ·intro w'
          go_simp
          with_reducible rfl
         rotate_left
         ·simp only [Act.put,List.setIfInBounds_toArray,List.set_cons_zero,List.set_cons_succ,i64_w,i32_w]
          rfl
         refine pure_ (i:=8) (N:=(some 106)) (v:=?_) (a':=?_) #[true,true,true,true,true,true,false,true,true,false,false,false,false,false,false,false,false,false] rfl rfl (by kernel_rfl) (fun _ _ _ h=>h) (Or.inl ⟨by rfl,?_⟩) ?_ ?_
         rotate_left
         ·intro w'
          go_simp
          with_reducible rfl
         rotate_left
         ·simp only [Act.put,List.setIfInBounds_toArray,List.set_cons_zero,List.set_cons_succ,i64_w,i32_w]
          rfl
         refine pure_ (i:=9) (N:=(some 107)) (v:=?_) (a':=?_) #[true,true,true,true,true,true,false,true,true,true,false,false,false,false,false,false,false,false] rfl rfl (by kernel_rfl) (fun _ _ _ h=>h) (Or.inl ⟨by rfl,?_⟩) ?_ ?_
         rotate_left
         ·intro w'
          go_simp
          with_reducible rfl
         rotate_left
         ·simp only [Act.put,List.setIfInBounds_toArray,List.set_cons_zero,List.set_cons_succ,i64_w,i32_w]
          rfl
         refine pure_ (i:=10) (N:=(some 108)) (v:=?_) (a':=?_) #[true,true,true,true,true,true,false,true,true,true,true,false,false,false,false,false,false,false] rfl rfl (by kernel_rfl) (fun _ _ _ h=>h) (Or.inl ⟨by rfl,?_⟩) ?_ ?_
         rotate_left
         ·intro w'
          go_simp
          with_reducible rfl
         rotate_left
         ·simp only [Act.put,List.setIfInBounds_toArray,List.set_cons_zero,List.set_cons_succ,i64_w,i32_w]
          rfl
         refine pure_ (i:=12) (N:=(some 110)) (v:=?_) (a':=?_) #[true,true,true,true,true,true,false,true,true,true,true,false,true,false,false,false,false,false] rfl rfl (by kernel_rfl) (fun _ _ _ h=>h) (Or.inl ⟨by rfl,?_⟩) ?_ ?_
         rotate_left
         ·intro w'
          go_simp
          with_reducible rfl
         rotate_left
         ·simp only [Act.put,List.setIfInBounds_toArray,List.set_cons_zero,List.set_cons_succ,i64_w,i32_w]
          rfl
         refine pure_ (i:=13) (N:=(some 111)) (v:=?_) (a':=?_) #[true,true,true,true,true,true,false,true,true,true,true,false,true,true,false,false,false,false] rfl rfl (by kernel_rfl) (fun _ _ _ h=>h) (Or.inl ⟨by rfl,?_⟩) ?_ ?_
         rotate_left
         ·intro w'
          go_simp
          with_reducible rfl
         rotate_left
         ·simp only [Act.put,List.setIfInBounds_toArray,List.set_cons_zero,List.set_cons_succ,i64_w,i32_w]
          rfl
         refine pure_ (i:=14) (N:=(some 112)) (v:=?_) (a':=?_) #[true,true,true,true,true,true,false,true,true,true,true,false,true,true,true,false,false,false] rfl rfl (by kernel_rfl) (fun _ _ _ h=>h) (Or.inl ⟨by rfl,?_⟩) ?_ ?_
         rotate_left
         ·intro w'
          go_simp
          with_reducible rfl
         rotate_left
         ·simp only [Act.put,List.setIfInBounds_toArray,List.set_cons_zero,List.set_cons_succ,i64_w,i32_w]
          rfl
         refine pure_ (i:=15) (N:=(some 113)) (v:=?_) (a':=?_) #[true,true,true,true,true,true,false,true,true,true,true,false,true,true,true,true,false,false] rfl rfl (by kernel_rfl) (fun _ _ _ h=>h) (Or.inl ⟨by rfl,?_⟩) ?_ ?_
         rotate_left
         ·intro w'
          go_simp
          with_reducible rfl
         rotate_left
         ·simp only [Act.put,List.setIfInBounds_toArray,List.set_cons_zero,List.set_cons_succ,i64_w,i32_w]
          rfl
         refine pure_ (i:=16) (N:=(some 114)) (v:=?_) (a':=?_) #[true,true,true,true,true,true,false,true,true,true,true,false,true,true,true,true,true,false] rfl rfl (by kernel_rfl) (fun _ _ _ h=>h) (Or.inl ⟨by rfl,?_⟩) ?_ ?_
         rotate_left
         ·intro w'
          go_simp
          with_reducible rfl
         rotate_left
         ·simp only [Act.put,List.setIfInBounds_toArray,List.set_cons_zero,List.set_cons_succ,i64_w,i32_w]
          rfl
         refine take_ (i:=6) (N:=(some 104)) (v:=?_) (a':=?_) #[true,true,true,true,true,true,true,true,true,true,true,false,true,true,true,true,true,false] rfl rfl (by kernel_rfl) (fun _ _ _ h=>h) (Or.inl ⟨by rfl,?_⟩) hHeld ?_ ?_
         rotate_left
         ·rintro w' ⟨s0,s1⟩
          go_simp
          with_reducible rfl
         rotate_left
         ·simp only [Act.put,List.setIfInBounds_toArray,List.set_cons_zero,List.set_cons_succ,i64_w,i32_w]
          rfl
         refine take_ (i:=11) (N:=(some 109)) (v:=?_) (a':=?_) #[true,true,true,true,true,true,true,true,true,true,true,true,true,true,true,true,true,false] rfl rfl (by kernel_rfl) (fun _ _ _ h=>h) (Or.inl ⟨by rfl,?_⟩) hHeld ?_ ?_
         rotate_left
         ·rintro w' ⟨s0,s1⟩
          go_simp
          with_reducible rfl
         rotate_left
         ·simp only [Act.put,List.setIfInBounds_toArray,List.set_cons_zero,List.set_cons_succ,i64_w,i32_w]
          rfl
         refine one_ (i:=17) (N:=(some 115)) #[true,true,true,true,true,true,true,true,true,true,true,true,true,true,true,true,true,true] rfl rfl (by kernel_rfl) (by decide) (fun K hK=>?_)
         try rw [hw2]
         refine goes_ Tryz.func237 (by kernel_rfl) rfl #[.pointer (some ⟨gR,0,none⟩),.string ⟨#[126,49]⟩,.string ⟨#[47]⟩,.int .i64 2,.pointer (some ⟨gR,0,none⟩)] (by rfl) rfl rfl (by (try simp only [List.map_toArray,List.map_cons,List.map_nil]);first | done | rfl) ?_
         refine (add_root2 gR gT n1 n2 ⟨#[47]⟩ 2 (mp 256) wr.drew (blk_drew HQ.out.2.2.1) (blk_drew HQ.out.2.2.2.1) (blk_drew HQ.out.2.2.2.2.1) (mp_256 126 (by decide)) (mp_256 48 (by decide)) (mp_256 49 (by decide))).mono ?_
         rintro e W3 ⟨rfl,gU,n3,q1,q2,q3,q4,q5,q6,q7⟩
         refine ⟨_,rfl,?_⟩
         have M:=Aside0.mk (And.intro q1 (And.intro q2 (And.intro q3 (And.intro q4 (And.intro q5 q6)))))
         have WW:=Aside0.mk q7
         clear q1 q2 q3 q4 q5 q6 q7
         refine hK.out _ _ ⟨((WW.out w (below_drew1 HQ.out.1) HQ.out.2.1.1).cell (World.block_lt_of_cell? w _ HO.out.2.2.1)).trans HO.out.2.2.1,((WW.out w (below_drew1 HQ.out.1) HQ.out.2.1.1).cell (World.block_lt_of_cell? w _ HO.out.2.2.2)).trans HO.out.2.2.2⟩ (fun hHeld=>?_)
         clear hK K
         refine norm_ (a':=?_) ?_ ?_
         rotate_left
         ·show Act.put _ (some 115) _=_
          simp only [Act.put,List.setIfInBounds_toArray,List.set_cons_zero,List.set_cons_succ,i64_w,i32_w]
          rfl
         refine done_ (by kernel_rfl) ?_
         have NEQ:=Aside0.mk (show gR≠n1∧gT≠n1 from ⟨blk_ne HQ.out.2.2.1 HQ.out.2.2.2.2.1 (by decide),blk_ne HQ.out.2.2.2.1 HQ.out.2.2.2.2.1 (by decide)⟩)
         have N2E:=Aside0.mk (show n2≠n1 from fun e=>by have q1:=HQ.out.2.2.2.2.1;have q2:=HQ.out.2.2.2.2.2;rw [e,q1] at q2;simp [nd5] at q2)
         have RU:=Aside0.mk (show RepU w W3 gR from ⟨WW.out w (below_drew1 HQ.out.1) HQ.out.2.1.1,gT,n1,gU,n2,n3,⟨mp 256,mp_256,blk_kept (blk_drew HQ.out.2.2.1) M.out.2.2.2.2.2 (fun e=>NEQ.out.1 e)⟩,blk_kept (blk_drew HQ.out.2.2.2.1) M.out.2.2.2.2.2 (fun e=>NEQ.out.2 e),M.out.2.2.1,M.out.2.2.2.1,blk_kept (blk_drew HQ.out.2.2.2.2.2) M.out.2.2.2.2.2 (fun e=>N2E.out e),M.out.2.2.2.2.1⟩)
         go_wp2
         go_roundg 0
         case measure=>omega
         case rel=>exact .inr (.inr ⟨rfl,rfl,RU⟩)
        ·go_wp2
         go_ret
         exact ⟨gR,rfl,HQ.out⟩
end Go.Proofs.YtoaafohpmhdjnaaGreatDoor.RX
