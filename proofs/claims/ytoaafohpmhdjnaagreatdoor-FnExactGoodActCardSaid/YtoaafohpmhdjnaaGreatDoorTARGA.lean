import Derived.Test.YtoaafohpmhdjnaaGreatDoorTARXG
import Derived.Deep.MidRow
/- strings.Replacer over longer texts: the trie's nodes, how a key is added. Conditions: the nodes as they come up for "~0", "~1". -/
namespace Go.Proofs.YtoaafohpmhdjnaaGreatDoor.RX
open Go.RowKit Go.Proofs.YtoaafohpmhdjnaaGreatDoor.PVG Go.Proofs.YtoaafohpmhdjnaaGreatDoorW.PrintWords Go.Proofs.YtoaafohpmhdjnaaGreatDoorW.PrintLast Go.Proofs.YtoaafohpmhdjnaaGreatDoorW.PrintMore
set_option linter.unusedVariables false
set_option linter.unusedSimpArgs false
theorem below_drewN {w W:World} (h:Below w.heap.size w W) (m:Nat):Below w.heap.size w (W.drewN m):=below_step h (Drawn0.mk ⟨m,rfl⟩:Drawn0 W (W.drewN m)).below
def nd5 (v:ByteArray) (p:Int) (pre:ByteArray) (nx tb:Value):Array Value:=#[.string v,.int .i64 p,.string pre,nx,tb]
def grc (tb:Value) (ts:Int) (f:Nat→Int):Array Value:=([.string (⟨#[]⟩:ByteArray),.int .i64 0,.string (⟨#[]⟩:ByteArray),.pointer none,tb,.int .i64 ts]++(List.range 256).map fun i=>Value.int .u8 (f i)).toArray
theorem grc_size (tb:Value) (ts:Int) (f:Nat→Int):(grc tb ts f).size=262:=by simp [grc]
theorem grc_get (tb:Value) (ts:Int) (f:Nat→Int) (j:Nat) (h:j < 256):(grc tb ts f)[6+j]? = some (.int .u8 (f j)):=by
 have e:(grc tb ts f)[6+j]? = ([.string (⟨#[]⟩:ByteArray),.int .i64 0,.string (⟨#[]⟩:ByteArray),.pointer none,tb,.int .i64 ts]++(List.range 256).map fun i=>Value.int .u8 (f i))[6+j]?:=by unfold grc;rw [List.getElem?_toArray]
 rw [e,List.getElem?_append_right (by simp)]
 simp [h]
def updI (f:Nat→Int) (j:Nat) (u:Int):Nat→Int:=fun i=>if i=j then u else f i
theorem grc_set (tb:Value) (ts:Int) (f:Nat→Int) (j:Nat) (u:Int) (h:j < 256):(grc tb ts f).setIfInBounds (6+j) (.int .u8 u)=grc tb ts (updI f j u):=by
 apply Array.ext_getElem?
 intro i
 rw [Array.getElem?_setIfInBounds,grc_size]
 by_cases e:6+j=i
 ·subst e;rw [if_pos rfl,if_pos (by omega),grc_get _ _ _ _ h];simp [updI]
 ·rw [if_neg e]
  by_cases hi:i < 6
  ·unfold grc
   rw [List.getElem?_toArray,List.getElem?_toArray,List.getElem?_append_left (by simpa using hi),List.getElem?_append_left (by simpa using hi)]
  ·obtain ⟨k,rfl⟩:∃ k,i=6+k:=⟨i - 6,by omega⟩
   by_cases hk:k < 256
   ·rw [grc_get _ _ _ _ hk,grc_get _ _ _ _ hk]
    have:k≠j:=fun e2=>e (by rw [e2])
    simp [updI,this]
   ·rw [Array.getElem?_eq_none (by rw [grc_size];omega),Array.getElem?_eq_none (by rw [grc_size];omega)]
theorem grc_set5 (tb:Value) (ts u:Int) (f:Nat→Int):(grc tb ts f).setIfInBounds 5 (.int .i64 u)=grc tb u f:=by
 unfold grc
 simp
theorem grc_set4 (tb u:Value) (ts:Int) (f:Nat→Int):(grc tb ts f).setIfInBounds 4 u=grc u ts f:=by
 unfold grc
 simp
theorem gr_map {W:World} {g:Nat} {tb:Value} {ts:Int} {f:Nat→Int} (h:W.heap[g]? = some (.cells (grc tb ts f) 281 (0,0))) (j:Nat) (hj:j < 256):W.cell? ⟨g,6+j,none⟩=some (.int .u8 (f j)):=(blk_cell h (6+j)).trans (grc_get tb ts f j hj)
theorem gr_cells {W:World} {g:Nat} {tb:Value} {ts:Int} {f:Nat→Int} (h:W.heap[g]? = some (.cells (grc tb ts f) 281 (0,0))):W.cell? ⟨g,0,none⟩=some (.string (⟨#[]⟩:ByteArray))∧W.cell? ⟨g,1,none⟩=some (.int .i64 0)∧W.cell? ⟨g,2,none⟩=some (.string (⟨#[]⟩:ByteArray))∧W.cell? ⟨g,3,none⟩=some (.pointer none)∧W.cell? ⟨g,4,none⟩=some tb∧W.cell? ⟨g,5,none⟩=some (.int .i64 ts) :=
 ⟨(blk_cell h 0).trans (by simp [grc]),(blk_cell h 1).trans (by simp [grc]),(blk_cell h 2).trans (by simp [grc]),(blk_cell h 3).trans (by simp [grc]),(blk_cell h 4).trans (by simp [grc]),(blk_cell h 5).trans (by simp [grc])⟩
section
variable {w W:World} {n g:Nat}
theorem nd_cells {v pre:ByteArray} {p:Int} {nx tb:Value} (h:W.heap[n]? = some (.cells (nd5 v p pre nx tb) 279 (0,0))):W.cell? ⟨n,0,none⟩=some (.string v)∧W.cell? ⟨n,1,none⟩=some (.int .i64 p)∧W.cell? ⟨n,2,none⟩=some (.string pre)∧W.cell? ⟨n,3,none⟩=some nx∧W.cell? ⟨n,4,none⟩=some tb :=
 ⟨(blk_cell h 0).trans rfl,(blk_cell h 1).trans rfl,(blk_cell h 2).trans rfl,(blk_cell h 3).trans rfl,(blk_cell h 4).trans rfl⟩
end
theorem make3 (W:World):(Instr.makeSlice 277 (.int .i64 3) (.int .i64 3)).run Tryz.prog W=.ok (.slice (some ⟨W.heap.size,0,none⟩) 3 3) (W.alloc (.cells #[.pointer none,.pointer none,.pointer none] 276)):=by kernel_rfl
theorem make3_ev {ρ:Operand→Value} {o:Oper} {x:Operand} (ho:o.op=.makeSlice 277 x x) (hx:ρ x=.int .i64 3) (W:World):(execOp ρ o).run Tryz.prog W=.ok (.value (.slice (some ⟨W.heap.size,0,none⟩) 3 3)) (W.alloc (.cells #[.pointer none,.pointer none,.pointer none] 276)):=by
 unfold execOp
 rw [ho]
 simp only [hx,Sem.run_bind,make3,Result.andThen_ok,Sem.run_pure]
set_option maxRecDepth 100000 in
set_option maxHeartbeats 1600000 in
theorem add_leaf (n:Nat) (val:ByteArray) (p:Int) (r:Value) (pre:ByteArray) (nx tb:Value) (w:World) (h:w.heap[n]? = some (.cells (nd5 (⟨#[]⟩:ByteArray) 0 pre nx tb) 279 (0,0))) :
  Calls Tryz.prog 237 #[.pointer (some ⟨n,0,none⟩),.string ⟨#[]⟩,.string val,.int .i64 p,r] w fun e w'=>e=.returned (.tuple #[])∧w'.heap[n]? = some (.cells (nd5 val p pre nx tb) 279 (0,0))∧Kept w w' (fun k=>k=n)∧∀ w00:World,Below w00.heap.size w00 w→w00.heap.size≤n→Below w00.heap.size w00 w':=by
 obtain ⟨c0,c1,c2,c3,c4⟩:=nd_cells h
 have z0:=blk_frozen h 0
 have z1:=blk_frozen h 1
 have H:=Aside0.mk h
 clear h
 go_enter Tryz.func237,Tryz.ntmps237
 go_wp2
 first | go_end0 | (simp only [Exit.inBlock,Exit.then];refine bodyPost_ret (results_none rfl _ _ _) rfl ?_) | refine bodyPost_ret (results_none rfl _ _ _) rfl ?_
 refine ⟨rfl,?_,((Kept.refl w (fun k=>k=n)).setCell (p:=⟨n,0,none⟩) (.inl rfl) _).setCell (p:=⟨n,1,none⟩) (.inl rfl) _,fun w00 hb hn=>below_set (below_set hb hn) hn⟩
 have:=blk_set (blk_set H.out 0 (.string val)) 1 (.int .i64 p)
 simpa [nd5] using this
set_option maxRecDepth 100000 in
set_option maxHeartbeats 1600000 in
theorem add_new (n:Nat) (c:UInt8) (hc:c=48) (val:ByteArray) (p:Int) (r:Value) (w:World) (h:w.heap[n]? = some (.cells (nd5 (⟨#[]⟩:ByteArray) 0 (⟨#[]⟩:ByteArray) (.pointer none) (.slice none 0 0)) 279 (0,0))) :
  Calls Tryz.prog 237 #[.pointer (some ⟨n,0,none⟩),.string ⟨#[48]⟩,.string val,.int .i64 p,r] w fun e w'=>e=.returned (.tuple #[])∧∃ m,w.heap.size≤m∧w'.heap[n]? = some (.cells (nd5 (⟨#[]⟩:ByteArray) 0 ⟨#[48]⟩ (.pointer (some ⟨m,0,none⟩)) (.slice none 0 0)) 279 (0,0))∧w'.heap[m]? = some (.cells (nd5 val p (⟨#[]⟩:ByteArray) (.pointer none) (.slice none 0 0)) 279 (0,0))∧Kept w w' (fun k=>k=n)∧∀ w00:World,Below w00.heap.size w00 w→w00.heap.size≤n→Below w00.heap.size w00 w':=by
 obtain ⟨c0,c1,c2,c3,c4⟩:=nd_cells h
 have z2:=blk_frozen h 2
 have z3:=blk_frozen h 3
 have ln:=blk_lt h
 have hnil:∀ W:World,(binOp .neq 277 (.slice none 0 0) (.slice none 0 0)).run Tryz.prog W=.ok (.bool false) W:=fun W=>by simpa using Go.run_neq_slice_nil (P:=Tryz.prog) (w:=W) 277 276 none 0 0 Tryz.underlying277
 have H:=Aside0.mk h
 clear h
 go_enter Tryz.func237,Tryz.ntmps237
 go_upto_region 33 with fail
 obtain ⟨W1,hW1⟩:∃ W,W=w.setCell ⟨n,2,none⟩ (.string ⟨#[48]⟩):=⟨_,rfl⟩
 rw [←hW1]
 have K1:=Aside0.mk (show W1.heap[n]? = some (.cells (nd5 (⟨#[]⟩:ByteArray) 0 ⟨#[48]⟩ (.pointer none) (.slice none 0 0)) 279 (0,0)) by have:=blk_set H.out 2 (.string ⟨#[48]⟩);rw [hW1];simpa [nd5] using this)
 have P1:=Aside0.mk (show Kept w W1 (fun k=>k=n) by rw [hW1];exact (Kept.refl w (fun k=>k=n)).setCell (p:=⟨n,2,none⟩) (.inl rfl) _)
 have Q1:=Aside0.mk (show ∀ w00:World,Below w00.heap.size w00 w→w00.heap.size≤n→Below w00.heap.size w00 W1 from fun w00 hb hn=>by rw [hW1];exact below_set hb hn)
 clear hW1 c0 c1 c2 c3 c4 z2 z3
 go_upto_region 34 with (first | ((with_reducible refine gate_dst (N:=230) rfl ?_);refine box_event ?hg (N:=230) ?hd (cs:=nd5 (⟨#[]⟩:ByteArray) 0 (⟨#[]⟩:ByteArray) (.pointer none) (.slice none 0 0)) (t:=279) ?hr ?_;(case hd=>rfl);(case hg=>rfl);(case hr=>first | (go_simp;done) | (go_simp;rfl));intro gxa hg wxa hbox hb;have GXa:=Aside0.mk hg;have KXa:=Aside0.mk hbox;have BXa:=Aside0.mk hb;have d3:wxa.cell? ⟨n,3,none⟩=some (.pointer none):=(nd_cells (blk_below K1.out hb)).2.2.2.1;have y3:=blk_frozen (blk_below K1.out hb) 3;obtain ⟨z0,z1,z2,z3,z4⟩:=nd_cells hbox;have f0:=blk_frozen hbox 0;have f1:=blk_frozen hbox 1;have f2:=blk_frozen hbox 2;have f3:=blk_frozen hbox 3;have f4:=blk_frozen hbox 4;clear hb hbox hg))
 obtain ⟨m,hm⟩:∃ m,m=gxa:=⟨_,rfl⟩
 obtain ⟨W3,hW3⟩:∃ W,W=wxa.setCell ⟨n,3,none⟩ (.pointer (some ⟨gxa,0,none⟩)):=⟨_,rfl⟩
 rw [←hW3]
 have NE:=Aside0.mk (show n < gxa by have:=blk_lt K1.out;have:=GXa.out;omega)
 have MW:=Aside0.mk (show w.heap.size≤gxa by have:=P1.out.1;have:=GXa.out;omega)
 have K3:=Aside0.mk (show W3.heap[n]? = some (.cells (nd5 (⟨#[]⟩:ByteArray) 0 ⟨#[48]⟩ (.pointer (some ⟨gxa,0,none⟩)) (.slice none 0 0)) 279 (0,0)) by have:=blk_set (blk_below K1.out BXa.out) 3 (.pointer (some ⟨gxa,0,none⟩));rw [hW3];simpa [nd5] using this)
 have M3:=Aside0.mk (show W3.heap[gxa]? = some (.cells (nd5 (⟨#[]⟩:ByteArray) 0 (⟨#[]⟩:ByteArray) (.pointer none) (.slice none 0 0)) 279 (0,0)) by rw [hW3];exact blk_far KXa.out (show gxa≠n from Nat.ne_of_gt NE.out) _)
 have BB:=Aside0.mk (show ∀ w00:World,Below w00.heap.size w00 w→w00.heap.size≤n→Below w00.heap.size w00 W3 from fun w00 hb hn=>by rw [hW3];exact below_set (below_step (Q1.out w00 hb hn) BXa.out) hn)
 have P3:=Aside0.mk (show Kept w W3 (fun k=>k=n) by rw [hW3];exact (P1.out.below BXa.out).setCell (p:=⟨n,3,none⟩) (.inl rfl) _)
 rw [←hm] at NE MW K3 M3 hW3 ⊢
 clear hm hW3 z0 z1 z2 z3 z4 f0 f1 f2 f3 f4 d3 y3
 have e3:W3.cell? ⟨n,3,none⟩=some (.pointer (some ⟨m,0,none⟩)):=(nd_cells K3.out).2.2.2.1
 go_wp2_with (first | (go_at_call 237;(with_reducible refine (add_leaf m val p r (⟨#[]⟩:ByteArray) (.pointer none) (.slice none 0 0) W3 M3.out).mono ?_);rintro e W4 ⟨rfl,hm4,hk4,hw4⟩;have WW:=Aside0.mk hw4;have M4:=Aside0.mk hm4;have KK:=Aside0.mk hk4;clear hm4 hk4 hw4))
 go_end0
 exact ⟨rfl,m,MW.out,blk_kept K3.out KK.out (show ¬n=m from Nat.ne_of_lt NE.out),M4.out,P3.out.then_ KK.out (fun k hk=>.inr (hk ▸ MW.out)),fun w00 hb hn=>WW.out w00 (BB.out w00 hb hn) (Nat.le_trans hn (Nat.le_of_lt NE.out))⟩
set_option maxRecDepth 100000 in
set_option maxHeartbeats 1600000 in
theorem add_split (n n2 gR:Nat) (val:ByteArray) (p:Int) (tb:Value) (f:Nat→Int) (w:World) (h:w.heap[n]? = some (.cells (nd5 (⟨#[]⟩:ByteArray) 0 ⟨#[48]⟩ (.pointer (some ⟨n2,0,none⟩)) (.slice none 0 0)) 279 (0,0))) (hR:w.heap[gR]? = some (.cells (grc tb 3 f) 281 (0,0))) (h48:f 48=0) (h49:f 49=1) :
  Calls Tryz.prog 237 #[.pointer (some ⟨n,0,none⟩),.string ⟨#[49]⟩,.string val,.int .i64 p,.pointer (some ⟨gR,0,none⟩)] w fun e w'=>e=.returned (.tuple #[])∧∃ gU m,w.heap.size≤gU∧w.heap.size≤m∧w'.heap[n]? = some (.cells (nd5 (⟨#[]⟩:ByteArray) 0 (⟨#[]⟩:ByteArray) (.pointer none) (.slice (some ⟨gU,0,none⟩) 3 3)) 279 (0,0))∧w'.heap[gU]? = some (.cells #[.pointer (some ⟨n2,0,none⟩),.pointer (some ⟨m,0,none⟩),.pointer none] 276 (0,0))∧w'.heap[m]? = some (.cells (nd5 val p (⟨#[]⟩:ByteArray) (.pointer none) (.slice none 0 0)) 279 (0,0))∧Kept w w' (fun k=>k=n)∧∀ w00:World,Below w00.heap.size w00 w→w00.heap.size≤n→Below w00.heap.size w00 w':=by
 obtain ⟨c0,c1,c2,c3,c4⟩:=nd_cells h
 have H:=Aside0.mk h
 have HR:=Aside0.mk hR
 have H48:=Aside0.mk h48
 have H49:=Aside0.mk h49
 have NR:=Aside0.mk (blk_ne h hR (by decide))
 clear h hR h48 h49
 go_enter Tryz.func237,Tryz.ntmps237
 go_upto_region 5 with fail
 go_wp2
 go_loopg [10] 1 (fun kq v10 w'=>kq=1∧v10=.int .i64 0∧w'=w)
 case atStart=>exact ⟨rfl,rfl,rfl⟩
 case round =>
  obtain ⟨rfl,rfl,rfl⟩:=hrel
  obtain ⟨w0,rfl⟩:∃ w0:World,w0=wr:=⟨_,rfl⟩
  have hb1:∀ h:0 < (⟨#[48]⟩:ByteArray).size,((⟨#[48]⟩:ByteArray)[0]'h).toNat=48:=fun _=>rfl
  have hb2:∀ h:0 < (⟨#[49]⟩:ByteArray).size,((⟨#[49]⟩:ByteArray)[0]'h).toNat=49:=fun _=>rfl
  go_upto_region 8 with fail
  go_quiet (fail)
  go_upto_region 16 with fail
  obtain ⟨W1,hW1⟩:∃ W,W=w0.drewN nq:=⟨_,rfl⟩
  have H1:=Aside0.mk (show W1.heap[n]? = some (.cells (nd5 (⟨#[]⟩:ByteArray) 0 ⟨#[48]⟩ (.pointer (some ⟨n2,0,none⟩)) (.slice none 0 0)) 279 (0,0)) by rw [hW1];exact blk_drewN H.out _)
  have R1:=Aside0.mk (show W1.heap[gR]? = some (.cells (grc tb 3 f) 281 (0,0)) by rw [hW1];exact blk_drewN HR.out _)
  have Q1:=Aside0.mk (show ∀ w00:World,Below w00.heap.size w00 w0→w00.heap.size≤n→Below w00.heap.size w00 W1 from fun w00 hb hn=>by rw [hW1];exact below_drewN hb nq)
  have P1:=Aside0.mk (show Kept w0 W1 (fun k=>k=n) by rw [hW1];exact (Kept.refl w0 _).drewN _)
  rw [←hW1]
  clear hW1 c0 c1 c2 c3 c4
  go_upto_region 17 with (first | ((with_reducible refine gate_dst (N:=101) rfl ?_);refine box_event ?hg (N:=101) ?hd (cs:=nd5 (⟨#[]⟩:ByteArray) 0 (⟨#[]⟩:ByteArray) (.pointer none) (.slice none 0 0)) (t:=279) ?hr ?_;(case hd=>rfl);(case hg=>rfl);(case hr=>first | (go_simp;done) | (go_simp;rfl));intro gxa hg wxa hbox hb;have GXa:=Aside0.mk hg;have KXa:=Aside0.mk hbox;have BXa:=Aside0.mk hb;obtain ⟨z0,z1,z2,z3,z4⟩:=nd_cells hbox;have f0:=blk_frozen hbox 0;have f1:=blk_frozen hbox 1;have f2:=blk_frozen hbox 2;have f3:=blk_frozen hbox 3;have f4:=blk_frozen hbox 4;clear hb hbox hg))
  obtain ⟨m,hm⟩:∃ m,m=gxa:=⟨_,rfl⟩
  rw [←hm] at GXa KXa ⊢
  clear hm
  have H2:=Aside0.mk (blk_below H1.out BXa.out)
  have R2:=Aside0.mk (blk_below R1.out BXa.out)
  have P2:=Aside0.mk (P1.out.below BXa.out)
  have Q2:=Aside0.mk (show ∀ w00:World,Below w00.heap.size w00 w0→w00.heap.size≤n→Below w00.heap.size w00 wxa from fun w00 hb hn=>below_step (Q1.out w00 hb hn) BXa.out)
  have NM:=Aside0.mk (show n < m∧gR < m∧w0.heap.size≤m by have:=blk_lt H1.out;have:=blk_lt R1.out;have:=P1.out.1;have:=GXa.out;omega)
  have r5:wxa.cell? ⟨gR,5,none⟩=some (.int .i64 3):=(gr_cells R2.out).2.2.2.2.2
  have d4:wxa.cell? ⟨n,4,none⟩=some (.slice none 0 0):=(nd_cells H2.out).2.2.2.2
  have y4:=blk_frozen H2.out 4
  clear H1 R1 P1
  go_upto_region 18 with (first | ((with_reducible refine gate_dst (N:=107) rfl ?_);refine Kd.event_run rfl (make3_ev rfl rfl _) ?_;obtain ⟨W3,hW3⟩:∃ W,W=wxa.alloc (.cells #[.pointer none,.pointer none,.pointer none] 276):=⟨_,rfl⟩;obtain ⟨gU,hgU⟩:∃ g,g=wxa.heap.size:=⟨_,rfl⟩;have B3:=Aside0.mk (show Below wxa.heap.size wxa W3 by rw [hW3];exact below_alloc (Below.refl _ _) _);have U3:=Aside0.mk (show W3.heap[gU]? = some (.cells #[.pointer none,.pointer none,.pointer none] 276 (0,0)) by rw [hW3,hgU];exact blk_new wxa _);have GU:=Aside0.mk hgU;rw [←hW3,←hgU];clear hW3 hgU;have d4:W3.cell? ⟨n,4,none⟩=some (.slice none 0 0):=(nd_cells (blk_below H2.out B3.out)).2.2.2.2;have y4:=blk_frozen (blk_below H2.out B3.out) 4))
  obtain ⟨W4,hW4⟩:∃ W,W=W3.setCell ⟨n,4,none⟩ (.slice (some ⟨gU,0,none⟩) 3 3):=⟨_,rfl⟩
  rw [←hW4]
  have NU:=Aside0.mk (show n < gU∧gR < gU∧m < gU∧w0.heap.size≤gU by have:=blk_lt KXa.out;have:=NM.out;have:=GU.out;omega)
  have H4:=Aside0.mk (show W4.heap[n]? = some (.cells (nd5 (⟨#[]⟩:ByteArray) 0 ⟨#[48]⟩ (.pointer (some ⟨n2,0,none⟩)) (.slice (some ⟨gU,0,none⟩) 3 3)) 279 (0,0)) by have:=blk_set (blk_below H2.out B3.out) 4 (.slice (some ⟨gU,0,none⟩) 3 3);rw [hW4];simpa [nd5] using this)
  have R4:=Aside0.mk (show W4.heap[gR]? = some (.cells (grc tb 3 f) 281 (0,0)) by rw [hW4];exact blk_far (blk_below R2.out B3.out) (show gR≠n from fun e=>NR.out e.symm) _)
  have M4:=Aside0.mk (show W4.heap[m]? = some (.cells (nd5 (⟨#[]⟩:ByteArray) 0 (⟨#[]⟩:ByteArray) (.pointer none) (.slice none 0 0)) 279 (0,0)) by rw [hW4];exact blk_far (blk_below KXa.out B3.out) (show m≠n by have:=NM.out;omega) _)
  have U4:=Aside0.mk (show W4.heap[gU]? = some (.cells #[.pointer none,.pointer none,.pointer none] 276 (0,0)) by rw [hW4];exact blk_far U3.out (show gU≠n by have:=NU.out;omega) _)
  have Q4:=Aside0.mk (show ∀ w00:World,Below w00.heap.size w00 w0→w00.heap.size≤n→Below w00.heap.size w00 W4 from fun w00 hb hn=>by rw [hW4];exact below_set (below_step (Q2.out w00 hb hn) B3.out) hn)
  have P4:=Aside0.mk (show Kept w0 W4 (fun k=>k=n) by rw [hW4];exact (P2.out.below B3.out).setCell (p:=⟨n,4,none⟩) (.inl rfl) _)
  clear hW4 H2 R2 P2 U3 B3 r5 d4 y4 z0 z1 z2 z3 z4 f0 f1 f2 f3 f4
  have H4d:=Aside0.mk (blk_drew H4.out)
  have R4d:=Aside0.mk (blk_drew R4.out)
  have M4d:=Aside0.mk (blk_drew M4.out)
  have U4d:=Aside0.mk (blk_drew U4.out)
  have P4d:=Aside0.mk P4.out.drew
  have Q4d:=Aside0.mk (show ∀ w00:World,Below w00.heap.size w00 w0→w00.heap.size≤n→Below w00.heap.size w00 W4.drew from fun w00 hb hn=>below_drew1 (Q4.out w00 hb hn))
  clear H4 R4 M4 U4 P4
  go_upto_region 18 with fail
  refine start_ (n:=17) (S:=fun w'=>w'.cell? ⟨n,4,none⟩=some (.slice (some ⟨gU,0,none⟩) 3 3)∧w'.cell? ⟨n,2,none⟩=some (.string ⟨#[48]⟩)∧w'.cell? ⟨gR,54,none⟩=some (.int .u8 0)) (ds:=[16]) #[false,false,false,false,false,false,false,false,false,false,false,false,false,false,false,false,false] (by kernel_rfl) rfl rfl ⟨(nd_cells H4d.out).2.2.2.2,(nd_cells H4d.out).2.2.1,(gr_map R4d.out 48 (by decide)).trans (by rw [H48.out])⟩ (fun hHeld=>?_)
  generalize W4.drew=W4d at H4d R4d M4d U4d P4d Q4d hHeld ⊢
  refine pure_ (i:=0) (N:=(some 110)) (v:=?_) (a':=?_) #[true,false,false,false,false,false,false,false,false,false,false,false,false,false,false,false,false] rfl rfl (by kernel_rfl) (fun _ _ _ h=>h) (Or.inl ⟨by rfl,?_⟩) ?_ ?_
  rotate_left
  ·intro w'
   go_simp
   with_reducible rfl
  rotate_left
  ·simp only [Act.put,List.setIfInBounds_toArray,List.set_cons_zero,List.set_cons_succ,i64_w,i32_w]
   rfl
  refine pure_ (i:=1) (N:=(some 111)) (v:=?_) (a':=?_) #[true,true,false,false,false,false,false,false,false,false,false,false,false,false,false,false,false] rfl rfl (by kernel_rfl) (fun _ _ _ h=>h) (Or.inl ⟨by rfl,?_⟩) ?_ ?_
  rotate_left
  ·intro w'
   go_simp
   with_reducible rfl
  rotate_left
  ·simp only [Act.put,List.setIfInBounds_toArray,List.set_cons_zero,List.set_cons_succ,i64_w,i32_w]
   rfl
  refine pure_ (i:=2) (N:=(some 112)) (v:=?_) (a':=?_) #[true,true,true,false,false,false,false,false,false,false,false,false,false,false,false,false,false] rfl rfl (by kernel_rfl) (fun _ _ _ h=>h) (Or.inl ⟨by rfl,?_⟩) ?_ ?_
  rotate_left
  ·intro w'
   go_simp
   with_reducible rfl
  rotate_left
  ·simp only [Act.put,List.setIfInBounds_toArray,List.set_cons_zero,List.set_cons_succ,i64_w,i32_w]
   rfl
  refine pure_ (i:=4) (N:=(some 114)) (v:=?_) (a':=?_) #[true,true,true,false,true,false,false,false,false,false,false,false,false,false,false,false,false] rfl rfl (by kernel_rfl) (fun _ _ _ h=>h) (Or.inl ⟨by rfl,?_⟩) ?_ ?_
  rotate_left
  ·intro w'
   go_simp
   with_reducible rfl
  rotate_left
  ·simp only [Act.put,List.setIfInBounds_toArray,List.set_cons_zero,List.set_cons_succ,i64_w,i32_w]
   rfl
  refine pure_ (i:=5) (N:=(some 115)) (v:=?_) (a':=?_) #[true,true,true,false,true,true,false,false,false,false,false,false,false,false,false,false,false] rfl rfl (by kernel_rfl) (fun _ _ _ h=>h) (Or.inl ⟨by rfl,?_⟩) ?_ ?_
  rotate_left
  ·intro w'
   go_simp
   with_reducible rfl
  rotate_left
  ·simp only [Act.put,List.setIfInBounds_toArray,List.set_cons_zero,List.set_cons_succ,i64_w,i32_w]
   rfl
  refine pure_ (i:=6) (N:=(some 116)) (v:=?_) (a':=?_) #[true,true,true,false,true,true,true,false,false,false,false,false,false,false,false,false,false] rfl rfl (by kernel_rfl) (fun _ _ _ h=>h) (Or.inl ⟨by rfl,?_⟩) ?_ ?_
  rotate_left
  ·intro w'
   go_simp
   with_reducible rfl
  rotate_left
  ·simp only [Act.put,List.setIfInBounds_toArray,List.set_cons_zero,List.set_cons_succ,i64_w,i32_w]
   rfl
  refine pure_ (i:=7) (N:=(some 117)) (v:=?_) (a':=?_) #[true,true,true,false,true,true,true,true,false,false,false,false,false,false,false,false,false] rfl rfl (by kernel_rfl) (fun _ _ _ h=>h) (Or.inl ⟨by rfl,?_⟩) ?_ ?_
  rotate_left
  ·intro w'
   go_simp
   with_reducible rfl
  rotate_left
  ·simp only [Act.put,List.setIfInBounds_toArray,List.set_cons_zero,List.set_cons_succ,i64_w,i32_w]
   rfl
  refine pure_ (i:=10) (N:=(some 120)) (v:=?_) (a':=?_) #[true,true,true,false,true,true,true,true,false,false,true,false,false,false,false,false,false] rfl rfl (by kernel_rfl) (fun _ _ _ h=>h) (Or.inl ⟨by rfl,?_⟩) ?_ ?_
  rotate_left
  ·intro w'
   go_simp
   with_reducible rfl
  rotate_left
  ·simp only [Act.put,List.setIfInBounds_toArray,List.set_cons_zero,List.set_cons_succ,i64_w,i32_w]
   rfl
  refine pure_ (i:=11) (N:=(some 121)) (v:=?_) (a':=?_) #[true,true,true,false,true,true,true,true,false,false,true,true,false,false,false,false,false] rfl rfl (by kernel_rfl) (fun _ _ _ h=>h) (Or.inl ⟨by rfl,?_⟩) ?_ ?_
  rotate_left
  ·intro w'
   go_simp
   with_reducible rfl
  rotate_left
  ·simp only [Act.put,List.setIfInBounds_toArray,List.set_cons_zero,List.set_cons_succ,i64_w,i32_w]
   rfl
  refine pure_ (i:=14) (N:=(some 124)) (v:=?_) (a':=?_) #[true,true,true,false,true,true,true,true,false,false,true,true,false,false,true,false,false] rfl rfl (by kernel_rfl) (fun _ _ _ h=>h) (Or.inl ⟨by rfl,?_⟩) ?_ ?_
  rotate_left
  ·intro w'
   go_simp
   with_reducible rfl
  rotate_left
  ·simp only [Act.put,List.setIfInBounds_toArray,List.set_cons_zero,List.set_cons_succ,i64_w,i32_w]
   rfl
  refine take_ (i:=3) (N:=(some 113)) (v:=?_) (a':=?_) #[true,true,true,true,true,true,true,true,false,false,true,true,false,false,true,false,false] rfl rfl (by kernel_rfl) (fun _ _ _ h=>h) (Or.inl ⟨by rfl,?_⟩) hHeld ?_ ?_
  rotate_left
  ·rintro w' ⟨s0,s1,s2⟩
   go_simp
   with_reducible rfl
  rotate_left
  ·simp only [Act.put,List.setIfInBounds_toArray,List.set_cons_zero,List.set_cons_succ,i64_w,i32_w]
   rfl
  refine take_ (i:=8) (N:=(some 118)) (v:=?_) (a':=?_) #[true,true,true,true,true,true,true,true,true,false,true,true,false,false,true,false,false] rfl rfl (by kernel_rfl) (fun _ _ _ h=>h) (Or.inl ⟨by rfl,?_⟩) hHeld ?_ ?_
  rotate_left
  ·rintro w' ⟨s0,s1,s2⟩
   go_simp
   with_reducible rfl
  rotate_left
  ·simp only [Act.put,List.setIfInBounds_toArray,List.set_cons_zero,List.set_cons_succ,i64_w,i32_w]
   rfl
  refine pure_ (i:=9) (N:=(some 119)) (v:=?_) (a':=?_) #[true,true,true,true,true,true,true,true,true,true,true,true,false,false,true,false,false] rfl rfl (by kernel_rfl) (fun _ _ _ h=>h) (Or.inl ⟨by rfl,?_⟩) ?_ ?_
  rotate_left
  ·intro w'
   go_simp
   with_reducible rfl
  rotate_left
  ·simp only [Act.put,List.setIfInBounds_toArray,List.set_cons_zero,List.set_cons_succ,i64_w,i32_w]
   rfl
  refine pure_ (i:=12) (N:=(some 122)) (v:=?_) (a':=?_) #[true,true,true,true,true,true,true,true,true,true,true,true,true,false,true,false,false] rfl rfl (by kernel_rfl) (fun _ _ _ h=>h) (Or.inl ⟨by rfl,?_⟩) ?_ ?_
  rotate_left
  ·intro w'
   go_simp
   with_reducible rfl
  rotate_left
  ·simp only [Act.put,List.setIfInBounds_toArray,List.set_cons_zero,List.set_cons_succ,i64_w,i32_w]
   rfl
  refine take_ (i:=13) (N:=(some 123)) (v:=?_) (a':=?_) #[true,true,true,true,true,true,true,true,true,true,true,true,true,true,true,false,false] rfl rfl (by kernel_rfl) (fun _ _ _ h=>h) (Or.inl ⟨by rfl,?_⟩) hHeld ?_ ?_
  rotate_left
  ·rintro w' ⟨s0,s1,s2⟩
   go_simp
   with_reducible rfl
  rotate_left
  ·simp only [Act.put,List.setIfInBounds_toArray,List.set_cons_zero,List.set_cons_succ,i64_w,i32_w]
   rfl
  refine pure_ (i:=15) (N:=(some 125)) (v:=?_) (a':=?_) #[true,true,true,true,true,true,true,true,true,true,true,true,true,true,true,true,false] rfl rfl (by kernel_rfl) (fun _ _ _ h=>h) (Or.inl ⟨by rfl,?_⟩) ?_ ?_
  rotate_left
  ·intro w'
   go_simp
   with_reducible rfl
  rotate_left
  ·simp only [Act.put,List.setIfInBounds_toArray,List.set_cons_zero,List.set_cons_succ,i64_w,i32_w]
   rfl
  refine last_ (i:=16) (N:=none) #[true,true,true,true,true,true,true,true,true,true,true,true,true,true,true,true,true] rfl rfl (by kernel_rfl) (by decide) (fun K hK=>?_)
  have hs:=(blk_cell U4d.out 0).trans rfl
  have hfs:=blk_frozen U4d.out 0
  refine skip_ (w1:=?_) (by rfl) rfl ?_ ?_
  rotate_left
  ·go_simp
   rfl
  refine hK.out _ _ ?_
  clear hK K hs hfs hHeld
  refine done_ (by kernel_rfl) ?_
  obtain ⟨W5,hW5⟩:∃ W,W=W4d.setCell ⟨gU,0,none⟩ (.pointer (some ⟨n2,0,none⟩)):=⟨_,rfl⟩
  rw [←hW5]
  have H5:=Aside0.mk (show W5.heap[n]? = some (.cells (nd5 (⟨#[]⟩:ByteArray) 0 ⟨#[48]⟩ (.pointer (some ⟨n2,0,none⟩)) (.slice (some ⟨gU,0,none⟩) 3 3)) 279 (0,0)) by rw [hW5];exact blk_far H4d.out (show n≠gU by have:=NU.out;omega) _)
  have R5:=Aside0.mk (show W5.heap[gR]? = some (.cells (grc tb 3 f) 281 (0,0)) by rw [hW5];exact blk_far R4d.out (show gR≠gU by have:=NU.out;omega) _)
  have M5:=Aside0.mk (show W5.heap[m]? = some (.cells (nd5 (⟨#[]⟩:ByteArray) 0 (⟨#[]⟩:ByteArray) (.pointer none) (.slice none 0 0)) 279 (0,0)) by rw [hW5];exact blk_far M4d.out (show m≠gU by have:=NU.out;omega) _)
  have U5:=Aside0.mk (show W5.heap[gU]? = some (.cells #[.pointer (some ⟨n2,0,none⟩),.pointer none,.pointer none] 276 (0,0)) by have:=blk_set U4d.out 0 (.pointer (some ⟨n2,0,none⟩));rw [hW5];simpa using this)
  have Q5:=Aside0.mk (show ∀ w00:World,Below w00.heap.size w00 w0→w00.heap.size≤n→Below w00.heap.size w00 W5 from fun w00 hb hn=>by rw [hW5];exact below_set (Q4d.out w00 hb hn) (show w00.heap.size≤gU by have:=NU.out;omega))
  have P5:=Aside0.mk (show Kept w0 W5 (fun k=>k=n) by rw [hW5];exact P4d.out.setCell (p:=⟨gU,0,none⟩) (.inr NU.out.2.2.2) _)
  have H5d:=Aside0.mk (blk_drew H5.out)
  have R5d:=Aside0.mk (blk_drew R5.out)
  have M5d:=Aside0.mk (blk_drew M5.out)
  have U5d:=Aside0.mk (blk_drew U5.out)
  have P5d:=Aside0.mk P5.out.drew
  have Q5d:=Aside0.mk (show ∀ w00:World,Below w00.heap.size w00 w0→w00.heap.size≤n→Below w00.heap.size w00 W5.drew from fun w00 hb hn=>below_drew1 (Q5.out w00 hb hn))
  clear hW5 H5 R5 M5 U5 P5 H4d R4d M4d U4d P4d
  go_upto_region 19 with fail
  refine start_ (n:=14) (S:=fun w'=>w'.cell? ⟨n,4,none⟩=some (.slice (some ⟨gU,0,none⟩) 3 3)∧w'.cell? ⟨gR,55,none⟩=some (.int .u8 1)) (ds:=[13]) #[false,false,false,false,false,false,false,false,false,false,false,false,false,false] (by kernel_rfl) rfl rfl ⟨(nd_cells H5d.out).2.2.2.2,(gr_map R5d.out 49 (by decide)).trans (by rw [H49.out])⟩ (fun hHeld=>?_)
  generalize W5.drew=W5d at H5d R5d M5d U5d P5d Q5d hHeld ⊢
  refine pure_ (i:=0) (N:=(some 126)) (v:=?_) (a':=?_) #[true,false,false,false,false,false,false,false,false,false,false,false,false,false] rfl rfl (by kernel_rfl) (fun _ _ _ h=>h) (Or.inl ⟨by rfl,?_⟩) ?_ ?_
  rotate_left
  ·intro w'
   go_simp
   with_reducible rfl
  rotate_left
  ·simp only [Act.put,List.setIfInBounds_toArray,List.set_cons_zero,List.set_cons_succ,i64_w,i32_w]
   rfl
  refine pure_ (i:=1) (N:=(some 127)) (v:=?_) (a':=?_) #[true,true,false,false,false,false,false,false,false,false,false,false,false,false] rfl rfl (by kernel_rfl) (fun _ _ _ h=>h) (Or.inl ⟨by rfl,?_⟩) ?_ ?_
  rotate_left
  ·intro w'
   go_simp
   with_reducible rfl
  rotate_left
  ·simp only [Act.put,List.setIfInBounds_toArray,List.set_cons_zero,List.set_cons_succ,i64_w,i32_w]
   rfl
  refine pure_ (i:=2) (N:=(some 128)) (v:=?_) (a':=?_) #[true,true,true,false,false,false,false,false,false,false,false,false,false,false] rfl rfl (by kernel_rfl) (fun _ _ _ h=>h) (Or.inl ⟨by rfl,?_⟩) ?_ ?_
  rotate_left
  ·intro w'
   go_simp
   with_reducible rfl
  rotate_left
  ·simp only [Act.put,List.setIfInBounds_toArray,List.set_cons_zero,List.set_cons_succ,i64_w,i32_w]
   rfl
  refine pure_ (i:=4) (N:=(some 130)) (v:=?_) (a':=?_) #[true,true,true,false,true,false,false,false,false,false,false,false,false,false] rfl rfl (by kernel_rfl) (fun _ _ _ h=>h) (Or.inl ⟨by rfl,?_⟩) ?_ ?_
  rotate_left
  ·intro w'
   go_simp
   with_reducible rfl
  rotate_left
  ·simp only [Act.put,List.setIfInBounds_toArray,List.set_cons_zero,List.set_cons_succ,i64_w,i32_w]
   rfl
  refine pure_ (i:=5) (N:=(some 131)) (v:=?_) (a':=?_) #[true,true,true,false,true,true,false,false,false,false,false,false,false,false] rfl rfl (by kernel_rfl) (fun _ _ _ h=>h) (Or.inl ⟨by rfl,?_⟩) ?_ ?_
  rotate_left
  ·intro w'
   go_simp
   with_reducible rfl
  rotate_left
  ·simp only [Act.put,List.setIfInBounds_toArray,List.set_cons_zero,List.set_cons_succ,i64_w,i32_w]
   rfl
  refine pure_ (i:=6) (N:=(some 132)) (v:=?_) (a':=?_) #[true,true,true,false,true,true,true,false,false,false,false,false,false,false] rfl rfl (by kernel_rfl) (fun _ _ _ h=>h) (Or.inl ⟨by rfl,?_⟩) ?_ ?_
  rotate_left
  ·intro w'
   go_simp
   with_reducible rfl
  rotate_left
  ·simp only [Act.put,List.setIfInBounds_toArray,List.set_cons_zero,List.set_cons_succ,i64_w,i32_w]
   rfl
  refine pure_ (i:=7) (N:=(some 133)) (v:=?_) (a':=?_) #[true,true,true,false,true,true,true,true,false,false,false,false,false,false] rfl rfl (by kernel_rfl) (fun _ _ _ h=>h) (Or.inl ⟨by rfl,?_⟩) ?_ ?_
  rotate_left
  ·intro w'
   go_simp
   with_reducible rfl
  rotate_left
  ·simp only [Act.put,List.setIfInBounds_toArray,List.set_cons_zero,List.set_cons_succ,i64_w,i32_w]
   rfl
  refine pure_ (i:=8) (N:=(some 134)) (v:=?_) (a':=?_) #[true,true,true,false,true,true,true,true,true,false,false,false,false,false] rfl rfl (by kernel_rfl) (fun _ _ _ h=>h) (Or.inl ⟨by rfl,?_⟩) ?_ ?_
  rotate_left
  ·intro w'
   go_simp
   with_reducible rfl
  rotate_left
  ·simp only [Act.put,List.setIfInBounds_toArray,List.set_cons_zero,List.set_cons_succ,i64_w,i32_w]
   rfl
  refine pure_ (i:=9) (N:=(some 135)) (v:=?_) (a':=?_) #[true,true,true,false,true,true,true,true,true,true,false,false,false,false] rfl rfl (by kernel_rfl) (fun _ _ _ h=>h) (Or.inl ⟨by rfl,?_⟩) ?_ ?_
  rotate_left
  ·intro w'
   go_simp
   with_reducible rfl
  rotate_left
  ·simp only [Act.put,List.setIfInBounds_toArray,List.set_cons_zero,List.set_cons_succ,i64_w,i32_w]
   rfl
  refine pure_ (i:=11) (N:=(some 137)) (v:=?_) (a':=?_) #[true,true,true,false,true,true,true,true,true,true,false,true,false,false] rfl rfl (by kernel_rfl) (fun _ _ _ h=>h) (Or.inl ⟨by rfl,?_⟩) ?_ ?_
  rotate_left
  ·intro w'
   go_simp
   with_reducible rfl
  rotate_left
  ·simp only [Act.put,List.setIfInBounds_toArray,List.set_cons_zero,List.set_cons_succ,i64_w,i32_w]
   rfl
  refine take_ (i:=3) (N:=(some 129)) (v:=?_) (a':=?_) #[true,true,true,true,true,true,true,true,true,true,false,true,false,false] rfl rfl (by kernel_rfl) (fun _ _ _ h=>h) (Or.inl ⟨by rfl,?_⟩) hHeld ?_ ?_
  rotate_left
  ·rintro w' ⟨s0,s1⟩
   go_simp
   with_reducible rfl
  rotate_left
  ·simp only [Act.put,List.setIfInBounds_toArray,List.set_cons_zero,List.set_cons_succ,i64_w,i32_w]
   rfl
  refine take_ (i:=10) (N:=(some 136)) (v:=?_) (a':=?_) #[true,true,true,true,true,true,true,true,true,true,true,true,false,false] rfl rfl (by kernel_rfl) (fun _ _ _ h=>h) (Or.inl ⟨by rfl,?_⟩) hHeld ?_ ?_
  rotate_left
  ·rintro w' ⟨s0,s1⟩
   go_simp
   with_reducible rfl
  rotate_left
  ·simp only [Act.put,List.setIfInBounds_toArray,List.set_cons_zero,List.set_cons_succ,i64_w,i32_w]
   rfl
  refine pure_ (i:=12) (N:=(some 138)) (v:=?_) (a':=?_) #[true,true,true,true,true,true,true,true,true,true,true,true,true,false] rfl rfl (by kernel_rfl) (fun _ _ _ h=>h) (Or.inl ⟨by rfl,?_⟩) ?_ ?_
  rotate_left
  ·intro w'
   go_simp
   with_reducible rfl
  rotate_left
  ·simp only [Act.put,List.setIfInBounds_toArray,List.set_cons_zero,List.set_cons_succ,i64_w,i32_w]
   rfl
  refine last_ (i:=13) (N:=none) #[true,true,true,true,true,true,true,true,true,true,true,true,true,true] rfl rfl (by kernel_rfl) (by decide) (fun K hK=>?_)
  have hs:=(blk_cell U5d.out 1).trans rfl
  have hfs:=blk_frozen U5d.out 1
  refine skip_ (w1:=?_) (by rfl) rfl ?_ ?_
  rotate_left
  ·go_simp
   rfl
  refine hK.out _ _ ?_
  clear hK K hs hfs hHeld
  refine done_ (by kernel_rfl) ?_
  obtain ⟨W6,hW6⟩:∃ W,W=W5d.setCell ⟨gU,1,none⟩ (.pointer (some ⟨m,0,none⟩)):=⟨_,rfl⟩
  rw [←hW6]
  have H6:=Aside0.mk (show W6.heap[n]? = some (.cells (nd5 (⟨#[]⟩:ByteArray) 0 ⟨#[48]⟩ (.pointer (some ⟨n2,0,none⟩)) (.slice (some ⟨gU,0,none⟩) 3 3)) 279 (0,0)) by rw [hW6];exact blk_far H5d.out (show n≠gU by have:=NU.out;omega) _)
  have M6:=Aside0.mk (show W6.heap[m]? = some (.cells (nd5 (⟨#[]⟩:ByteArray) 0 (⟨#[]⟩:ByteArray) (.pointer none) (.slice none 0 0)) 279 (0,0)) by rw [hW6];exact blk_far M5d.out (show m≠gU by have:=NU.out;omega) _)
  have U6:=Aside0.mk (show W6.heap[gU]? = some (.cells #[.pointer (some ⟨n2,0,none⟩),.pointer (some ⟨m,0,none⟩),.pointer none] 276 (0,0)) by have:=blk_set U5d.out 1 (.pointer (some ⟨m,0,none⟩));rw [hW6];simpa using this)
  have Q6:=Aside0.mk (show ∀ w00:World,Below w00.heap.size w00 w0→w00.heap.size≤n→Below w00.heap.size w00 W6 from fun w00 hb hn=>by rw [hW6];exact below_set (Q5d.out w00 hb hn) (show w00.heap.size≤gU by have:=NU.out;omega))
  have P6:=Aside0.mk (show Kept w0 W6 (fun k=>k=n) by rw [hW6];exact P5d.out.setCell (p:=⟨gU,1,none⟩) (.inr NU.out.2.2.2) _)
  clear hW6 H5d R5d M5d U5d P5d
  have h2:W6.cell? ⟨n,2,none⟩=some (.string ⟨#[48]⟩):=(nd_cells H6.out).2.2.1
  have h3:W6.cell? ⟨n,3,none⟩=some (.pointer (some ⟨n2,0,none⟩)):=(nd_cells H6.out).2.2.2.1
  have y2:=blk_frozen H6.out 2
  have y3:=blk_frozen H6.out 3
  go_upto_region 22 with fail
  obtain ⟨W7,hW7⟩:∃ W,W=(W6.setCell ⟨n,2,none⟩ (.string ⟨#[]⟩)).setCell ⟨n,3,none⟩ (.pointer none):=⟨_,rfl⟩
  rw [←hW7]
  have H7:=Aside0.mk (show W7.heap[n]? = some (.cells (nd5 (⟨#[]⟩:ByteArray) 0 (⟨#[]⟩:ByteArray) (.pointer none) (.slice (some ⟨gU,0,none⟩) 3 3)) 279 (0,0)) by have:=blk_set (blk_set H6.out 2 (.string ⟨#[]⟩)) 3 (.pointer none);rw [hW7];simpa [nd5] using this)
  have M7:=Aside0.mk (show W7.heap[m]? = some (.cells (nd5 (⟨#[]⟩:ByteArray) 0 (⟨#[]⟩:ByteArray) (.pointer none) (.slice none 0 0)) 279 (0,0)) by rw [hW7];exact blk_far (blk_far M6.out (show m≠n by have:=NM.out;omega) _) (show m≠n by have:=NM.out;omega) _)
  have U7:=Aside0.mk (show W7.heap[gU]? = some (.cells #[.pointer (some ⟨n2,0,none⟩),.pointer (some ⟨m,0,none⟩),.pointer none] 276 (0,0)) by rw [hW7];exact blk_far (blk_far U6.out (show gU≠n by have:=NU.out;omega) _) (show gU≠n by have:=NU.out;omega) _)
  have Q7:=Aside0.mk (show ∀ w00:World,Below w00.heap.size w00 w0→w00.heap.size≤n→Below w00.heap.size w00 W7 from fun w00 hb hn=>by rw [hW7];exact below_set (below_set (Q6.out w00 hb hn) hn) hn)
  have P7:=Aside0.mk (show Kept w0 W7 (fun k=>k=n) by rw [hW7];exact (P6.out.setCell (p:=⟨n,2,none⟩) (.inl rfl) _).setCell (p:=⟨n,3,none⟩) (.inl rfl) _)
  clear hW7 H6 M6 U6 P6 h2 h3 y2 y3
  go_wp2_with (first | (go_at_call 237;(refine (add_leaf m val p _ (⟨#[]⟩:ByteArray) (.pointer none) (.slice none 0 0) W7 M7.out).mono ?_);rintro e W8 ⟨rfl,hm8,hk8,hw8⟩;have WW:=Aside0.mk hw8;have M8:=Aside0.mk hm8;have K8:=Aside0.mk hk8;clear hm8 hk8 hw8))
  go_end0
  have hne:∀ k,k≠m→¬(fun k=>k=m) k:=fun k h e=>h e
  exact ⟨rfl,gU,m,NU.out.2.2.2,NM.out.2.2,blk_kept H7.out K8.out (hne n (by have:=NM.out;omega)),blk_kept U7.out K8.out (hne gU (by have:=NU.out;omega)),M8.out,P7.out.then_ K8.out (fun k hk=>.inr (by have:=NM.out;omega)),fun w00 hb hn=>WW.out w00 (Q7.out w00 hb hn) (by have:=NM.out;omega)⟩
end Go.Proofs.YtoaafohpmhdjnaaGreatDoor.RX
