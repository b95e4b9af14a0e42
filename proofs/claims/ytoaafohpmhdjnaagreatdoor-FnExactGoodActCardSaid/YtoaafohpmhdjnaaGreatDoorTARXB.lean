import Derived.Test.YtoaafohpmhdjnaaGreatDoorTAPVGx0
import Derived.WalkKit
import Derived.Deep.RegionWith
import Derived.Deep.WholeRow
import Derived.Laws.Tables
import Derived.Lib.JoinLaws
/- strings.Replacer built over two single bytes with longer texts. Conditions: none. -/
namespace Go.Proofs.YtoaafohpmhdjnaaGreatDoor.RX
open Go.RowKit Go.Proofs.YtoaafohpmhdjnaaGreatDoor.PVG Go.Proofs.YtoaafohpmhdjnaaGreatDoorW.PrintWords Go.Proofs.YtoaafohpmhdjnaaGreatDoorW.PrintLast Go.Proofs.YtoaafohpmhdjnaaGreatDoorW.PrintMore
set_option linter.unusedVariables false
set_option linter.unusedSimpArgs false
def bsr (f:Nat→Value) (v:Value):Array Value:=((List.range 256).map f++[v]).toArray
def nilS:Nat→Value:=fun _=>.slice none 0 0
theorem built166 (p:Option Addr) (l c:Nat):Tryz.prog.built 257 [(1,.slice p l c)]=some (bsr nilS (.slice p l c)):=by kernel_rfl
theorem build166 (p:Option Addr) (l c:Nat) (W:World):(Instr.build 257 #[(1,.slice p l c)]).run Tryz.prog W=.ok (.agg (bsr nilS (.slice p l c))) W:=run_build W 257 _ _ (built166 p l c)
theorem alloc166 (W:World):(Instr.alloc 257 true (.tuple #[])).run Tryz.prog W=.ok (.pointer (some ⟨W.heap.size,0,none⟩)) (W.alloc (.cells (bsr nilS (.slice none 0 0)) 257)):=by kernel_rfl
theorem size166:(Tryz.prog.info? 257).map (·.size)=some 257:=by kernel_rfl
theorem bsr_size (f:Nat→Value) (v:Value):(bsr f v).size=257:=by simp [bsr]
theorem alloc_ev {ρ:Operand→Value} {o:Oper} (ho:o.op=.alloc 257) (W:World):(execOp ρ o).run Tryz.prog W=.ok (.value (.pointer (some ⟨W.heap.size,0,none⟩))) (W.alloc (.cells (bsr nilS (.slice none 0 0)) 257)):=by
 unfold execOp
 rw [ho]
 simp only [Sem.run_bind,alloc166,Result.andThen_ok,Sem.run_pure]
theorem build_ev {ρ:Operand→Value} {o:Oper} {x:Operand} {p:Option Addr} {l c:Nat} (ho:o.op=.build 257 #[(1,x)]) (hx:ρ x=.slice p l c) (W:World):(execOp ρ o).run Tryz.prog W=.ok (.value (.agg (bsr nilS (.slice p l c)))) W:=by
 unfold execOp
 rw [ho]
 have e:(#[(1,x)]:Array (Nat×Operand)).map (fun y=>(y.1,ρ y.2))=#[(1,.slice p l c)]:=by simp [hx]
 have e2:(#[(1,x)]:Array (Nat×Operand)).map (fun (i,y)=>(i,ρ y))=#[(1,.slice p l c)]:=e
 simp only [e2,Sem.run_bind,build166,Result.andThen_ok,Sem.run_pure]
theorem bsr_one (f:Nat→Value) (v:Value) (hf:∀ i,(f i).oneCell'=true) (hv:v.oneCell'=true):(bsr f v).all (·.oneCell')=true:=by
 rw [Array.all_eq_true_iff_forall_mem]
 intro x hx
 simp only [bsr,List.mem_toArray,List.mem_append,List.mem_map,List.mem_singleton] at hx
 rcases hx with ⟨i,_,rfl⟩ | rfl
 ·exact hf i
 ·exact hv
theorem store_ev {ρ:Operand→Value} {o:Oper} {x y:Operand} {p:Option Addr} {l c:Nat} {W:World} {cs:Array Value} (ho:o.op=.store 257 x y) (hx:ρ x=.pointer (some ⟨W.heap.size,0,none⟩)) (hy:ρ y=.agg (bsr nilS (.slice p l c))) (hs:cs.size=257):(execOp ρ o).run Tryz.prog (W.alloc (.cells cs 257))=.ok .skip (W.alloc (.cells (bsr nilS (.slice p l c)) 257)):=by
 have h:=run_storeAt_new (P:=Tryz.prog) W 257 cs (bsr nilS (.slice p l c)) (by rw [bsr_size];exact size166) (by rw [hs,bsr_size]) (bsr_one _ _ (fun _=>rfl) rfl)
 unfold execOp
 rw [ho]
 simp only [hx,hy,Sem.run_bind,h,Result.andThen_ok,Sem.run_pure]
theorem make2 (W:World):(Instr.makeSlice 26 (.int .i64 0) (.int .i64 2)).run Tryz.prog W=.ok (.slice (some ⟨W.heap.size,0,none⟩) 0 2) (W.alloc (.cells #[.string ⟨#[]⟩,.string ⟨#[]⟩] 9)):=by
 have h:=run_make_room (P:=Tryz.prog) 26 9 (.string ⟨#[]⟩) 16 Tryz.underlying26 (by kernel_rfl) rfl .i64 .i64 2 (by decide) (by decide) W
 have e:madeCells #[Value.string ⟨#[]⟩] 2=#[.string ⟨#[]⟩,.string ⟨#[]⟩]:=by kernel_rfl
 rw [e] at h
 exact h
theorem make_ev {ρ:Operand→Value} {o:Oper} {x y:Operand} (ho:o.op=.makeSlice 26 x y) (h0:ρ x=.int .i64 0) (hy:ρ y=.int .i64 2) (W:World):(execOp ρ o).run Tryz.prog W=.ok (.value (.slice (some ⟨W.heap.size,0,none⟩) 0 2)) (W.alloc (.cells #[.string ⟨#[]⟩,.string ⟨#[]⟩] 9)):=by
 unfold execOp
 rw [ho]
 simp only [h0,hy,Sem.run_bind,make2,Result.andThen_ok,Sem.run_pure]
theorem event_skip {P:Program} {ops:Array Oper} {Q:Exit→Act→World→Prop} {o:Oper} {rest:List Oper} {a:Act} {W w1:World} (hgd:o.guard=none) (hrun:(execOp a.eval o).run P W=.ok .skip w1) (h:wpList P ops Q rest (a.put o.dst undef) w1):wpList P ops Q (o :: rest) a W:=by
 refine wpList_plain hgd fun K hK=>?_
 unfold Oper.wp
 rw [hrun]
 exact hK _ _ h
theorem bsr_get (f:Nat→Value) (v:Value) (j:Nat) (h:j < 256):(bsr f v)[j]? = some (f j):=by
 simp [bsr,List.getElem?_append_left,h]
theorem bsr_last (f:Nat→Value) (v:Value):(bsr f v)[256]? = some v:=by
 simp [bsr]
def upd (f:Nat→Value) (j:Nat) (u:Value):Nat→Value:=fun i=>if i=j then u else f i
theorem bsr_set (f:Nat→Value) (v:Value) (j:Nat) (u:Value) (h:j < 256):(bsr f v).setIfInBounds j u=bsr (upd f j u) v:=by
 apply Array.ext_getElem?
 intro i
 rw [Array.getElem?_setIfInBounds,bsr_size]
 by_cases e:j=i
 ·subst e;rw [if_pos rfl,if_pos (by omega),bsr_get _ _ _ h];simp [upd]
 ·rw [if_neg e]
  by_cases hi:i < 256
  ·rw [bsr_get _ _ _ hi,bsr_get _ _ _ hi];simp [upd,Ne.symm e]
  ·by_cases h2:i=256
   ·subst h2;rw [bsr_last,bsr_last]
   ·rw [Array.getElem?_eq_none (by rw [bsr_size];omega),Array.getElem?_eq_none (by rw [bsr_size];omega)]
theorem bsr_set2 (f:Nat→Value) (v u:Value):(bsr f v).setIfInBounds 256 u=bsr f u:=by
 apply Array.ext_getElem?
 intro i
 rw [Array.getElem?_setIfInBounds,bsr_size]
 by_cases e:256=i
 ·subst e;rw [if_pos rfl,if_pos (by omega),bsr_last]
 ·rw [if_neg e]
  by_cases hi:i < 256
  ·rw [bsr_get _ _ _ hi,bsr_get _ _ _ hi]
  ·rw [Array.getElem?_eq_none (by rw [bsr_size];omega),Array.getElem?_eq_none (by rw [bsr_size];omega)]
def RB (w0 W:World) (gB:Nat) (f:Nat→Value) (xs:List ByteArray):Prop:=∃ (A:Option Addr) (c:Nat),W.heap[gB]? = some (.cells (bsr f (.slice A xs.length c)) 257 (0,0))∧Kd.R Kd.string 9 W w0.heap.size (fun _=>True) (.slice A xs.length c) xs∧Below w0.heap.size w0 W∧w0.heap.size≤gB
def BY (W:World) (u:Value) (s:ByteArray):Prop:=∃ (k c:Nat) (cs:Array Value) (fr:Nat×Nat),u=.slice (some ⟨k,0,none⟩) s.size c∧W.heap[k]? = some (.cells cs 5 fr)∧∀ j,j < s.size→cs[j]? = some (.int .u8 (s.data.toList.getD j 0).toNat)
theorem BY.new (W:World) (s:ByteArray):BY (Lib.bytesWorld W 5 s) (.slice (some ⟨W.heap.size,0,none⟩) s.size (grownCap W s.size 0 5)) s :=
 ⟨W.heap.size,_,_,_,rfl,Lib.bytesWorld_at_new W 5 s,fun j hj=>by
  have h:j < s.data.size:=hj
  have e:(Lib.bytesCells W 5 s)[j]? = (s.data.map fun b=>Value.int .u8 b.toNat)[j]?:=by unfold Lib.bytesCells;exact Array.getElem?_append_left (by simpa using h)
  rw [e,Array.getElem?_map,Array.getElem?_eq_getElem h]
  simp [List.getD_eq_getElem?_getD,Array.getElem?_eq_getElem h]⟩
theorem BY.of {W W':World} {u:Value} {s:ByteArray} (h1:W'=Lib.bytesWorld W 5 s) (h2:u=.slice (some ⟨W.heap.size,0,none⟩) s.size (grownCap W s.size 0 5)):BY W' u s:=by
 subst h1 h2
 exact BY.new W s
theorem BY.set {W:World} {u:Value} {s:ByteArray} {gB:Nat} {cs:Array Value} (h:BY W u s) (hB:W.heap[gB]? = some (.cells cs 257 (0,0))) (i:Nat) (x:Value):BY (W.setCell ⟨gB,i,none⟩ x) u s:=by
 obtain ⟨k,c,cs',fr,e,hb,hc⟩:=h
 refine ⟨k,c,cs',fr,e,?_,hc⟩
 have hne:k≠gB:=by
  rintro rfl
  rw [hB] at hb
  injection hb with hb
  injection hb with _ ht
  exact absurd ht (by decide)
 exact (Below.heap_setCell W ⟨gB,i,none⟩ x k hne).trans hb
theorem BY.below {W W':World} {u:Value} {s:ByteArray} (h:BY W u s) (hb:Below W.heap.size W W'):BY W' u s:=by
 obtain ⟨k,c,cs',fr,e,hk,hc⟩:=h
 exact ⟨k,c,cs',fr,e,(hb.block k (blk_lt hk)).trans hk,hc⟩
theorem BY.grown {W W':World} {u v:Value} {s:ByteArray} {base:Nat} {ok:Nat→Prop} {xs:List ByteArray} (h:BY W u s) (hR:Kd.R Kd.string 9 W base ok v xs) (hg:W.grownBy W' v.ownBlock):BY W' u s:=by
 obtain ⟨k,c,cs',fr,e,hk,hc⟩:=h
 refine ⟨k,c,cs',fr,e,(hg.block k (blk_lt hk) ?_).trans hk,hc⟩
 intro hv
 obtain ⟨_,_,_,q,hq,cells,hcc⟩:=(Kd.R_bound hR).1 k hv.symm
 have:q=9:=by simpa [Kd.E,Kd.string,Kd.scalar] using hq
 subst this
 rw [hcc] at hk
 injection hk with hk
 injection hk with _ ht
 exact absurd ht (by decide)
theorem bsr_put {W:World} {gB:Nat} {f:Nat→Value} {v:Value} (h:W.heap[gB]? = some (.cells (bsr f v) 257 (0,0))) (j:Nat) (hj:j < 256) (u:Value):(W.setCell ⟨gB,j,none⟩ u).heap[gB]? = some (.cells (bsr (upd f j u) v) 257 (0,0)):=by
 have:=blk_set h j u
 rw [bsr_set _ _ _ _ hj] at this
 exact this
theorem bsr_put2 {W:World} {gB:Nat} {f:Nat→Value} {v:Value} (h:W.heap[gB]? = some (.cells (bsr f v) 257 (0,0))) (u:Value):(W.setCell ⟨gB,256,none⟩ u).heap[gB]? = some (.cells (bsr f u) 257 (0,0)):=by
 have:=blk_set h 256 u
 rw [bsr_set2] at this
 exact this
theorem infoS:(Tryz.prog.info? 9).map (fun i=>(i.zero,i.size,i.bytes))=some (some (.string ⟨#[]⟩),1,16):=by kernel_rfl
theorem conv2_ev {ρ:Operand→Value} {o:Oper} {x:Operand} (s:ByteArray) (ho:o.op=.convert 9 147 x) (hx:ρ x=.string s) (W:World) :
  (execOp ρ o).run Tryz.prog W=.ok (.value (.slice (some ⟨W.heap.size,0,none⟩) s.size (grownCap W s.size 0 5))) (Lib.bytesWorld W 5 s):=by
 have h:=print_bytes (P:=Tryz.prog) 9 147 5 Tryz.underlying9 Tryz.underlying147 Tryz.underlying5 s W
 unfold execOp
 rw [ho]
 simp only [hx,Sem.run_bind,h,Result.andThen_ok,Sem.run_pure]
theorem make_R (w W:World) (h:W.heap[w.heap.size]? = some (.cells #[.string ⟨#[]⟩,.string ⟨#[]⟩] 9 (0,0))):Kd.R Kd.string 9 W w.heap.size (fun _=>True) (.slice (some ⟨w.heap.size,0,none⟩) 0 2) []:=by
 exact ⟨fun _ _=>trivial,[],⟨rfl,.inr ⟨w.heap.size,2,_,rfl,Nat.le_refl _,h,by decide,by decide,rfl,rfl⟩⟩,Reps.none _ _⟩
theorem lit_row {α:Type} (d:Kd α) (W:World) (e:Nat) {xs:List α} {inner:List Value} (hrep:Reps (d.M W W.heap.size (fun _=>True)) d.sz xs inner) (hm:xs.length≤9223372036854775807) :
  d.R e (W.alloc (.cells inner.toArray e)) W.heap.size (fun _=>True) (.slice (some ⟨W.heap.size,0,none⟩) xs.length xs.length) xs:=by
 refine ⟨fun k hk=>trivial,inner,?_,?_⟩
 ·have h2:=World.ownsRow_lit (base:=W.heap.size) (e:=e) (size:=d.sz) W inner.toArray xs.length (Nat.le_refl _) (by simpa [maxLen] using hm) (by simpa using hrep.1)
  simpa using h2
 ·refine hrep.imp_ (fun p c hp=>d.M_mono (fun k hk=>⟨trivial,fun he=>?_⟩) (Kd.M_below (d.M_bound hp) (below_alloc (Below.refl _ _) _)))
  have h3:k=W.heap.size:=by simpa [Value.ownBlock] using he
  have:=hk.2.2.1
  omega
theorem conv1_ev {ρ:Operand→Value} {o:Oper} {x:Operand} {W:World} (b:Int) (s:ByteArray) (hs:strOfNums [b]=s) (ho:o.op=.convert 147 9 x) (hx:ρ x=.slice (some ⟨W.heap.size,0,none⟩) 1 1) :
  (execOp ρ o).run Tryz.prog (W.alloc (.cells #[.int .u8 b] 5))=.ok (.value (.string s)) (W.alloc (.cells #[.int .u8 b] 5)):=by
 have hR:=lit_row (Kd.int .u8) W 5 (xs:=[b]) (inner:=[.int .u8 b]) (Reps.one (show Kd.M (Kd.int .u8) _ _ _ b [.int .u8 b] from rfl) (Reps.none _ _)) (by simp)
 have hc:=Kd.C_string (c:=1) Tryz.underlying147 Tryz.underlying5 Tryz.underlying9 (Kd.R_reads' hR).2.2
 unfold execOp
 rw [ho]
 simp only [hx]
 rw [hs] at hc
 simp only [Sem.run_bind]
 have hc':(convert 147 9 (.slice (some ⟨W.heap.size,0,none⟩) 1 1)).run Tryz.prog (W.alloc (.cells #[.int .u8 b] 5))=.ok (.string s) (W.alloc (.cells #[.int .u8 b] 5)):=hc
 simp only [hc',Result.andThen_ok,Sem.run_pure]
def old4:List ByteArray:=[⟨#[34]⟩,⟨#[92,34]⟩,⟨#[92]⟩,⟨#[92,92]⟩]
theorem at_old {w:World} {g:Nat} (h:Kd.C Kd.string w (some ⟨g,0,none⟩) 4 old4):w.cell? ⟨g,0,none⟩=some (.string ⟨#[34]⟩)∧w.cell? ⟨g,1,none⟩=some (.string ⟨#[92,34]⟩)∧w.cell? ⟨g,2,none⟩=some (.string ⟨#[92]⟩)∧w.cell? ⟨g,3,none⟩=some (.string ⟨#[92,92]⟩):=by
 have q:∀ i:Int,0≤i→i < 4→w.cell? ((⟨g,0,none⟩:Addr).add i.toNat)=some (.string (rdOf ByteArray.empty old4 i)):=fun i h0 h1=>by
  obtain ⟨ad,e,hc⟩:=Kd.at_string h i h0 h1
  cases e
  exact hc
 exact ⟨(q 0 (by omega) (by omega)).trans rfl,(q 1 (by omega) (by omega)).trans rfl,(q 2 (by omega) (by omega)).trans rfl,(q 3 (by omega) (by omega)).trans rfl⟩
structure IsRep (w w':World) (gB:Nat):Prop where
 out:∃ u1 u2,BY w' u1 ⟨#[92,92]⟩∧BY w' u2 ⟨#[92,34]⟩∧RB w w' gB (upd (upd nilS 92 u1) 34 u2) [⟨#[92]⟩,⟨#[34]⟩]
structure Built (w:World) (e:Ending) (w':World):Prop where
 out:∃ gB,e=.returned (.iface 258 (.pointer (some ⟨gB,0,none⟩)))∧IsRep w w' gB
set_option maxRecDepth 100000 in
set_option maxHeartbeats 1600000 in
theorem build_c (b:Nat) (x0 x1 x2 x3:Value) (g c:Nat) (w:World) (hb:w.heap[b]? = some (.cells #[x0,x1,x2,x3,.slice (some ⟨g,0,none⟩) 4 c] 204 (0,0))) (hA:Kd.C Kd.string w (some ⟨g,0,none⟩) 4 old4) :
  Calls Tryz.prog 189 #[.pointer (some ⟨b,0,none⟩)] w (Built w):=by
 obtain ⟨t0,t1,t2,t3⟩:=at_old hA
 have c4:w.cell? ⟨b,4,none⟩=some (.slice (some ⟨g,0,none⟩) 4 c):=(blk_cell hb 4).trans rfl
 have HB:=Aside0.mk hb
 have HA:=Aside0.mk hA
 clear hb hA
 go_enter Tryz.func189,Tryz.ntmps189
 go_wp2
 go_loopg [4,5] 2 (fun kq v4 v5 w'=>w'=w∧(kq=2∧v4=.bool true∧v5=.int .i64 0∨kq=1∧v4=.bool false∧v5=.int .i64 2∨kq=0∧v4=.bool false∧v5=.int .i64 4))
 case atStart=>exact ⟨rfl,.inl ⟨rfl,rfl,rfl⟩⟩
 case round =>
  obtain ⟨rfl,⟨rfl,rfl,rfl⟩ | ⟨rfl,rfl,rfl⟩ | ⟨rfl,rfl,rfl⟩⟩:=hrel
  ·go_wp2
   go_roundg 1
   case measure=>omega
   case rel=>exact ⟨rfl,.inr (.inl ⟨rfl,rfl,rfl⟩)⟩
  ·go_wp2
   go_roundg 0
   case measure=>omega
   case rel=>exact ⟨rfl,.inr (.inr ⟨rfl,rfl,rfl⟩)⟩
  ·obtain ⟨w0,rfl⟩:∃ w0:World,w0=wr:=⟨_,rfl⟩
   go_upto_region 27 with (first | ((with_reducible refine gate_dst (N:=94) rfl ?_);refine Kd.event_run rfl (make_ev rfl rfl rfl _) ?_;obtain ⟨W1,hW1⟩:∃ W1,W1=w0.alloc (.cells #[.string ⟨#[]⟩,.string ⟨#[]⟩] 9):=⟨_,rfl⟩;have B1:=Aside0.mk (show Below w0.heap.size w0 W1 by rw [hW1];exact below_alloc (Below.refl _ _) _);have K1:=Aside0.mk (show W1.heap[w0.heap.size]? = some (.cells #[.string ⟨#[]⟩,.string ⟨#[]⟩] 9 (0,0)) by rw [hW1];exact blk_new w0 _);rw [←hW1];clear hW1) | ((with_reducible refine gate_dst (N:=95) rfl ?_);refine Kd.event_run rfl (build_ev rfl rfl _) ?_) | ((with_reducible refine gate_dst (N:=11) rfl ?_);refine Kd.event_run rfl (alloc_ev rfl _) ?_;refine event_skip rfl (store_ev rfl rfl rfl (bsr_size _ _)) ?_))
   obtain ⟨W2,hW2⟩:∃ W2,W2=W1.alloc (.cells (bsr nilS (.slice (some ⟨w0.heap.size,0,none⟩) 0 2)) 257):=⟨_,rfl⟩
   have B2:=Aside0.mk (show Below w0.heap.size w0 W2 by rw [hW2];exact below_alloc B1.out _)
   have G2:=Aside0.mk (show W2.heap[W1.heap.size]? = some (.cells (bsr nilS (.slice (some ⟨w0.heap.size,0,none⟩) 0 2)) 257 (0,0)) by rw [hW2];exact blk_new W1 _)
   have K2:=Aside0.mk (show W2.heap[w0.heap.size]? = some (.cells #[.string ⟨#[]⟩,.string ⟨#[]⟩] 9 (0,0)) by rw [hW2];exact blk_alloc K1.out _)
   rw [←hW2]
   have HZ:=Aside0.mk B1.out.size
   have RM:=Aside0.mk (make_R w0 W2 K2.out)
   clear hW2 B1 K1
   have HR:=Aside0.mk (show w0.heap.size≤W1.heap.size from HZ.out)
   have R2:=Aside0.mk (show Kd.R Kd.string 9 W2 w0.heap.size (fun _=>True) (.slice (some ⟨w0.heap.size,0,none⟩) 0 2) [] from RM.out)
   have HT:=Aside0.mk (And.intro t0 (And.intro t1 (And.intro t2 t3)))
   have g92:W2.cell? ⟨W1.heap.size,92,none⟩=some (.slice none 0 0):=(blk_cell G2.out 92).trans (bsr_get _ _ 92 (by decide))
   have g256:W2.cell? ⟨W1.heap.size,256,none⟩=some (.slice (some ⟨w0.heap.size,0,none⟩) 0 2):=(blk_cell G2.out 256).trans (bsr_last _ _)
   have s2:W2.cell? ⟨g,2,none⟩=some (.string ⟨#[92]⟩):=(B2.out.cell (World.block_lt_of_cell? w0 _ t2)).trans t2
   have s3:W2.cell? ⟨g,3,none⟩=some (.string ⟨#[92,92]⟩):=(B2.out.cell (World.block_lt_of_cell? w0 _ t3)).trans t3
   have hz:=HR.out
   go_upto_region 28 with (fail)
   go_loopg [12] 2 (fun kq v12 w'=>kq=2∧v12=.int .i64 2∧Aside0 (RB w0 w' W1.heap.size nilS [])∨kq=1∧v12=.int .i64 0∧(∃ u1,Aside0 (BY w' u1 ⟨#[92,92]⟩∧RB w0 w' W1.heap.size (upd nilS 92 u1) [⟨#[92]⟩]))∨kq=0∧v12=.int .i64 (-2)∧(∃ u1 u2,Aside0 (BY w' u1 ⟨#[92,92]⟩∧BY w' u2 ⟨#[92,34]⟩∧RB w0 w' W1.heap.size (upd (upd nilS 92 u1) 34 u2) [⟨#[92]⟩,⟨#[34]⟩])))
   case atStart=>exact .inl ⟨rfl,rfl,⟨_,_,G2.out,R2.out,B2.out,HR.out⟩⟩
   case round =>
    clear g92 g256 s2 s3 K2 G2 R2 B2 RM
    rcases hrel with ⟨rfl,rfl,HQ⟩ | ⟨rfl,rfl,u1,HQ⟩ | ⟨rfl,rfl,u1,u2,HQ⟩
    ·obtain ⟨Av,cv,hG,hR,hB,hge⟩:=HQ.out
     have HG:=Aside0.mk hG
     have HRR:=Aside0.mk hR
     have HBB:=Aside0.mk hB
     have g1:wr.cell? ⟨W1.heap.size,92,none⟩=some (.slice none 0 0):=(blk_cell hG 92).trans (bsr_get _ _ 92 (by decide))
     have g2:wr.cell? ⟨W1.heap.size,256,none⟩=some (.slice Av 0 cv):=(blk_cell hG 256).trans (bsr_last _ _)
     have f1:=blk_frozen hG 92
     have f2:=blk_frozen hG 256
     have s2:wr.cell? ⟨g,2,none⟩=some (.string ⟨#[92]⟩):=(hB.cell (World.block_lt_of_cell? w0 _ HT.out.2.2.1)).trans HT.out.2.2.1
     have s3:wr.cell? ⟨g,3,none⟩=some (.string ⟨#[92,92]⟩):=(hB.cell (World.block_lt_of_cell? w0 _ HT.out.2.2.2)).trans HT.out.2.2.2
     clear hG hR hB
     have hb92:∀ h:0 < (⟨#[92]⟩:ByteArray).size,((⟨#[92]⟩:ByteArray)[0]'h).toNat=92:=fun _=>rfl
     have hnil:∀ W:World,(binOp .eql 147 (.slice none 0 0) (.slice none 0 0)).run Tryz.prog W=.ok (.bool true) W:=fun W=>by simpa using Lib.run_eql_slice_nil (P:=Tryz.prog) W 147 5 none 0 0 0 0 Tryz.underlying147
     go_upto_region 33 with (fail)
     go_upto_region 34 with (first | ((with_reducible refine gate_dst (N:=122) rfl ?_);refine Kd.event_run rfl (conv1_ev 92 ⟨#[92]⟩ (by kernel_rfl) rfl rfl) ?_;obtain ⟨W3,hW3⟩:∃ W3,W3=wr.alloc (.cells #[.int .u8 92] 5):=⟨_,rfl⟩;have H3:=Aside0.mk (show Below wr.heap.size wr W3 by rw [hW3];exact below_alloc (Below.refl _ _) _);have G3:=Aside0.mk (blk_below HG.out H3.out);have R3:=Aside0.mk (Kd.R_below HRR.out H3.out);have B3:=Aside0.mk (below_step HBB.out H3.out);rw [←hW3];clear hW3) | ((with_reducible refine gate_builtin (b:=.append) (xs:=#[.tmp 119,.tmp 123]) rfl ?_);at_builtin;refine Kd.R_append Kd.string w0.heap.size rfl (.tmp 119) (.tmp 123) 26 9 (.string ⟨#[]⟩) 16 rfl Tryz.underlying26 infoS rfl (by decide) (by omega) (.slice Av 0 cv) [] ⟨#[92]⟩ [.string ⟨#[92]⟩] (fun _=>True) (fun _=>False) rfl rfl ?aP (fun _ hk=>hk.elim) ?aF ?aO (Below.refl _ _) ?aS ?aL ?_;(case aP=>exact rfl);(case aF=>exact (fun _ _=>trivial));(case aO=>exact R3.out);(case aS=>exact B3.out.size);(case aL=>decide);intro v4 W4 ho hb hg hat;obtain ⟨A4,c4',rfl⟩:=Kd.R_slice ho;have R4:=Aside0.mk ho;have B4:=Aside0.mk (below_weaken B3.out (Nat.le_refl _) hb);have G4:=Aside0.mk (blk_grown G3.out hg (Kd.R_ne R3.out G3.out (by decide)));clear ho hb hg hat;have k256:W4.cell? ⟨W1.heap.size,256,none⟩=some (.slice Av 0 cv):=(blk_cell G4.out 256).trans (bsr_last _ _);have z256:=blk_frozen G4.out 256))
     obtain ⟨W5,hW5⟩:∃ W5,W5=W4.setCell ⟨W1.heap.size,256,none⟩ (.slice A4 1 c4'):=⟨_,rfl⟩
     have G5:=Aside0.mk (show W5.heap[W1.heap.size]? = some (.cells (bsr nilS (.slice A4 1 c4')) 257 (0,0)) by rw [hW5];exact bsr_put2 G4.out _)
     have R5:=Aside0.mk (show Kd.R Kd.string 9 W5 w0.heap.size (fun _=>True) (.slice A4 1 c4') [⟨#[92]⟩] by rw [hW5];exact Kd.R_mono (Kd.R_far (Kd.R_types R4.out G4.out (by decide)) (fun _ hk=>hk.2) _) (fun _ _=>trivial))
     have B5:=Aside0.mk (show Below w0.heap.size w0 W5 by rw [hW5];exact below_set B4.out hge)
     rw [←hW5]
     clear hW5 k256 z256 g1 g2 f1 f2
     go_wp2_with (first | ((with_reducible refine gate_dst (N:=128) rfl ?_);refine Kd.event_run rfl (conv2_ev ⟨#[92,92]⟩ rfl rfl _) ?_;obtain ⟨W6,hW6⟩:∃ W6,W6=Lib.bytesWorld W5 5 ⟨#[92,92]⟩:=⟨_,rfl⟩;obtain ⟨k6,hk6⟩:∃ k6,k6=W5.heap.size:=⟨_,rfl⟩;obtain ⟨c6,hc6⟩:∃ c6,c6=grownCap W5 (⟨#[92,92]⟩:ByteArray).size 0 5:=⟨_,rfl⟩;have H6:=Aside0.mk (show Below W5.heap.size W5 W6 by rw [hW6];exact bytes_below (Below.refl _ _) (Nat.le_refl _) 5 _);have Y6:=Aside0.mk (BY.of (u:=.slice (some ⟨k6,0,none⟩) (⟨#[92,92]⟩:ByteArray).size c6) hW6 (by rw [hk6,hc6]));have G6:=Aside0.mk (blk_below G5.out H6.out);have R6:=Aside0.mk (Kd.R_below R5.out H6.out);have B6:=Aside0.mk (below_step B5.out H6.out);rw [←hW6,←hk6,←hc6];clear hW6 hk6 hc6;have k120:W6.cell? ⟨W1.heap.size,92,none⟩=some (.slice none 0 0):=(blk_cell G6.out 92).trans (bsr_get _ _ 92 (by decide));have z120:=blk_frozen G6.out 92))
     have QQ:=Aside0.mk (show BY (W6.setCell ⟨W1.heap.size,92,none⟩ (.slice (some ⟨k6,0,none⟩) (⟨#[92,92]⟩:ByteArray).size c6)) (.slice (some ⟨k6,0,none⟩) (⟨#[92,92]⟩:ByteArray).size c6) ⟨#[92,92]⟩∧RB w0 (W6.setCell ⟨W1.heap.size,92,none⟩ (.slice (some ⟨k6,0,none⟩) (⟨#[92,92]⟩:ByteArray).size c6)) W1.heap.size (upd nilS 92 (.slice (some ⟨k6,0,none⟩) (⟨#[92,92]⟩:ByteArray).size c6)) [⟨#[92]⟩] from
      ⟨Y6.out.set G6.out 92 _,A4,c4',bsr_put G6.out 92 (by decide) _,Kd.R_mono (Kd.R_far (Kd.R_types R6.out G6.out (by decide)) (fun _ hk=>hk.2) _) (fun _ _=>trivial),below_set B6.out hge,hge⟩)
     go_roundg 1
     case measure=>omega
     case rel=>exact .inr (.inl ⟨rfl,rfl,_,QQ⟩)
    ·obtain ⟨hY,Av,cv,hG,hR,hB,hge⟩:=HQ.out
     have HY:=Aside0.mk hY
     clear hY
     have HG:=Aside0.mk hG
     have HRR:=Aside0.mk hR
     have HBB:=Aside0.mk hB
     have g1:wr.cell? ⟨W1.heap.size,34,none⟩=some (.slice none 0 0):=(blk_cell hG 34).trans (bsr_get _ _ 34 (by decide))
     have g2:wr.cell? ⟨W1.heap.size,256,none⟩=some (.slice Av 1 cv):=(blk_cell hG 256).trans (bsr_last _ _)
     have f1:=blk_frozen hG 34
     have f2:=blk_frozen hG 256
     have s2:wr.cell? ⟨g,0,none⟩=some (.string ⟨#[34]⟩):=(hB.cell (World.block_lt_of_cell? w0 _ HT.out.1)).trans HT.out.1
     have s3:wr.cell? ⟨g,1,none⟩=some (.string ⟨#[92,34]⟩):=(hB.cell (World.block_lt_of_cell? w0 _ HT.out.2.1)).trans HT.out.2.1
     clear hG hR hB
     have hb34:∀ h:0 < (⟨#[34]⟩:ByteArray).size,((⟨#[34]⟩:ByteArray)[0]'h).toNat=34:=fun _=>rfl
     have hnil:∀ W:World,(binOp .eql 147 (.slice none 0 0) (.slice none 0 0)).run Tryz.prog W=.ok (.bool true) W:=fun W=>by simpa using Lib.run_eql_slice_nil (P:=Tryz.prog) W 147 5 none 0 0 0 0 Tryz.underlying147
     go_upto_region 33 with (fail)
     go_upto_region 34 with (first | ((with_reducible refine gate_dst (N:=122) rfl ?_);refine Kd.event_run rfl (conv1_ev 34 ⟨#[34]⟩ (by kernel_rfl) rfl rfl) ?_;obtain ⟨W3,hW3⟩:∃ W3,W3=wr.alloc (.cells #[.int .u8 34] 5):=⟨_,rfl⟩;have H3:=Aside0.mk (show Below wr.heap.size wr W3 by rw [hW3];exact below_alloc (Below.refl _ _) _);have G3:=Aside0.mk (blk_below HG.out H3.out);have R3:=Aside0.mk (Kd.R_below HRR.out H3.out);have B3:=Aside0.mk (below_step HBB.out H3.out);have Y3:=Aside0.mk (HY.out.below H3.out);rw [←hW3];clear hW3) | ((with_reducible refine gate_builtin (b:=.append) (xs:=#[.tmp 119,.tmp 123]) rfl ?_);at_builtin;refine Kd.R_append Kd.string w0.heap.size rfl (.tmp 119) (.tmp 123) 26 9 (.string ⟨#[]⟩) 16 rfl Tryz.underlying26 infoS rfl (by decide) (by omega) (.slice Av 1 cv) [⟨#[92]⟩] ⟨#[34]⟩ [.string ⟨#[34]⟩] (fun _=>True) (fun _=>False) rfl rfl ?aP (fun _ hk=>hk.elim) ?aF ?aO (Below.refl _ _) ?aS ?aL ?_;(case aP=>exact rfl);(case aF=>exact (fun _ _=>trivial));(case aO=>exact R3.out);(case aS=>exact B3.out.size);(case aL=>decide);intro v4 W4 ho hb hg hat;obtain ⟨A4,c4',rfl⟩:=Kd.R_slice ho;have R4:=Aside0.mk ho;have Y4:=Aside0.mk (Y3.out.grown R3.out hg);have B4:=Aside0.mk (below_weaken B3.out (Nat.le_refl _) hb);have G4:=Aside0.mk (blk_grown G3.out hg (Kd.R_ne R3.out G3.out (by decide)));clear ho hb hg hat;have k256:W4.cell? ⟨W1.heap.size,256,none⟩=some (.slice Av 1 cv):=(blk_cell G4.out 256).trans (bsr_last _ _);have z256:=blk_frozen G4.out 256))
     obtain ⟨W5,hW5⟩:∃ W5,W5=W4.setCell ⟨W1.heap.size,256,none⟩ (.slice A4 2 c4'):=⟨_,rfl⟩
     have G5:=Aside0.mk (show W5.heap[W1.heap.size]? = some (.cells (bsr (upd nilS 92 u1) (.slice A4 2 c4')) 257 (0,0)) by rw [hW5];exact bsr_put2 G4.out _)
     have R5:=Aside0.mk (show Kd.R Kd.string 9 W5 w0.heap.size (fun _=>True) (.slice A4 2 c4') [⟨#[92]⟩,⟨#[34]⟩] by rw [hW5];exact Kd.R_mono (Kd.R_far (Kd.R_types R4.out G4.out (by decide)) (fun _ hk=>hk.2) _) (fun _ _=>trivial))
     have Y5:=Aside0.mk (show BY W5 u1 ⟨#[92,92]⟩ by rw [hW5];exact Y4.out.set G4.out 256 _)
     have B5:=Aside0.mk (show Below w0.heap.size w0 W5 by rw [hW5];exact below_set B4.out hge)
     rw [←hW5]
     clear hW5 k256 z256 g1 g2 f1 f2
     go_wp2_with (first | ((with_reducible refine gate_dst (N:=128) rfl ?_);refine Kd.event_run rfl (conv2_ev ⟨#[92,34]⟩ rfl rfl _) ?_;obtain ⟨W6,hW6⟩:∃ W6,W6=Lib.bytesWorld W5 5 ⟨#[92,34]⟩:=⟨_,rfl⟩;obtain ⟨k6,hk6⟩:∃ k6,k6=W5.heap.size:=⟨_,rfl⟩;obtain ⟨c6,hc6⟩:∃ c6,c6=grownCap W5 (⟨#[92,34]⟩:ByteArray).size 0 5:=⟨_,rfl⟩;have H6:=Aside0.mk (show Below W5.heap.size W5 W6 by rw [hW6];exact bytes_below (Below.refl _ _) (Nat.le_refl _) 5 _);have Y6:=Aside0.mk (BY.of (u:=.slice (some ⟨k6,0,none⟩) (⟨#[92,34]⟩:ByteArray).size c6) hW6 (by rw [hk6,hc6]));have G6:=Aside0.mk (blk_below G5.out H6.out);have Y61:=Aside0.mk (Y5.out.below H6.out);have R6:=Aside0.mk (Kd.R_below R5.out H6.out);have B6:=Aside0.mk (below_step B5.out H6.out);rw [←hW6,←hk6,←hc6];clear hW6 hk6 hc6;have k120:W6.cell? ⟨W1.heap.size,34,none⟩=some (.slice none 0 0):=(blk_cell G6.out 34).trans (bsr_get _ _ 34 (by decide));have z120:=blk_frozen G6.out 34))
     have QQ:=Aside0.mk (show BY (W6.setCell ⟨W1.heap.size,34,none⟩ (.slice (some ⟨k6,0,none⟩) (⟨#[92,34]⟩:ByteArray).size c6)) u1 ⟨#[92,92]⟩∧BY (W6.setCell ⟨W1.heap.size,34,none⟩ (.slice (some ⟨k6,0,none⟩) (⟨#[92,34]⟩:ByteArray).size c6)) (.slice (some ⟨k6,0,none⟩) (⟨#[92,34]⟩:ByteArray).size c6) ⟨#[92,34]⟩∧RB w0 (W6.setCell ⟨W1.heap.size,34,none⟩ (.slice (some ⟨k6,0,none⟩) (⟨#[92,34]⟩:ByteArray).size c6)) W1.heap.size (upd (upd nilS 92 u1) 34 (.slice (some ⟨k6,0,none⟩) (⟨#[92,34]⟩:ByteArray).size c6)) [⟨#[92]⟩,⟨#[34]⟩] from
      ⟨Y61.out.set G6.out 34 _,Y6.out.set G6.out 34 _,A4,c4',bsr_put G6.out 34 (by decide) _,Kd.R_mono (Kd.R_far (Kd.R_types R6.out G6.out (by decide)) (fun _ hk=>hk.2) _) (fun _ _=>trivial),below_set B6.out hge,hge⟩)
     go_roundg 0
     case measure=>omega
     case rel=>exact .inr (.inr ⟨rfl,rfl,_,_,QQ⟩)
    ·obtain ⟨hY1,hY2,Av,cv,hG,hR,hB,hge⟩:=HQ.out
     clear t0 t1 t2 t3 c4
     have HX:=Aside0.mk (show IsRep w0 wr W1.heap.size from ⟨u1,u2,hY1,hY2,Av,cv,hG,hR,hB,hge⟩)
     clear hY1 hY2 hG hR hB
     go_wp2
     go_ret
     exact ⟨⟨W1.heap.size,rfl,HX.out⟩⟩
end Go.Proofs.YtoaafohpmhdjnaaGreatDoor.RX
