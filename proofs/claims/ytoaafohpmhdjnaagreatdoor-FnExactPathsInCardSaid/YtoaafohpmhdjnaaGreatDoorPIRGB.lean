import Derived.Test.YtoaafohpmhdjnaaGreatDoorPIYLA
import Derived.Test.YtoaafohpmhdjnaaGreatDoorPIVWB
import Derived.Test.YtoaafohpmhdjnaaGreatDoorPIShelf
import Derived.Test.YtoaafohpmhdjnaaGreatDoorPIRXG
import Derived.Deep.MidRow
/- impl place in every tree, get: walked. Conditions: right trees, short names, the powers of ten and the two errors stand. -/
namespace Go.Proofs.YtoaafohpmhdjnaaGreatDoor.VT
open Go.RowKit Go.Proofs.YtoaafohpmhdjnaaGreatDoor.RX Go.Proofs.YtoaafohpmhdjnaaGreatDoor.RY Go.Proofs.YtoaafohpmhdjnaaGreatDoor.PVG Go.Proofs.YtoaafohpmhdjnaaGreatDoorW.PrintWords Go.Proofs.YtoaafohpmhdjnaaGreatDoorW.PrintLast Go.Proofs.YtoaafohpmhdjnaaGreatDoorW.PrintMore
set_option linter.unusedVariables false
set_option linter.unusedSimpArgs false
def isErr (w:World) (g:Nat):Prop:=∃ ev,w.cell? ⟨g,0,none⟩=some ev∧(ev=.nilIface∨∃ te pe,ev=.iface te pe)
def HE (w:World):Prop:=isErr w 0∧isErr w 1
theorem HE.below {w w':World} (h:HE w) (hb:Below w.heap.size w w'):HE w':=by
 obtain ⟨⟨e1,h1,g1⟩,e2,h2,g2⟩:=h
 exact ⟨⟨e1,(hb.cell (World.block_lt_of_cell? w _ h1)).trans h1,g1⟩,e2,(hb.cell (World.block_lt_of_cell? w _ h2)).trans h2,g2⟩
theorem itoa_all (n:Int) (w:World) (h0:-9223372036854775808≤n) (h1:n≤9223372036854775807) (ht:HT w):Calls Tryz.prog 115 #[.int .i64 n] w fun e w'=>e=.returned (.string ⟨(Lib.itoa n).toArray⟩)∧Below w.heap.size w w' :=
 (Tryz.strconv_Itoa n h0 h1 w ht).mono fun e w' ⟨he,k,os,hw⟩=>⟨he,by rw [hw];exact below_grow w k os⟩
structure NoNum (w:World) (e:Ending) (w':World):Prop where
 out:∃ v N,e=.returned (.tuple #[.int .i64 v,.iface 230 (.pointer (some ⟨N,0,none⟩))])∧Below w.heap.size w w'
end Go.Proofs.YtoaafohpmhdjnaaGreatDoor.VT
namespace Go.Proofs.YtoaafohpmhdjnaaGreatDoor.RX
open Go.RowKit Go.Proofs.YtoaafohpmhdjnaaGreatDoor.PVG Go.Proofs.YtoaafohpmhdjnaaGreatDoorW.PrintWords Go.Proofs.YtoaafohpmhdjnaaGreatDoorW.PrintLast Go.Proofs.YtoaafohpmhdjnaaGreatDoorW.PrintMore
set_option linter.unusedVariables false
set_option linter.unusedSimpArgs false
theorem below_drewN {w W:World} (h:Below w.heap.size w W) (m:Nat):Below w.heap.size w (W.drewN m):=below_step h (Drawn0.mk ⟨m,rfl⟩:Drawn0 W (W.drewN m)).below
def nd5 (v:ByteArray) (p:Int) (pre:ByteArray) (nx tb:Value):Array Value:=#[.string v,.int .i64 p,.string pre,nx,tb]
def grc (tb:Value) (ts:Int) (f:Nat→Int):Array Value:=([.string (⟨#[]⟩:ByteArray),.int .i64 0,.string (⟨#[]⟩:ByteArray),.pointer none,tb,.int .i64 ts]++(List.range 256).map fun i=>Value.int .u8 (f i)).toArray
theorem grc_size (tb:Value) (ts:Int) (f:Nat→Int):(grc tb ts f).size=262:=by simp [grc]
theorem grc_get (tb:Value) (ts:Int) (f:Nat→Int) (j:Nat) (h:j < 256):(grc tb ts f)[6+j]? = some (.int .u8 (f j)):=by
 have e:(grc tb ts f)[6+j]? = ([.string (⟨#[]⟩:ByteArray),.int .i64 0,.string (⟨#[]⟩:ByteArray),.pointer none,tb,.int .i64 ts]++(List.range 256).map fun i=>Value.int .u8 (f i))[6+j]?:=by unfold grc;rw [List.getElem?_toArray]
 rw [e,List.getElem?_append_right (by simp)]
 simp [h]
def updI (f:Nat→Int) (j:Nat) (u:Int):Nat→Int:=fun i=>if i=j then u else f i
theorem grc_set (tb:Value) (ts:Int) (f:Nat→Int) (j:Nat) (u:Int) (h:j < 256):(grc tb ts f).setIfInBounds (6+j) (.int .u8 u)=grc tb ts (updI f j u):=by
 apply Array.ext_getElem?
 intro i
 rw [Array.getElem?_setIfInBounds,grc_size]
 by_cases e:6+j=i
 ·subst e;rw [if_pos rfl,if_pos (by omega),grc_get _ _ _ _ h];simp [updI]
 ·rw [if_neg e]
  by_cases hi:i < 6
  ·unfold grc
   rw [List.getElem?_toArray,List.getElem?_toArray,List.getElem?_append_left (by simpa using hi),List.getElem?_append_left (by simpa using hi)]
  ·obtain ⟨k,rfl⟩:∃ k,i=6+k:=⟨i - 6,by omega⟩
   by_cases hk:k < 256
   ·rw [grc_get _ _ _ _ hk,grc_get _ _ _ _ hk]
    have:k≠j:=fun e2=>e (by rw [e2])
    simp [updI,this]
   ·rw [Array.getElem?_eq_none (by rw [grc_size];omega),Array.getElem?_eq_none (by rw [grc_size];omega)]
theorem grc_set5 (tb:Value) (ts u:Int) (f:Nat→Int):(grc tb ts f).setIfInBounds 5 (.int .i64 u)=grc tb u f:=by
 unfold grc
 simp
theorem gr_map {W:World} {g:Nat} {tb:Value} {ts:Int} {f:Nat→Int} (h:W.heap[g]? = some (.cells (grc tb ts f) 281 (0,0))) (j:Nat) (hj:j < 256):W.cell? ⟨g,6+j,none⟩=some (.int .u8 (f j)):=(blk_cell h (6+j)).trans (grc_get tb ts f j hj)
theorem gr_cells {W:World} {g:Nat} {tb:Value} {ts:Int} {f:Nat→Int} (h:W.heap[g]? = some (.cells (grc tb ts f) 281 (0,0))):W.cell? ⟨g,0,none⟩=some (.string (⟨#[]⟩:ByteArray))∧W.cell? ⟨g,1,none⟩=some (.int .i64 0)∧W.cell? ⟨g,2,none⟩=some (.string (⟨#[]⟩:ByteArray))∧W.cell? ⟨g,3,none⟩=some (.pointer none)∧W.cell? ⟨g,4,none⟩=some tb∧W.cell? ⟨g,5,none⟩=some (.int .i64 ts) :=
 ⟨(blk_cell h 0).trans (by simp [grc]),(blk_cell h 1).trans (by simp [grc]),(blk_cell h 2).trans (by simp [grc]),(blk_cell h 3).trans (by simp [grc]),(blk_cell h 4).trans (by simp [grc]),(blk_cell h 5).trans (by simp [grc])⟩
section
variable {w W:World} {n g:Nat}
theorem nd_cells {v pre:ByteArray} {p:Int} {nx tb:Value} (h:W.heap[n]? = some (.cells (nd5 v p pre nx tb) 279 (0,0))):W.cell? ⟨n,0,none⟩=some (.string v)∧W.cell? ⟨n,1,none⟩=some (.int .i64 p)∧W.cell? ⟨n,2,none⟩=some (.string pre)∧W.cell? ⟨n,3,none⟩=some nx∧W.cell? ⟨n,4,none⟩=some tb :=
 ⟨(blk_cell h 0).trans rfl,(blk_cell h 1).trans rfl,(blk_cell h 2).trans rfl,(blk_cell h 3).trans rfl,(blk_cell h 4).trans rfl⟩
end
end Go.Proofs.YtoaafohpmhdjnaaGreatDoor.RX
namespace Go.Proofs.YtoaafohpmhdjnaaGreatDoor.RX
open Go.RowKit Go.Proofs.YtoaafohpmhdjnaaGreatDoor.PVG Go.Proofs.YtoaafohpmhdjnaaGreatDoorW.PrintWords Go.Proofs.YtoaafohpmhdjnaaGreatDoorW.PrintLast Go.Proofs.YtoaafohpmhdjnaaGreatDoorW.PrintMore
set_option linter.unusedVariables false
set_option linter.unusedSimpArgs false
def ones (i:Nat):Int:=if i=126∨i=48∨i=49 then 1 else 0
def fin (i:Nat):Int:=if i=48 then 0 else if i=49 then 1 else if i=126 then 2 else 3
def mp (k:Nat) (i:Nat):Int:=if i < k then fin i else ones i
theorem fin_no {k:Nat} (h1:k≠48) (h2:k≠49) (h3:k≠126):fin k=3:=by simp [fin,h1,h2,h3]
structure TrieAt (W:World) (gR gT n1 gU n2 n3:Nat):Prop where
 kR:∃ f,(∀ i,i < 256→f i=fin i)∧W.heap[gR]? = some (.cells (grc (.slice (some ⟨gT,0,none⟩) 3 3) 3 f) 281 (0,0))
 kT:W.heap[gT]? = some (.cells #[.pointer none,.pointer none,.pointer (some ⟨n1,0,none⟩)] 276 (0,0))
 k1:W.heap[n1]? = some (.cells (nd5 (⟨#[]⟩:ByteArray) 0 (⟨#[]⟩:ByteArray) (.pointer none) (.slice (some ⟨gU,0,none⟩) 3 3)) 279 (0,0))
 kU:W.heap[gU]? = some (.cells #[.pointer (some ⟨n2,0,none⟩),.pointer (some ⟨n3,0,none⟩),.pointer none] 276 (0,0))
 k2:W.heap[n2]? = some (.cells (nd5 ⟨#[126]⟩ 4 (⟨#[]⟩:ByteArray) (.pointer none) (.slice none 0 0)) 279 (0,0))
 k3:W.heap[n3]? = some (.cells (nd5 ⟨#[47]⟩ 2 (⟨#[]⟩:ByteArray) (.pointer none) (.slice none 0 0)) 279 (0,0))
theorem TrieAt.kept {W W':World} {gR gT n1 gU n2 n3:Nat} {S:Nat→Prop} (h:TrieAt W gR gT n1 gU n2 n3) (hk:Kept W W' S) (hS:∀ k cs t,S k→W.heap[k]? = some (.cells cs t (0,0))→t≠281∧t≠276∧t≠279):TrieAt W' gR gT n1 gU n2 n3:=by
 obtain ⟨⟨f,hf,h0⟩,h1,h2,h3,h4,h5⟩:=h
 exact ⟨⟨f,hf,blk_kept h0 hk (fun hs=>(hS _ _ _ hs h0).1 rfl)⟩,blk_kept h1 hk (fun hs=>(hS _ _ _ hs h1).2.1 rfl),blk_kept h2 hk (fun hs=>(hS _ _ _ hs h2).2.2 rfl),blk_kept h3 hk (fun hs=>(hS _ _ _ hs h3).2.1 rfl),blk_kept h4 hk (fun hs=>(hS _ _ _ hs h4).2.2 rfl),blk_kept h5 hk (fun hs=>(hS _ _ _ hs h5).2.2 rfl)⟩
theorem TrieAt.below {W W':World} {gR gT n1 gU n2 n3:Nat} (h:TrieAt W gR gT n1 gU n2 n3) (hb:Below W.heap.size W W'):TrieAt W' gR gT n1 gU n2 n3:=h.kept (Kept.of_below hb (fun _=>False)) (fun _ _ _ hs _=>hs.elim)
def RepU (w W:World) (gR:Nat):Prop:=Below w.heap.size w W∧∃ gT n1 gU n2 n3,TrieAt W gR gT n1 gU n2 n3
def GS (w:World) (gR:Nat) (tb:Value) (ts:Int) (f:Nat→Int) (W:World):Prop:=Below w.heap.size w W∧w.heap.size≤gR∧W.heap[gR]? = some (.cells (grc tb ts f) 281 (0,0))
theorem GS.drew {w:World} {gR:Nat} {tb:Value} {ts:Int} {f:Nat→Int} {W:World} (h:GS w gR tb ts f W):GS w gR tb ts f W.drew:=⟨below_drew1 h.1,h.2.1,blk_drew h.2.2⟩
theorem GS.map {w:World} {gR:Nat} {tb:Value} {ts:Int} {f:Nat→Int} {W:World} (h:GS w gR tb ts f W) (j:Nat) (hj:j < 256) (u:Int):GS w gR tb ts (updI f j u) (W.setCell ⟨gR,6+j,none⟩ (.int .u8 u)) :=
 ⟨below_set h.1 h.2.1,h.2.1,by have:=blk_set h.2.2 (6+j) (.int .u8 u);rw [grc_set _ _ _ _ _ hj] at this;exact this⟩
theorem GS.size {w:World} {gR:Nat} {tb:Value} {ts:Int} {f:Nat→Int} {W:World} (h:GS w gR tb ts f W) (u:Int):GS w gR tb u f (W.setCell ⟨gR,5,none⟩ (.int .i64 u)) :=
 ⟨below_set h.1 h.2.1,h.2.1,by have:=blk_set h.2.2 5 (.int .i64 u);rw [grc_set5] at this;exact this⟩
end Go.Proofs.YtoaafohpmhdjnaaGreatDoor.RX
