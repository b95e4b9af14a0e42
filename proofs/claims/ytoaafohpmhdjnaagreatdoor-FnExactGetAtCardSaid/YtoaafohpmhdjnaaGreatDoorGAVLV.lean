import Derived.Test.YtoaafohpmhdjnaaGreatDoorGAYGA
import Derived.Test.YtoaafohpmhdjnaaGreatDoorGAPVGx0
import Derived.Test.YtoaafohpmhdjnaaGreatDoorGAPVGx6
import Derived.Test.YtoaafohpmhdjnaaGreatDoorGAVPB
import Derived.Test.YtoaafohpmhdjnaaGreatDoorGAPVGx2
/- What the laws' marks write and find again. Conditions: rows of moderate length. -/
namespace Go.Proofs.YtoaafohpmhdjnaaGreatDoor.VT
open Go.RowKit Go.Proofs.YtoaafohpmhdjnaaGreatDoor.PVG Go.Proofs.YtoaafohpmhdjnaaGreatDoorW.PrintWords
set_option linter.unusedVariables false
set_option linter.unusedSimpArgs false
theorem wr_id (n:Int) (h0:0≤n) (h1:n≤1000000000000):wrap64 n=n:=by unfold wrap64;omega
theorem strOfNums_size (l:List Int):(strOfNums l).size=l.length:=by simp [strOfNums,ByteArray.size]
theorem markText_go (d:Nat):∀ (n:Int) (t:ByteArray),0≤n→n≤1000000000000→n < 10 ^ d→t.size+d≤1000→∃ r,Ev (fun k=>laws_markText.l0 k n t) r:=by
 induction d with
 | zero =>
  intro n t h0 hb h1 h2
  exact ⟨_,Ev.step (f:=fun _=>some ((⟨#[109]⟩:ByteArray)++t)) (fun k=>by rw [laws_markText.l0,if_neg (by omega),if_pos (by omega)]) (Ev.now _)⟩
 | succ d ih =>
  intro n t h0 hb h1 h2
  by_cases hp:n > 0
  ·have hdv:Int.tdiv n 10=n / 10:=Int.tdiv_eq_ediv_of_nonneg h0
   have hlt:n / 10 < 10 ^ d:=by
    rw [Int.pow_succ] at h1
    omega
   have hs:∀ z:Int,(strOfNums [z]).size=1:=fun z=>strOfNums_size [z]
   obtain ⟨r,e⟩:=ih (n / 10) (strOfNums [(wrap64 (48+(Int.tmod n 10))) % 256]++t) (by omega) (by omega) hlt (by rw [ByteArray.size_append,hs];omega)
   exact ⟨r,Ev.step (fun k=>by rw [laws_markText.l0,Option.bind_some,if_pos hp,if_pos (by rw [hs];omega),hdv,wr_id (n / 10) (by omega) (by omega)]) e⟩
  ·exact ⟨_,Ev.step (f:=fun _=>some ((⟨#[109]⟩:ByteArray)++t)) (fun k=>by rw [laws_markText.l0,if_neg hp,if_pos (by omega)]) (Ev.now _)⟩
theorem markText_ev (n:Int) (h0:0≤n) (hb:n≤100000000000):∃ r,Ev (fun k=>laws_markText.f k n) r:=by
 by_cases hp:n≤0
 ·exact ⟨_,Ev.congr (f:=fun _=>some (⟨#[109,48]⟩:ByteArray)) (fun k=>by unfold laws_markText.f;rw [if_pos hp]) (Ev.now _)⟩
 ·obtain ⟨r,e⟩:=markText_go 12 n ⟨#[]⟩ h0 (by omega) (by omega) (by simp [ByteArray.size])
  exact ⟨r,Ev.congr (fun k=>by unfold laws_markText.f;rw [if_neg hp]) e⟩
open Classical in
noncomputable def mT (n:Int):ByteArray:=if h:∃ r,Ev (fun k=>laws_markText.f k n) r then h.choose else ⟨#[]⟩
theorem mT_ev (n:Int) (h0:0≤n) (hb:n≤100000000000):Ev (fun k=>laws_markText.f k n) (mT n):=by
 unfold mT
 rw [dif_pos (markText_ev n h0 hb)]
 exact (markText_ev n h0 hb).choose_spec
noncomputable def mkN (m0 i:Int):S107:=⟨m0+5 * i,m0+5 * i+1,mT (m0+5 * i+2),mT (m0+5 * i+3),m0+5 * i+4⟩
end Go.Proofs.YtoaafohpmhdjnaaGreatDoor.VT
namespace Go.Proofs.YtoaafohpmhdjnaaGreatDoor.VT
open Go.RowKit Go.Proofs.YtoaafohpmhdjnaaGreatDoor.PVG Go.Proofs.YtoaafohpmhdjnaaGreatDoorW.PrintWords Go.Proofs.YtoaafohpmhdjnaaGreatDoorW.PrintLast Go.Proofs.YtoaafohpmhdjnaaGreatDoorW.PrintMore
set_option linter.unusedVariables false
set_option linter.unusedSimpArgs false
def Iv (a b:Nat) (k:Nat):Prop:=a≤k∧k < b
theorem R_iv {w0 W w':World} {v:Value} {X:List S107} (h0:w0.heap.size≤W.heap.size) (h:Kd.R k107 107 w' W.heap.size (fun _=>True) v X):Kd.R k107 107 w' w0.heap.size (Iv W.heap.size w'.heap.size) v X :=
 Kd.R_lower (Kd.R_mono (Kd.R_bound h) (fun k hk=>⟨hk.2.1,hk.2.2.1⟩)) h0
def bx (v:Value) (t:Nat):Obj:=.cells #[v] t (0,0)
theorem bx_cell {W:World} {g t:Nat} {v:Value} (h:W.heap[g]? = some (bx v t)):W.cell? ⟨g,0,none⟩=some v:=(blk_cell h 0).trans rfl
theorem bx_put {W W':World} {g t:Nat} {u v:Value} (h:W.heap[g]? = some (.cells #[u] t (0,0))) (hW:W'=W.setCell ⟨g,0,none⟩ v):W'.heap[g]? = some (bx v t):=by
 rw [hW]
 unfold bx
 simpa using blk_set h 0 v
structure Q4 (w W:World) (b1:Value) (gb g4 g6 g7:Nat) (v4 v6 v7:Value) (X T Y:List S107) (a4 e4 a6 e6 a7 e7:Nat):Prop where
 B:Below w.heap.size w W
 K1:W.heap[gb]? = some (bx b1 24)
 K4:W.heap[g4]? = some (bx v4 31)
 K6:W.heap[g6]? = some (bx v6 31)
 K7:W.heap[g7]? = some (bx v7 31)
 R4:Kd.R k107 107 W w.heap.size (Iv a4 e4) v4 X
 R6:Kd.R k107 107 W w.heap.size (Iv a6 e6) v6 T
 R7:Kd.R k107 107 W w.heap.size (Iv a7 e7) v7 Y
 o:w.heap.size≤gb∧gb < a4∧a4≤e4∧e4≤g4∧g4 < a6∧a6≤e6∧e6≤g6∧g6 < a7∧a7≤e7∧e7≤g7
theorem Q4.below {w W W':World} {b1:Value} {gb g4 g6 g7:Nat} {v4 v6 v7:Value} {X T Y:List S107} {a4 e4 a6 e6 a7 e7:Nat} (h:Q4 w W b1 gb g4 g6 g7 v4 v6 v7 X T Y a4 e4 a6 e6 a7 e7) (hb:Below W.heap.size W W'):Q4 w W' b1 gb g4 g6 g7 v4 v6 v7 X T Y a4 e4 a6 e6 a7 e7 :=
 ⟨below_step h.B hb,blk_below h.K1 hb,blk_below h.K4 hb,blk_below h.K6 hb,blk_below h.K7 hb,Kd.R_below h.R4 hb,Kd.R_below h.R6 hb,Kd.R_below h.R7 hb,h.o⟩
structure Q5 (w W:World) (b1:Value) (gb g4 g7:Nat) (v4 v7:Value) (X Y:List S107) (a4 e4 a7 e7:Nat):Prop where
 B:Below w.heap.size w W
 K1:W.heap[gb]? = some (bx b1 24)
 K4:W.heap[g4]? = some (bx v4 31)
 K7:W.heap[g7]? = some (bx v7 31)
 R4:Kd.R k107 107 W w.heap.size (Iv a4 e4) v4 X
 R7:Kd.R k107 107 W w.heap.size (Iv a7 e7) v7 Y
 o:w.heap.size≤gb∧gb < a4∧a4≤e4∧e4≤g4∧g4 < a7∧a7≤e7∧e7≤g7
theorem Q5.below {w W W':World} {b1:Value} {gb g4 g7:Nat} {v4 v7:Value} {X Y:List S107} {a4 e4 a7 e7:Nat} (h:Q5 w W b1 gb g4 g7 v4 v7 X Y a4 e4 a7 e7) (hb:Below W.heap.size W W'):Q5 w W' b1 gb g4 g7 v4 v7 X Y a4 e4 a7 e7 :=
 ⟨below_step h.B hb,blk_below h.K1 hb,blk_below h.K4 hb,blk_below h.K7 hb,Kd.R_below h.R4 hb,Kd.R_below h.R7 hb,h.o⟩
theorem Q4.mark {w W W':World} {b1:Value} {gb g4 g6 g7:Nat} {v4 v6 v7:Value} {X T Y:List S107} {a4 e4 a6 e6 a7 e7:Nat} (h:Q4 w W b1 gb g4 g6 g7 v4 v6 v7 X T Y a4 e4 a6 e6 a7 e7) (hB:Below w.heap.size w W') (hk:Kept W W' (fun k=>Iv a6 e6 k)):Q5 w W' b1 gb g4 g7 v4 v7 X Y a4 e4 a7 e7:=by
 have o:=h.o
 refine ⟨hB,blk_kept h.K1 hk ?_,blk_kept h.K4 hk ?_,blk_kept h.K7 hk ?_,Kd.R_kept h.R4 hk ?_,Kd.R_kept h.R7 hk ?_,by omega⟩
 ·intro q;have:=q.1;omega
 ·intro q;have:=q.1;omega
 ·intro q;have:=q.2;omega
 ·intro k q p;have:=q.2;have:=p.1;omega
 ·intro k q p;have:=q.1;have:=p.2;omega
structure Q6 (w W:World) (b1:Value) (gb g4 g7:Nat) (v4 v7:Value) (X Z:List S107):Prop where
 B:Below w.heap.size w W
 K1:W.heap[gb]? = some (bx b1 24)
 K4:W.heap[g4]? = some (bx v4 31)
 K7:W.heap[g7]? = some (bx v7 31)
 R4:∃ A c,v4=.slice A X.length c∧X.length≤c∧Kd.C k107 W A X.length X
 R7:∃ A c,v7=.slice A Z.length c∧Z.length≤c∧Kd.C k107 W A Z.length Z
theorem Q6.below {w W W':World} {b1:Value} {gb g4 g7:Nat} {v4 v7:Value} {X Z:List S107} (h:Q6 w W b1 gb g4 g7 v4 v7 X Z) (hb:Below W.heap.size W W'):Q6 w W' b1 gb g4 g7 v4 v7 X Z:=by
 obtain ⟨A,c,e,l,r⟩:=h.R4
 obtain ⟨A2,c2,e2,l2,r2⟩:=h.R7
 exact ⟨below_step h.B hb,blk_below h.K1 hb,blk_below h.K4 hb,blk_below h.K7 hb,⟨A,c,e,l,Kd.C_below r hb⟩,⟨A2,c2,e2,l2,Kd.C_below r2 hb⟩⟩
theorem Q5.mark {w W W':World} {b1:Value} {gb g4 g7:Nat} {v4 v7:Value} {X Y Z:List S107} {a4 e4 a7 e7:Nat} {ok:Nat→Prop} (h:Q5 w W b1 gb g4 g7 v4 v7 X Y a4 e4 a7 e7) (hB:Below w.heap.size w W') (hk:Kept W W' (fun k=>Iv a7 e7 k)) (hr:Kd.R k107 107 W' w.heap.size ok v7 Z):Q6 w W' b1 gb g4 g7 v4 v7 X Z:=by
 have o:=h.o
 refine ⟨hB,blk_kept h.K1 hk ?_,blk_kept h.K4 hk ?_,blk_kept h.K7 hk ?_,Kd.R_reads (Kd.R_kept h.R4 hk ?_),Kd.R_reads hr⟩
 ·intro q;have:=q.1;omega
 ·intro q;have:=q.1;omega
 ·intro q;have:=q.2;omega
 ·intro k q p;have:=q.2;have:=p.1;omega
theorem eqv_c {W:World} {v1 v2:Value} {X:List S107} {k:Nat} (h1:∃ A c,v1=.slice A X.length c∧X.length≤c∧Kd.C k107 W A X.length X) (h2:∃ A c,v2=.slice A X.length c∧X.length≤c∧Kd.C k107 W A X.length X) (h:laws_eqValue.f k X X=some true) :
  Calls Tryz.prog 20 #[.agg #[v1],.agg #[v2]] W fun e w'=>e=.returned (.bool true)∧Below W.heap.size W w':=by
 obtain ⟨A,c,rfl,l,r⟩:=h1
 obtain ⟨A2,c2,rfl,l2,r2⟩:=h2
 exact laws_eqValue.calls k A c X A2 c2 X true W r l r2 l2 h
def VCall (f:Nat) (P:World→Prop) (T X:List S107) (b:Bool):Prop:=∀ (A:Option Addr) (c:Nat) (W:World),P W→Kd.C k107 W A T.length T→T.length≤c →
 Calls Tryz.prog f #[.agg #[.slice A T.length c]] W fun e w'=>∃ v',e=.returned (.tuple #[.agg #[v'],.bool b])∧Kd.R k107 107 w' W.heap.size (fun _=>True) v' X∧Below W.heap.size W w'
theorem VCall.go {f:Nat} {P:World→Prop} {T X:List S107} {b:Bool} (h:VCall f P T X b) {W:World} {v:Value} (hP:P W) (hv:∃ A c,v=.slice A T.length c∧T.length≤c∧Kd.C k107 W A T.length T) :
  Calls Tryz.prog f #[.agg #[v]] W fun e w'=>∃ v',e=.returned (.tuple #[.agg #[v'],.bool b])∧Kd.R k107 107 w' W.heap.size (fun _=>True) v' X∧Below W.heap.size W w':=by
 obtain ⟨A,c,rfl,l,r⟩:=hv
 exact h A c W hP r l
end Go.Proofs.YtoaafohpmhdjnaaGreatDoor.VT
