import Derived.Test.YtoaafohpmhdjnaaGreatDoorPIVLV
import Derived.Test.YtoaafohpmhdjnaaGreatDoorPIYLA
import Derived.Test.YtoaafohpmhdjnaaGreatDoorPIYSE
/- What the law of PathsIn keeps: boxes, rows, marks. Conditions: none. -/
namespace Go.Proofs.YtoaafohpmhdjnaaGreatDoor.VT
open Go.RowKit Go.Proofs.YtoaafohpmhdjnaaGreatDoor.RX Go.Proofs.YtoaafohpmhdjnaaGreatDoor.RY Go.Proofs.YtoaafohpmhdjnaaGreatDoor.PVG Go.Proofs.YtoaafohpmhdjnaaGreatDoorW.PrintWords Go.Proofs.YtoaafohpmhdjnaaGreatDoorW.PrintLast Go.Proofs.YtoaafohpmhdjnaaGreatDoorW.PrintMore
set_option linter.unusedVariables false
set_option linter.unusedSimpArgs false
theorem R_ivS {w0 W w':World} {v:Value} {X:List ByteArray} (h0:w0.heap.size≤W.heap.size) (h:Kd.R Kd.string 9 w' W.heap.size (fun _=>True) v X):Kd.R Kd.string 9 w' w0.heap.size (Iv W.heap.size w'.heap.size) v X :=
 Kd.R_lower (Kd.R_mono (Kd.R_bound h) (fun k hk=>⟨hk.2.1,hk.2.2.1⟩)) h0
structure P4 (w W:World) (b1:Value) (gb g6:Nat) (v4 v6 v7:Value) (X Y:List ByteArray) (T:List S107) (a4 e4 a6 e6 a7 e7:Nat):Prop where
 B:Below w.heap.size w W
 K1:W.heap[gb]? = some (bx b1 24)
 K6:W.heap[g6]? = some (bx v6 31)
 R4:Kd.R Kd.string 9 W w.heap.size (Iv a4 e4) v4 X
 R6:Kd.R k107 107 W w.heap.size (Iv a6 e6) v6 T
 R7:Kd.R Kd.string 9 W w.heap.size (Iv a7 e7) v7 Y
 o:w.heap.size≤gb∧gb < a4∧a4≤e4∧e4≤a6∧a6≤e6∧e6≤g6∧g6 < a7∧a7≤e7
theorem P4.below {w W W':World} {b1:Value} {gb g6:Nat} {v4 v6 v7:Value} {X Y:List ByteArray} {T:List S107} {a4 e4 a6 e6 a7 e7:Nat} (h:P4 w W b1 gb g6 v4 v6 v7 X Y T a4 e4 a6 e6 a7 e7) (hb:Below W.heap.size W W'):P4 w W' b1 gb g6 v4 v6 v7 X Y T a4 e4 a6 e6 a7 e7 :=
 ⟨below_step h.B hb,blk_below h.K1 hb,blk_below h.K6 hb,Kd.R_below h.R4 hb,Kd.R_below h.R6 hb,Kd.R_below h.R7 hb,h.o⟩
structure P5 (w W:World) (b1:Value) (gb:Nat) (v4 v7:Value) (X Y:List ByteArray) (a4 e4 a7 e7:Nat):Prop where
 B:Below w.heap.size w W
 K1:W.heap[gb]? = some (bx b1 24)
 R4:Kd.R Kd.string 9 W w.heap.size (Iv a4 e4) v4 X
 R7:Kd.R Kd.string 9 W w.heap.size (Iv a7 e7) v7 Y
 o:w.heap.size≤gb∧gb < a4∧a4≤e4∧e4≤a7∧a7≤e7
theorem P5.below {w W W':World} {b1:Value} {gb:Nat} {v4 v7:Value} {X Y:List ByteArray} {a4 e4 a7 e7:Nat} (h:P5 w W b1 gb v4 v7 X Y a4 e4 a7 e7) (hb:Below W.heap.size W W'):P5 w W' b1 gb v4 v7 X Y a4 e4 a7 e7 :=
 ⟨below_step h.B hb,blk_below h.K1 hb,Kd.R_below h.R4 hb,Kd.R_below h.R7 hb,h.o⟩
theorem P4.mark {w W W':World} {b1:Value} {gb g6:Nat} {v4 v6 v7:Value} {X Y:List ByteArray} {T:List S107} {a4 e4 a6 e6 a7 e7:Nat} (h:P4 w W b1 gb g6 v4 v6 v7 X Y T a4 e4 a6 e6 a7 e7) (hB:Below w.heap.size w W') (hk:Kept W W' (fun k=>Iv a6 e6 k)):P5 w W' b1 gb v4 v7 X Y a4 e4 a7 e7:=by
 have o:=h.o
 refine ⟨hB,blk_kept h.K1 hk ?_,Kd.R_kept h.R4 hk ?_,Kd.R_kept h.R7 hk ?_,by omega⟩
 ·intro q;have:=q.1;omega
 ·intro k q p;have:=q.2;have:=p.1;omega
 ·intro k q p;have:=q.1;have:=p.2;omega
structure P6 (w W:World) (b1:Value) (gb:Nat) (v4 v7:Value) (X Z:List ByteArray):Prop where
 B:Below w.heap.size w W
 K1:W.heap[gb]? = some (bx b1 24)
 R4:∃ A c,v4=.slice A X.length c∧X.length≤c∧Kd.C Kd.string W A X.length X
 R7:∃ A c,v7=.slice A Z.length c∧Z.length≤c∧Kd.C Kd.string W A Z.length Z
theorem P6.below {w W W':World} {b1:Value} {gb:Nat} {v4 v7:Value} {X Z:List ByteArray} (h:P6 w W b1 gb v4 v7 X Z) (hb:Below W.heap.size W W'):P6 w W' b1 gb v4 v7 X Z:=by
 obtain ⟨A,c,e,l,r⟩:=h.R4
 obtain ⟨A2,c2,e2,l2,r2⟩:=h.R7
 exact ⟨below_step h.B hb,blk_below h.K1 hb,⟨A,c,e,l,Kd.C_below r hb⟩,⟨A2,c2,e2,l2,Kd.C_below r2 hb⟩⟩
theorem P5.mark {Z:List ByteArray} {ok:Nat→Prop} {w W W':World} {b1:Value} {gb:Nat} {v4 v7:Value} {X Y:List ByteArray} {a4 e4 a7 e7:Nat} (h:P5 w W b1 gb v4 v7 X Y a4 e4 a7 e7) (hB:Below w.heap.size w W') (hk:Kept W W' (fun k=>Iv a7 e7 k)) (hr:Kd.R Kd.string 9 W' w.heap.size ok v7 Z):P6 w W' b1 gb v4 v7 X Z:=by
 have o:=h.o
 refine ⟨hB,blk_kept h.K1 hk ?_,Kd.R_reads (Kd.R_kept h.R4 hk ?_),Kd.R_reads hr⟩
 ·intro q;have:=q.1;omega
 ·intro k q p;have:=q.2;have:=p.1;omega
theorem eqs_c {W:World} {v1 v2:Value} {X:List ByteArray} {k:Nat} (h1:∃ A c,v1=.slice A X.length c∧X.length≤c∧Kd.C Kd.string W A X.length X) (h2:∃ A c,v2=.slice A X.length c∧X.length≤c∧Kd.C Kd.string W A X.length X) (h:laws_eqStringS.f k X X=some true) :
  Calls Tryz.prog 19 #[v1,v2] W fun e w'=>e=.returned (.bool true)∧Below W.heap.size W w':=by
 obtain ⟨A,c,rfl,l,r⟩:=h1
 obtain ⟨A2,c2,rfl,l2,r2⟩:=h2
 exact (laws_eqStringS.calls k A c X A2 c2 X true W r l r2 l2 h).mono fun e w' ⟨h,n,hn⟩=>⟨h,by rw [hn];exact below_drewN (Below.refl _ _) n⟩
theorem helds_c {W:World} {v1:Value} {X:List ByteArray} {k:Nat} {n:Int} (h1:∃ A c,v1=.slice A X.length c∧X.length≤c∧Kd.C Kd.string W A X.length X) (h:laws_heldStringS.f k X 1=some n) :
  Calls Tryz.prog 23 #[v1,.int .i64 1] W fun e w'=>e=.returned (.int .i64 n)∧Below W.heap.size W w':=by
 obtain ⟨A,c,rfl,l,r⟩:=h1
 exact laws_heldStringS.calls k A c X 1 n W r l h
def SCall (f:Nat) (P:World→Prop) (T:List S107) (X:List ByteArray) (b:Bool):Prop:=∀ (A:Option Addr) (c:Nat) (W:World),P W→Kd.C k107 W A T.length T→T.length≤c →
 Calls Tryz.prog f #[.agg #[.slice A T.length c]] W fun e w'=>∃ v',e=.returned (.tuple #[v',.bool b])∧Kd.R Kd.string 9 w' W.heap.size (fun _=>True) v' X∧Below W.heap.size W w'
theorem SCall.go {f:Nat} {P:World→Prop} {T:List S107} {X:List ByteArray} {b:Bool} (h:SCall f P T X b) {W:World} {v:Value} (hP:P W) (hv:∃ A c,v=.slice A T.length c∧T.length≤c∧Kd.C k107 W A T.length T) :
  Calls Tryz.prog f #[.agg #[v]] W fun e w'=>∃ v',e=.returned (.tuple #[v',.bool b])∧Kd.R Kd.string 9 w' W.heap.size (fun _=>True) v' X∧Below W.heap.size W w':=by
 obtain ⟨A,c,rfl,l,r⟩:=hv
 exact h A c W hP r l
end Go.Proofs.YtoaafohpmhdjnaaGreatDoor.VT
