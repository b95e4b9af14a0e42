import Derived.Test.YtoaafohpmhdjnaaGreatDoorPIRYE
import Derived.Test.YtoaafohpmhdjnaaGreatDoorPIVWA
import Derived.Handy
import Derived.Test.YtoaafohpmhdjnaaGreatDoorPIVLV
import Derived.Test.YtoaafohpmhdjnaaGreatDoorPIPVGx8
import Derived.Lib.Split
import Derived.Lib.AtoiAllCases
import Derived.Lib.ItoaMem
import Derived.Test.YtoaafohpmhdjnaaGreatDoorPIVCA
import Derived.Test.YtoaafohpmhdjnaaGreatDoorPIVK
import Derived.Test.YtoaafohpmhdjnaaGreatDoorPIVR1
import Derived.WalkLawsBesides
import Derived.Test.YtoaafohpmhdjnaaGreatDoorPIPVGx0
import Derived.Lib.Walk
/- A name escaped: impl.escaped walked whole. Conditions: the name is of at most 2^30 bytes. -/
namespace Go.Proofs.YtoaafohpmhdjnaaGreatDoor.RY
open Go.RowKit Go.Proofs.YtoaafohpmhdjnaaGreatDoor.RX Go.Proofs.YtoaafohpmhdjnaaGreatDoor.PVG Go.Proofs.YtoaafohpmhdjnaaGreatDoorW.PrintWords Go.Proofs.YtoaafohpmhdjnaaGreatDoorW.PrintLast Go.Proofs.YtoaafohpmhdjnaaGreatDoorW.PrintMore
set_option linter.unusedVariables false
set_option linter.unusedSimpArgs false
set_option maxRecDepth 100000 in
set_option maxHeartbeats 1600000 in
theorem escAll_c (w00:World) (b g c:Nat) (s:ByteArray) (w:World) (hb:w.heap[b]? = some (.cells #[.int .u32 0,.int .i32 0,.int .u32 0,.nilIface,.slice (some ⟨g,0,none⟩) 4 c] 204 (0,0))) (hA:Kd.C Kd.string w (some ⟨g,0,none⟩) 4 oldE) (hg:g≠b) (hB:Below w00.heap.size w00 w) (hbase:w00.heap.size≤b) (hs:s.size≤1073741824) :
  Calls Tryz.prog 123 #[.pointer (some ⟨b,0,none⟩),.string s] w fun e w'=>e=.returned (.string ⟨(escL s.data.toList).toArray⟩)∧Below w00.heap.size w00 w':=by
 have hmf:∀ (fn:Fn) (first cap:Array Value) (w:World),(Instr.makeFunc fn first cap).run Tryz.prog w=.ok (.func fn first cap) w:=fun _ _ _ _=>rfl
 have HB:=Aside0.mk hb
 have HA:=Aside0.mk hA
 clear hb hA
 go_enter Tryz.func123,Tryz.ntmps123
 go_upto_region 2 with (first | (go_at_call 163;refine (mkE.do_ w00 b g c _ HB.out HA.out hg hB hbase).mono ?_;rintro e w2 ⟨rfl,HQ⟩))
 obtain ⟨gB,hR,hK⟩:=HQ.out.out
 have HR:=Aside0.mk hR
 obtain ⟨k1,k2,g2,c1,c2,c3,hat⟩:=hR.at_
 have HAT:=Aside0.mk hat
 have d3:w2.cell? ⟨b,3,none⟩=some (.iface 258 (.pointer (some ⟨gB,0,none⟩))):=(blk_cell hK 3).trans rfl
 clear hR hat hK HB HA
 go_wp2_with (first | (go_at_call 294;refine (replaceE_c gB k1 k2 g2 c1 c2 c3 s _ HAT.out hs).mono ?_;rintro e w4 ⟨rfl,hb4⟩;have B4:=Aside0.mk (below_step HR.out.bel hb4);clear hb4))
 go_ret
 exact ⟨rfl,B4.out⟩
def escB (s:ByteArray):ByteArray:=⟨(escL s.data.toList).toArray⟩
set_option maxRecDepth 100000 in
set_option maxHeartbeats 1600000 in
theorem escaped_c (s:ByteArray) (w:World) (hs:s.size≤1073741824) :
  Calls Tryz.prog 116 #[.string s] w fun e w'=>e=.returned (.string (escB s))∧Below w.heap.size w w':=by
 go_enter Tryz.func116,Tryz.ntmps116
 go_wp2_with (first | (go_at_call 122;obtain ⟨W1,hW1⟩:∃ W1,W1=w.alloc (.cells #[.string ⟨#[126]⟩,.string ⟨#[126,48]⟩,.string ⟨#[47]⟩,.string ⟨#[126,49]⟩] 9):=⟨_,rfl⟩;have B1:=Aside0.mk (show Below w.heap.size w W1 by rw [hW1];exact below_alloc (Below.refl _ _) _);have C1:=Aside0.mk (show Kd.C Kd.string W1 (some ⟨w.heap.size,0,none⟩) 4 oldE by rw [hW1];exact C_four _ _ _ _ w);rw [←hW1];clear hW1;refine (newG_c oldE rfl w.heap.size 4 W1 C1.out).mono ?_;rintro e w2 ⟨b,g,c,rfl,h1,h2,h3,h4,h5⟩;have Q:=Aside0.mk (And.intro h1 (And.intro h2 (And.intro h3 (And.intro (below_step B1.out h4) (Nat.le_trans B1.out.size h5)))));clear h1 h2 h3 h4 h5 C1) | (go_at_call 123;refine (escAll_c w b g c s w2 Q.out.1 Q.out.2.1 Q.out.2.2.1 Q.out.2.2.2.1 Q.out.2.2.2.2 hs).mono ?_;rintro e w3 ⟨rfl,hb3⟩;have B3:=Aside0.mk hb3;clear hb3))
 go_ret
 exact ⟨rfl,B3.out⟩
end Go.Proofs.YtoaafohpmhdjnaaGreatDoor.RY
namespace Go.Proofs.YtoaafohpmhdjnaaGreatDoor.VT
open Go.RowKit Go.Proofs.YtoaafohpmhdjnaaGreatDoor.RX Go.Proofs.YtoaafohpmhdjnaaGreatDoor.RY Go.Proofs.YtoaafohpmhdjnaaGreatDoor.PVG Go.Proofs.YtoaafohpmhdjnaaGreatDoorW.PrintWords Go.Proofs.YtoaafohpmhdjnaaGreatDoorW.PrintLast Go.Proofs.YtoaafohpmhdjnaaGreatDoorW.PrintMore
set_option linter.unusedVariables false
set_option linter.unusedSimpArgs false
theorem eqS_go {l:List ByteArray} (hl:l.length≤1073741824):∀ (m i:Nat),i+m=l.length→Ev (fun f=>laws_eqStringS.l0 f l l (i:Int)) true:=by
 intro m
 induction m with
 | zero =>
  intro i hi
  refine Ev.step (f:=fun _=>some true) (fun f=>?_) (Ev.now _)
  rw [laws_eqStringS.l0,if_neg (by omega)]
 | succ m ih =>
  intro i hi
  refine Ev.step (fun f=>?_) (ih (i+1) (by omega))
  rw [laws_eqStringS.l0,if_pos (by omega),if_pos (by omega),if_pos (by omega),if_pos rfl,wr_id _ (by omega) (by omega)]
  rfl
theorem eqS_ev {l:List ByteArray} (hl:l.length≤1073741824):Ev (fun f=>laws_eqStringS.f f l l) true:=by
 refine Ev.congr (fun f=>?_) (eqS_go hl l.length 0 (by omega))
 unfold laws_eqStringS.f
 rw [if_pos rfl]
 rfl
theorem rdS_set {x:List ByteArray} {i j:Int} {v:ByteArray} (h0:0≤i) (h1:i < x.length) (h2:0≤j):rdOf ByteArray.empty (x.set i.toNat v) j=if j=i then v else rdOf ByteArray.empty x j:=by
 unfold rdOf
 by_cases e:j=i
 ·subst e
  rw [if_pos rfl,List.getD_eq_getElem?_getD,List.getElem?_set_self (by omega)]
  rfl
 ·rw [if_neg e,List.getD_eq_getElem?_getD,List.getD_eq_getElem?_getD,List.getElem?_set_ne (by omega)]
theorem markS_go {m0:Int} (hm:0≤m0∧m0≤10000000000) (n:Nat) (hn:n≤1073741824) (d:Nat):∀ (x:List ByteArray) (i:Int),x.length=n→0≤i→i≤(n:Int)→(n:Int) - i=d→(∀ j:Int,0≤j→j < i→rdOf ByteArray.empty x j=mT (m0+j)) →
  ∃ y,y.length=n∧(∀ j:Int,0≤j→j < n→rdOf ByteArray.empty y j=mT (m0+j))∧Ev (fun k=>laws_markStringS.l0 k x (m0+i) i) (m0+n,y):=by
 induction d with
 | zero =>
  intro x i hx h0 hi hd hj
  obtain rfl:i=(n:Int):=by omega
  exact ⟨x,hx,hj,Ev.step (f:=fun _=>some (m0+(n:Int),x)) (fun k=>by rw [laws_markStringS.l0,if_neg (by omega)]) (Ev.now _)⟩
 | succ d ih =>
  intro x i hx h0 hi hd hj
  obtain ⟨y,h1,h2,e⟩:=ih (x.set i.toNat (mT (m0+i))) (i+1) (by simpa using hx) (by omega) (by omega) (by omega) (fun j j0 j1=>by
   rw [rdS_set h0 (by omega) j0]
   by_cases e:j=i
   ·rw [if_pos e,e]
   ·rw [if_neg e];exact hj j j0 (by omega))
  refine ⟨y,h1,h2,Ev.step (f:=fun k=>(laws_markText.f k (m0+i)).bind fun t=>laws_markStringS.l0 k (x.set i.toNat t) (m0+(i+1)) (i+1)) (fun k=>?_) (Ev.bind (mT_ev _ (by omega) (by omega)) e)⟩
  rw [laws_markStringS.l0,if_pos (by omega),wr_id (m0+i+1) (by omega) (by omega),wr_id (i+1) (by omega) (by omega),Int.add_assoc]
  simp only [if_pos h0]
theorem heldS_go {m0:Int} (hm:0≤m0∧m0≤10000000000) (x:List ByteArray) (hn:x.length≤1073741824) (hx:∀ j:Int,0≤j→j < x.length→rdOf ByteArray.empty x j=mT (m0+j)) (d:Nat):∀ i:Int,0≤i→i≤(x.length:Int)→(x.length:Int) - i=d →
  Ev (fun k=>laws_heldStringS.l0 k x (m0+i) i) (m0+x.length):=by
 induction d with
 | zero =>
  intro i h0 hi hd
  obtain rfl:i=(x.length:Int):=by omega
  exact Ev.step (f:=fun _=>some (m0+(x.length:Int))) (fun k=>by rw [laws_heldStringS.l0,if_neg (by omega)]) (Ev.now _)
 | succ d ih =>
  intro i h0 hi hd
  refine Ev.step (f:=fun k=>(laws_markText.f k (m0+i)).bind fun t=>if (mT (m0+i)).toList=t.toList then laws_heldStringS.l0 k x (m0+(i+1)) (i+1) else some (-1)) (fun k=>?_) (Ev.bind (mT_ev _ (by omega) (by omega)) ?_)
  ·rw [laws_heldStringS.l0,if_pos (by omega),if_pos h0,hx i h0 (by omega),wr_id (m0+i+1) (by omega) (by omega),wr_id (i+1) (by omega) (by omega),Int.add_assoc]
  ·simp only [if_true]
   exact ih (i+1) (by omega) (by omega) (by omega)
theorem markS_ev (l:List ByteArray) (hl:l.length≤1073741824) (m0:Int) (hm:0≤m0∧m0≤10000000000):∃ y,y.length=l.length∧Ev (fun k=>laws_markStringS.f k l m0) (m0+l.length,y)∧Ev (fun k=>laws_heldStringS.f k y m0) (m0+l.length):=by
 obtain ⟨y,h1,h2,e⟩:=markS_go hm l.length hl l.length l 0 rfl (by omega) (by omega) (by omega) (fun j j0 j1=>by omega)
 refine ⟨y,h1,Ev.congr (fun k=>?_) e,Ev.congr (fun k=>?_) (by rw [←h1];exact heldS_go hm y (by omega) (by rw [h1];exact h2) y.length 0 (by omega) (by omega) (by omega))⟩
 ·unfold laws_markStringS.f;rw [Int.add_zero]
 ·unfold laws_heldStringS.f;rw [Int.add_zero]
end Go.Proofs.YtoaafohpmhdjnaaGreatDoor.VT
namespace Go.Proofs.YtoaafohpmhdjnaaGreatDoor.VT
open Go.Proofs.YtoaafohpmhdjnaaGreatDoor.RY
set_option linter.unusedVariables false
set_option linter.unusedSimpArgs false
def unescL:List UInt8→List UInt8
 | []=>[]
 | [c]=>[c]
 | c :: d :: r=>if c=126∧d=48 then 126 :: unescL r else if c=126∧d=49 then 47 :: unescL r else c :: unescL (d :: r)
end Go.Proofs.YtoaafohpmhdjnaaGreatDoor.VT
namespace Go.Proofs.YtoaafohpmhdjnaaGreatDoor.VT
open Go.RowKit Go.Proofs.YtoaafohpmhdjnaaGreatDoor.RY Go.Proofs.YtoaafohpmhdjnaaGreatDoor.PVG Go.Proofs.YtoaafohpmhdjnaaGreatDoorW.PrintWords Go.Proofs.YtoaafohpmhdjnaaGreatDoorW.PrintLast Go.Proofs.YtoaafohpmhdjnaaGreatDoorW.PrintMore
set_option linter.unusedVariables false
set_option linter.unusedSimpArgs false
theorem digit_nat {d:Nat} (h:d < 10):(UInt8.ofNat (48+d)).toNat=48+d:=by
 rw [UInt8.toNat_ofNat'];omega
end Go.Proofs.YtoaafohpmhdjnaaGreatDoor.VT
