import Derived.Test.YtoaafohpmhdjnaaGreatDoorHARYE
import Derived.Test.YtoaafohpmhdjnaaGreatDoorHAVWA
import Derived.Handy
import Derived.Shelf.Strings.SplitCore
import Derived.Test.YtoaafohpmhdjnaaGreatDoorHAYPA
import Derived.Test.YtoaafohpmhdjnaaGreatDoorHAShelf
/- A name escaped: impl.escaped walked whole. Conditions: the name is of at most 2^30 bytes. -/
namespace Go.Proofs.YtoaafohpmhdjnaaGreatDoor.RY
open Go.RowKit Go.Proofs.YtoaafohpmhdjnaaGreatDoor.RX Go.Proofs.YtoaafohpmhdjnaaGreatDoor.PVG Go.Proofs.YtoaafohpmhdjnaaGreatDoorW.PrintWords Go.Proofs.YtoaafohpmhdjnaaGreatDoorW.PrintLast Go.Proofs.YtoaafohpmhdjnaaGreatDoorW.PrintMore
set_option linter.unusedVariables false
set_option linter.unusedSimpArgs false
set_option maxRecDepth 100000 in
set_option maxHeartbeats 1600000 in
theorem escAll_c (w00:World) (b g c:Nat) (s:ByteArray) (w:World) (hb:w.heap[b]? = some (.cells #[.int .u32 0,.int .i32 0,.int .u32 0,.nilIface,.slice (some ⟨g,0,none⟩) 4 c] 204 (0,0))) (hA:Kd.C Kd.string w (some ⟨g,0,none⟩) 4 oldE) (hg:g≠b) (hB:Below w00.heap.size w00 w) (hbase:w00.heap.size≤b) (hs:s.size≤1073741824) :
  Calls Tryz.prog 123 #[.pointer (some ⟨b,0,none⟩),.string s] w fun e w'=>e=.returned (.string ⟨(escL s.data.toList).toArray⟩)∧Below w00.heap.size w00 w':=by
 have hmf:∀ (fn:Fn) (first cap:Array Value) (w:World),(Instr.makeFunc fn first cap).run Tryz.prog w=.ok (.func fn first cap) w:=fun _ _ _ _=>rfl
 have HB:=Aside0.mk hb
 have HA:=Aside0.mk hA
 clear hb hA
 go_enter Tryz.func123,Tryz.ntmps123
 go_upto_region 2 with (first | (go_at_call 163;refine (mkE.do_ w00 b g c _ HB.out HA.out hg hB hbase).mono ?_;rintro e w2 ⟨rfl,HQ⟩))
 obtain ⟨gB,hR,hK⟩:=HQ.out.out
 have HR:=Aside0.mk hR
 obtain ⟨k1,k2,g2,c1,c2,c3,hat⟩:=hR.at_
 have HAT:=Aside0.mk hat
 have d3:w2.cell? ⟨b,3,none⟩=some (.iface 258 (.pointer (some ⟨gB,0,none⟩))):=(blk_cell hK 3).trans rfl
 clear hR hat hK HB HA
 go_wp2_with (first | (go_at_call 294;refine (replaceE_c gB k1 k2 g2 c1 c2 c3 s _ HAT.out hs).mono ?_;rintro e w4 ⟨rfl,hb4⟩;have B4:=Aside0.mk (below_step HR.out.bel hb4);clear hb4))
 go_ret
 exact ⟨rfl,B4.out⟩
def escB (s:ByteArray):ByteArray:=⟨(escL s.data.toList).toArray⟩
set_option maxRecDepth 100000 in
set_option maxHeartbeats 1600000 in
theorem escaped_c (s:ByteArray) (w:World) (hs:s.size≤1073741824) :
  Calls Tryz.prog 116 #[.string s] w fun e w'=>e=.returned (.string (escB s))∧Below w.heap.size w w':=by
 go_enter Tryz.func116,Tryz.ntmps116
 go_wp2_with (first | (go_at_call 122;obtain ⟨W1,hW1⟩:∃ W1,W1=w.alloc (.cells #[.string ⟨#[126]⟩,.string ⟨#[126,48]⟩,.string ⟨#[47]⟩,.string ⟨#[126,49]⟩] 9):=⟨_,rfl⟩;have B1:=Aside0.mk (show Below w.heap.size w W1 by rw [hW1];exact below_alloc (Below.refl _ _) _);have C1:=Aside0.mk (show Kd.C Kd.string W1 (some ⟨w.heap.size,0,none⟩) 4 oldE by rw [hW1];exact C_four _ _ _ _ w);rw [←hW1];clear hW1;refine (newG_c oldE rfl w.heap.size 4 W1 C1.out).mono ?_;rintro e w2 ⟨b,g,c,rfl,h1,h2,h3,h4,h5⟩;have Q:=Aside0.mk (And.intro h1 (And.intro h2 (And.intro h3 (And.intro (below_step B1.out h4) (Nat.le_trans B1.out.size h5)))));clear h1 h2 h3 h4 h5 C1) | (go_at_call 123;refine (escAll_c w b g c s w2 Q.out.1 Q.out.2.1 Q.out.2.2.1 Q.out.2.2.2.1 Q.out.2.2.2.2 hs).mono ?_;rintro e w3 ⟨rfl,hb3⟩;have B3:=Aside0.mk hb3;clear hb3))
 go_ret
 exact ⟨rfl,B3.out⟩
end Go.Proofs.YtoaafohpmhdjnaaGreatDoor.RY
namespace Go.Proofs.YtoaafohpmhdjnaaGreatDoor.VT
open Go.RowKit Go.Proofs.YtoaafohpmhdjnaaGreatDoor.RY Go.Proofs.YtoaafohpmhdjnaaGreatDoor.PVG Go.Proofs.YtoaafohpmhdjnaaGreatDoorW.PrintWords Go.Proofs.YtoaafohpmhdjnaaGreatDoorW.PrintLast Go.Proofs.YtoaafohpmhdjnaaGreatDoorW.PrintMore
set_option linter.unusedVariables false
set_option linter.unusedSimpArgs false
theorem genSplit47 (s:ByteArray) (w:World) (hs:s.size≤60) :
  Calls Tryz.prog 162 #[.string s,.string ⟨#[47]⟩,.int .i64 0,.int .i64 (-1)] w fun e w'=>e=.returned (.slice (some ⟨w.heap.size,0,none⟩) (Lib.splitB ⟨#[47]⟩ 0 (Lib.countB s ⟨#[47]⟩) s).length (Lib.countB s ⟨#[47]⟩+1))∧w'=w.alloc (.cells (Lib.cellsOf (Lib.splitB ⟨#[47]⟩ 0 (Lib.countB s ⟨#[47]⟩) s) (Lib.countB s ⟨#[47]⟩+1)) 9):=by
 have hle:=Lib.countB_le ⟨#[47]⟩ (by decide) s.size s (Nat.le_refl _)
 have c:=Any.strings_genSplit_core Tryz.lays221 (by kernel_rfl) s ⟨#[47]⟩ 0 (-1) (Lib.countB s ⟨#[47]⟩+1) w (by omega) (by decide) (Nat.zero_le _)
  (fun x c hx=>by
   have h:=Tryz.strings_Index_one x 47 (w.alloc (.cells c 9))
   rw [←Lib.index_one] at h
   exact h)
  (by
   have h:=Tryz.strings_Count_one s 47 w
   rw [show Lib.countByte s.data.toList 47=Lib.countB s ⟨#[47]⟩ from (Lib.count_one 47 s.data.toList).symm] at h
   exact h) (by decide) (by decide) (by rw [if_pos (by decide)];omega)
 rw [Nat.add_sub_cancel] at c
 exact c
theorem split47_c (s:ByteArray) (w:World) (hs:s.size≤60):∃ ps:List ByteArray,ps.map (·.data.toList)=cutL s.data.toList ∧
  Calls Tryz.prog 121 #[.string s,.string ⟨#[47]⟩] w fun e w'=>e=.returned (.slice (some ⟨w.heap.size,0,none⟩) ps.length ps.length)∧w'=w.alloc (.cells (ps.map Value.string).toArray 9):=by
 have c:=genSplit47 s w hs
 have hlen:=Lib.splitB_all ⟨#[47]⟩ (by decide) 0 _ s rfl
 have hp:=pieces s
 obtain ⟨ps,hps⟩:∃ ps,ps=Lib.splitB ⟨#[47]⟩ 0 (Lib.countB s ⟨#[47]⟩) s:=⟨_,rfl⟩
 rw [←hps] at c hlen hp
 rw [←hlen,Lib.cellsOf_full] at c
 have C:=Aside0.mk c
 refine ⟨ps,hp,?_⟩
 clear hp hps hlen c
 go_enter Tryz.func121,Tryz.ntmps121
 go_wp2_with (first | (go_at_call 162;(with_reducible refine C.out.mono ?_);rintro e w2 ⟨rfl,rfl⟩))
 go_ret
 exact ⟨rfl,rfl⟩
end Go.Proofs.YtoaafohpmhdjnaaGreatDoor.VT
