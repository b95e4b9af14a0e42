import Derived.Lib.AtoiAllCases
import Derived.Lib.ItoaMem
import Derived.Test.YtoaafohpmhdjnaaGreatDoorTAYPA
import Derived.Test.YtoaafohpmhdjnaaGreatDoorTAVK
import Derived.Test.YtoaafohpmhdjnaaGreatDoorTAVR1
import Derived.Test.YtoaafohpmhdjnaaGreatDoorTAVBT
import Derived.WalkLawsBesides
import Derived.Lib.Walk
import Derived.Test.YtoaafohpmhdjnaaGreatDoorTAPVGx0
import Derived.Test.YtoaafohpmhdjnaaGreatDoorTAVWB
import Derived.Test.YtoaafohpmhdjnaaGreatDoorTAShelf
/- impl place in every tree, get: walked. Conditions: right trees, short names, the powers of ten and the two errors stand. -/
namespace Go.Proofs.YtoaafohpmhdjnaaGreatDoor.VT
open Go.RowKit Go.Proofs.YtoaafohpmhdjnaaGreatDoor.RX Go.Proofs.YtoaafohpmhdjnaaGreatDoor.RY Go.Proofs.YtoaafohpmhdjnaaGreatDoor.PVG Go.Proofs.YtoaafohpmhdjnaaGreatDoorW.PrintWords Go.Proofs.YtoaafohpmhdjnaaGreatDoorW.PrintLast Go.Proofs.YtoaafohpmhdjnaaGreatDoorW.PrintMore
set_option linter.unusedVariables false
set_option linter.unusedSimpArgs false
def isErr (w:World) (g:Nat):Prop:=∃ ev,w.cell? ⟨g,0,none⟩=some ev∧(ev=.nilIface∨∃ te pe,ev=.iface te pe)
def HE (w:World):Prop:=isErr w 0∧isErr w 1
theorem HE.below {w w':World} (h:HE w) (hb:Below w.heap.size w w'):HE w':=by
 obtain ⟨⟨e1,h1,g1⟩,e2,h2,g2⟩:=h
 exact ⟨⟨e1,(hb.cell (World.block_lt_of_cell? w _ h1)).trans h1,g1⟩,e2,(hb.cell (World.block_lt_of_cell? w _ h2)).trans h2,g2⟩
structure NoNum (w:World) (e:Ending) (w':World):Prop where
 out:∃ v N,e=.returned (.tuple #[.int .i64 v,.iface 230 (.pointer (some ⟨N,0,none⟩))])∧Below w.heap.size w w'
end Go.Proofs.YtoaafohpmhdjnaaGreatDoor.VT
