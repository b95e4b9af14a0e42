import Derived.Test.YtemamcbdjfabnaaGreatDoorCVVWB
import Derived.Test.YtemamcbdjfabnaaGreatDoorCVVTK
import Derived.Test.YtemamcbdjfabnaaGreatDoorCVVGA
/- The key of a tree, walked. Conditions: the tree's texts are right. -/
namespace Go.Proofs.YtemamcbdjfabnaaGreatDoor.VT
open Go.RowKit Go.Proofs.YtemamcbdjfabnaaGreatDoor.PVG Go.Proofs.YtemamcbdjfabnaaGreatDoorW.PrintWords Go.Proofs.YtemamcbdjfabnaaGreatDoorW.PrintLast Go.Proofs.YtemamcbdjfabnaaGreatDoorW.PrintMore
set_option linter.unusedVariables false
set_option linter.unusedSimpArgs false
structure BdU (B b : Nat) (L : List UInt8) (W : World) : Prop where
  is : Lib.BuilderAt 98 5 B b (.pointer (some ⟨b, 0, none⟩)) (Lib.byteCells L) W
  le : B ≤ W.heap.size
theorem BdU.bd {B b : Nat} {L : List UInt8} {W : World} (h : BdU B b L W) : Bd B b L W := ⟨.inr h.is, h.le⟩
theorem BdU.below {B b : Nat} {L : List UInt8} {W W' : World} (h : BdU B b L W) (hb : Below W.heap.size W W') : BdU B b L W' := ⟨BuilderAt_below h.is hb, Nat.le_trans h.le hb.size⟩
def KyCall (t : Tr) : Prop := ∀ (w : World) (g : Nat), IsV w g t → fit t = true → cnt t ≤ 1073741824 →
  Calls Tryz.prog 56 #[.pointer (some ⟨g, 0, none⟩)] w fun e w' => e = .returned (.string (ofL (keyL t))) ∧ Below w.heap.size w w'
theorem KyCall.go {t : Tr} (h : KyCall t) (w : World) (g : Nat) (h1 : IsV w g t) (h2 : fit t = true) (h3 : cnt t ≤ 1073741824) :
    Calls Tryz.prog 56 #[.pointer (some ⟨g, 0, none⟩)] w fun e w' => e = .returned (.string (ofL (keyL t))) ∧ Below w.heap.size w w' := h w g h1 h2 h3
end Go.Proofs.YtemamcbdjfabnaaGreatDoor.VT
