import Derived.Test.YtemamcbdjfabnaaGreatDoorTOVPA
/- Two trees compared, walked. Conditions: the trees' texts are right. -/
namespace Go.Proofs.YtemamcbdjfabnaaGreatDoor.VT
open Go.RowKit Go.Proofs.YtemamcbdjfabnaaGreatDoor.PVG Go.Proofs.YtemamcbdjfabnaaGreatDoorW.PrintWords Go.Proofs.YtemamcbdjfabnaaGreatDoorW.PrintLast Go.Proofs.YtemamcbdjfabnaaGreatDoorW.PrintMore
set_option linter.unusedVariables false
set_option linter.unusedSimpArgs false
def CmCall (t : Tr) : Prop := ∀ (u : Tr) (w : World) (g h : Nat), IsV w g t → IsV w h u → fit t = true → fit u = true → cnt t ≤ 1073741824 → cnt u ≤ 1073741824 →
  Calls Tryz.prog 64 #[.pointer (some ⟨g, 0, none⟩), .pointer (some ⟨h, 0, none⟩)] w fun e w' => e = .returned (.int .i64 (cmpT t u)) ∧ Below w.heap.size w w'
theorem CmCall.go {t : Tr} (hh : CmCall t) (u : Tr) (w : World) (g h : Nat) (h1 : IsV w g t) (h2 : IsV w h u) (h3 : fit t = true) (h4 : fit u = true) (h5 : cnt t ≤ 1073741824) (h6 : cnt u ≤ 1073741824) :
    Calls Tryz.prog 64 #[.pointer (some ⟨g, 0, none⟩), .pointer (some ⟨h, 0, none⟩)] w fun e w' => e = .returned (.int .i64 (cmpT t u)) ∧ Below w.heap.size w w' := hh u w g h h1 h2 h3 h4 h5 h6
end Go.Proofs.YtemamcbdjfabnaaGreatDoor.VT
