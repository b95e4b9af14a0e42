import Derived.Test.YtemamcbdjfabnaaGreatDoorTOVGA
import Derived.Test.YtemamcbdjfabnaaGreatDoorTOVTG
import Derived.Test.YtemamcbdjfabnaaGreatDoorTOPVGx6
/- What valOf finds is what the reference finds. Conditions: texts of moderate size. -/
namespace Go.Proofs.YtemamcbdjfabnaaGreatDoor.VT
open Go.RowKit Go.Proofs.YtemamcbdjfabnaaGreatDoor.PVG Go.Proofs.YtemamcbdjfabnaaGreatDoorW.PrintWords
set_option linter.unusedVariables false
set_option linter.unusedSimpArgs false
mutual
theorem wf_bnd : ∀ t : Tr, wf t = true → bnd t = true
  | .mk kd nu tx ns ks, h => by
    rw [wf] at h
    simp only [Bool.and_eq_true, nodeG] at h
    rw [bnd, wfL_bnd ks h.2, h.1.1.1.2, h.1.1.1.1.1.2]
    by_cases h7 : kd = 7
    · have h8 := h.1.1.2
      rw [if_pos (by simpa using h7)] at h8
      simp only [Bool.and_eq_true] at h8
      rw [h8.2]; rfl
    · have h8 := h.1.1.2
      rw [if_neg (by simpa using h7)] at h8
      cases ns with
      | nil => rfl
      | cons a r => simp at h8
theorem wfL_bnd : ∀ ts : List Tr, wfL ts = true → bndL ts = true
  | [], _ => by rw [bndL]
  | t :: ts, h => by
    rw [wfL] at h
    simp only [Bool.and_eq_true] at h
    rw [bndL, wf_bnd t h.1, wfL_bnd ts h.2]; rfl
end
end Go.Proofs.YtemamcbdjfabnaaGreatDoor.VT
