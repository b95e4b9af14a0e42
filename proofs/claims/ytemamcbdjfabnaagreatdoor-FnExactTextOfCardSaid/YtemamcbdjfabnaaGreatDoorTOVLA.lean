import Derived.Test.YtemamcbdjfabnaaGreatDoorTOVTH
import Derived.Test.YtemamcbdjfabnaaGreatDoorTOPVGx2
/- What the laws' own helpers answer: the weight, the turning, the same. Conditions: texts of no more than the longest. -/
namespace Go.Proofs.YtemamcbdjfabnaaGreatDoor.VT
open Go.RowKit Go.Proofs.YtemamcbdjfabnaaGreatDoor.PVG Go.Proofs.YtemamcbdjfabnaaGreatDoorW.PrintWords
set_option linter.unusedVariables false
set_option linter.unusedSimpArgs false
theorem eq_go {l : List S54} (hl : l.length ≤ 1048576) : ∀ (m i : Nat), i + m = l.length → Ev (fun f => laws_eqNodeS.l0 f l l (i : Int)) true := by
  intro m
  induction m with
  | zero =>
    intro i hi
    refine Ev.step (f := fun _ => some true) (fun f => ?_) (Ev.now _)
    rw [laws_eqNodeS.l0, if_neg (by omega)]
  | succ m ih =>
    intro i hi
    have hw : wrap64 ((i : Int) + 1) = ((i + 1 : Nat) : Int) := by unfold wrap64; omega
    refine Ev.step (fun f => ?_) (ih (i + 1) (by omega))
    rw [laws_eqNodeS.l0, if_pos (by omega), if_pos (by omega), if_pos (by omega), hw]
    unfold laws_eqNode.f
    simp
theorem eq_ev {l : List S54} (hl : l.length ≤ 1048576) : Ev (fun f => laws_eqValue.f f l l) true := by
  refine Ev.congr (f := fun f => (laws_eqNodeS.l0 f l l (0 : Nat)).bind fun t109 => if t109 = true then some true else some false) (fun f => ?_) (Ev.bind (eq_go hl l.length 0 (by omega)) (by simp only [if_true]; exact Ev.now _))
  unfold laws_eqValue.f laws_eqNodeS.f
  rw [if_pos rfl]
  rfl
end Go.Proofs.YtemamcbdjfabnaaGreatDoor.VT
