import Derived.Test.YtdbfhbnlheankaaGreatDoorRows
import Derived.Test.YtdbfhbnlheankaaGreatDoorIOOpenK
import Derived.WalkKit
import Derived.ProofKit
import Derived.OpenShut
import Derived.ShutString
import Derived.ChangeOld
import Derived.Below
import Derived.SizedLaws
import Derived.LaidMore
import Derived.Lib.LaidTab
import Derived.Lib.ItoaNum
import Derived.Stop.LaidErr
import Derived.Stop.Joined
import Derived.Test.YtdbfhbnlheankaaGreatDoorIOPVGx0
/- How the rows' arguments and the listed variables are opened. Conditions: none beyond the rows' own. -/
namespace Go.Proofs.YtdbfhbnlheankaaGreatDoor.VOP
open Go.ChangeShapes Go.WideShapes Go.ChangeAt Go.RowKit Go.Proofs.YtdbfhbnlheankaaGreatDoor.OpenK Go.Proofs.YtdbfhbnlheankaaGreatDoor.PVG Go.Proofs.YtdbfhbnlheankaaGreatDoorW.PrintWords
set_option linter.unusedVariables false
theorem own : ownKnob Tryz.prog.godebug = none := by kernel_rfl
theorem laidOut : laidOutB Tryz.prog = true := by kernel_rfl
theorem gPow : Tryz.prog.globalNamed "internal/strconv.uint64pow10" = some 1 := by kernel_rfl
theorem tPow : (Tryz.prog.globals[1]?).map (·.type) = some 190 := by kernel_rfl
theorem c150 : Tryz.prog.cellsOf 190 = 20 := by kernel_rfl
theorem c141 : Tryz.prog.cellsOf 163 = 1 := by kernel_rfl
set_option maxRecDepth 100000 in
theorem nodeO : Opn Tryz.prog 79 k79 (fun x => x.f2.size ≤ maxLen ∧ x.f3.size ≤ maxLen) := by
  have h : Opn Tryz.prog 79 k79 (fun x => (Lit.int .i64 x.f0).wf = true ∧ (Lit.int .i64 x.f1).wf = true ∧ x.f2.size ≤ maxLen ∧ x.f3.size ≤ maxLen ∧ (Lit.int .i64 x.f4).wf = true) :=
    Opn.iso (fun x : S79 => (x.f0, x.f1, x.f2, x.f3, x.f4)) (fun y => ⟨y.1, y.2.1, y.2.2.1, y.2.2.2.1, y.2.2.2.2⟩) (fun _ => rfl)
      (Opn.struct Tryz.underlying79 (by kernel_rfl) (Flds.more rfl (by kernel_rfl) (Opn.int Tryz.underlying3) (Flds.more rfl (by kernel_rfl) (Opn.int Tryz.underlying3) (Flds.more rfl (by kernel_rfl) (Opn.string Tryz.underlying9) (Flds.more rfl (by kernel_rfl) (Opn.string Tryz.underlying9) (Flds.one rfl (by kernel_rfl) (Opn.int Tryz.underlying3)))))))
  refine ⟨fun hx => ?_⟩
  obtain ⟨a, ha, hq⟩ := h.op hx
  exact ⟨a, ha, hq.2.2.1, hq.2.2.2.1⟩
set_option maxRecDepth 100000 in
theorem valueO : Opn Tryz.prog 24 (Kd.slice 79 k79) (fun l => ∀ y ∈ l, y.f2.size ≤ maxLen ∧ y.f3.size ≤ maxLen) := by
  have h := Opn.struct (d := Kd.slice 79 k79) Tryz.underlying24 (by kernel_rfl) (Flds.one rfl (by kernel_rfl) (Opn.slice Tryz.underlying22 (by kernel_rfl) nodeO))
  exact ⟨fun hx => h.op hx⟩
end Go.Proofs.YtdbfhbnlheankaaGreatDoor.VOP
/- The five listed variables: what the rows of IdOf list. Conditions: none. -/
namespace Go.Proofs.YtdbfhbnlheankaaGreatDoor.VOP
open Go.ChangeShapes Go.WideShapes Go.ChangeAt Go.RowKit Go.Proofs.YtdbfhbnlheankaaGreatDoor.OpenK Go.Proofs.YtdbfhbnlheankaaGreatDoor.PVG Go.Proofs.YtdbfhbnlheankaaGreatDoorW.PrintWords
set_option linter.unusedVariables false
def laid5 : List (String × DataW Unit) := [("math/bits.deBruijn32tab", Rows.laid_math_bits_deBruijn32tab), ("math/bits.deBruijn64tab", Rows.laid_math_bits_deBruijn64tab), ("internal/strconv.uint64pow10", Rows.laid_internal_strconv_uint64pow10), ("strconv.ErrRange", Rows.laid_strconv_ErrRange), ("strconv.ErrSyntax", Rows.laid_strconv_ErrSyntax)]
theorem door_met5 (os : Os) (args : Array Value) : laidMetH Tryz.prog laid5 ((World.doorLaid Tryz.prog 4000 os).forCall (fun _ _ => 0) ⟨#[], args, []⟩).memory :=
  laidMetH_of_parts3 (fuel := 8) (laidMet_of_run' 8 (by kernel_rfl) (by kernel_rfl)) (by kernel_rfl) (by kernel_rfl)
theorem of_laid5 {W : World} (h : laidMetH Tryz.prog laid5 W) : Lib.TabIs Tryz.prog W "internal/strconv.uint64pow10" .u64 Lib.pow10Tab := by
  rw [MakeChecks.laidMetH_plain _ _ _ (by kernel_rfl)] at h
  exact Lib.tabIs_of_head gPow tPow Tryz.underlying190 Tryz.underlying163 c141 c150 h.tail.tail
end Go.Proofs.YtdbfhbnlheankaaGreatDoor.VOP
