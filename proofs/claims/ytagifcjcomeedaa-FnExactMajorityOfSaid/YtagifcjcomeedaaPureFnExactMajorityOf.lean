/- The program's MajorityOf returns what the reference's MajorityOf returns, for all arguments: the pure side, over the printed functions. Conditions: none beyond the row's own. -/
import Derived.Test.YtagifcjcomeedaaPFnExactMajorityOfx1
namespace Go.Proofs.Ytagifcjcomeedaa.Pure
open Go.RowKit Go.Proofs.Ytagifcjcomeedaa.PFnExactMajorityOf Go.Proofs.YtagifcjcomeedaaW.PrintWords Go.Proofs.YtagifcjcomeedaaW.PrintLast

/-- YOURS: ∀ (a0 : Int), (Lit.int .i64 a0).wf = true → laws_FnExactMajorityOf.f a0 = some true
What it reaches (each with k first where it has rounds; `.mono`: more rounds tell the same; `.l0`, ..: its loops, with `.mono_l`): spec_l1In.f, spec_MajorityOf.f, impl_within.f, impl_majority.f, impl_MajorityOf.f, laws_FnExactMajorityOf.f -/
theorem FnExactMajorityOf : laws_FnExactMajorityOf.Pure := by
  intro a _
  unfold laws_FnExactMajorityOf.f
  have e : impl_MajorityOf.f a = spec_MajorityOf.f a := by
    unfold impl_MajorityOf.f spec_MajorityOf.f impl_within.f spec_l1In.f impl_majority.f
    rfl
  rw [e]
  have hs : ∃ r, spec_MajorityOf.f a = some r := by
    unfold spec_MajorityOf.f spec_l1In.f
    by_cases h1 : a ≥ 1
    · rw [if_pos h1]
      simp only [Option.bind_some]
      by_cases h2 : decide (a ≤ 100) = true
      · rw [if_pos h2]; exact ⟨_, rfl⟩
      · rw [if_neg h2]; exact ⟨_, rfl⟩
    · rw [if_neg h1]; exact ⟨(0, false), by simp⟩
  obtain ⟨r, hr⟩ := hs
  rw [hr]
  simp

end Go.Proofs.Ytagifcjcomeedaa.Pure
