/- The program's BallotFor returns what the reference's BallotFor returns, for all arguments: the pure side, over the printed functions. Conditions: none beyond the row's own. -/
import Derived.Test.YtagifcjcomeedaaPFnExactBallotForx1
namespace Go.Proofs.Ytagifcjcomeedaa.Pure
open Go.RowKit Go.Proofs.Ytagifcjcomeedaa.PFnExactBallotFor Go.Proofs.YtagifcjcomeedaaW.PrintWords Go.Proofs.YtagifcjcomeedaaW.PrintLast

/-- YOURS: ∀ (a0 : Int) (a1 : Int), (Lit.int .i64 a0).wf = true → (Lit.int .i64 a1).wf = true → laws_FnExactBallotFor.f a0 a1 = some true
What it reaches (each with k first where it has rounds; `.mono`: more rounds tell the same; `.l0`, ..: its loops, with `.mono_l`): spec_l1In.f, spec_BallotFor.f, impl_within.f, impl_ballotFor.f, impl_BallotFor.f, laws_FnExactBallotFor.f -/
theorem FnExactBallotFor : laws_FnExactBallotFor.Pure := by
  intro a b _ _
  unfold laws_FnExactBallotFor.f
  have e : impl_BallotFor.f a b = spec_BallotFor.f a b := by
    unfold impl_BallotFor.f spec_BallotFor.f impl_within.f spec_l1In.f impl_ballotFor.f
    rfl
  rw [e]
  have hs : ∃ r, spec_BallotFor.f a b = some r := by
    unfold spec_BallotFor.f spec_l1In.f
    by_cases h1 : a ≥ 1
    · rw [if_pos h1]
      simp only [Option.bind_some]
      by_cases h2 : decide (a ≤ 1000) = true
      · rw [if_pos h2]
        by_cases h3 : b ≥ 0
        · rw [if_pos h3]
          simp only [Option.bind_some]
          by_cases h4 : decide (b ≤ 2) = true
          · rw [if_pos h4]; exact ⟨_, rfl⟩
          · rw [if_neg h4]; exact ⟨_, rfl⟩
        · rw [if_neg h3]; exact ⟨(0, false), by simp⟩
      · rw [if_neg h2]; exact ⟨_, rfl⟩
    · rw [if_neg h1]; exact ⟨(0, false), by simp⟩
  obtain ⟨r, hr⟩ := hs
  rw [hr]
  simp

end Go.Proofs.Ytagifcjcomeedaa.Pure
