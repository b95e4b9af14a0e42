/- The program's AlwaysMeet returns what the reference's returns, for all arguments: the pure side. Conditions: none beyond the row's own. -/
import Derived.Test.YtfbghibgjfegpaaLibA
import Derived.Test.YtfbghibgjfegpaaPAllx5
namespace Go.Proofs.Ytfbghibgjfegpaa.Pure
open Go.RowKit Go.Proofs.Ytfbghibgjfegpaa.PAll Go.Proofs.YtfbghibgjfegpaaW.PrintWords Go.Proofs.YtfbghibgjfegpaaW.PrintLast

/-- YOURS: ∀ (l0 : List Int) (l1 : List Int) (l2 : List Int), l0.length ≤ maxLen → l0.length * 8 ≤ 140737488351232 → (∀ x ∈ l0, (Lit.int .i64 x).wf = true) → l1.length ≤ maxLen → l1.length * 8 ≤ 140737488351232 → (∀ x ∈ l1, (Lit.int .i64 x).wf = true) → l2.length ≤ maxLen → l2.length * 8 ≤ 140737488351232 → (∀ x ∈ l2, (Lit.int .i64 x).wf = true) → ∃ k, laws_FnExactAlwaysMeet.f k l0 l1 l2 = some true
What it reaches (each with k first where it has rounds; `.mono`: more rounds tell the same; `.l0`, ..: its loops, with `.mono_l`): spec_l1In.f, spec_l14Some.f, spec_l1Has.f, spec_AlwaysMeet.f, laws_toIntS.f, impl_within.f, impl_AlwaysMeet.f, laws_eqIntS.f, laws_FnExactAlwaysMeet.f -/
theorem FnExactAlwaysMeet : laws_FnExactAlwaysMeet.Pure := by
  intro l0 l1 l2 _ _ _ _ _ _ _ _ _
  refine ⟨l0.length + l1.length + l2.length + 10, ?_⟩
  unfold laws_FnExactAlwaysMeet.f
  by_cases h0 : (l0.length : Int) > 1048576
  · rw [if_pos h0]
  rw [if_neg h0]
  by_cases h1 : (l1.length : Int) > 1048576
  · rw [if_pos h1]
  rw [if_neg h1]
  by_cases h2 : (l2.length : Int) > 1048576
  · rw [if_pos h2]
  rw [if_neg h2]
  have e0 := fun k hk => toIntS_eq l0 (by omega) k hk
  have e1 := fun k hk => toIntS_eq l1 (by omega) k hk
  have e2 := fun k hk => toIntS_eq l2 (by omega) k hk
  rw [e0 _ (by omega), e1 _ (by omega), e2 _ (by omega)]
  simp only [Option.bind_some]
  rw [specMeet_eq l0 l1 l2 (by omega) (by omega) (by omega) _ (by omega)]
  simp only [Option.bind_some, impl_AlwaysMeet.f]
  rw [if_neg (by simp)]
  simp only [laws_FnExactAlwaysMeet.j0, bne_self_eq_false, Bool.false_eq_true, if_false]
  rw [e0 _ (by omega), e1 _ (by omega), e2 _ (by omega)]
  simp only [Option.bind_some]
  rw [eqIntS_eq l0 (by omega) _ (by omega), eqIntS_eq l1 (by omega) _ (by omega), eqIntS_eq l2 (by omega) _ (by omega)]
  simp

end Go.Proofs.Ytfbghibgjfegpaa.Pure
