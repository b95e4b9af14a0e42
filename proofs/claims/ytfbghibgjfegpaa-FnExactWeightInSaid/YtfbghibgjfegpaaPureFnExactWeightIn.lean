/- The program's WeightIn returns what the reference's returns, for all arguments: the pure side. Conditions: none beyond the row's own. -/
import Derived.Test.YtfbghibgjfegpaaLibNR
namespace Go.Proofs.Ytfbghibgjfegpaa.Pure
open Go.RowKit Go.Proofs.Ytfbghibgjfegpaa.PNR Go.Proofs.YtfbghibgjfegpaaW.PrintWords Go.Proofs.YtfbghibgjfegpaaW.PrintLast
theorem FnExactWeightIn (l : List S98) (R W : Int) (s : List Int) (hn : l.length ≤ maxLen) (hs : ∀ x ∈ l, x.f2.size ≤ maxLen) (_hm : s.length ≤ maxLen) : ∃ k, laws_FnExactWeightIn.f k l R W s = some true := by
  apply Ev.rounds (g := fun k => laws_FnExactWeightIn.f k l R W s)
  by_cases h1 : (s.length : Int) > 1048576
  · exact Ev.congr (fun k => by unfold laws_FnExactWeightIn.f; rw [if_pos h1]) (Ev.now _)
  refine Ev.congr (fun k => by unfold laws_FnExactWeightIn.f; rw [if_neg h1]) ?_
  obtain ⟨r, hz, hr⟩ := szVoting_ev l R W hn hs
  refine Ev.bind hz ?_
  by_cases q : r < 0
  · exact Ev.congr (fun k => if_pos q) (Ev.now _)
  refine Ev.congr (fun k => if_neg q) ?_
  have hl : l.length ≤ 1073741824 := by have := hr q; omega
  have hsl : s.length ≤ 1073741824 := by omega
  have hT := toVoting_ev l R W hl
  have hI := toIntS_ev s hsl
  have hS := specWeightIn_ev (cvL l) R W s (by rw [cvL_len]; exact hl) hsl
  have hE := eqVoting_ev (cvL l) R W (by rw [cvL_len]; exact hl)
  have hEI := eqIntS_ev s hsl
  refine Ev.bind hT (Ev.bind hI (Ev.bind hS (Ev.bind hT (Ev.bind hI (Ev.bind (a := weightInV (cvL l) R W s) (Ev.now _) ?_)))))
  refine Ev.congr (fun k => if_pos rfl) ?_
  refine Ev.step (fun k => by simp only [laws_FnExactWeightIn.j0]; rw [if_neg (by simp)]) ?_
  exact Ev.bind hT (Ev.bind hE (Ev.congr (fun k => if_pos rfl) (Ev.bind hI (Ev.bind hEI (Ev.congr (fun k => if_pos rfl) (Ev.now _))))))
end Go.Proofs.Ytfbghibgjfegpaa.Pure
