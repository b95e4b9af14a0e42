/- The program's GoodVoting returns what the reference's returns, for all arguments: the pure side. Conditions: none beyond the row's own. -/
import Derived.Test.YtfbghibgjfegpaaLibNR
namespace Go.Proofs.Ytfbghibgjfegpaa.Pure
open Go.RowKit Go.Proofs.Ytfbghibgjfegpaa.PNR Go.Proofs.YtfbghibgjfegpaaW.PrintWords Go.Proofs.YtfbghibgjfegpaaW.PrintLast
theorem FnExactGoodVoting (l : List S98) (R W : Int) (hn : l.length ≤ maxLen) (hs : ∀ x ∈ l, x.f2.size ≤ maxLen) : ∃ k, laws_FnExactGoodVoting.f k l R W = some true := by
  apply Ev.rounds (g := fun k => laws_FnExactGoodVoting.f k l R W)
  obtain ⟨r, hz, hr⟩ := szVoting_ev l R W hn hs
  unfold laws_FnExactGoodVoting.f
  refine Ev.bind hz ?_
  by_cases q : r < 0
  · exact Ev.congr (fun k => if_pos q) (Ev.now _)
  refine Ev.congr (fun k => if_neg q) ?_
  have hl : l.length ≤ 1073741824 := by have := hr q; omega
  have hT := toVoting_ev l R W hl
  have hS := specGood_ev (cvL l) R W (by rw [cvL_len]; exact hl)
  have hE := eqVoting_ev (cvL l) R W (by rw [cvL_len]; exact hl)
  refine Ev.bind hT (Ev.bind hS (Ev.bind hT (Ev.bind (a := goodV (cvL l) R W) (Ev.now _) ?_)))
  refine Ev.congr (fun k => by rw [if_neg (by simp)]) (Ev.bind hT (Ev.bind hE (Ev.congr (fun k => if_pos rfl) (Ev.now _))))
end Go.Proofs.Ytfbghibgjfegpaa.Pure
