/- The program's NewVoting returns what the reference's returns, for all arguments: the pure side. Conditions: none beyond the row's own. -/
import Derived.Test.YtfbghibgjfegpaaPNVx8
import Derived.Test.YtfbghibgjfegpaaLibNV
namespace Go.Proofs.Ytfbghibgjfegpaa.Pure
open Go.RowKit Go.Proofs.Ytfbghibgjfegpaa.PNV Go.Proofs.YtfbghibgjfegpaaW.PrintWords Go.Proofs.YtfbghibgjfegpaaW.PrintLast

theorem FnExactNewVoting : laws_FnExactNewVoting.Pure := by
  intro l R W _ _ _ _ _
  apply Ev.rounds (g := fun k => laws_FnExactNewVoting.f k l R W)
  by_cases hn : (l.length : Int) > 1048576
  · exact Ev.congr (fun k => by unfold laws_FnExactNewVoting.f; rw [if_pos hn]) (Ev.now _)
  refine Ev.congr (fun k => by unfold laws_FnExactNewVoting.f; rw [if_neg hn]) ?_
  have hl : l.length ≤ 1073741824 := by omega
  have hT := toIntS_ev l hl
  have hS := specNV_ev l R W hl
  have hI := implNV_ev l R W hl
  have hLn := nvV_len l R W hl
  rcases hv : nvV l R W with ⟨L, R', W', b⟩
  rw [hv] at hS hI hLn
  have hE := eqVoting_ev L R' W' hLn
  have hEI := eqIntS_ev l hl
  obtain ⟨m1, hm1, y1, hMI⟩ := markIntS_ev l hl
  obtain ⟨m, y, hm, hM, hH⟩ := mark_held L R' W' hLn
  refine Ev.bind hT (Ev.bind hS (Ev.bind hT (Ev.bind hI (Ev.bind hE ?_))))
  refine Ev.congr (fun k => if_pos rfl) (Ev.step (fun k => by simp only [laws_FnExactNewVoting.j0, bne_self_eq_false]; rw [if_neg (by simp)]) ?_)
  refine Ev.bind hT (Ev.bind hEI (Ev.congr (fun k => if_pos rfl) (Ev.bind hMI (Ev.congr (fun k => if_neg (by omega)) (Ev.bind hE (Ev.congr (fun k => if_pos rfl) ?_))))))
  refine Ev.step (fun k => by simp only [laws_FnExactNewVoting.j1]; rw [if_neg (by simp)]) ?_
  refine Ev.bind hM (Ev.bind hH (Ev.congr (fun k => if_neg (by omega)) (Ev.congr (fun k => if_pos rfl) ?_)))
  refine Ev.bind hT (Ev.bind hI (Ev.bind hE (Ev.congr (fun k => if_pos rfl) ?_)))
  refine Ev.step (fun k => by simp only [laws_FnExactNewVoting.j2, bne_self_eq_false]; rw [if_neg (by simp)]) ?_
  exact Ev.bind hH (Ev.congr (fun k => if_neg (by omega)) (Ev.congr (fun k => if_pos rfl) (Ev.now _)))
end Go.Proofs.Ytfbghibgjfegpaa.Pure
