import Derived.Test.YtemamcbdjfabnaaGreatDoorTOVLM
import Derived.Test.YtemamcbdjfabnaaGreatDoorTOPVGx21
import Derived.Test.YtemamcbdjfabnaaGreatDoorTOPVGx23
/- The laws of SubOf and TextOf: the pure side. Conditions: none. -/
namespace Go.Proofs.YtemamcbdjfabnaaGreatDoor.VT
open Go.RowKit Go.Proofs.YtemamcbdjfabnaaGreatDoor.PVG Go.Proofs.YtemamcbdjfabnaaGreatDoorW.PrintWords
set_option linter.unusedVariables false
set_option linter.unusedSimpArgs false
theorem textLaw_ev (s : ByteArray) : Ev (fun k => laws_FnExactTextOf.f k s) true := by
  unfold laws_FnExactTextOf.f
  by_cases h1 : (s.size : Int) > 1048576
  · simp only [if_pos h1]; exact Ev.now _
  · simp only [if_neg h1]
    have hs : s.size < 9223372036854775807 := by omega
    obtain ⟨v, hv⟩ : ∃ v : List S54 × Bool, v = (if prt s = true then [⟨5, 0, s, nil_, -1⟩] else [], prt s) := ⟨_, rfl⟩
    have hlen : v.1.length ≤ 1 := by rw [hv]; cases prt s <;> simp
    have hI : impl_TextOf.f s = some v := by rw [hv]; rfl
    have hS : Ev (fun k => spec_TextOf.f k s) v := by
      unfold spec_TextOf.f
      refine Ev.bind (Ev.of (fun k => spec_l1Printed.mono s k) (sprt_f s hs)) ?_
      rw [hv]
      cases prt s with
      | true => simp only [if_true]; exact Ev.now _
      | false => simp only [Bool.false_eq_true, if_false]; exact Ev.now _
    have hQ := eq_ev (l := v.1) (by omega)
    obtain ⟨y, _, hm, hh⟩ := markV_ev v.1 (by omega) 1 (by omega)
    rw [hI]
    refine Ev.bind hS ?_
    simp only [Option.bind_some]
    refine Ev.bind hQ ?_
    simp only [if_true, bne_self_eq_false]
    refine Ev.step (f := fun k => _) (fun k => by rw [laws_FnExactTextOf.j0, if_neg (by simp)]) ?_
    refine Ev.bind hm (Ev.bind hh ?_)
    simp only [if_neg (show ¬ ((1 : Int) + 5 * (v.1.length : Int) < 0) by omega), if_true]
    rw [hI]
    simp only [Option.bind_some]
    refine Ev.bind hQ ?_
    simp only [if_true, bne_self_eq_false]
    refine Ev.step (f := fun k => _) (fun k => by rw [laws_FnExactTextOf.j1, if_neg (by simp)]) ?_
    refine Ev.bind hh ?_
    simp only [if_neg (show ¬ ((1 : Int) + 5 * (v.1.length : Int) < 0) by omega), if_true]
    exact Ev.now _
theorem text_law (s : ByteArray) (w : World) (ht : HT w) : Calls Tryz.prog 3 #[.string s] w fun e w' => e = .returned (.bool true) ∧ Below w.heap.size w w' := by
  obtain ⟨k, hk⟩ := (textLaw_ev s).rounds
  exact laws_FnExactTextOf.calls k s w ht hk
end Go.Proofs.YtemamcbdjfabnaaGreatDoor.VT
