import Derived.Test.YtemamcbdjfabnaaGreatDoorCVVLB
import Derived.Test.YtemamcbdjfabnaaGreatDoorCVVKB
import Derived.Test.YtemamcbdjfabnaaGreatDoorCVVTH
/- The weight from any start. Conditions: texts of no more than the longest. -/
namespace Go.Proofs.YtemamcbdjfabnaaGreatDoor.VT
open Go.RowKit Go.Proofs.YtemamcbdjfabnaaGreatDoor.PVG Go.Proofs.YtemamcbdjfabnaaGreatDoorW.PrintWords
set_option linter.unusedVariables false
theorem sz_ev2 {l : List S90} (hl : Fits l) {n : Int} (hn : 0 ≤ n ∧ n ≤ 1048576) : ∃ r, Ev (fun f => laws_szValue.f f l n) r ∧ r ≤ n ∧ (0 ≤ r → Small (tov l) ∧ l.length ≤ 1048576) := by
  have hL := hl.1
  have hw : wrap64 (n - (l.length : Int)) = n - l.length := by unfold maxLen at hL; unfold wrap64; omega
  by_cases h1 : n - (l.length : Int) < 0
  · refine ⟨-1, Ev.congr (f := fun _ => some (-1)) (fun f => ?_) (Ev.now _), by omega, fun h => by omega⟩
    unfold laws_szValue.f laws_szNodeS.f
    rw [hw, if_pos h1]
    rfl
  · obtain ⟨r, e1, e2, e3⟩ := sz_go hl l.length 0 (n - l.length) (by omega) (by omega)
    refine ⟨if r < 0 then -1 else r, Ev.congr (f := fun f => (laws_szNodeS.l0 f l (n - l.length) 0).bind fun t114 => if t114 < 0 then some (-1) else some t114) (fun f => ?_) (Ev.bind e1 ?_), by split <;> omega, fun hr => ?_⟩
    · unfold laws_szValue.f laws_szNodeS.f
      rw [hw, if_neg h1]
    · by_cases hr : r < 0
      · simp only [if_pos hr]; exact Ev.now _
      · simp only [if_neg hr]; exact Ev.now _
    · have hr0 : 0 ≤ r := by
        by_cases hh : r < 0
        · rw [if_pos hh] at hr; omega
        · omega
      refine ⟨⟨by rw [tov_len]; omega, fun x hx => ?_⟩, by omega⟩
      obtain ⟨y, hy, rfl⟩ := List.mem_map.1 hx
      obtain ⟨j, hj, rfl⟩ := List.getElem_of_mem hy
      obtain ⟨g1, g2⟩ := e3 hr0 j hj (by omega)
      exact ⟨by show l[j].f2.size ≤ _; omega, by show l[j].f3.size ≤ _; omega⟩
theorem sz_c2 {l : List S90} (hf : Fits l) {n : Int} (hn : 0 ≤ n ∧ n ≤ 1048576) : ∃ r : Int, r ≤ n ∧ (0 ≤ r → Small (tov l) ∧ l.length ≤ 1048576) ∧ ∀ (A : Option Addr) (c : Nat) (w : World), Kd.C k90 w A l.length l → l.length ≤ c →
    Calls Tryz.prog 18 #[.agg #[.slice A l.length c], .int .i64 n] w fun e w' => e = .returned (.int .i64 r) ∧ Below w.heap.size w w' := by
  obtain ⟨r, h1, h3, h2⟩ := sz_ev2 hf hn
  obtain ⟨k, hk⟩ := h1.rounds
  exact ⟨r, h3, h2, fun A c w hr hc => laws_szValue.calls k A c l n r w hr hc hk⟩
end Go.Proofs.YtemamcbdjfabnaaGreatDoor.VT
/- A law walked: pair_law. Conditions: the powers of ten stand in memory. -/
namespace Go.Proofs.YtemamcbdjfabnaaGreatDoor.VT
open Go.RowKit Go.Proofs.YtemamcbdjfabnaaGreatDoor.PVG Go.Proofs.YtemamcbdjfabnaaGreatDoorW.PrintWords Go.Proofs.YtemamcbdjfabnaaGreatDoorW.PrintLast Go.Proofs.YtemamcbdjfabnaaGreatDoorW.PrintMore
set_option linter.unusedVariables false
set_option linter.unusedSimpArgs false
end Go.Proofs.YtemamcbdjfabnaaGreatDoor.VT
