import Derived.Test.YtemamcbdjfabnaaGreatDoorICVQA
import Derived.Test.YtemamcbdjfabnaaGreatDoorICVTN
import Derived.Test.YtemamcbdjfabnaaGreatDoorICVLB
/- Whether two trees are the same; IsClean over what cleaning answers. Conditions: right trees. -/
namespace Go.Proofs.YtemamcbdjfabnaaGreatDoor.VT
open Go.RowKit Go.Proofs.YtemamcbdjfabnaaGreatDoor.PVG Go.Proofs.YtemamcbdjfabnaaGreatDoorW.PrintWords Go.Proofs.YtemamcbdjfabnaaGreatDoorW.PrintLast Go.Proofs.YtemamcbdjfabnaaGreatDoorW.PrintMore
set_option linter.unusedVariables false
set_option linter.unusedSimpArgs false
set_option maxRecDepth 100000 in
set_option maxHeartbeats 4000000 in
theorem same_c (t u : Tr) (w : World) (g h : Nat) (h1 : IsV w g t) (h2 : IsV w h u) (h3 : fit t = true) (h4 : fit u = true) (h5 : cnt t ≤ 1073741824) (h6 : cnt u ≤ 1073741824) :
    Calls Tryz.prog 62 #[.pointer (some ⟨g, 0, none⟩), .pointer (some ⟨h, 0, none⟩)] w fun e w' => e = .returned (.bool (cmpT t u == 0)) ∧ Below w.heap.size w w' := by
  have H := Aside0.mk ((cmp_c t).go u w g h h1 h2 h3 h4 h5 h6)
  clear h1 h2 h3 h4 h5 h6
  go_enter Tryz.func62, Tryz.ntmps62
  go_wp2_with (first | (go_at_call 64; (with_reducible refine H.out.mono ?_); rintro e w2 ⟨rfl, hb⟩; have B2 := Aside0.mk hb; clear hb))
  go_ret
  exact ⟨rfl, B2.out⟩
/-- What the walk of clean is to show. -/
def ClCall (t : Tr) : Prop := ∀ (w : World) (g : Nat) (F : Nat → Prop), InV w F t g → (∀ k, F k → k < w.heap.size) → fit t = true → cnt t ≤ 1073741824 →
  Calls Tryz.prog 61 #[.pointer (some ⟨g, 0, none⟩)] w fun e w' => ∃ g', e = .returned (.pointer (some ⟨g', 0, none⟩)) ∧ InV w' (fun k => F k ∨ w.heap.size ≤ k) (cleanT t) g' ∧ Below w.heap.size w w'
mutual
theorem clean_fit : ∀ t : Tr, fit t = true → fit (cleanT t) = true ∧ cnt (cleanT t) ≤ cnt t
  | .mk kd nu tx ns ks, h => by
    rw [cleanT]
    by_cases h7 : kd = 7
    · rw [if_pos h7]
      have hf := fit1 h
      obtain ⟨g1, g2, g3, g4⟩ := cleanK_fit ks ns hf.hks hf.hns (by rw [hf.hlen h7])
      refine ⟨?_, by simp only [cnt]; omega⟩
      rw [fit]
      have e1 : prt nil_ = true := by decide
      simp only [Bool.and_eq_true, Bool.or_eq_true]
      exact ⟨⟨⟨⟨⟨by decide, by decide⟩, e1⟩, by rw [List.all_eq_true]; exact g3⟩, .inr (by simpa using g4)⟩, g1⟩
    · rw [if_neg h7]
      exact ⟨h, Nat.le_refl _⟩
theorem cleanK_fit : ∀ (ks : List Tr) (ns : List ByteArray), fitL ks = true → (∀ s, s ∈ ns → prt s = true) → ns.length = ks.length → fitL (cleanK ks) = true ∧ cntL (cleanK ks) ≤ cntL ks ∧ (∀ s, s ∈ cleanN ks ns → prt s = true) ∧ (cleanN ks ns).length = (cleanK ks).length
  | [], ns, _, _, _ => by simp [cleanK, cleanN, fitL, cntL]
  | t :: ts, [], _, _, h => by simp at h
  | t :: ts, a :: r, h, hn, hl => by
    rw [fitL, Bool.and_eq_true] at h
    obtain ⟨g1, g2⟩ := clean_fit t h.1
    obtain ⟨k1, k2, k3, k4⟩ := cleanK_fit ts r h.2 (fun s hs => hn s (List.mem_cons_of_mem _ hs)) (by simpa using hl)
    rw [cleanK, cleanN, List.tail_cons, List.headD_cons]
    by_cases h1 : t.kd = 1
    · rw [if_pos h1, if_pos h1]
      exact ⟨k1, by simp only [cntL]; omega, k3, k4⟩
    · rw [if_neg h1, if_neg h1]
      refine ⟨by rw [fitL, g1, k1]; rfl, by simp only [cntL]; omega, fun s hs => ?_, by simp [k4]⟩
      rcases List.mem_cons.1 hs with rfl | hs
      · exact hn _ (List.mem_cons_self ..)
      · exact k3 s hs
end
end Go.Proofs.YtemamcbdjfabnaaGreatDoor.VT
