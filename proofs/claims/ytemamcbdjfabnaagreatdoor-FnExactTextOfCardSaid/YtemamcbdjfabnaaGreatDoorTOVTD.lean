import Derived.Test.YtemamcbdjfabnaaGreatDoorTOVTC
/- The reference's look and the reading as a tree say the same. Conditions: none. -/
namespace Go.Proofs.YtemamcbdjfabnaaGreatDoor.VT
open Go.Proofs.YtemamcbdjfabnaaGreatDoor.PVG
set_option linter.unusedVariables false
set_option linter.unusedSimpArgs false
/-- Ways up go down. -/
theorem Ch.le {l : List S54} {a u : Int} (h : Ch l a u) (hd : ∀ j : Nat, (j : Int) ≤ a → (nd l j).f4 < j) : u ≤ a := by
  induction h with
  | here a => exact Int.le_refl _
  | up a u h0 h ih =>
    have := hd a.toNat (by omega)
    have := ih (fun j hj => hd j (by omega))
    omega
/-- A way up out of a part passes the part's first node. -/
theorem Ch.out {l : List S54} {c e : Nat} {a u : Int} (h : Ch l a u) (h1 : (c : Int) ≤ a) (h2 : a < e) (hin : ∀ j : Nat, c < j → j < e → (c : Int) ≤ (nd l j).f4 ∧ (nd l j).f4 < j) (hu : u < c) : Ch l (nd l c).f4 u := by
  induction h with
  | here a => omega
  | up a u h0 h ih =>
    by_cases e : a = c
    · subst e
      simpa using h
    · have := hin a.toNat (by omega) (by omega)
      exact ih (by omega) (by omega) hu
theorem nd_flat {l : List S54} {t : Tr} {nm : ByteArray} {up : Int} {k : Nat} (h : At l k (flat t nm up k)) : nd l k = ⟨t.kd, t.nu, t.tx, nm, up⟩ := by
  have h0 := h 0 (by rw [flat_len]; exact cnt_pos t)
  cases t
  rw [flat] at h0
  simp only [Nat.add_zero] at h0
  rw [nd, List.getD_eq_getElem?_getD, h0]
  rfl
theorem nd_ups {l : List S54} {t : Tr} {nm : ByteArray} {up : Int} {k : Nat} (h : At l k (flat t nm up k)) (j : Nat) (h1 : k < j) (h2 : j < k + cnt t) : (k : Int) ≤ (nd l j).f4 ∧ (nd l j).f4 < j := by
  obtain ⟨x, a1, a2, a3⟩ := ups t nm up k (j - k) (by omega) (by omega)
  have h0 := h (j - k) (by rw [flat_len]; omega)
  rw [a1] at h0
  have e : k + (j - k) = j := by omega
  rw [e] at h0
  rw [nd, List.getD_eq_getElem?_getD, h0]
  simp only [Option.getD_some]
  exact ⟨a2, by omega⟩
theorem wf_node {t : Tr} (h : wf t = true) : nodeG t.kd t.nu t.tx = true := by
  cases t
  rw [wf] at h
  simp only [Bool.and_eq_true] at h
  exact h.1.1.1
end Go.Proofs.YtemamcbdjfabnaaGreatDoor.VT
