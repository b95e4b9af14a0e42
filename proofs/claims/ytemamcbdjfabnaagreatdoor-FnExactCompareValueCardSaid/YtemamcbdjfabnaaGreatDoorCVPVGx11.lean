import Derived.WalkLawsBesides
import Derived.Test.YtemamcbdjfabnaaGreatDoorCVPVGx0
-- Laid by this session's wip/pr.py over the kit's printer and the session's own contracts.
namespace Go.Proofs.YtemamcbdjfabnaaGreatDoor.PVG
open Go.RowKit Go.Proofs.YtemamcbdjfabnaaGreatDoorW.PrintWords Go.Proofs.YtemamcbdjfabnaaGreatDoorW.PrintLast Go.Proofs.YtemamcbdjfabnaaGreatDoorW.PrintMore
attribute [local go_sem] max2_int min2_int max_two min_two max_three min_three max_four min_four   -- for this text's walks alone
set_option linter.unusedVariables false
set_option linter.unusedSimpArgs false

/-! ### spec_l2Texts: function 84, a contract by hand -/
theorem bytesLess_tri : ∀ a b : List UInt8, (Op.bytesLess a b || a == b) = !(Op.bytesLess b a)
 | [], [] => rfl
 | [], _ :: _ => rfl
 | _ :: _, [] => rfl
 | x :: a, y :: b => by
  have ih := bytesLess_tri a b
  have h3 : (x :: a == y :: b) = (x == y && a == b) := rfl
  rw [h3]
  simp only [Op.bytesLess]
  rcases Nat.lt_trichotomy x.toNat y.toNat with h | h | h
  ·have e1 : x < y := h
   have e2 : ¬ y < x := by intro h'; exact absurd (show y.toNat < x.toNat from h') (by omega)
   have e3 : (y == x) = false := by rw [beq_eq_false_iff_ne]; rintro rfl; omega
   simp [e1, e2, e3]
  ·have e1 : x = y := UInt8.toNat_inj.1 h
   subst e1
   have e2 : ¬ x < x := by intro h'; exact absurd (show x.toNat < x.toNat from h') (by omega)
   simpa [e2] using ih
  ·have e1 : y < x := h
   have e2 : ¬ x < y := by intro h'; exact absurd (show x.toNat < y.toNat from h') (by omega)
   have e3 : (x == y) = false := by rw [beq_eq_false_iff_ne]; rintro rfl; omega
   simp [e1, e2, e3]
def spec_l2Texts.f (a0 : ByteArray) (a1 : ByteArray) : Option (Int) := some (if (Op.bytesLess a0.toList a1.toList) = true then -1 else if (Op.bytesLess a1.toList a0.toList) = true then 1 else 0)
set_option maxHeartbeats 8000000 in
set_option maxRecDepth 100000 in
theorem spec_l2Texts.calls (a0 : ByteArray) (a1 : ByteArray) (r : Int) (w : World) (h : spec_l2Texts.f a0 a1 = some r) :
  Calls Tryz.prog 84 #[.string a0, .string a1] w fun e w' => e = .returned (.int .i64 r) ∧ Drawn0 w w' := by
 obtain rfl := Option.some.inj h
 clear h
 have ht := bytesLess_tri a0.toList a1.toList
 cases h1 : Op.bytesLess a0.toList a1.toList with
 | true =>
  clear ht
  go_enter Tryz.func84, Tryz.ntmps84
  go_wp2
  go_ret
  exact ⟨by simp [h1], Drawn0.refl _⟩
 | false =>
  rw [h1, Bool.false_or] at ht
  cases h2 : Op.bytesLess a1.toList a0.toList with
  | true =>
   rw [h2] at ht
   have h3 : (a0.toList == a1.toList) = false := ht
   clear ht
   go_enter Tryz.func84, Tryz.ntmps84
   go_wp2
   go_ret
   exact ⟨by simp [h1, h2], Drawn0.refl _⟩
  | false =>
   rw [h2] at ht
   have h3 : (a0.toList == a1.toList) = true := ht
   clear ht
   go_enter Tryz.func84, Tryz.ntmps84
   go_wp2
   go_ret
   exact ⟨by simp [h1, h2], Drawn0.refl _⟩

end Go.Proofs.YtemamcbdjfabnaaGreatDoor.PVG
