import Derived.Test.YtemamcbdjfabnaaGreatDoorTOVTE
import Derived.Lib.Strings
/- The reference's texts. Conditions: none. -/
namespace Go.Proofs.YtemamcbdjfabnaaGreatDoor.VT
open Go.RowKit Go.Proofs.YtemamcbdjfabnaaGreatDoor.PVG Go.Proofs.YtemamcbdjfabnaaGreatDoorW.PrintWords
set_option linter.unusedVariables false
set_option linter.unusedSimpArgs false
/-- A text of these bytes. -/
def ofL (l : List UInt8) : ByteArray := ⟨l.toArray⟩
theorem ofL_data (l : List UInt8) : (ofL l).data.toList = l := by simp [ofL]
theorem ofL_of (s : ByteArray) : ofL s.data.toList = s := by cases s; simp [ofL]
theorem ofL_ext {a b : ByteArray} (h : a.data.toList = b.data.toList) : a = b := by rw [← ofL_of a, ← ofL_of b, h]
theorem ofL_app (a b : List UInt8) : ofL a ++ ofL b = ofL (a ++ b) := ofL_ext (by simp [ofL])
theorem ofL_size (a : List UInt8) : (ofL a).size = a.length := by simp [ofL, ByteArray.size]
theorem bt_ofL (l : List UInt8) (i : Nat) (h : i < l.length) : bt (ofL l) i = (l[i].toNat : Int) := by
  unfold bt
  rw [dif_pos (by rw [ofL_size]; simpa using h)]
  simp [ofL]
  rfl
end Go.Proofs.YtemamcbdjfabnaaGreatDoor.VT
/- The reference's text of a value. Conditions: none. -/
namespace Go.Proofs.YtemamcbdjfabnaaGreatDoor.VT
open Go.RowKit Go.Proofs.YtemamcbdjfabnaaGreatDoor.PVG Go.Proofs.YtemamcbdjfabnaaGreatDoorW.PrintWords
set_option linter.unusedVariables false
set_option linter.unusedSimpArgs false
theorem partsL_append : ∀ (a b : List Tr) (m first : Bool) (ns : List ByteArray), partsL (a ++ b) m first ns = partsL a m first ns ++ partsL b m (first && a.isEmpty) (ns.drop a.length)
  | [], b, m, first, ns => by simp [partsL]
  | t :: ts, b, m, first, ns => by
    have : ns.tail.drop ts.length = ns.drop (ts.length + 1) := by rw [← List.drop_one, List.drop_drop]; congr 1; omega
    simp only [List.cons_append, partsL, partsL_append ts b, this, List.append_assoc, List.length_cons, List.isEmpty_cons, Bool.and_false]
    simp
theorem Ev.from {α : Type} {g : Nat → Option α} {r : α} (K : Nat) (h : ∀ f, K ≤ f → g f = some r) : Ev g r := ⟨K, h⟩
end Go.Proofs.YtemamcbdjfabnaaGreatDoor.VT
