import Derived.Test.YtemamcbdjfabnaaGreatDoorSOVTI
import Derived.Test.YtemamcbdjfabnaaGreatDoorSOPVGx12
/- The reference's comparing of two trees, walked. Conditions: right trees. -/
namespace Go.Proofs.YtemamcbdjfabnaaGreatDoor.VT
open Go.RowKit Go.Proofs.YtemamcbdjfabnaaGreatDoor.PVG Go.Proofs.YtemamcbdjfabnaaGreatDoorW.PrintWords Go.Proofs.YtemamcbdjfabnaaGreatDoorW.PrintLast Go.Proofs.YtemamcbdjfabnaaGreatDoorW.PrintMore
set_option linter.unusedVariables false
set_option linter.unusedSimpArgs false
/-- A tree's fields that are read as the reference's own record. -/
structure SAt (w : World) (t : Tr) (A3 : Option Addr) (c3 : Nat) (A4 : Option Addr) (c4 : Nat) : Prop where
  l3 : t.ns.length ≤ c3
  g3 : Kd.string.C w A3 t.ns.length t.ns
  l4 : t.ks.length ≤ c4
  g4 : k71.C w A4 t.ks.length (toSL t.ks)
theorem SAt.below {w w' : World} {t : Tr} {A3 : Option Addr} {c3 : Nat} {A4 : Option Addr} {c4 : Nat} (h : SAt w t A3 c3 A4 c4) (hb : Below w.heap.size w w') : SAt w' t A3 c3 A4 c4 := ⟨h.l3, Kd.C_below h.g3 hb, h.l4, Kd.C_below h.g4 hb⟩
theorem SAt.name {w : World} {t : Tr} {A3 : Option Addr} {c3 : Nat} {A4 : Option Addr} {c4 : Nat} (h : SAt w t A3 c3 A4 c4) (i : Nat) (hi : i < t.ns.length) : ∃ ad, A3 = some ad ∧ w.cell? (ad.add i) = some (.string (t.ns[i])) := by
  obtain ⟨ad, c, e, _, hK, hc⟩ := Kd.C_get h.g3 nil_ (i : Int) (by omega) (by omega)
  have hK : c = [.string (t.ns.getD (i : Int).toNat nil_)] := hK
  rw [List.getD_eq_getElem?_getD, Int.toNat_natCast, List.getElem?_eq_getElem hi] at hK
  subst hK
  have h0 := hc 0 _ rfl
  have e1 : (i : Int).toNat * Kd.string.sz + 0 = i := by show (i : Int).toNat * 1 + 0 = i; omega
  rw [e1] at h0
  exact ⟨ad, e, h0⟩
theorem SAt.kid {w : World} {t : Tr} {A3 : Option Addr} {c3 : Nat} {A4 : Option Addr} {c4 : Nat} (h : SAt w t A3 c3 A4 c4) (i : Nat) (hi : i < t.ks.length) : ∃ ad B3 d3 B4 d4, A4 = some ad ∧
    w.cell? (ad.add (i * 5)) = some (.int .i64 t.ks[i].kd) ∧ w.cell? ⟨(ad.add (i * 5)).block, (ad.add (i * 5)).off + 1, none⟩ = some (.int .i64 t.ks[i].nu) ∧ w.cell? ⟨(ad.add (i * 5)).block, (ad.add (i * 5)).off + 2, none⟩ = some (.string t.ks[i].tx) ∧
    w.cell? ⟨(ad.add (i * 5)).block, (ad.add (i * 5)).off + 3, none⟩ = some (.slice B3 t.ks[i].ns.length d3) ∧ w.cell? ⟨(ad.add (i * 5)).block, (ad.add (i * 5)).off + 4, none⟩ = some (.slice B4 t.ks[i].ks.length d4) ∧ SAt w t.ks[i] B3 d3 B4 d4 := by
  obtain ⟨ad, B3, d3, B4, d4, e, q0, q1, q2, q3, q4, l3, g3, l4, g4⟩ := at_T71 h.g4 (i : Int) (by omega) (by omega)
  have hr : rd_T71 (toSL t.ks) (i : Int) = toS t.ks[i] := by
    unfold rd_T71
    rw [Int.toNat_natCast, toSL_map, List.getD_eq_getElem?_getD, List.getElem?_map, List.getElem?_eq_getElem hi]
    rfl
  rw [hr, toS_eq] at q0 q1 q2 q3 q4 l3 g3 l4 g4
  simp only [Int.toNat_natCast, toSL_len] at q0 q1 q2 q3 q4 l3 g3 l4 g4
  exact ⟨ad, B3, d3, B4, d4, e, q0, q1, q2, q3, q4, l3, g3, l4, g4⟩
/-- What is known of a right tree's first node. -/
structure Wf1 (kd nu : Int) (tx : ByteArray) (ns : List ByteArray) (ks : List Tr) : Prop where
  nu0 : kd ≠ 4 → nu = 0
  tx0 : kd ≠ 5 → tx = nil_
  hlen : kd = 7 → ns.length = ks.length
  ks0 : kd ≠ 6 → kd ≠ 7 → ks = []
  hks : wfL ks = true
end Go.Proofs.YtemamcbdjfabnaaGreatDoor.VT
