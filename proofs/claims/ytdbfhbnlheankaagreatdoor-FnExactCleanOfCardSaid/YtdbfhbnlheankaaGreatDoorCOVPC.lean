import Derived.Test.YtdbfhbnlheankaaGreatDoorCOPVGx0
import Derived.Test.YtdbfhbnlheankaaGreatDoorCOPVGx2
import Derived.Test.YtdbfhbnlheankaaGreatDoorCOVPB
import Derived.Test.YtdbfhbnlheankaaGreatDoorCOVTR
import Derived.Test.YtdbfhbnlheankaaGreatDoorCOVTG
import Derived.Test.YtdbfhbnlheankaaGreatDoorCOVTH
-- Laid by this session's wip/pr.py over the kit's printer and the session's own contracts.
namespace Go.Proofs.YtdbfhbnlheankaaGreatDoor.PVG
open Go.RowKit Go.Proofs.YtdbfhbnlheankaaGreatDoorW.PrintWords Go.Proofs.YtdbfhbnlheankaaGreatDoorW.PrintLast Go.Proofs.YtdbfhbnlheankaaGreatDoorW.PrintMore
attribute [local go_sem] max2_int min2_int max_two min_two max_three min_three max_four min_four   -- for this text's walks alone
set_option linter.unusedVariables false
set_option linter.unusedSimpArgs false

/-! ### spec_l1Tree: function 33 -/
end Go.Proofs.YtdbfhbnlheankaaGreatDoor.PVG
/- The reference's comparing of two trees, walked. Conditions: right trees. -/
namespace Go.Proofs.YtdbfhbnlheankaaGreatDoor.VT
open Go.RowKit Go.Proofs.YtdbfhbnlheankaaGreatDoor.PVG Go.Proofs.YtdbfhbnlheankaaGreatDoorW.PrintWords Go.Proofs.YtdbfhbnlheankaaGreatDoorW.PrintLast Go.Proofs.YtdbfhbnlheankaaGreatDoorW.PrintMore
set_option linter.unusedVariables false
set_option linter.unusedSimpArgs false
/-- A tree's fields that are read as the reference's own record. -/
structure SAt (w : World) (t : Tr) (A3 : Option Addr) (c3 : Nat) (A4 : Option Addr) (c4 : Nat) : Prop where
  l3 : t.ns.length ≤ c3
  g3 : Kd.string.C w A3 t.ns.length t.ns
  l4 : t.ks.length ≤ c4
  g4 : k49.C w A4 t.ks.length (toSL t.ks)
theorem SAt.below {w w' : World} {t : Tr} {A3 : Option Addr} {c3 : Nat} {A4 : Option Addr} {c4 : Nat} (h : SAt w t A3 c3 A4 c4) (hb : Below w.heap.size w w') : SAt w' t A3 c3 A4 c4 := ⟨h.l3, Kd.C_below h.g3 hb, h.l4, Kd.C_below h.g4 hb⟩
theorem SAt.name {w : World} {t : Tr} {A3 : Option Addr} {c3 : Nat} {A4 : Option Addr} {c4 : Nat} (h : SAt w t A3 c3 A4 c4) (i : Nat) (hi : i < t.ns.length) : ∃ ad, A3 = some ad ∧ w.cell? (ad.add i) = some (.string (t.ns[i])) := by
  obtain ⟨ad, c, e, _, hK, hc⟩ := Kd.C_get h.g3 nil_ (i : Int) (by omega) (by omega)
  have hK : c = [.string (t.ns.getD (i : Int).toNat nil_)] := hK
  rw [List.getD_eq_getElem?_getD, Int.toNat_natCast, List.getElem?_eq_getElem hi] at hK
  subst hK
  have h0 := hc 0 _ rfl
  have e1 : (i : Int).toNat * Kd.string.sz + 0 = i := by show (i : Int).toNat * 1 + 0 = i; omega
  rw [e1] at h0
  exact ⟨ad, e, h0⟩
theorem SAt.kid {w : World} {t : Tr} {A3 : Option Addr} {c3 : Nat} {A4 : Option Addr} {c4 : Nat} (h : SAt w t A3 c3 A4 c4) (i : Nat) (hi : i < t.ks.length) : ∃ ad B3 d3 B4 d4, A4 = some ad ∧
    w.cell? (ad.add (i * 5)) = some (.int .i64 t.ks[i].kd) ∧ w.cell? ⟨(ad.add (i * 5)).block, (ad.add (i * 5)).off + 1, none⟩ = some (.int .i64 t.ks[i].nu) ∧ w.cell? ⟨(ad.add (i * 5)).block, (ad.add (i * 5)).off + 2, none⟩ = some (.string t.ks[i].tx) ∧
    w.cell? ⟨(ad.add (i * 5)).block, (ad.add (i * 5)).off + 3, none⟩ = some (.slice B3 t.ks[i].ns.length d3) ∧ w.cell? ⟨(ad.add (i * 5)).block, (ad.add (i * 5)).off + 4, none⟩ = some (.slice B4 t.ks[i].ks.length d4) ∧ SAt w t.ks[i] B3 d3 B4 d4 := by
  obtain ⟨ad, B3, d3, B4, d4, e, q0, q1, q2, q3, q4, l3, g3, l4, g4⟩ := at_T49 h.g4 (i : Int) (by omega) (by omega)
  have hr : rd_T49 (toSL t.ks) (i : Int) = toS t.ks[i] := by
    unfold rd_T49
    rw [Int.toNat_natCast, toSL_map, List.getD_eq_getElem?_getD, List.getElem?_map, List.getElem?_eq_getElem hi]
    rfl
  rw [hr, toS_eq] at q0 q1 q2 q3 q4 l3 g3 l4 g4
  simp only [Int.toNat_natCast, toSL_len] at q0 q1 q2 q3 q4 l3 g3 l4 g4
  exact ⟨ad, B3, d3, B4, d4, e, q0, q1, q2, q3, q4, l3, g3, l4, g4⟩
/-- What is known of a right tree's first node. -/
structure Wf1 (kd nu : Int) (tx : ByteArray) (ns : List ByteArray) (ks : List Tr) : Prop where
  nu0 : kd ≠ 4 → nu = 0
  tx0 : kd ≠ 5 → tx = nil_
  hlen : kd = 7 → ns.length = ks.length
  ks0 : kd ≠ 6 → kd ≠ 7 → ks = []
  hks : wfL ks = true
theorem wf1 {kd nu : Int} {tx : ByteArray} {ns : List ByteArray} {ks : List Tr} (h : wf (.mk kd nu tx ns ks) = true) : Wf1 kd nu tx ns ks := by
  rw [wf] at h
  simp only [Bool.and_eq_true, nodeG, Bool.or_eq_true, beq_iff_eq] at h
  refine ⟨fun h4 => by rcases h.1.1.1.1.1.1.2 with e | e; exact absurd e h4; exact e, fun h5 => by rcases h.1.1.1.1.2 with e | e; exact absurd e h5; exact emp_iff.1 e, fun h7 => ?_, fun h6 h7 => ?_, h.2⟩
  · have h8 := h.1.1.2
    rw [if_pos h7] at h8
    simp at h8
    exact h8.1.1
  · rcases h.1.2 with e | e
    · simp [holdsB, h6, h7] at e
    · simpa using e
theorem ci_self (a : Int) : ci a a = 0 := by unfold ci; rw [if_neg (by omega), if_neg (by omega)]
theorem cs_self (a : ByteArray) : cs a a = 0 := by
  have h := bytesLess_tri a.toList a.toList
  have h2 : Op.bytesLess a.toList a.toList = false := by
    cases e : Op.bytesLess a.toList a.toList with
    | false => rfl
    | true => rw [e] at h; simp at h
  unfold cs
  rw [h2]; rfl
end Go.Proofs.YtdbfhbnlheankaaGreatDoor.VT
