import Derived.Test.YtdbfhbnlheankaaGreatDoorIOVIA
import Derived.Test.YtdbfhbnlheankaaGreatDoorIOVK
/- The id of a document: at, place, get, id, IdOf, walked. Conditions: right trees; the powers of ten stand in memory. -/
namespace Go.Proofs.YtdbfhbnlheankaaGreatDoor.VT
open Go.RowKit Go.Proofs.YtdbfhbnlheankaaGreatDoor.PVG Go.Proofs.YtdbfhbnlheankaaGreatDoorW.PrintWords Go.Proofs.YtdbfhbnlheankaaGreatDoorW.PrintLast Go.Proofs.YtdbfhbnlheankaaGreatDoorW.PrintMore
set_option linter.unusedVariables false
set_option linter.unusedSimpArgs false
set_option maxRecDepth 100000 in
set_option maxHeartbeats 4000000 in
theorem at_c (t : Tr) (s : ByteArray) (w : World) (g : Nat) (hv : IsV w g t) (hn : t.ns.length ≤ 1073741824) :
    Calls Tryz.prog 126 #[.pointer (some ⟨g, 0, none⟩), .string s] w fun e w' => e = .returned (.tuple #[.int .i64 ((bsI t.ns s : Nat) : Int), .bool (bsB t.ns s)]) ∧ Below w.heap.size w w' := by
  obtain ⟨A3, c3, A4, c4, ha⟩ := hv.at_
  obtain ⟨_, _, _, k3, _⟩ := ha.cells
  have BS := Aside0.mk (bs_c t.ns s A3 c3 w ha.g3 hn)
  clear ha hv hn
  go_enter Tryz.func126, Tryz.ntmps126
  go_wp2_with (first | (go_at_call 147; (with_reducible refine BS.out.mono ?_); rintro e w2 ⟨rfl, hb⟩; have B2 := Aside0.mk hb; clear hb))
  go_ret2
  exact ⟨rfl, B2.out⟩
/-- The place of a name in a map. -/
def plM (ns : List ByteArray) (s : ByteArray) : Int := if bsB ns s = true then (bsI ns s : Nat) else -1
set_option maxRecDepth 100000 in
set_option maxHeartbeats 4000000 in
theorem place_map (t : Tr) (s : ByteArray) (w : World) (g : Nat) (hv : IsV w g t) (h7 : t.kd = 7) (hn : t.ns.length ≤ 1073741824) :
    Calls Tryz.prog 104 #[.pointer (some ⟨g, 0, none⟩), .string s] w fun e w' => e = .returned (.int .i64 (plM t.ns s)) ∧ Below w.heap.size w w' := by
  have AT := Aside0.mk (at_c t s w g hv hn)
  obtain ⟨A3, c3, A4, c4, ha⟩ := hv.at_
  obtain ⟨k0, _⟩ := ha.cells
  rw [h7] at k0
  clear ha hv hn h7
  cases hb : bsB t.ns s with
  | true =>
    have HB := Aside0.mk hb
    have HP := Aside0.mk (show plM t.ns s = (bsI t.ns s : Nat) by unfold plM; rw [if_pos hb])
    clear hb
    go_enter Tryz.func104, Tryz.ntmps104
    go_wp2_with (first | (go_at_call 126; (with_reducible refine AT.out.mono ?_); rintro e w2 ⟨rfl, hb⟩; rw [HB.out]; have B2 := Aside0.mk hb; clear hb))
    go_ret
    exact ⟨by rw [HP.out]; rfl, B2.out⟩
  | false =>
    have HB := Aside0.mk hb
    have HP := Aside0.mk (show plM t.ns s = -1 by unfold plM; rw [hb]; rfl)
    clear hb
    go_enter Tryz.func104, Tryz.ntmps104
    go_wp2_with (first | (go_at_call 126; (with_reducible refine AT.out.mono ?_); rintro e w2 ⟨rfl, hb⟩; rw [HB.out]; have B2 := Aside0.mk hb; clear hb))
    go_ret
    exact ⟨by rw [HP.out]; rfl, B2.out⟩
set_option maxRecDepth 100000 in
set_option maxHeartbeats 4000000 in
theorem scalar_c (t : Tr) (w : World) (g : Nat) (hv : IsV w g t) : Calls Tryz.prog 80 #[.pointer (some ⟨g, 0, none⟩)] w fun e w' => e = .returned (.bool (t.kd == 4 || t.kd == 5)) ∧ Below w.heap.size w w' := by
  obtain ⟨A3, c3, A4, c4, ha⟩ := hv.at_
  obtain ⟨k0, _⟩ := ha.cells
  clear ha hv
  by_cases h4 : t.kd = 4
  · rw [h4] at k0 ⊢
    go_enter Tryz.func80, Tryz.ntmps80
    go_wp2
    go_ret
    exact ⟨rfl, Below.refl _ _⟩
  · have h4b : (t.kd == 4) = false := by simpa using h4
    rw [h4b, Bool.false_or]
    go_enter Tryz.func80, Tryz.ntmps80
    go_wp2
    go_ret
    exact ⟨rfl, Below.refl _ _⟩
end Go.Proofs.YtdbfhbnlheankaaGreatDoor.VT
/- get for one name, id: walked. Conditions: right trees. -/
namespace Go.Proofs.YtdbfhbnlheankaaGreatDoor.VT
open Go.RowKit Go.Proofs.YtdbfhbnlheankaaGreatDoor.PVG Go.Proofs.YtdbfhbnlheankaaGreatDoorW.PrintWords Go.Proofs.YtdbfhbnlheankaaGreatDoorW.PrintLast Go.Proofs.YtdbfhbnlheankaaGreatDoorW.PrintMore
set_option linter.unusedVariables false
set_option linter.unusedSimpArgs false
set_option maxRecDepth 100000 in
set_option maxHeartbeats 4000000 in
theorem get1_no (t : Tr) (s : ByteArray) (w : World) (g : Nat) (ad : Addr) (hv : IsV w g t) (h7 : t.kd = 7) (hn : t.ns.length ≤ 1073741824) (hs : w.cell? ad = some (.string s)) (hb : bsB t.ns s = false) :
    Calls Tryz.prog 79 #[.pointer (some ⟨g, 0, none⟩), .slice (some ad) 1 1] w fun e w' => e = .returned (.pointer none) ∧ Below w.heap.size w w' := by
  have PM := Aside0.mk (place_map t s w g hv h7 hn)
  have PL := Aside0.mk (show plM t.ns s = -1 by unfold plM; rw [hb]; rfl)
  clear hv hn h7 hb
  go_enter Tryz.func79, Tryz.ntmps79
  go_wp2
  go_loopg [0, 10] 1 (fun k v0 v10 W => Aside0 (k = 1) ∧ v0 = .pointer (some ⟨g, 0, none⟩) ∧ v10 = .int .i64 0 ∧ W = w)
  case atStart => exact ⟨⟨rfl⟩, rfl, rfl, rfl⟩
  case round =>
    obtain ⟨HK, rfl, rfl, rfl⟩ := hrel
    go_wp2_with (first | (go_at_call 104; (with_reducible refine PM.out.mono ?_); rintro e w2 ⟨rfl, hb⟩; rw [PL.out]; have B2 := Aside0.mk hb; clear hb))
    go_ret
    exact ⟨rfl, B2.out⟩
set_option maxRecDepth 100000 in
set_option maxHeartbeats 4000000 in
theorem get1_yes (t u : Tr) (s : ByteArray) (w : World) (g : Nat) (ad : Addr) (hv : IsV w g t) (h7 : t.kd = 7) (hn : t.ns.length ≤ 1073741824) (hs : w.cell? ad = some (.string s)) (hb : bsB t.ns s = true) (hu : t.ks[bsI t.ns s]? = some u) :
    Calls Tryz.prog 79 #[.pointer (some ⟨g, 0, none⟩), .slice (some ad) 1 1] w fun e w' => ∃ p, e = .returned (.pointer (some ⟨p, 0, none⟩)) ∧ IsV w' p u ∧ Below w.heap.size w w' := by
  have PM := Aside0.mk (place_map t s w g hv h7 hn)
  have PL := Aside0.mk (show plM t.ns s = (bsI t.ns s : Nat) by unfold plM; rw [if_pos hb])
  obtain ⟨i, hi⟩ : ∃ i, i = bsI t.ns s := ⟨_, rfl⟩
  rw [← hi] at hu PL
  obtain ⟨hik, huk⟩ := List.getElem?_eq_some_iff.1 hu
  obtain ⟨A3, c3, A4, c4, ha⟩ := hv.at_
  obtain ⟨a4, p, rfl, kc, kv⟩ := ha.kid i hik
  rw [huk] at kv
  have LT := Aside0.mk ha.lt
  obtain ⟨_, _, _, _, k4⟩ := ha.cells
  have K4 := Aside0.mk k4
  have KC := Aside0.mk kc
  have KV := Aside0.mk kv
  have hil : (i : Int) < (t.ks.length : Int) := by omega
  have CP := Aside0.mk (World.block_lt_of_cell? w _ kc)
  clear hv hn h7 hb ha kc kv k4 hu huk hi
  go_enter Tryz.func79, Tryz.ntmps79
  go_wp2
  go_loopg [0, 10] 1 (fun k v0 v10 W => Aside0 (k = 1 ∨ k = 0) ∧ ((k = 1 ∧ v0 = .pointer (some ⟨g, 0, none⟩) ∧ v10 = .int .i64 0 ∧ W = w) ∨ (k = 0 ∧ v0 = .pointer (some ⟨p, 0, none⟩) ∧ v10 = .int .i64 1 ∧ Below w.heap.size w W)))
  case atStart => exact ⟨⟨.inl rfl⟩, .inl ⟨rfl, rfl, rfl, rfl⟩⟩
  case round =>
    obtain ⟨HK, ⟨rfl, rfl, rfl, rfl⟩ | ⟨rfl, rfl, rfl, hB⟩⟩ := hrel
    · clear HK
      go_wp2_with (first | (go_at_call 104; (with_reducible refine PM.out.mono ?_); rintro e w2 ⟨rfl, hb⟩; rw [PL.out]; have B2 := Aside0.mk hb; have k4 := (hb.cell LT.out).trans K4.out; have kc := (hb.cell CP.out).trans KC.out; clear hb))
      go_roundg 0
      case rel => exact ⟨⟨.inr rfl⟩, .inr ⟨rfl, rfl, rfl, B2.out⟩⟩
      case measure => omega
    · have HB := Aside0.mk hB
      clear hB HK
      go_wp2
      go_ret
      exact ⟨p, rfl, KV.out.below HB.out, HB.out⟩
end Go.Proofs.YtdbfhbnlheankaaGreatDoor.VT
/- id: walked. Conditions: right trees. -/
namespace Go.Proofs.YtdbfhbnlheankaaGreatDoor.VT
open Go.RowKit Go.Proofs.YtdbfhbnlheankaaGreatDoor.PVG Go.Proofs.YtdbfhbnlheankaaGreatDoorW.PrintWords Go.Proofs.YtdbfhbnlheankaaGreatDoorW.PrintLast Go.Proofs.YtdbfhbnlheankaaGreatDoorW.PrintMore
set_option linter.unusedVariables false
set_option linter.unusedSimpArgs false
def idN : ByteArray := ⟨#[95, 105, 100]⟩
/-- The part that is a document's id. -/
def idT (t : Tr) : Option Tr := if t.kd = 7 then (if bsB t.ns idN = true then (match t.ks[bsI t.ns idN]? with
  | some u => if (u.kd == 4 || u.kd == 5) = true then some u else none
  | none => none) else none) else none
theorem id_nil (w : World) : Calls Tryz.prog 51 #[.pointer none] w fun e w' => e = .returned (.pointer none) ∧ Below w.heap.size w w' := by
  go_enter Tryz.func51, Tryz.ntmps51
  go_wp2
  go_ret
  exact ⟨rfl, Below.refl _ _⟩
def IdPost (t : Tr) (w : World) (e : Ending) (w' : World) : Prop :=
  Below w.heap.size w w' ∧ ((idT t = none ∧ e = .returned (.pointer none)) ∨ ∃ u p, idT t = some u ∧ e = .returned (.pointer (some ⟨p, 0, none⟩)) ∧ IsV w' p u)
set_option maxRecDepth 100000 in
set_option maxHeartbeats 4000000 in
theorem id_c (t : Tr) (w : World) (g : Nat) (hv : IsV w g t) (hs : t.kd = 7 → t.ns.length = t.ks.length) (hn : t.kd = 7 → t.ns.length ≤ 1073741824) :
    Calls Tryz.prog 51 #[.pointer (some ⟨g, 0, none⟩)] w (IdPost t w) := by
  obtain ⟨A3, c3, A4, c4, ha⟩ := hv.at_
  obtain ⟨k0, _⟩ := ha.cells
  by_cases h7 : t.kd = 7
  · have hs := hs h7
    have hn := hn h7
    obtain ⟨W1, hW1⟩ : ∃ W1, W1 = w.alloc (.cells #[.string idN] 9) := ⟨_, rfl⟩
    obtain ⟨gr, hgr⟩ : ∃ g, g = w.heap.size := ⟨_, rfl⟩
    have HB1 := Aside0.mk (show Below w.heap.size w W1 by rw [hW1]; exact below_alloc (Below.refl _ _) _)
    have C1 := Aside0.mk (show W1.cell? ⟨gr, 0, none⟩ = some (.string idN) by rw [hW1, hgr]; exact (blk_cell (blk_new w (.cells #[.string idN] 9)) 0).trans rfl)
    have V1 := Aside0.mk (hv.below HB1.out)
    have H7 := Aside0.mk h7
    have HN := Aside0.mk hn
    rw [h7] at k0
    rw [hgr] at C1
    rw [hW1] at HB1 C1 V1
    clear hgr hW1
    cases hb : bsB t.ns idN with
    | false =>
      have HB := Aside0.mk hb
      have HI := Aside0.mk (show idT t = none by unfold idT; rw [if_pos h7, hb]; rfl)
      clear ha hv hn hb h7 hs
      go_enter Tryz.func51, Tryz.ntmps51
      go_wp2_with (first | (go_at_call 79; (refine (get1_no t idN _ g _ ?hv H7.out HN.out ?hs HB.out).mono ?_); (case hv => exact V1.out); (case hs => exact C1.out); rintro e w2 ⟨rfl, hb⟩; have B2 := Aside0.mk hb; clear hb))
      go_ret
      exact ⟨below_step HB1.out B2.out, .inl ⟨HI.out, rfl⟩⟩
    | true =>
      have hik : bsI t.ns idN < t.ks.length := by
        rw [← hs]
        unfold bsB at hb
        simp only [Bool.and_eq_true, decide_eq_true_eq] at hb
        exact hb.1
      obtain ⟨u, hu⟩ : ∃ u, u = t.ks[bsI t.ns idN] := ⟨_, rfl⟩
      have hku : t.ks[bsI t.ns idN]? = some u := by rw [List.getElem?_eq_getElem hik, hu]
      have HB := Aside0.mk hb
      have HU := Aside0.mk hku
      have HI := Aside0.mk (show idT t = if (u.kd == 4 || u.kd == 5) = true then some u else none by unfold idT; rw [if_pos h7, if_pos hb, hku])
      clear ha hv hn hb h7 hs hik hu hku
      cases hsc : (u.kd == 4 || u.kd == 5) with
      | false =>
        have HS := Aside0.mk hsc
        clear hsc
        go_enter Tryz.func51, Tryz.ntmps51
        go_wp2_with (first | (go_at_call 79; (refine (get1_yes t u idN _ g _ ?hv H7.out HN.out ?hs HB.out HU.out).mono ?_); (case hv => exact V1.out); (case hs => exact C1.out); rintro e w2 ⟨p, rfl, hp, hb⟩; have B2 := Aside0.mk hb; have VP := Aside0.mk hp; clear hb hp) | (go_at_call 80; (refine (scalar_c u _ _ VP.out).mono ?_); rintro e w3 ⟨rfl, hb⟩; rw [HS.out]; have B3 := Aside0.mk hb; clear hb))
        go_ret
        exact ⟨below_step HB1.out (below_step B2.out B3.out), .inl ⟨by rw [HI.out, HS.out]; rfl, rfl⟩⟩
      | true =>
        have HS := Aside0.mk hsc
        clear hsc
        go_enter Tryz.func51, Tryz.ntmps51
        go_wp2_with (first | (go_at_call 79; (refine (get1_yes t u idN _ g _ ?hv H7.out HN.out ?hs HB.out HU.out).mono ?_); (case hv => exact V1.out); (case hs => exact C1.out); rintro e w2 ⟨p, rfl, hp, hb⟩; have B2 := Aside0.mk hb; have VP := Aside0.mk hp; clear hb hp) | (go_at_call 80; (refine (scalar_c u _ _ VP.out).mono ?_); rintro e w3 ⟨rfl, hb⟩; rw [HS.out]; have B3 := Aside0.mk hb; have VP3 := Aside0.mk (VP.out.below hb); clear hb))
        go_ret
        exact ⟨below_step HB1.out (below_step B2.out B3.out), .inr ⟨u, _, by rw [HI.out, if_pos HS.out], rfl, VP3.out⟩⟩
  · have HI := Aside0.mk (show idT t = none by unfold idT; rw [if_neg h7])
    clear ha hv hn hs
    go_enter Tryz.func51, Tryz.ntmps51
    go_wp2
    go_ret
    exact ⟨Below.refl _ _, .inl ⟨HI.out, rfl⟩⟩
end Go.Proofs.YtdbfhbnlheankaaGreatDoor.VT
