import Derived.Test.YtdbfhbnlheankaaGreatDoorIOVTG
import Derived.Test.YtdbfhbnlheankaaGreatDoorIOVTH
import Derived.Test.YtdbfhbnlheankaaGreatDoorIOPVGx0
import Derived.Test.YtdbfhbnlheankaaGreatDoorIOPVGx2
import Derived.Test.YtdbfhbnlheankaaGreatDoorIOPVGx7
import Derived.Test.YtdbfhbnlheankaaGreatDoorIOVPB
/- The reference's tree of a right list of nodes, its depth. Conditions: none. -/
namespace Go.Proofs.YtdbfhbnlheankaaGreatDoor.VT
open Go.RowKit Go.Proofs.YtdbfhbnlheankaaGreatDoor.PVG Go.Proofs.YtdbfhbnlheankaaGreatDoorW.PrintWords
set_option linter.unusedVariables false
set_option linter.unusedSimpArgs false
mutual
/-- A tree as the reference's own record. -/
def toS : Tr → S49
  | .mk kd nu tx ns ks => ⟨kd, nu, tx, ns, toSL ks⟩
def toSL : List Tr → List S49
  | [] => []
  | t :: ts => toS t :: toSL ts
end
theorem toSL_map : ∀ ts : List Tr, toSL ts = ts.map toS
  | [] => rfl
  | t :: ts => by rw [toSL, toSL_map ts]; rfl
theorem toSL_len (ts : List Tr) : (toSL ts).length = ts.length := by rw [toSL_map, List.length_map]
theorem toS_eq (t : Tr) : toS t = ⟨t.kd, t.nu, t.tx, t.ns, toSL t.ks⟩ := by cases t; rw [toS]; rfl
theorem tree_ev : ∀ (t : Tr) {l : List S82} {k : Nat} {nm : ByteArray} {up : Int}, Pl l k t nm up → Ev (fun f => spec_l1Tree.f f l k) (t.kd, t.nu, t.tx, t.ns, toSL t.ks) := by
  intro t
  refine Tr.ind (P := fun t => ∀ {l : List S82} {k : Nat} {nm : ByteArray} {up : Int}, Pl l k t nm up → Ev (fun f => spec_l1Tree.f f l k) (t.kd, t.nu, t.tx, t.ns, toSL t.ks)) ?_ t
  intro kd nu tx ns ks ih l k nm up h
  have hlt := h.lt
  have hp := cnt_pos (.mk kd nu tx ns ks)
  have hlen := h.len
  have hwf := h.wf_
  rw [wf] at hwf
  simp only [Bool.and_eq_true] at hwf
  have hnode := h.node
  simp only [Tr.kd, Tr.nu, Tr.tx] at hnode
  have hk1 : (k : Int) < (l.length : Int) := by omega
  have hc80 : cntL ks ≤ 80 := by simp only [cnt] at hlt; omega
  have hks : ks.length ≤ 80 := by have := cnt_ge_len ks; omega
  have hL : ((starts ks (k + 1)).map fun (j : Nat) => (j : Int)).length = ks.length := by rw [List.length_map, starts_len]
  have h7n : kd = 7 → ns.length = ks.length := by
    intro h7
    have := hwf.1.1.2
    rw [if_pos (by simpa using h7)] at this
    simp at this
    exact this.1.1
  have h7e : kd ≠ 7 → ns = [] := by
    intro h7
    have := hwf.1.1.2
    rw [if_neg (by simpa using h7)] at this
    simpa using this
  have loop : ∀ (b a : List Tr), ks = a ++ b → Ev (fun f => spec_l1Tree.l0 f ((starts ks (k + 1)).map fun (j : Nat) => (j : Int)) (ks.length : Int) (a.length : Int) l kd nu tx nm up kd nu tx (if kd = 7 then ns.take a.length else []) (toSL a)) (kd, nu, tx, ns, toSL ks) := by
    intro b
    induction b with
    | nil =>
      intro a he
      rw [List.append_nil] at he
      subst he
      refine Ev.step (f := fun _ => some (kd, nu, tx, ns, toSL ks)) (fun f => ?_) (Ev.now _)
      show spec_l1Tree.l0 (f + 1) _ _ _ _ _ _ _ _ _ _ _ _ _ _ = _
      rw [spec_l1Tree.l0, if_neg (by omega)]
      by_cases h7 : kd = 7
      · rw [if_pos h7, List.take_of_length_le (by rw [h7n h7]; omega)]
      · rw [if_neg h7, h7e h7]
    | cons t b ihb =>
      intro a he
      have hal : a.length < ks.length := by rw [he]; simp
      have hpart : Pl l (k + 1 + cntL a) t (if kd = 7 then (ns.drop a.length).headD nil_ else nil_) k := by
        have := h
        rw [he] at this
        exact this.part
      have hrd := rd_starts a t b (k + 1)
      rw [← he] at hrd
      have iht := ih t (by rw [he]; simp) hpart
      have hnx := ihb (a ++ [t]) (by rw [he]; simp)
      have hw : wrap64 ((a.length : Int) + 1) = ((a ++ [t]).length : Int) := by simp; unfold wrap64; omega
      have hlt2 := hpart.lt
      have hkp := hpart.node
      have hct := cnt_pos t
      have hsl : (toSL a).length = a.length := toSL_len a
      have hsa : toSL (a ++ [t]) = toSL a ++ [toS t] := by rw [toSL_map, toSL_map, List.map_append]; rfl
      rw [hsa] at hnx
      refine Ev.step (f := fun f => (spec_l1Tree.f f l ((k + 1 + cntL a : Nat) : Int)).bind fun bt => (some (toSL a ++ [(⟨bt.1, bt.2.1, bt.2.2.1, bt.2.2.2.1, bt.2.2.2.2⟩ : S49)])).bind fun y185 => spec_l1Tree.l0 f ((starts ks (k + 1)).map fun (j : Nat) => (j : Int)) (ks.length : Int) ((a ++ [t]).length : Int) l kd nu tx nm up kd nu tx (if kd = 7 then ns.take (a ++ [t]).length else []) y185) (fun f => ?_) (Ev.bind iht ?_)
      · show spec_l1Tree.l0 (f + 1) _ _ _ _ _ _ _ _ _ _ _ _ _ _ = _
        rw [spec_l1Tree.l0, if_pos (by omega), if_pos (by omega), hL, if_pos (by omega), hrd, hsl]
        refine congrArg (Option.bind _) (funext fun bt => ?_)
        rw [if_pos (by omega)]
        refine congrArg (Option.bind _) (funext fun y => ?_)
        by_cases h7 : kd = 7
        · rw [if_pos h7, if_pos (by omega), if_pos (by omega), if_pos h7, List.length_take, if_pos (by omega), hw, hkp, if_pos h7, if_pos h7]
          have h1 := h7n h7
          have h2 : ns.take (a ++ [t]).length = ns.take a.length ++ [(ns.drop a.length).headD nil_] := by
            rw [List.length_append, List.length_singleton, List.take_add_one, List.getElem?_eq_getElem (by omega)]
            congr 1
            rw [List.drop_eq_getElem_cons (by omega)]
            rfl
          rw [h2]
        · rw [if_neg h7, if_neg h7, if_neg h7, hw]
      · show Ev (fun f => spec_l1Tree.l0 f _ _ _ _ _ _ _ _ _ _ _ _ _ (toSL a ++ [(⟨t.kd, t.nu, t.tx, t.ns, toSL t.ks⟩ : S49)])) _
        rw [← toS_eq]
        exact hnx
  refine Ev.step (f := fun f => (spec_l1Kids.f f l k).bind fun t172 => spec_l1Tree.l0 f t172 (t172.length : Int) 0 l kd nu tx nm up kd nu tx [] []) (fun f => ?_) ?_
  · show spec_l1Tree.f (f + 1) l k = _
    rw [spec_l1Tree.f, if_pos (by omega), if_pos hk1, hnode]
  · refine Ev.bind (a := (starts ks (k + 1)).map fun (j : Nat) => (j : Int)) (Ev.from 100 fun f hf => h.kids f hf) ?_
    simp only [hL]
    have := loop ks [] rfl
    simpa [toSL, Tr.kd, Tr.nu, Tr.tx, Tr.ns, Tr.ks] using this
end Go.Proofs.YtdbfhbnlheankaaGreatDoor.VT
/- The reference's comparing of two trees, walked. Conditions: right trees. -/
namespace Go.Proofs.YtdbfhbnlheankaaGreatDoor.VT
open Go.RowKit Go.Proofs.YtdbfhbnlheankaaGreatDoor.PVG Go.Proofs.YtdbfhbnlheankaaGreatDoorW.PrintWords Go.Proofs.YtdbfhbnlheankaaGreatDoorW.PrintLast Go.Proofs.YtdbfhbnlheankaaGreatDoorW.PrintMore
set_option linter.unusedVariables false
set_option linter.unusedSimpArgs false
/-- A tree's fields that are read as the reference's own record. -/
structure SAt (w : World) (t : Tr) (A3 : Option Addr) (c3 : Nat) (A4 : Option Addr) (c4 : Nat) : Prop where
  l3 : t.ns.length ≤ c3
  g3 : Kd.string.C w A3 t.ns.length t.ns
  l4 : t.ks.length ≤ c4
  g4 : k49.C w A4 t.ks.length (toSL t.ks)
theorem SAt.below {w w' : World} {t : Tr} {A3 : Option Addr} {c3 : Nat} {A4 : Option Addr} {c4 : Nat} (h : SAt w t A3 c3 A4 c4) (hb : Below w.heap.size w w') : SAt w' t A3 c3 A4 c4 := ⟨h.l3, Kd.C_below h.g3 hb, h.l4, Kd.C_below h.g4 hb⟩
theorem SAt.name {w : World} {t : Tr} {A3 : Option Addr} {c3 : Nat} {A4 : Option Addr} {c4 : Nat} (h : SAt w t A3 c3 A4 c4) (i : Nat) (hi : i < t.ns.length) : ∃ ad, A3 = some ad ∧ w.cell? (ad.add i) = some (.string (t.ns[i])) := by
  obtain ⟨ad, c, e, _, hK, hc⟩ := Kd.C_get h.g3 nil_ (i : Int) (by omega) (by omega)
  have hK : c = [.string (t.ns.getD (i : Int).toNat nil_)] := hK
  rw [List.getD_eq_getElem?_getD, Int.toNat_natCast, List.getElem?_eq_getElem hi] at hK
  subst hK
  have h0 := hc 0 _ rfl
  have e1 : (i : Int).toNat * Kd.string.sz + 0 = i := by show (i : Int).toNat * 1 + 0 = i; omega
  rw [e1] at h0
  exact ⟨ad, e, h0⟩
theorem SAt.kid {w : World} {t : Tr} {A3 : Option Addr} {c3 : Nat} {A4 : Option Addr} {c4 : Nat} (h : SAt w t A3 c3 A4 c4) (i : Nat) (hi : i < t.ks.length) : ∃ ad B3 d3 B4 d4, A4 = some ad ∧
    w.cell? (ad.add (i * 5)) = some (.int .i64 t.ks[i].kd) ∧ w.cell? ⟨(ad.add (i * 5)).block, (ad.add (i * 5)).off + 1, none⟩ = some (.int .i64 t.ks[i].nu) ∧ w.cell? ⟨(ad.add (i * 5)).block, (ad.add (i * 5)).off + 2, none⟩ = some (.string t.ks[i].tx) ∧
    w.cell? ⟨(ad.add (i * 5)).block, (ad.add (i * 5)).off + 3, none⟩ = some (.slice B3 t.ks[i].ns.length d3) ∧ w.cell? ⟨(ad.add (i * 5)).block, (ad.add (i * 5)).off + 4, none⟩ = some (.slice B4 t.ks[i].ks.length d4) ∧ SAt w t.ks[i] B3 d3 B4 d4 := by
  obtain ⟨ad, B3, d3, B4, d4, e, q0, q1, q2, q3, q4, l3, g3, l4, g4⟩ := at_T49 h.g4 (i : Int) (by omega) (by omega)
  have hr : rd_T49 (toSL t.ks) (i : Int) = toS t.ks[i] := by
    unfold rd_T49
    rw [Int.toNat_natCast, toSL_map, List.getD_eq_getElem?_getD, List.getElem?_map, List.getElem?_eq_getElem hi]
    rfl
  rw [hr, toS_eq] at q0 q1 q2 q3 q4 l3 g3 l4 g4
  simp only [Int.toNat_natCast, toSL_len] at q0 q1 q2 q3 q4 l3 g3 l4 g4
  exact ⟨ad, B3, d3, B4, d4, e, q0, q1, q2, q3, q4, l3, g3, l4, g4⟩
/-- What is known of a right tree's first node. -/
structure Wf1 (kd nu : Int) (tx : ByteArray) (ns : List ByteArray) (ks : List Tr) : Prop where
  nu0 : kd ≠ 4 → nu = 0
  tx0 : kd ≠ 5 → tx = nil_
  hlen : kd = 7 → ns.length = ks.length
  ks0 : kd ≠ 6 → kd ≠ 7 → ks = []
  hks : wfL ks = true
theorem wf1 {kd nu : Int} {tx : ByteArray} {ns : List ByteArray} {ks : List Tr} (h : wf (.mk kd nu tx ns ks) = true) : Wf1 kd nu tx ns ks := by
  rw [wf] at h
  simp only [Bool.and_eq_true, nodeG, Bool.or_eq_true, beq_iff_eq] at h
  refine ⟨fun h4 => by rcases h.1.1.1.1.1.1.2 with e | e; exact absurd e h4; exact e, fun h5 => by rcases h.1.1.1.1.2 with e | e; exact absurd e h5; exact emp_iff.1 e, fun h7 => ?_, fun h6 h7 => ?_, h.2⟩
  · have h8 := h.1.1.2
    rw [if_pos h7] at h8
    simp at h8
    exact h8.1.1
  · rcases h.1.2 with e | e
    · simp [holdsB, h6, h7] at e
    · simpa using e
theorem ci_self (a : Int) : ci a a = 0 := by unfold ci; rw [if_neg (by omega), if_neg (by omega)]
theorem cs_self (a : ByteArray) : cs a a = 0 := by
  have h := bytesLess_tri a.toList a.toList
  have h2 : Op.bytesLess a.toList a.toList = false := by
    cases e : Op.bytesLess a.toList a.toList with
    | false => rfl
    | true => rw [e] at h; simp at h
  unfold cs
  rw [h2]; rfl
end Go.Proofs.YtdbfhbnlheankaaGreatDoor.VT
/- Clean values: what cleaning answers, when it is the value itself; the reference's look. Conditions: right trees. -/
namespace Go.Proofs.YtdbfhbnlheankaaGreatDoor.VT
open Go.RowKit Go.Proofs.YtdbfhbnlheankaaGreatDoor.PVG Go.Proofs.YtdbfhbnlheankaaGreatDoorW.PrintWords
set_option linter.unusedVariables false
set_option linter.unusedSimpArgs false
mutual
/-- A tree without nulls in maps that are not within a list. -/
def cleanT : Tr → Tr
  | .mk kd nu tx ns ks => if kd = 7 then .mk 7 0 nil_ (cleanN ks ns) (cleanK ks) else .mk kd nu tx ns ks
def cleanK : List Tr → List Tr
  | [] => []
  | t :: ts => if t.kd = 1 then cleanK ts else cleanT t :: cleanK ts
def cleanN : List Tr → List ByteArray → List ByteArray
  | [], _ => []
  | t :: ts, ns => if t.kd = 1 then cleanN ts ns.tail else ns.headD nil_ :: cleanN ts ns.tail
end
mutual
def isClean : Tr → Bool
  | .mk kd _ _ _ ks => if kd = 7 then isCleanL ks else true
def isCleanL : List Tr → Bool
  | [] => true
  | t :: ts => !(t.kd == 1) && isClean t && isCleanL ts
end
mutual
theorem cmpT_self : ∀ t : Tr, cmpT t t = 0
  | .mk kd nu tx ns ks => by
    rw [cmpT_mk rfl, ci_self, ci_self, cs_self]
    simp only [orL, if_true]
    exact cmpL_self ks _ ns
theorem cmpL_self : ∀ (ks : List Tr) (m : Bool) (ns : List ByteArray), cmpL ks m ns ns ks = 0
  | [], _, _ => by simp [cmpL]
  | t :: ts, m, ns => by
    rw [cmpL, cs_self, if_neg (by simp), cmpT_self t, if_pos rfl, cmpL_self ts]
end
end Go.Proofs.YtdbfhbnlheankaaGreatDoor.VT
