import Derived.Test.YtemamcbdjfabnaaGreatDoorSOVK
import Derived.Test.YtemamcbdjfabnaaGreatDoorSOVWA
import Derived.WalkLawsBesides
import Derived.Test.YtemamcbdjfabnaaGreatDoorSOPVGx12
import Derived.Test.YtemamcbdjfabnaaGreatDoorSOVTG
import Derived.Test.YtemamcbdjfabnaaGreatDoorSOVTH
import Derived.Test.YtemamcbdjfabnaaGreatDoorSOPVGx7
/- The package cmp's helpers, walked. Conditions: none. -/
namespace Go.Proofs.YtemamcbdjfabnaaGreatDoor.VT
open Go.RowKit Go.Proofs.YtemamcbdjfabnaaGreatDoor.PVG Go.Proofs.YtemamcbdjfabnaaGreatDoorW.PrintWords Go.Proofs.YtemamcbdjfabnaaGreatDoorW.PrintLast Go.Proofs.YtemamcbdjfabnaaGreatDoorW.PrintMore
set_option linter.unusedVariables false
set_option linter.unusedSimpArgs false
def ci (a b : Int) : Int := if a < b then -1 else if b < a then 1 else 0
def cs (a b : ByteArray) : Int := if Op.bytesLess a.toList b.toList = true then -1 else if Op.bytesLess b.toList a.toList = true then 1 else 0
/-- The first that is not nought. -/
def orL : List Int → Int
  | [] => 0
  | x :: r => if x = 0 then orL r else x
mutual
/-- How two trees stand to each other. -/
def cmpT : Tr → Tr → Int
  | .mk kd nu tx ns ks, u => if orL [ci kd u.kd, ci nu u.nu, cs tx u.tx] = 0 then cmpL ks (kd == 7) ns u.ns u.ks else orL [ci kd u.kd, ci nu u.nu, cs tx u.tx]
def cmpL : List Tr → Bool → List ByteArray → List ByteArray → List Tr → Int
  | [], _, _, _, us => if us.length = 0 then 0 else -1
  | _ :: _, _, _, _, [] => 1
  | t :: ts, m, ns, ms, u :: us => if m = true ∧ cs (ns.headD nil_) (ms.headD nil_) ≠ 0 then cs (ns.headD nil_) (ms.headD nil_) else if cmpT t u = 0 then cmpL ts m ns.tail ms.tail us else cmpT t u
end
end Go.Proofs.YtemamcbdjfabnaaGreatDoor.VT
/- Two trees compared, walked. Conditions: the trees' texts are right. -/
namespace Go.Proofs.YtemamcbdjfabnaaGreatDoor.VT
open Go.RowKit Go.Proofs.YtemamcbdjfabnaaGreatDoor.PVG Go.Proofs.YtemamcbdjfabnaaGreatDoorW.PrintWords Go.Proofs.YtemamcbdjfabnaaGreatDoorW.PrintLast Go.Proofs.YtemamcbdjfabnaaGreatDoorW.PrintMore
set_option linter.unusedVariables false
set_option linter.unusedSimpArgs false
def CmCall (t : Tr) : Prop := ∀ (u : Tr) (w : World) (g h : Nat), IsV w g t → IsV w h u → fit t = true → fit u = true → cnt t ≤ 1073741824 → cnt u ≤ 1073741824 →
  Calls Tryz.prog 64 #[.pointer (some ⟨g, 0, none⟩), .pointer (some ⟨h, 0, none⟩)] w fun e w' => e = .returned (.int .i64 (cmpT t u)) ∧ Below w.heap.size w w'
theorem CmCall.go {t : Tr} (hh : CmCall t) (u : Tr) (w : World) (g h : Nat) (h1 : IsV w g t) (h2 : IsV w h u) (h3 : fit t = true) (h4 : fit u = true) (h5 : cnt t ≤ 1073741824) (h6 : cnt u ≤ 1073741824) :
    Calls Tryz.prog 64 #[.pointer (some ⟨g, 0, none⟩), .pointer (some ⟨h, 0, none⟩)] w fun e w' => e = .returned (.int .i64 (cmpT t u)) ∧ Below w.heap.size w w' := hh u w g h h1 h2 h3 h4 h5 h6
end Go.Proofs.YtemamcbdjfabnaaGreatDoor.VT
/- The reference's tree of a right list of nodes, its depth. Conditions: none. -/
namespace Go.Proofs.YtemamcbdjfabnaaGreatDoor.VT
open Go.RowKit Go.Proofs.YtemamcbdjfabnaaGreatDoor.PVG Go.Proofs.YtemamcbdjfabnaaGreatDoorW.PrintWords
set_option linter.unusedVariables false
set_option linter.unusedSimpArgs false
mutual
/-- A tree as the reference's own record. -/
def toS : Tr → S71
  | .mk kd nu tx ns ks => ⟨kd, nu, tx, ns, toSL ks⟩
def toSL : List Tr → List S71
  | [] => []
  | t :: ts => toS t :: toSL ts
end
theorem toSL_map : ∀ ts : List Tr, toSL ts = ts.map toS
  | [] => rfl
  | t :: ts => by rw [toSL, toSL_map ts]; rfl
theorem toSL_len (ts : List Tr) : (toSL ts).length = ts.length := by rw [toSL_map, List.length_map]
theorem toS_eq (t : Tr) : toS t = ⟨t.kd, t.nu, t.tx, t.ns, toSL t.ks⟩ := by cases t; rw [toS]; rfl
theorem tree_ev : ∀ (t : Tr) {l : List S54} {k : Nat} {nm : ByteArray} {up : Int}, Pl l k t nm up → Ev (fun f => spec_l1Tree.f f l k) (t.kd, t.nu, t.tx, t.ns, toSL t.ks) := by
  intro t
  refine Tr.ind (P := fun t => ∀ {l : List S54} {k : Nat} {nm : ByteArray} {up : Int}, Pl l k t nm up → Ev (fun f => spec_l1Tree.f f l k) (t.kd, t.nu, t.tx, t.ns, toSL t.ks)) ?_ t
  intro kd nu tx ns ks ih l k nm up h
  have hlt := h.lt
  have hp := cnt_pos (.mk kd nu tx ns ks)
  have hlen := h.len
  have hwf := h.wf_
  rw [wf] at hwf
  simp only [Bool.and_eq_true] at hwf
  have hnode := h.node
  simp only [Tr.kd, Tr.nu, Tr.tx] at hnode
  have hk1 : (k : Int) < (l.length : Int) := by omega
  have hc80 : cntL ks ≤ 80 := by simp only [cnt] at hlt; omega
  have hks : ks.length ≤ 80 := by have := cnt_ge_len ks; omega
  have hL : ((starts ks (k + 1)).map fun (j : Nat) => (j : Int)).length = ks.length := by rw [List.length_map, starts_len]
  have h7n : kd = 7 → ns.length = ks.length := by
    intro h7
    have := hwf.1.1.2
    rw [if_pos (by simpa using h7)] at this
    simp at this
    exact this.1.1
  have h7e : kd ≠ 7 → ns = [] := by
    intro h7
    have := hwf.1.1.2
    rw [if_neg (by simpa using h7)] at this
    simpa using this
  have loop : ∀ (b a : List Tr), ks = a ++ b → Ev (fun f => spec_l1Tree.l0 f ((starts ks (k + 1)).map fun (j : Nat) => (j : Int)) (ks.length : Int) (a.length : Int) l kd nu tx nm up kd nu tx (if kd = 7 then ns.take a.length else []) (toSL a)) (kd, nu, tx, ns, toSL ks) := by
    intro b
    induction b with
    | nil =>
      intro a he
      rw [List.append_nil] at he
      subst he
      refine Ev.step (f := fun _ => some (kd, nu, tx, ns, toSL ks)) (fun f => ?_) (Ev.now _)
      show spec_l1Tree.l0 (f + 1) _ _ _ _ _ _ _ _ _ _ _ _ _ _ = _
      rw [spec_l1Tree.l0, if_neg (by omega)]
      by_cases h7 : kd = 7
      · rw [if_pos h7, List.take_of_length_le (by rw [h7n h7]; omega)]
      · rw [if_neg h7, h7e h7]
    | cons t b ihb =>
      intro a he
      have hal : a.length < ks.length := by rw [he]; simp
      have hpart : Pl l (k + 1 + cntL a) t (if kd = 7 then (ns.drop a.length).headD nil_ else nil_) k := by
        have := h
        rw [he] at this
        exact this.part
      have hrd := rd_starts a t b (k + 1)
      rw [← he] at hrd
      have iht := ih t (by rw [he]; simp) hpart
      have hnx := ihb (a ++ [t]) (by rw [he]; simp)
      have hw : wrap64 ((a.length : Int) + 1) = ((a ++ [t]).length : Int) := by simp; unfold wrap64; omega
      have hlt2 := hpart.lt
      have hkp := hpart.node
      have hct := cnt_pos t
      have hsl : (toSL a).length = a.length := toSL_len a
      have hsa : toSL (a ++ [t]) = toSL a ++ [toS t] := by rw [toSL_map, toSL_map, List.map_append]; rfl
      rw [hsa] at hnx
      refine Ev.step (f := fun f => (spec_l1Tree.f f l ((k + 1 + cntL a : Nat) : Int)).bind fun bt => (some (toSL a ++ [(⟨bt.1, bt.2.1, bt.2.2.1, bt.2.2.2.1, bt.2.2.2.2⟩ : S71)])).bind fun y185 => spec_l1Tree.l0 f ((starts ks (k + 1)).map fun (j : Nat) => (j : Int)) (ks.length : Int) ((a ++ [t]).length : Int) l kd nu tx nm up kd nu tx (if kd = 7 then ns.take (a ++ [t]).length else []) y185) (fun f => ?_) (Ev.bind iht ?_)
      · show spec_l1Tree.l0 (f + 1) _ _ _ _ _ _ _ _ _ _ _ _ _ _ = _
        rw [spec_l1Tree.l0, if_pos (by omega), if_pos (by omega), hL, if_pos (by omega), hrd, hsl]
        refine congrArg (Option.bind _) (funext fun bt => ?_)
        rw [if_pos (by omega)]
        refine congrArg (Option.bind _) (funext fun y => ?_)
        by_cases h7 : kd = 7
        · rw [if_pos h7, if_pos (by omega), if_pos (by omega), if_pos h7, List.length_take, if_pos (by omega), hw, hkp, if_pos h7, if_pos h7]
          have h1 := h7n h7
          have h2 : ns.take (a ++ [t]).length = ns.take a.length ++ [(ns.drop a.length).headD nil_] := by
            rw [List.length_append, List.length_singleton, List.take_add_one, List.getElem?_eq_getElem (by omega)]
            congr 1
            rw [List.drop_eq_getElem_cons (by omega)]
            rfl
          rw [h2]
        · rw [if_neg h7, if_neg h7, if_neg h7, hw]
      · show Ev (fun f => spec_l1Tree.l0 f _ _ _ _ _ _ _ _ _ _ _ _ _ (toSL a ++ [(⟨t.kd, t.nu, t.tx, t.ns, toSL t.ks⟩ : S71)])) _
        rw [← toS_eq]
        exact hnx
  refine Ev.step (f := fun f => (spec_l1Kids.f f l k).bind fun t172 => spec_l1Tree.l0 f t172 (t172.length : Int) 0 l kd nu tx nm up kd nu tx [] []) (fun f => ?_) ?_
  · show spec_l1Tree.f (f + 1) l k = _
    rw [spec_l1Tree.f, if_pos (by omega), if_pos hk1, hnode]
  · refine Ev.bind (a := (starts ks (k + 1)).map fun (j : Nat) => (j : Int)) (Ev.from 100 fun f hf => h.kids f hf) ?_
    simp only [hL]
    have := loop ks [] rfl
    simpa [toSL, Tr.kd, Tr.nu, Tr.tx, Tr.ns, Tr.ks] using this
end Go.Proofs.YtemamcbdjfabnaaGreatDoor.VT
