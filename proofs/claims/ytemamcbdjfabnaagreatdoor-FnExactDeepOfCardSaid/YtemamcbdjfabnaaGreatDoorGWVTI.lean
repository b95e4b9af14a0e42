import Derived.Test.YtemamcbdjfabnaaGreatDoorGWVTG
import Derived.Test.YtemamcbdjfabnaaGreatDoorGWVTH
import Derived.Test.YtemamcbdjfabnaaGreatDoorGWPVGx7
import Derived.Test.YtemamcbdjfabnaaGreatDoorGWPVGx8
/- The reference's tree of a right list of nodes, its depth. Conditions: none. -/
namespace Go.Proofs.YtemamcbdjfabnaaGreatDoor.VT
open Go.RowKit Go.Proofs.YtemamcbdjfabnaaGreatDoor.PVG Go.Proofs.YtemamcbdjfabnaaGreatDoorW.PrintWords
set_option linter.unusedVariables false
set_option linter.unusedSimpArgs false
mutual
/-- A tree as the reference's own record. -/
def toS : Tr → S71
  | .mk kd nu tx ns ks => ⟨kd, nu, tx, ns, toSL ks⟩
def toSL : List Tr → List S71
  | [] => []
  | t :: ts => toS t :: toSL ts
end
theorem toSL_map : ∀ ts : List Tr, toSL ts = ts.map toS
  | [] => rfl
  | t :: ts => by rw [toSL, toSL_map ts]; rfl
theorem toSL_len (ts : List Tr) : (toSL ts).length = ts.length := by rw [toSL_map, List.length_map]
theorem toS_eq (t : Tr) : toS t = ⟨t.kd, t.nu, t.tx, t.ns, toSL t.ks⟩ := by cases t; rw [toS]; rfl
theorem tree_ev : ∀ (t : Tr) {l : List S54} {k : Nat} {nm : ByteArray} {up : Int}, Pl l k t nm up → Ev (fun f => spec_l1Tree.f f l k) (t.kd, t.nu, t.tx, t.ns, toSL t.ks) := by
  intro t
  refine Tr.ind (P := fun t => ∀ {l : List S54} {k : Nat} {nm : ByteArray} {up : Int}, Pl l k t nm up → Ev (fun f => spec_l1Tree.f f l k) (t.kd, t.nu, t.tx, t.ns, toSL t.ks)) ?_ t
  intro kd nu tx ns ks ih l k nm up h
  have hlt := h.lt
  have hp := cnt_pos (.mk kd nu tx ns ks)
  have hlen := h.len
  have hwf := h.wf_
  rw [wf] at hwf
  simp only [Bool.and_eq_true] at hwf
  have hnode := h.node
  simp only [Tr.kd, Tr.nu, Tr.tx] at hnode
  have hk1 : (k : Int) < (l.length : Int) := by omega
  have hc80 : cntL ks ≤ 80 := by simp only [cnt] at hlt; omega
  have hks : ks.length ≤ 80 := by have := cnt_ge_len ks; omega
  have hL : ((starts ks (k + 1)).map fun (j : Nat) => (j : Int)).length = ks.length := by rw [List.length_map, starts_len]
  have h7n : kd = 7 → ns.length = ks.length := by
    intro h7
    have := hwf.1.1.2
    rw [if_pos (by simpa using h7)] at this
    simp at this
    exact this.1.1
  have h7e : kd ≠ 7 → ns = [] := by
    intro h7
    have := hwf.1.1.2
    rw [if_neg (by simpa using h7)] at this
    simpa using this
  have loop : ∀ (b a : List Tr), ks = a ++ b → Ev (fun f => spec_l1Tree.l0 f ((starts ks (k + 1)).map fun (j : Nat) => (j : Int)) (ks.length : Int) (a.length : Int) l kd nu tx nm up kd nu tx (if kd = 7 then ns.take a.length else []) (toSL a)) (kd, nu, tx, ns, toSL ks) := by
    intro b
    induction b with
    | nil =>
      intro a he
      rw [List.append_nil] at he
      subst he
      refine Ev.step (f := fun _ => some (kd, nu, tx, ns, toSL ks)) (fun f => ?_) (Ev.now _)
      show spec_l1Tree.l0 (f + 1) _ _ _ _ _ _ _ _ _ _ _ _ _ _ = _
      rw [spec_l1Tree.l0, if_neg (by omega)]
      by_cases h7 : kd = 7
      · rw [if_pos h7, List.take_of_length_le (by rw [h7n h7]; omega)]
      · rw [if_neg h7, h7e h7]
    | cons t b ihb =>
      intro a he
      have hal : a.length < ks.length := by rw [he]; simp
      have hpart : Pl l (k + 1 + cntL a) t (if kd = 7 then (ns.drop a.length).headD nil_ else nil_) k := by
        have := h
        rw [he] at this
        exact this.part
      have hrd := rd_starts a t b (k + 1)
      rw [← he] at hrd
      have iht := ih t (by rw [he]; simp) hpart
      have hnx := ihb (a ++ [t]) (by rw [he]; simp)
      have hw : wrap64 ((a.length : Int) + 1) = ((a ++ [t]).length : Int) := by simp; unfold wrap64; omega
      have hlt2 := hpart.lt
      have hkp := hpart.node
      have hct := cnt_pos t
      have hsl : (toSL a).length = a.length := toSL_len a
      have hsa : toSL (a ++ [t]) = toSL a ++ [toS t] := by rw [toSL_map, toSL_map, List.map_append]; rfl
      rw [hsa] at hnx
      refine Ev.step (f := fun f => (spec_l1Tree.f f l ((k + 1 + cntL a : Nat) : Int)).bind fun bt => (some (toSL a ++ [(⟨bt.1, bt.2.1, bt.2.2.1, bt.2.2.2.1, bt.2.2.2.2⟩ : S71)])).bind fun y185 => spec_l1Tree.l0 f ((starts ks (k + 1)).map fun (j : Nat) => (j : Int)) (ks.length : Int) ((a ++ [t]).length : Int) l kd nu tx nm up kd nu tx (if kd = 7 then ns.take (a ++ [t]).length else []) y185) (fun f => ?_) (Ev.bind iht ?_)
      · show spec_l1Tree.l0 (f + 1) _ _ _ _ _ _ _ _ _ _ _ _ _ _ = _
        rw [spec_l1Tree.l0, if_pos (by omega), if_pos (by omega), hL, if_pos (by omega), hrd, hsl]
        refine congrArg (Option.bind _) (funext fun bt => ?_)
        rw [if_pos (by omega)]
        refine congrArg (Option.bind _) (funext fun y => ?_)
        by_cases h7 : kd = 7
        · rw [if_pos h7, if_pos (by omega), if_pos (by omega), if_pos h7, List.length_take, if_pos (by omega), hw, hkp, if_pos h7, if_pos h7]
          have h1 := h7n h7
          have h2 : ns.take (a ++ [t]).length = ns.take a.length ++ [(ns.drop a.length).headD nil_] := by
            rw [List.length_append, List.length_singleton, List.take_add_one, List.getElem?_eq_getElem (by omega)]
            congr 1
            rw [List.drop_eq_getElem_cons (by omega)]
            rfl
          rw [h2]
        · rw [if_neg h7, if_neg h7, if_neg h7, hw]
      · show Ev (fun f => spec_l1Tree.l0 f _ _ _ _ _ _ _ _ _ _ _ _ _ (toSL a ++ [(⟨t.kd, t.nu, t.tx, t.ns, toSL t.ks⟩ : S71)])) _
        rw [← toS_eq]
        exact hnx
  refine Ev.step (f := fun f => (spec_l1Kids.f f l k).bind fun t172 => spec_l1Tree.l0 f t172 (t172.length : Int) 0 l kd nu tx nm up kd nu tx [] []) (fun f => ?_) ?_
  · show spec_l1Tree.f (f + 1) l k = _
    rw [spec_l1Tree.f, if_pos (by omega), if_pos hk1, hnode]
  · refine Ev.bind (a := (starts ks (k + 1)).map fun (j : Nat) => (j : Int)) (Ev.from 100 fun f hf => h.kids f hf) ?_
    simp only [hL]
    have := loop ks [] rfl
    simpa [toSL, Tr.kd, Tr.nu, Tr.tx, Tr.ns, Tr.ks] using this
theorem deepL_app (a : List Tr) (t : Tr) : deepL (a ++ [t]) = max (deepL a) (deep t) := by
  induction a with
  | nil => simp [deepL]
  | cons x r ih => simp only [List.cons_append, deepL, ih, Nat.max_assoc]
theorem deep_ev : ∀ (t : Tr), deep t ≤ 6 → cnt t ≤ 80 → Ev (fun f => spec_l1Deep.f f t.kd t.nu t.tx t.ns (toSL t.ks)) (deep t : Int) := by
  intro t
  refine Tr.ind (P := fun t => deep t ≤ 6 → cnt t ≤ 80 → Ev (fun f => spec_l1Deep.f f t.kd t.nu t.tx t.ns (toSL t.ks)) (deep t : Int)) ?_ t
  intro kd nu tx ns ks ih hd hc
  have hc80 : cntL ks ≤ 80 := by simp only [cnt] at hc; omega
  have hks : ks.length ≤ 80 := by have := cnt_ge_len ks; omega
  have hdl : deepL ks ≤ 6 := by rw [deep] at hd; omega
  have hsl := toSL_len ks
  have loop : ∀ (b a : List Tr), ks = a ++ b → Ev (fun f => spec_l1Deep.l0 f (deepL a : Int) (toSL ks) ((toSL ks).length : Int) (a.length : Int) kd nu tx ns (toSL ks)) (deep (.mk kd nu tx ns ks) : Int) := by
    intro b
    induction b with
    | nil =>
      intro a he
      rw [List.append_nil] at he
      subst he
      have hw : wrap64 ((deepL ks : Int) + 1) = ((deepL ks + 1 : Nat) : Int) := by unfold wrap64; omega
      refine Ev.step (f := fun _ => some ((deep (.mk kd nu tx ns ks) : Nat) : Int)) (fun f => ?_) (Ev.now _)
      show spec_l1Deep.l0 (f + 1) _ _ _ _ _ _ _ _ _ = _
      rw [spec_l1Deep.l0, if_neg (by omega), spec_l1Holds.f, deep, hw]
      by_cases h6 : kd = 6
      · have : hN kd = 1 := hN_t (by simp [holdsB, h6])
        rw [if_pos h6, this]
        rfl
      · rw [if_neg h6]
        show (if _ then _ else _) = _
        by_cases h7 : kd = 7
        · have : hN kd = 1 := hN_t (by simp [holdsB, h7])
          rw [if_pos (by simpa using h7), this]
        · have : hN kd = 0 := hN_f (by simp [holdsB, h6, h7])
          rw [if_neg (by simpa using h7), this]
          rfl
    | cons t b ihb =>
      intro a he
      have hal : a.length < ks.length := by rw [he]; simp
      have hnx := ihb (a ++ [t]) (by rw [he]; simp)
      have hmem : t ∈ ks := by rw [he]; simp
      have hw : wrap64 ((a.length : Int) + 1) = ((a ++ [t]).length : Int) := by simp; unfold wrap64; omega
      have hrd : rd_T71 (toSL ks) (a.length : Int) = toS t := by
        unfold rd_T71
        rw [Int.toNat_natCast, toSL_map, he, List.getD_eq_getElem?_getD, List.map_append, List.getElem?_append_right (by simp)]
        simp
      have h1 := deepL_app a t
      have hle : deepL ks = max (deepL (a ++ [t])) (deepL b) := by
        have : ∀ x y : List Tr, deepL (x ++ y) = max (deepL x) (deepL y) := by
          intro x y
          induction x with
          | nil => simp [deepL]
          | cons p q ihq => simp only [List.cons_append, deepL, ihq, Nat.max_assoc]
        rw [← this, he]; simp
      have hct : cnt t ≤ 80 := by
        have : cntL ks = cntL a + cnt t + cntL b := by rw [he, cntL_mid]
        omega
      have iht := ih t hmem (by omega) hct
      refine Ev.step (f := fun f => (spec_l1Deep.f f t.kd t.nu t.tx t.ns (toSL t.ks)).bind fun t195 => if t195 > (deepL a : Int) then spec_l1Deep.l0 f t195 (toSL ks) ((toSL ks).length : Int) ((a ++ [t]).length : Int) kd nu tx ns (toSL ks) else spec_l1Deep.l0 f (deepL a : Int) (toSL ks) ((toSL ks).length : Int) ((a ++ [t]).length : Int) kd nu tx ns (toSL ks)) (fun f => ?_) (Ev.bind iht ?_)
      · show spec_l1Deep.l0 (f + 1) _ _ _ _ _ _ _ _ _ = _
        rw [spec_l1Deep.l0, if_pos (by omega), if_pos (by omega), if_pos (by omega), hrd, hw, toS_eq]
      · rw [h1] at hnx
        by_cases hgt : (deep t : Int) > (deepL a : Int)
        · simp only [if_pos hgt]
          rwa [Nat.max_eq_right (by omega)] at hnx
        · simp only [if_neg hgt]
          rwa [Nat.max_eq_left (by omega)] at hnx
  refine Ev.step (f := fun f => spec_l1Deep.l0 f 0 (toSL ks) ((toSL ks).length : Int) 0 kd nu tx ns (toSL ks)) (fun f => ?_) ?_
  · show spec_l1Deep.f (f + 1) _ _ _ _ _ = _
    rw [spec_l1Deep.f]
    rfl
  · have := loop ks [] rfl
    simpa [deepL] using this
theorem deepOf_ev {l : List S54} (h : Small l) : Ev (fun k => spec_DeepOf.f k l) ((match valT l with | none => 0 | some t => (deep t : Int)), (valT l).isSome) := by
  unfold spec_DeepOf.f
  refine Ev.bind (good_ev h) ?_
  cases hv : valT l with
  | none => exact Ev.now _
  | some t =>
    obtain ⟨rfl, h2, h3, h4, h5⟩ := valT_iff.1 hv
    simp only [Option.isSome_some, if_true]
    exact Ev.bind (tree_ev t (Pl.root h2 h4)) (Ev.bind (deep_ev t h3 h4) (Ev.now _))
end Go.Proofs.YtemamcbdjfabnaaGreatDoor.VT
