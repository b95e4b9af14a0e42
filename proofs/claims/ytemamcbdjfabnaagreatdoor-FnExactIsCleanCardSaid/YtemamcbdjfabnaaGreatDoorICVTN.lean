import Derived.Test.YtemamcbdjfabnaaGreatDoorICVPC
import Derived.Test.YtemamcbdjfabnaaGreatDoorICPVGx9
/- Clean values: what cleaning answers, when it is the value itself; the reference's look. Conditions: right trees. -/
namespace Go.Proofs.YtemamcbdjfabnaaGreatDoor.VT
open Go.RowKit Go.Proofs.YtemamcbdjfabnaaGreatDoor.PVG Go.Proofs.YtemamcbdjfabnaaGreatDoorW.PrintWords
set_option linter.unusedVariables false
set_option linter.unusedSimpArgs false
mutual
/-- A tree without nulls in maps that are not within a list. -/
def cleanT : Tr → Tr
  | .mk kd nu tx ns ks => if kd = 7 then .mk 7 0 nil_ (cleanN ks ns) (cleanK ks) else .mk kd nu tx ns ks
def cleanK : List Tr → List Tr
  | [] => []
  | t :: ts => if t.kd = 1 then cleanK ts else cleanT t :: cleanK ts
def cleanN : List Tr → List ByteArray → List ByteArray
  | [], _ => []
  | t :: ts, ns => if t.kd = 1 then cleanN ts ns.tail else ns.headD nil_ :: cleanN ts ns.tail
end
mutual
def isClean : Tr → Bool
  | .mk kd _ _ _ ks => if kd = 7 then isCleanL ks else true
def isCleanL : List Tr → Bool
  | [] => true
  | t :: ts => !(t.kd == 1) && isClean t && isCleanL ts
end
mutual
theorem cmpT_self : ∀ t : Tr, cmpT t t = 0
  | .mk kd nu tx ns ks => by
    rw [cmpT_mk rfl, ci_self, ci_self, cs_self]
    simp only [orL, if_true]
    exact cmpL_self ks _ ns
theorem cmpL_self : ∀ (ks : List Tr) (m : Bool) (ns : List ByteArray), cmpL ks m ns ns ks = 0
  | [], _, _ => by simp [cmpL]
  | t :: ts, m, ns => by
    rw [cmpL, cs_self, if_neg (by simp), cmpT_self t, if_pos rfl, cmpL_self ts]
end
theorem cmpL_zero : ∀ (ks us : List Tr) (m : Bool) (ns ms : List ByteArray), cmpL ks m ns ms us = 0 → ks.length = us.length ∧ ∀ i (h : i < ks.length) (h2 : i < us.length), cmpT ks[i] us[i] = 0
  | [], us, m, ns, ms, h => by
    rw [cmpL] at h
    by_cases h0 : us.length = 0
    · exact ⟨by simp [h0], fun i h => by simp at h⟩
    · rw [if_neg h0] at h; omega
  | _ :: _, [], m, ns, ms, h => by rw [cmpL] at h; omega
  | t :: ts, u :: us, m, ns, ms, h => by
    rw [cmpL] at h
    by_cases h1 : m = true ∧ cs (ns.headD nil_) (ms.headD nil_) ≠ 0
    · rw [if_pos h1] at h; exact absurd h h1.2
    · rw [if_neg h1] at h
      by_cases h2 : cmpT t u = 0
      · rw [if_pos h2] at h
        obtain ⟨g1, g2⟩ := cmpL_zero ts us m ns.tail ms.tail h
        refine ⟨by simp [g1], fun i hi hi2 => ?_⟩
        cases i with
        | zero => exact h2
        | succ i => exact g2 i (by simpa using hi) (by simpa using hi2)
      · rw [if_neg h2] at h; exact absurd h h2
theorem cleanK_len : ∀ ks : List Tr, (cleanK ks).length ≤ ks.length ∧ ((cleanK ks).length = ks.length → cleanK ks = ks.map cleanT ∧ ∀ t ∈ ks, t.kd ≠ 1)
  | [] => by simp [cleanK]
  | t :: ts => by
    obtain ⟨h1, h2⟩ := cleanK_len ts
    rw [cleanK]
    by_cases h : t.kd = 1
    · rw [if_pos h]
      refine ⟨by simp; omega, fun e => by simp at e; omega⟩
    · rw [if_neg h]
      refine ⟨by simp; omega, fun e => ?_⟩
      obtain ⟨g1, g2⟩ := h2 (by simpa using e)
      refine ⟨by rw [g1]; rfl, fun x hx => ?_⟩
      rcases List.mem_cons.1 hx with rfl | hx
      · exact h
      · exact g2 x hx
theorem isCleanL_iff (ks : List Tr) : isCleanL ks = true ↔ ∀ t ∈ ks, t.kd ≠ 1 ∧ isClean t = true := by
  induction ks with
  | nil => simp [isCleanL]
  | cons t ts ih => simp [isCleanL, ih]
theorem cleanN_all : ∀ (ks : List Tr) (ns : List ByteArray), ns.length = ks.length → (∀ t ∈ ks, t.kd ≠ 1) → cleanN ks ns = ns
  | [], ns, h, _ => by cases ns with
    | nil => simp [cleanN]
    | cons a r => simp at h
  | t :: ts, ns, h, hk => by
    cases ns with
    | nil => simp at h
    | cons a r =>
      rw [cleanN, if_neg (hk t (List.mem_cons_self ..)), List.headD_cons, List.tail_cons, cleanN_all ts r (by simpa using h) (fun x hx => hk x (List.mem_cons_of_mem _ hx))]
theorem cleanK_all : ∀ (ks : List Tr), (∀ t ∈ ks, t.kd ≠ 1 ∧ cleanT t = t) → cleanK ks = ks
  | [], _ => by simp [cleanK]
  | t :: ts, hk => by
    rw [cleanK, if_neg (hk t (List.mem_cons_self ..)).1, (hk t (List.mem_cons_self ..)).2, cleanK_all ts (fun x hx => hk x (List.mem_cons_of_mem _ hx))]
theorem clean_same : ∀ t : Tr, wf t = true → isClean t = true → cleanT t = t := by
  intro t
  refine Tr.ind (P := fun t => wf t = true → isClean t = true → cleanT t = t) ?_ t
  intro kd nu tx ns ks ih hw hc
  have h1 := wf1 hw
  rw [cleanT]
  by_cases h7 : kd = 7
  · subst h7
    rw [isClean, if_pos rfl, isCleanL_iff] at hc
    have hk := (wfL_iff ks).1 h1.hks
    rw [if_pos rfl, h1.nu0 (by decide), h1.tx0 (by decide), cleanN_all ks ns (h1.hlen rfl) (fun t ht => (hc t ht).1), cleanK_all ks (fun t ht => ⟨(hc t ht).1, ih t ht (hk t ht) (hc t ht).2⟩)]
  · rw [if_neg h7]
/-- A tree is clean where cleaning leaves it as it is. -/
theorem clean_iff : ∀ t : Tr, wf t = true → ((cmpT (cleanT t) t == 0) = isClean t) := by
  intro t
  refine Tr.ind (P := fun t => wf t = true → ((cmpT (cleanT t) t == 0) = isClean t)) ?_ t
  intro kd nu tx ns ks ih hw
  have h1 := wf1 hw
  cases hc : isClean (.mk kd nu tx ns ks) with
  | true => rw [clean_same _ hw hc, cmpT_self]; rfl
  | false =>
    have h7 : kd = 7 := by
      rw [isClean] at hc
      by_cases h : kd = 7
      · exact h
      · rw [if_neg h] at hc; cases hc
    subst h7
    rw [isClean, if_pos rfl] at hc
    rw [beq_eq_false_iff_ne]
    intro hz
    rw [cleanT, if_pos rfl] at hz
    have hz2 : cmpL (cleanK ks) true (cleanN ks ns) ns ks = 0 := by
      rw [cmpT_mk rfl, h1.nu0 (by decide), h1.tx0 (by decide), ci_self, ci_self, cs_nil] at hz
      simpa [orL] using hz
    obtain ⟨g1, g2⟩ := cmpL_zero _ _ _ _ _ hz2
    obtain ⟨g3, g4⟩ := (cleanK_len ks).2 g1
    have hk := (wfL_iff ks).1 h1.hks
    have : isCleanL ks = true := by
      rw [isCleanL_iff]
      intro t ht
      obtain ⟨i, hi, rfl⟩ := List.getElem_of_mem ht
      refine ⟨g4 _ ht, ?_⟩
      have h5 := g2 i (by omega) hi
      have h6 : (cleanK ks)[i]'(by omega) = cleanT ks[i] := by simp [g3]
      rw [h6] at h5
      have h8 := ih ks[i] ht (hk _ ht)
      rw [h5] at h8
      exact h8.symm
    rw [this] at hc
    cases hc
theorem clean_ev : ∀ (t : Tr), cnt t ≤ 80 → Ev (fun f => spec_l4Clean.f f t.kd t.nu t.tx t.ns (toSL t.ks)) (isClean t) := by
  intro t
  refine Tr.ind (P := fun t => cnt t ≤ 80 → Ev (fun f => spec_l4Clean.f f t.kd t.nu t.tx t.ns (toSL t.ks)) (isClean t)) ?_ t
  intro kd nu tx ns ks ih hc
  have hc80 : cntL ks ≤ 80 := by simp only [cnt] at hc; omega
  have hks : ks.length ≤ 80 := by have := cnt_ge_len ks; omega
  have hsl := toSL_len ks
  have loop : ∀ (b a : List Tr), ks = a ++ b → Ev (fun f => spec_l4Clean.l0 f (toSL ks) ((toSL ks).length : Int) (a.length : Int)) (isCleanL b) := by
    intro b
    induction b with
    | nil =>
      intro a he
      rw [List.append_nil] at he
      subst he
      refine Ev.step (f := fun _ => some true) (fun f => ?_) (Ev.now _)
      show spec_l4Clean.l0 (f + 1) _ _ _ = _
      rw [spec_l4Clean.l0, if_neg (by omega)]
    | cons t b ihb =>
      intro a he
      have hal : a.length < ks.length := by rw [he]; simp
      have hnx := ihb (a ++ [t]) (by rw [he]; simp)
      have hmem : t ∈ ks := by rw [he]; simp
      have hw : wrap64 ((a.length : Int) + 1) = ((a ++ [t]).length : Int) := by simp; unfold wrap64; omega
      have hrd : rd_T71 (toSL ks) (a.length : Int) = toS t := by
        unfold rd_T71
        rw [Int.toNat_natCast, toSL_map, he, List.getD_eq_getElem?_getD, List.map_append, List.getElem?_append_right (by simp)]
        simp
      have hct : cnt t ≤ 80 := by
        have : cntL ks = cntL a + cnt t + cntL b := by rw [he, cntL_mid]
        omega
      have iht := ih t hmem hct
      by_cases h1 : t.kd = 1
      · refine Ev.step (f := fun _ => some false) (fun f => ?_) ?_
        · show spec_l4Clean.l0 (f + 1) _ _ _ = _
          rw [spec_l4Clean.l0, if_pos (by omega), if_pos (by omega), if_pos (by omega), hrd, toS_eq, if_pos h1]
        · rw [isCleanL, h1]; exact Ev.now _
      · refine Ev.step (f := fun f => (spec_l4Clean.f f t.kd t.nu t.tx t.ns (toSL t.ks)).bind fun t252 => if t252 = true then spec_l4Clean.l0 f (toSL ks) ((toSL ks).length : Int) ((a ++ [t]).length : Int) else some false) (fun f => ?_) (Ev.bind iht ?_)
        · show spec_l4Clean.l0 (f + 1) _ _ _ = _
          rw [spec_l4Clean.l0, if_pos (by omega), if_pos (by omega), if_pos (by omega), hrd, toS_eq, if_neg h1, hw]
        · rw [isCleanL]
          have h1b : (t.kd == 1) = false := by simpa using h1
          rw [h1b]
          cases hcl : isClean t with
          | true => simp only [if_true]; simpa using hnx
          | false => simp only [Bool.false_eq_true, if_false]; exact Ev.now _
  refine Ev.step (f := fun f => if kd = 7 then spec_l4Clean.l0 f (toSL ks) ((toSL ks).length : Int) 0 else some true) (fun f => ?_) ?_
  · show spec_l4Clean.f (f + 1) _ _ _ _ _ = _
    rw [spec_l4Clean.f]
    rfl
  · rw [isClean]
    by_cases h7 : kd = 7
    · simp only [if_pos h7]; exact loop ks [] rfl
    · simp only [if_neg h7]; exact Ev.now _
theorem isClean_ev {l : List S54} (h : Small l) : Ev (fun k => spec_IsClean.f k l) ((match valT l with | none => false | some t => isClean t), (valT l).isSome) := by
  unfold spec_IsClean.f
  refine Ev.bind (good_ev h) ?_
  cases hv : valT l with
  | none => exact Ev.now _
  | some t =>
    obtain ⟨rfl, h2, h3, h4, h5⟩ := valT_iff.1 hv
    simp only [Option.isSome_some, if_true]
    exact Ev.bind (tree_ev t (Pl.root h2 h4)) (Ev.bind (clean_ev t h4) (Ev.now _))
end Go.Proofs.YtemamcbdjfabnaaGreatDoor.VT
