import Derived.Test.YtdbfhbnlheankaaGreatDoorCOVPC
import Derived.Test.YtdbfhbnlheankaaGreatDoorCOPVGx0
/- Clean values: what cleaning answers, when it is the value itself; the reference's look. Conditions: right trees. -/
namespace Go.Proofs.YtdbfhbnlheankaaGreatDoor.VT
open Go.RowKit Go.Proofs.YtdbfhbnlheankaaGreatDoor.PVG Go.Proofs.YtdbfhbnlheankaaGreatDoorW.PrintWords
set_option linter.unusedVariables false
set_option linter.unusedSimpArgs false
mutual
/-- A tree without nulls in maps that are not within a list. -/
def cleanT : Tr → Tr
  | .mk kd nu tx ns ks => if kd = 7 then .mk 7 0 nil_ (cleanN ks ns) (cleanK ks) else .mk kd nu tx ns ks
def cleanK : List Tr → List Tr
  | [] => []
  | t :: ts => if t.kd = 1 then cleanK ts else cleanT t :: cleanK ts
def cleanN : List Tr → List ByteArray → List ByteArray
  | [], _ => []
  | t :: ts, ns => if t.kd = 1 then cleanN ts ns.tail else ns.headD nil_ :: cleanN ts ns.tail
end
mutual
def isClean : Tr → Bool
  | .mk kd _ _ _ ks => if kd = 7 then isCleanL ks else true
def isCleanL : List Tr → Bool
  | [] => true
  | t :: ts => !(t.kd == 1) && isClean t && isCleanL ts
end
mutual
theorem cmpT_self : ∀ t : Tr, cmpT t t = 0
  | .mk kd nu tx ns ks => by
    rw [cmpT_mk rfl, ci_self, ci_self, cs_self]
    simp only [orL, if_true]
    exact cmpL_self ks _ ns
theorem cmpL_self : ∀ (ks : List Tr) (m : Bool) (ns : List ByteArray), cmpL ks m ns ns ks = 0
  | [], _, _ => by simp [cmpL]
  | t :: ts, m, ns => by
    rw [cmpL, cs_self, if_neg (by simp), cmpT_self t, if_pos rfl, cmpL_self ts]
end
theorem cleanK_len : ∀ ks : List Tr, (cleanK ks).length ≤ ks.length ∧ ((cleanK ks).length = ks.length → cleanK ks = ks.map cleanT ∧ ∀ t ∈ ks, t.kd ≠ 1)
  | [] => by simp [cleanK]
  | t :: ts => by
    obtain ⟨h1, h2⟩ := cleanK_len ts
    rw [cleanK]
    by_cases h : t.kd = 1
    · rw [if_pos h]
      refine ⟨by simp; omega, fun e => by simp at e; omega⟩
    · rw [if_neg h]
      refine ⟨by simp; omega, fun e => ?_⟩
      obtain ⟨g1, g2⟩ := h2 (by simpa using e)
      refine ⟨by rw [g1]; rfl, fun x hx => ?_⟩
      rcases List.mem_cons.1 hx with rfl | hx
      · exact h
      · exact g2 x hx
end Go.Proofs.YtdbfhbnlheankaaGreatDoor.VT
/- What cleaning leaves of a right tree: a right tree, no deeper, no longer. Conditions: right trees. -/
namespace Go.Proofs.YtdbfhbnlheankaaGreatDoor.VT
open Go.RowKit Go.Proofs.YtdbfhbnlheankaaGreatDoor.PVG Go.Proofs.YtdbfhbnlheankaaGreatDoorW.PrintWords
set_option linter.unusedVariables false
set_option linter.unusedSimpArgs false
theorem less_trans : ∀ a b c : List UInt8, Op.bytesLess a b = true → Op.bytesLess b c = true → Op.bytesLess a c = true
  | _, [], c, h, _ => by cases ‹List UInt8› <;> simp [Op.bytesLess] at h
  | [], y :: b, [], _, k => by simp [Op.bytesLess] at k
  | [], y :: b, z :: c, _, _ => by simp [Op.bytesLess]
  | x :: a, y :: b, [], _, k => by simp [Op.bytesLess] at k
  | x :: a, y :: b, z :: c, h, k => by
    simp only [Op.bytesLess, Bool.or_eq_true, Bool.and_eq_true, decide_eq_true_eq, beq_iff_eq] at h k ⊢
    rcases h with h | ⟨h1, h2⟩
    · rcases k with k | ⟨k1, k2⟩
      · exact .inl (UInt8.lt_trans h k)
      · subst k1; exact .inl h
    · subst h1
      rcases k with k | ⟨k1, k2⟩
      · exact .inl k
      · exact .inr ⟨k1, less_trans a b c h2 k2⟩
theorem lt_tr {a b c : ByteArray} (h : lt a b = true) (k : lt b c = true) : lt a c = true := less_trans _ _ _ h k
/-- Rising names: each is less than all that follow. -/
theorem rising_cons {a : ByteArray} {ns : List ByteArray} : rising (a :: ns) = true ↔ (∀ s, s ∈ ns → lt a s = true) ∧ rising ns = true := by
  induction ns generalizing a with
  | nil => simp [rising]
  | cons b r ih =>
    have e : rising (a :: b :: r) = (lt a b && rising (b :: r)) := rfl
    rw [e, Bool.and_eq_true]
    constructor
    · rintro ⟨h1, h2⟩
      refine ⟨fun s hs => ?_, h2⟩
      rcases List.mem_cons.1 hs with rfl | hs
      · exact h1
      · exact lt_tr h1 ((ih.1 h2).1 s hs)
    · rintro ⟨h1, h2⟩
      exact ⟨h1 b (List.mem_cons_self ..), h2⟩
theorem cleanN_mem : ∀ (ks : List Tr) (ns : List ByteArray), ns.length = ks.length → ∀ s, s ∈ cleanN ks ns → s ∈ ns
  | [], ns, _, s, h => by simp [cleanN] at h
  | t :: ts, [], h, _, _ => by simp at h
  | t :: ts, a :: r, h, s, hs => by
    rw [cleanN, List.tail_cons, List.headD_cons] at hs
    by_cases h1 : t.kd = 1
    · rw [if_pos h1] at hs
      exact List.mem_cons_of_mem _ (cleanN_mem ts r (by simpa using h) s hs)
    · rw [if_neg h1] at hs
      rcases List.mem_cons.1 hs with rfl | hs
      · exact List.mem_cons_self ..
      · exact List.mem_cons_of_mem _ (cleanN_mem ts r (by simpa using h) s hs)
theorem cleanN_rising : ∀ (ks : List Tr) (ns : List ByteArray), ns.length = ks.length → rising ns = true → rising (cleanN ks ns) = true
  | [], ns, _, _ => by simp [cleanN, rising]
  | t :: ts, [], h, _ => by simp at h
  | t :: ts, a :: r, h, hr => by
    obtain ⟨h1, h2⟩ := rising_cons.1 hr
    have ih := cleanN_rising ts r (by simpa using h) h2
    rw [cleanN, List.tail_cons, List.headD_cons]
    by_cases h7 : t.kd = 1
    · rw [if_pos h7]; exact ih
    · rw [if_neg h7, rising_cons]
      exact ⟨fun s hs => h1 s (cleanN_mem ts r (by simpa using h) s hs), ih⟩
theorem partsL_first (ts : List Tr) (m : Bool) (ns : List ByteArray) : (partsL ts m true ns).length ≤ (partsL ts m false ns).length := by
  cases ts with
  | nil => simp [partsL]
  | cons t ts => simp [partsL]
mutual
theorem clean_text : ∀ t : Tr, wf t = true → (textL (cleanT t)).length ≤ (textL t).length
  | .mk kd nu tx ns ks, h => by
    rw [cleanT]
    by_cases h7 : kd = 7
    · subst h7
      have hw := wf1 h
      have := cleanK_text ks ns true (hw.hlen rfl) hw.hks
      rw [if_pos rfl]
      simp only [textL]
      simpa using this
    · rw [if_neg h7]; exact Nat.le_refl _
theorem cleanK_text : ∀ (ks : List Tr) (ns : List ByteArray) (first : Bool), ns.length = ks.length → wfL ks = true → (partsL (cleanK ks) true first (cleanN ks ns)).length ≤ (partsL ks true first ns).length
  | [], ns, first, _, _ => by simp [cleanK, partsL]
  | t :: ts, [], first, h, _ => by simp at h
  | t :: ts, a :: r, first, h, hw => by
    rw [wfL, Bool.and_eq_true] at hw
    have h1 := clean_text t hw.1
    have hl : r.length = ts.length := by simpa using h
    rw [cleanK, cleanN, List.tail_cons, List.headD_cons]
    by_cases hk : t.kd = 1
    · rw [if_pos hk, if_pos hk]
      refine Nat.le_trans (cleanK_text ts r first hl hw.2) ?_
      have := partsL_first ts true r
      rw [partsL.eq_2]
      simp only [List.length_append, List.tail_cons]
      cases first with
      | true => omega
      | false => omega
    · rw [if_neg hk, if_neg hk]
      have h2 := cleanK_text ts r false hl hw.2
      simp only [partsL, List.length_append, List.headD_cons, List.tail_cons]
      omega
end
mutual
theorem clean_deep : ∀ t : Tr, deep (cleanT t) ≤ deep t
  | .mk kd nu tx ns ks => by
    rw [cleanT]
    by_cases h7 : kd = 7
    · subst h7
      have := cleanK_deep ks
      rw [if_pos rfl]
      simp only [deep]
      omega
    · rw [if_neg h7]; exact Nat.le_refl _
theorem cleanK_deep : ∀ ks : List Tr, deepL (cleanK ks) ≤ deepL ks
  | [] => by simp [cleanK]
  | t :: ts => by
    have h1 := clean_deep t
    have h2 := cleanK_deep ts
    rw [cleanK]
    by_cases hk : t.kd = 1
    · rw [if_pos hk]; simp only [deepL]; omega
    · rw [if_neg hk]; simp only [deepL]; omega
end
mutual
theorem clean_wf : ∀ t : Tr, wf t = true → wf (cleanT t) = true
  | .mk kd nu tx ns ks, h => by
    rw [cleanT]
    by_cases h7 : kd = 7
    · subst h7
      have hw := wf1 h
      rw [wf] at h
      simp only [Bool.and_eq_true] at h
      have h2 := h.1.1.2
      rw [if_pos (by decide)] at h2
      simp only [Bool.and_eq_true, decide_eq_true_eq] at h2
      have hl := h2.1.1
      rw [if_pos rfl, wf]
      have e1 : nodeG 7 0 nil_ = true := by decide
      have e2 : (holdsB 7 || (cleanK ks).isEmpty) = true := by simp [holdsB]
      have e3 : (cleanN ks ns).length = (cleanK ks).length := cleanN_lenK ks ns hl
      have e4 : (cleanN ks ns).all prt = true := by
        rw [List.all_eq_true]
        intro s hs
        exact (List.all_eq_true.1 h2.2) s (cleanN_mem ks ns hl s hs)
      rw [e1, e2, cleanK_wf ks h.2, cleanN_rising ks ns hl h2.1.2, e4]
      simp [e3]
    · rw [if_neg h7]; exact h
theorem cleanK_wf : ∀ ks : List Tr, wfL ks = true → wfL (cleanK ks) = true
  | [], _ => by simp [cleanK, wfL]
  | t :: ts, h => by
    rw [wfL, Bool.and_eq_true] at h
    rw [cleanK]
    by_cases hk : t.kd = 1
    · rw [if_pos hk]; exact cleanK_wf ts h.2
    · rw [if_neg hk, wfL, clean_wf t h.1, cleanK_wf ts h.2]; rfl
theorem cleanN_lenK : ∀ (ks : List Tr) (ns : List ByteArray), ns.length = ks.length → (cleanN ks ns).length = (cleanK ks).length
  | [], ns, _ => by simp [cleanN, cleanK]
  | t :: ts, [], h => by simp at h
  | t :: ts, a :: r, h => by
    have := cleanN_lenK ts r (by simpa using h)
    rw [cleanN, cleanK, List.tail_cons]
    by_cases hk : t.kd = 1
    · rw [if_pos hk, if_pos hk]; exact this
    · rw [if_neg hk, if_neg hk]; simp [this]
end
mutual
theorem clean_cnt : ∀ t : Tr, cnt (cleanT t) ≤ cnt t
  | .mk kd nu tx ns ks => by
    rw [cleanT]
    by_cases h7 : kd = 7
    · subst h7
      have := cleanK_cnt ks
      rw [if_pos rfl]
      simp only [cnt]
      omega
    · rw [if_neg h7]; exact Nat.le_refl _
theorem cleanK_cnt : ∀ ks : List Tr, cntL (cleanK ks) ≤ cntL ks
  | [] => by simp [cleanK]
  | t :: ts => by
    have h1 := clean_cnt t
    have h2 := cleanK_cnt ts
    rw [cleanK]
    by_cases hk : t.kd = 1
    · rw [if_pos hk]; simp only [cntL]; omega
    · rw [if_neg hk]; simp only [cntL]; omega
end
/-- A good tree is good when it is cleaned. -/
theorem clean_good {t : Tr} (h1 : wf t = true) (h2 : deep t ≤ 6) (h3 : cnt t ≤ 80) (h4 : (textL t).length ≤ 300) : goodB (cleanT t) = true := by
  unfold goodB
  rw [wf_bnd _ (clean_wf t h1), decide_eq_true (Nat.le_trans (clean_cnt t) h3), decide_eq_true (Nat.le_trans (clean_deep t) h2), decide_eq_true (Nat.le_trans (clean_text t h1) h4)]
  rfl
end Go.Proofs.YtdbfhbnlheankaaGreatDoor.VT
