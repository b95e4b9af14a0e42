import Derived.Test.YtdbfhbnlheankaaGreatDoorCOVGA
import Derived.Test.YtdbfhbnlheankaaGreatDoorCOVTG
import Derived.Test.YtdbfhbnlheankaaGreatDoorCOPVGx0
import Derived.Test.YtdbfhbnlheankaaGreatDoorCOPVGx4
import Derived.Test.YtdbfhbnlheankaaGreatDoorCOPVGx6
/- What valOf finds is what the reference finds. Conditions: texts of moderate size. -/
namespace Go.Proofs.YtdbfhbnlheankaaGreatDoor.VT
open Go.RowKit Go.Proofs.YtdbfhbnlheankaaGreatDoor.PVG Go.Proofs.YtdbfhbnlheankaaGreatDoorW.PrintWords
set_option linter.unusedVariables false
set_option linter.unusedSimpArgs false
mutual
theorem wf_bnd : ∀ t : Tr, wf t = true → bnd t = true
  | .mk kd nu tx ns ks, h => by
    rw [wf] at h
    simp only [Bool.and_eq_true, nodeG] at h
    rw [bnd, wfL_bnd ks h.2, h.1.1.1.2, h.1.1.1.1.1.2]
    by_cases h7 : kd = 7
    · have h8 := h.1.1.2
      rw [if_pos (by simpa using h7)] at h8
      simp only [Bool.and_eq_true] at h8
      rw [h8.2]; rfl
    · have h8 := h.1.1.2
      rw [if_neg (by simpa using h7)] at h8
      cases ns with
      | nil => rfl
      | cons a r => simp at h8
theorem wfL_bnd : ∀ ts : List Tr, wfL ts = true → bndL ts = true
  | [], _ => by rw [bndL]
  | t :: ts, h => by
    rw [wfL] at h
    simp only [Bool.and_eq_true] at h
    rw [bndL, wf_bnd t h.1, wfL_bnd ts h.2]; rfl
end
theorem par_flat {t : Tr} (hw : wf t = true) : par (flat t nil_ (-1) 0) 0 0 = some (t, cnt t) := by
  have hat := At.self (flat t nil_ (-1) 0)
  have hlen := flat_len t nil_ (-1) 0
  have hok : nodeOK ⟨t.kd, t.nu, t.tx, nil_, -1⟩ 0 = true := by
    have := wf_node hw
    simp [nodeOK, this, emp_nil]
  have := (par_all (l := flat t nil_ (-1) 0) (2 * cnt t)).1 t nil_ (-1) 0 0 (Nat.le_refl _) hat hw hok (by intro h; omega)
  rwa [Nat.zero_add] at this
theorem valT_iff {l : List S82} {t : Tr} : valT l = some t ↔ (l = flat t nil_ (-1) 0 ∧ wf t = true ∧ deep t ≤ 6 ∧ cnt t ≤ 80 ∧ (textL t).length ≤ 300) := by
  constructor
  · intro h
    unfold valT at h
    split at h
    · rename_i h0
      split at h
      · cases h
      · rename_i t' e hp
        split at h
        · rename_i hg
          cases h
          have hr := par_read hp
          simp only [Bool.and_eq_true, beq_iff_eq, goodB, decide_eq_true_eq] at hg h0
          obtain ⟨he, ⟨⟨hb, hc⟩, hd⟩, ht⟩ := hg
          have hok := hr.ok
          have hem : (nd l 0).f3 = nil_ := by
            unfold nodeOK at hok
            rw [if_neg (by decide), Bool.and_eq_true] at hok
            exact emp_iff.1 hok.2
          have hat := hr.at_
          rw [hem, h0.2] at hat
          exact ⟨At.eq_of hat (by rw [flat_len]; have := hr.e_; omega), hr.wf_, hd, hc, ht⟩
        · cases h
    · cases h
  · rintro ⟨rfl, hw, hd, hc, ht⟩
    have hn := nd_flat (At.self (flat t nil_ (-1) 0))
    have hlen := flat_len t nil_ (-1) 0
    have hp := cnt_pos t
    unfold valT
    rw [hn, par_flat hw, hlen]
    rw [if_pos (by simp [inB]; omega)]
    simp [goodB, wf_bnd t hw, hd, hc, ht]
theorem flat_inj {t u : Tr} (ht : wf t = true) (hu : wf u = true) (h : flat t nil_ (-1) 0 = flat u nil_ (-1) 0) : t = u := by
  have h1 := par_flat ht
  rw [h, par_flat hu] at h1
  cases h1
  rfl
/-- The texts are of moderate size. -/
def Small (l : List S82) : Prop := l.length ≤ 1073741824 ∧ ∀ x, x ∈ l → x.f2.size ≤ 1073741824 ∧ x.f3.size ≤ 1073741824
theorem good_ev {l : List S82} (h : Small l) : Ev (fun k => spec_GoodValue.f k l) (valT l).isSome := by
  refine Ev.congr (f := fun k => if shapeB l = true then ((spec_l1Text.f k l 0).bind fun t163 => (some (decide ((t163.size : Int) ≤ 300)))) else some false) (fun k => ?_) ?_
  · unfold spec_GoodValue.f spec_l1Shape.f
    rw [if_pos (show l.length ≤ 1073741824 ∧ ∀ x, x ∈ l → x.f2.size ≤ 1073741824 ∧ x.f3.size ≤ 1073741824 from h)]
    rfl
  · by_cases hs : shapeB l = true
    · obtain ⟨t, rfl, hw, hd, hc⟩ := shape_tree.1 hs
      simp only [if_pos hs]
      refine Ev.bind (a := ofL (textL t)) (text_ev t (Pl.root hw hc)) ?_
      rw [ofL_size]
      by_cases hl : (textL t).length ≤ 300
      · rw [valT_iff.2 ⟨rfl, hw, hd, hc, hl⟩, decide_eq_true (by omega)]
        exact Ev.now _
      · cases hv : valT (flat t nil_ (-1) 0) with
        | none =>
          rw [decide_eq_false (by omega)]
          exact Ev.now _
        | some u =>
          obtain ⟨h1, h2, h3, h4, h5⟩ := valT_iff.1 hv
          obtain rfl := flat_inj hw h2 h1
          exact absurd h5 hl
    · simp only [if_neg hs]
      cases hv : valT l with
      | none => exact Ev.now _
      | some u =>
        obtain ⟨h1, h2, h3, h4, h5⟩ := valT_iff.1 hv
        exact absurd (shape_tree.2 ⟨u, h1, h2, h3, h4⟩) hs
end Go.Proofs.YtdbfhbnlheankaaGreatDoor.VT
