import Derived.Test.YtdbfhbnlheankaaGreatDoorCOVQC
import Derived.Test.YtdbfhbnlheankaaGreatDoorCOPVGx0
import Derived.Test.YtdbfhbnlheankaaGreatDoorCOPVGx10
import Derived.Test.YtdbfhbnlheankaaGreatDoorCOPVGx8
import Derived.Test.YtdbfhbnlheankaaGreatDoorCOPVGx9
/- What the laws' marks write and find again. Conditions: rows of moderate length. -/
namespace Go.Proofs.YtdbfhbnlheankaaGreatDoor.VT
open Go.RowKit Go.Proofs.YtdbfhbnlheankaaGreatDoor.PVG Go.Proofs.YtdbfhbnlheankaaGreatDoorW.PrintWords
set_option linter.unusedVariables false
set_option linter.unusedSimpArgs false
theorem wr_id (n : Int) (h0 : 0 ≤ n) (h1 : n ≤ 1000000000000) : wrap64 n = n := by unfold wrap64; omega
theorem strOfNums_size (l : List Int) : (strOfNums l).size = l.length := by simp [strOfNums, ByteArray.size]
theorem markText_go (d : Nat) : ∀ (n : Int) (t : ByteArray), 0 ≤ n → n ≤ 1000000000000 → n < 10 ^ d → t.size + d ≤ 1000 → ∃ r, Ev (fun k => laws_markText.l0 k n t) r := by
  induction d with
  | zero =>
    intro n t h0 hb h1 h2
    exact ⟨_, Ev.step (f := fun _ => some ((⟨#[109]⟩ : ByteArray) ++ t)) (fun k => by rw [laws_markText.l0, if_neg (by omega), if_pos (by omega)]) (Ev.now _)⟩
  | succ d ih =>
    intro n t h0 hb h1 h2
    by_cases hp : n > 0
    · have hdv : Int.tdiv n 10 = n / 10 := Int.tdiv_eq_ediv_of_nonneg h0
      have hlt : n / 10 < 10 ^ d := by
        rw [Int.pow_succ] at h1
        omega
      have hs : ∀ z : Int, (strOfNums [z]).size = 1 := fun z => strOfNums_size [z]
      obtain ⟨r, e⟩ := ih (n / 10) (strOfNums [(wrap64 (48 + (Int.tmod n 10))) % 256] ++ t) (by omega) (by omega) hlt (by rw [ByteArray.size_append, hs]; omega)
      exact ⟨r, Ev.step (fun k => by rw [laws_markText.l0, Option.bind_some, if_pos hp, if_pos (by rw [hs]; omega), hdv, wr_id (n / 10) (by omega) (by omega)]) e⟩
    · exact ⟨_, Ev.step (f := fun _ => some ((⟨#[109]⟩ : ByteArray) ++ t)) (fun k => by rw [laws_markText.l0, if_neg hp, if_pos (by omega)]) (Ev.now _)⟩
theorem markText_ev (n : Int) (h0 : 0 ≤ n) (hb : n ≤ 100000000000) : ∃ r, Ev (fun k => laws_markText.f k n) r := by
  by_cases hp : n ≤ 0
  · exact ⟨_, Ev.congr (f := fun _ => some (⟨#[109, 48]⟩ : ByteArray)) (fun k => by unfold laws_markText.f; rw [if_pos hp]) (Ev.now _)⟩
  · obtain ⟨r, e⟩ := markText_go 12 n ⟨#[]⟩ h0 (by omega) (by omega) (by simp [ByteArray.size])
    exact ⟨r, Ev.congr (fun k => by unfold laws_markText.f; rw [if_neg hp]) e⟩
open Classical in
noncomputable def mT (n : Int) : ByteArray := if h : ∃ r, Ev (fun k => laws_markText.f k n) r then h.choose else ⟨#[]⟩
theorem mT_ev (n : Int) (h0 : 0 ≤ n) (hb : n ≤ 100000000000) : Ev (fun k => laws_markText.f k n) (mT n) := by
  unfold mT
  rw [dif_pos (markText_ev n h0 hb)]
  exact (markText_ev n h0 hb).choose_spec
noncomputable def mkN (m0 i : Int) : S82 := ⟨m0 + 5 * i, m0 + 5 * i + 1, mT (m0 + 5 * i + 2), mT (m0 + 5 * i + 3), m0 + 5 * i + 4⟩
theorem rdN_set {x : List S82} {i j : Int} {v : S82} (h0 : 0 ≤ i) (h1 : i < x.length) (h2 : 0 ≤ j) : rd_T82 (x.set i.toNat v) j = if j = i then v else rd_T82 x j := by
  unfold rd_T82
  by_cases e : j = i
  · subst e
    rw [if_pos rfl, List.getD_eq_getElem?_getD, List.getElem?_set_self (by omega)]
    rfl
  · rw [if_neg e, List.getD_eq_getElem?_getD, List.getD_eq_getElem?_getD, List.getElem?_set_ne (by omega)]
theorem markN_go {m0 : Int} (hm : 0 ≤ m0 ∧ m0 ≤ 10000000000) (n : Nat) (hn : n ≤ 1073741824) (d : Nat) : ∀ (x : List S82) (i : Int), x.length = n → 0 ≤ i → i ≤ (n : Int) → (n : Int) - i = d → (∀ j : Int, 0 ≤ j → j < i → rd_T82 x j = mkN m0 j) →
    ∃ y, y.length = n ∧ (∀ j : Int, 0 ≤ j → j < n → rd_T82 y j = mkN m0 j) ∧ Ev (fun k => laws_markNodeS.l0 k x (m0 + 5 * i) i) (m0 + 5 * n, y) := by
  induction d with
  | zero =>
    intro x i hx h0 hi hd hj
    obtain rfl : i = (n : Int) := by omega
    exact ⟨x, hx, hj, Ev.step (f := fun _ => some (m0 + 5 * (n : Int), x)) (fun k => by rw [laws_markNodeS.l0, if_neg (by omega)]) (Ev.now _)⟩
  | succ d ih =>
    intro x i hx h0 hi hd hj
    have hlt : i < (x.length : Int) := by omega
    obtain ⟨y, h1, h2, e⟩ := ih (x.set i.toNat (mkN m0 i)) (i + 1) (by simpa using hx) (by omega) (by omega) (by omega) (fun j j0 j1 => by
      rw [rdN_set h0 (by omega) j0]
      by_cases e : j = i
      · rw [if_pos e, e]
      · rw [if_neg e]; exact hj j j0 (by omega))
    refine ⟨y, h1, h2, ?_⟩
    have w1 : wrap64 (m0 + 5 * i + 1) = m0 + 5 * i + 1 := wr_id _ (by omega) (by omega)
    have w2 : wrap64 (m0 + 5 * i + 1 + 1) = m0 + 5 * i + 2 := by rw [wr_id _ (by omega) (by omega)]; omega
    have w3 : wrap64 (m0 + 5 * i + 2 + 1) = m0 + 5 * i + 3 := by rw [wr_id _ (by omega) (by omega)]; omega
    have w4 : wrap64 (m0 + 5 * i + 3 + 1) = m0 + 5 * i + 4 := by rw [wr_id _ (by omega) (by omega)]; omega
    have w5 : wrap64 (m0 + 5 * i + 4 + 1) = m0 + 5 * (i + 1) := by rw [wr_id _ (by omega) (by omega)]; omega
    refine Ev.step (f := fun k => (laws_markText.f k (m0 + 5 * i + 2)).bind fun t => (laws_markText.f k (m0 + 5 * i + 3)).bind fun u => laws_markNodeS.l0 k (x.set i.toNat ⟨m0 + 5 * i, m0 + 5 * i + 1, t, u, m0 + 5 * i + 4⟩) (m0 + 5 * (i + 1)) (i + 1)) (fun k => ?_) (Ev.bind (mT_ev _ (by omega) (by omega)) (Ev.bind (mT_ev _ (by omega) (by omega)) e))
    rw [laws_markNodeS.l0, if_pos hlt, if_pos h0, w1, w2, w3, w4, w5, wr_id (i + 1) (by omega) (by omega)]
    simp only [Option.bind_some, rdN_set h0 hlt h0, rdN_set h0 (show i < ((x.set _ _).length : Int) by simpa using hlt) h0, if_pos rfl, List.set_set, if_true]
theorem heldN_go {m0 : Int} (hm : 0 ≤ m0 ∧ m0 ≤ 10000000000) (x : List S82) (hn : x.length ≤ 1073741824) (hx : ∀ j : Int, 0 ≤ j → j < x.length → rd_T82 x j = mkN m0 j) (d : Nat) : ∀ i : Int, 0 ≤ i → i ≤ (x.length : Int) → (x.length : Int) - i = d →
    Ev (fun k => laws_heldNodeS.l0 k x (m0 + 5 * i) i) (m0 + 5 * x.length) := by
  induction d with
  | zero =>
    intro i h0 hi hd
    obtain rfl : i = (x.length : Int) := by omega
    exact Ev.step (f := fun _ => some (m0 + 5 * (x.length : Int))) (fun k => by rw [laws_heldNodeS.l0, if_neg (by omega)]) (Ev.now _)
  | succ d ih =>
    intro i h0 hi hd
    have w1 : wrap64 (m0 + 5 * i + 1) = m0 + 5 * i + 1 := wr_id _ (by omega) (by omega)
    have w2 : wrap64 (m0 + 5 * i + 1 + 1) = m0 + 5 * i + 2 := by rw [wr_id _ (by omega) (by omega)]; omega
    have w3 : wrap64 (m0 + 5 * i + 2 + 1) = m0 + 5 * i + 3 := by rw [wr_id _ (by omega) (by omega)]; omega
    have w4 : wrap64 (m0 + 5 * i + 3 + 1) = m0 + 5 * i + 4 := by rw [wr_id _ (by omega) (by omega)]; omega
    have w5 : wrap64 (m0 + 5 * i + 4 + 1) = m0 + 5 * (i + 1) := by rw [wr_id _ (by omega) (by omega)]; omega
    refine Ev.step (f := fun k => (laws_markText.f k (m0 + 5 * i + 2)).bind fun t => if (mT (m0 + 5 * i + 2)).toList = t.toList then (laws_markText.f k (m0 + 5 * i + 3)).bind fun u => (if (mT (m0 + 5 * i + 3)).toList = u.toList then laws_heldNodeS.l0 k x (m0 + 5 * (i + 1)) (i + 1) else some (-1)) else some (-1)) (fun k => ?_) (Ev.bind (mT_ev _ (by omega) (by omega)) ?_)
    · rw [laws_heldNodeS.l0, if_pos (by omega), if_pos h0, hx i h0 (by omega), w1, w2, w3, w4, w5, wr_id (i + 1) (by omega) (by omega)]
      simp only [mkN, if_true]
    · simp only [if_true]
      refine Ev.bind (mT_ev _ (by omega) (by omega)) ?_
      simp only [if_true]
      exact ih (i + 1) (by omega) (by omega) (by omega)
/-- What is marked is found again: values. -/
theorem markV_ev (l : List S82) (hl : l.length ≤ 1073741824) (m0 : Int) (hm : 0 ≤ m0 ∧ m0 ≤ 10000000000) : ∃ y, y.length = l.length ∧ Ev (fun k => laws_markValue.f k l m0) (m0 + 5 * l.length, y) ∧ Ev (fun k => laws_heldValue.f k y m0) (m0 + 5 * l.length) := by
  obtain ⟨y, h1, h2, e⟩ := markN_go hm l.length hl l.length l 0 rfl (by omega) (by omega) (by omega) (fun j j0 j1 => by omega)
  have e2 := heldN_go hm y (by omega) (by rw [h1]; exact h2) y.length 0 (by omega) (by omega) (by omega)
  rw [h1] at e2
  refine ⟨y, h1, ?_, ?_⟩
  · refine Ev.congr (f := fun k => (laws_markNodeS.l0 k l (m0 + 5 * 0) 0).bind fun bt => some (bt.1, bt.2)) (fun k => ?_) (Ev.bind e (Ev.now _))
    unfold laws_markValue.f laws_markNodeS.f
    rw [Int.mul_zero, Int.add_zero]
  · refine Ev.congr (f := fun k => (laws_heldNodeS.l0 k y (m0 + 5 * 0) 0).bind fun t => if t < 0 then some (-1) else some t) (fun k => ?_) (Ev.bind e2 ?_)
    · unfold laws_heldValue.f laws_heldNodeS.f
      rw [Int.mul_zero, Int.add_zero]
    · simp only [if_neg (show ¬ (m0 + 5 * (l.length : Int) < 0) by omega)]
      exact Ev.now _
end Go.Proofs.YtdbfhbnlheankaaGreatDoor.VT
