import Derived.Test.YtemamcbdjfabnaaGreatDoorKOVLM
import Derived.Test.YtemamcbdjfabnaaGreatDoorKOPVGx17
/- The law of KidsOf: the pure side. Conditions: none. -/
namespace Go.Proofs.YtemamcbdjfabnaaGreatDoor.VT
open Go.RowKit Go.Proofs.YtemamcbdjfabnaaGreatDoor.PVG Go.Proofs.YtemamcbdjfabnaaGreatDoorW.PrintWords
set_option linter.unusedVariables false
set_option linter.unusedSimpArgs false
/-- The places of the parts of a place. -/
def kidsP (l : List S54) (u : Int) (i m : Nat) : List Int := ((List.range' i m).filter (fun j => decide ((nd l j).f4 = u))).map (fun (j : Nat) => (j : Int))
def kidsV (l : List S54) (a : Int) : List Int × Bool := if (valT l).isSome = true ∧ (0 ≤ a ∧ a ≤ (l.length : Int) - 1) then (kidsP l a 0 l.length, true) else ([], false)
theorem l1In_f (a lo hi : Int) : spec_l1In.f a lo hi = some (inB a lo hi) := by
  unfold spec_l1In.f inB
  by_cases h1 : lo ≤ a
  · by_cases h2 : a ≤ hi
    · simp [h1, h2]
    · simp [h1, h2]
  · simp [h1]
theorem ikids_go {l : List S54} {u : Int} (h3 : l.length ≤ 1073741824) : ∀ (m i : Nat) (acc : List Int), i + m = l.length → acc.length + m < 17592186044416 → Ev (fun f => impl_KidsOf.l0 f u acc l (l.length : Int) (i : Int)) (acc ++ kidsP l u i m, true) := by
  intro m
  induction m with
  | zero =>
    intro i acc h1 h2
    refine Ev.step (f := fun _ => some (acc ++ kidsP l u i 0, true)) (fun f => ?_) (Ev.now _)
    rw [impl_KidsOf.l0, if_neg (by omega)]
    simp [kidsP]
  | succ m ih =>
    intro i acc h1 h2
    have hw : wrap64 ((i : Int) + 1) = ((i + 1 : Nat) : Int) := by unfold wrap64; omega
    have hr : rd_T54 l (i : Int) = nd l i := rfl
    by_cases h : (nd l i).f4 = u
    · have e : acc ++ kidsP l u i (m + 1) = (acc ++ [(i : Int)]) ++ kidsP l u (i + 1) m := by
        unfold kidsP
        rw [List.range'_succ, List.filter_cons]
        simp [h]
      rw [e]
      refine Ev.step (fun f => ?_) (ih (i + 1) (acc ++ [(i : Int)]) (by omega) (by simp; omega))
      rw [impl_KidsOf.l0, if_pos (by omega), if_pos (by omega), if_pos (by omega), hr, if_pos h, if_pos (by omega), hw]
    · have e : acc ++ kidsP l u i (m + 1) = acc ++ kidsP l u (i + 1) m := by
        unfold kidsP
        rw [List.range'_succ, List.filter_cons]
        simp [h]
      rw [e]
      refine Ev.step (fun f => ?_) (ih (i + 1) acc (by omega) (by omega))
      rw [impl_KidsOf.l0, if_pos (by omega), if_pos (by omega), if_pos (by omega), hr, if_neg h, hw]
theorem ikids_ev (l : List S54) (a : Int) (hl : l.length ≤ 1073741824) : Ev (fun k => impl_KidsOf.f k l a) (kidsV l a) := by
  have hw : wrap64 ((l.length : Int) - 1) = (l.length : Int) - 1 := by unfold wrap64; omega
  have bad : Ev (fun k => impl_KidsOf.j0 k a true l) (([] : List Int), false) := Ev.step (f := fun _ => some (([] : List Int), false)) (fun k => by rw [impl_KidsOf.j0, if_pos rfl]) (Ev.now _)
  unfold impl_KidsOf.f
  rw [hw, within_f]
  unfold impl_GoodValue.f
  simp only [Option.bind_some]
  cases hv : (valT l).isSome with
  | false =>
    simp only [Bool.false_eq_true, if_false]
    have : kidsV l a = ([], false) := by unfold kidsV; rw [if_neg (by rw [hv]; simp)]
    rw [this]; exact bad
  | true =>
    simp only [if_true]
    by_cases h : 0 ≤ a ∧ a ≤ (l.length : Int) - 1
    · have e : inB a 0 ((l.length : Int) - 1) = true := by unfold inB; simp [h.1, h.2]
      have : kidsV l a = (kidsP l a 0 l.length, true) := by unfold kidsV; rw [if_pos ⟨hv, h⟩]
      rw [e, this]
      refine Ev.step (fun k => ?_) (ikids_go hl l.length 0 [] (by omega) (by simp; omega))
      rw [impl_KidsOf.j0, if_neg (by simp)]
      rfl
    · have e : inB a 0 ((l.length : Int) - 1) = false := by unfold inB; simp; omega
      have : kidsV l a = ([], false) := by unfold kidsV; rw [if_neg (fun q => h q.2)]
      rw [e, this]; exact bad
/-- Nobody at or ahead of a place is its part. -/
theorem kidsP_ahead {l : List S54} {t : Tr} (hl : l = flat t nil_ (-1) 0) (n : Nat) (hn : n < l.length) : kidsP l n 0 l.length = kidsP l n (n + 1) (l.length - (n + 1)) := by
  have hat : At l 0 (flat t nil_ (-1) 0) := by rw [← hl]; exact At.self l
  have hlen : l.length = cnt t := by rw [hl, flat_len]
  have hup : ∀ j, j < l.length → (nd l j).f4 < j := fun j hj => by
    by_cases h0 : j = 0
    · subst h0; rw [nd_flat hat]; show (-1 : Int) < ((0 : Nat) : Int); decide
    · exact (nd_ups hat j (by omega) (by omega)).2
  have e : (List.range' 0 (n + 1)).filter (fun j => decide ((nd l j).f4 = (n : Int))) = [] := by
    rw [List.filter_eq_nil_iff]
    intro j hj
    rw [List.mem_range'_1] at hj
    have := hup j (by omega)
    simp
    omega
  unfold kidsP
  conv => lhs; rw [show l.length = (n + 1) + (l.length - (n + 1)) by omega, ← List.range'_append_1, List.filter_append, e]
  simp
theorem skids_ev {l : List S54} (a : Int) (h : Small l) : Ev (fun k => spec_KidsOf.f k l a) (kidsV l a) := by
  have hl := h.1
  have hw : wrap64 ((l.length : Int) - 1) = (l.length : Int) - 1 := by unfold wrap64; omega
  unfold spec_KidsOf.f
  refine Ev.bind (good_ev h) ?_
  rw [hw, l1In_f]
  simp only [Option.bind_some]
  cases hv : valT l with
  | none =>
    have : kidsV l a = ([], false) := by unfold kidsV; rw [if_neg (by rw [hv]; simp)]
    rw [this]; exact Ev.now _
  | some t =>
    obtain ⟨e0, h2, h3, h4, h5⟩ := valT_iff.1 hv
    simp only [Option.isSome_some, if_true]
    by_cases hr : 0 ≤ a ∧ a ≤ (l.length : Int) - 1
    · obtain ⟨n, rfl⟩ : ∃ n : Nat, a = n := ⟨a.toNat, by omega⟩
      have e : inB (n : Int) 0 ((l.length : Int) - 1) = true := by unfold inB; simp [hr.2]
      have ev : kidsV l n = (kidsP l n (n + 1) (l.length - (n + 1)), true) := by unfold kidsV; rw [if_pos ⟨by rw [hv]; rfl, hr⟩, kidsP_ahead e0 n (by omega)]
      rw [e, ev]
      simp only [if_true]
      have hw2 : wrap64 ((n : Int) + 1) = ((n + 1 : Nat) : Int) := by unfold wrap64; omega
      refine Ev.bind (a := kidsP l n (n + 1) (l.length - (n + 1))) (Ev.from (l.length + 1) fun f hf => ?_) (Ev.now _)
      unfold spec_l1Kids.f
      rw [hw2, kids_go (l.length - (n + 1)) (n + 1) [] f (by omega) (by simp; omega) (by omega) (by omega)]
      rfl
    · have e : inB a 0 ((l.length : Int) - 1) = false := by unfold inB; simp; omega
      have : kidsV l a = ([], false) := by unfold kidsV; rw [if_neg (fun q => hr q.2)]
      rw [e, this]
      simp only [Bool.false_eq_true, if_false]
      exact Ev.now _
theorem kidsV_len (l : List S54) (a : Int) : (kidsV l a).1.length ≤ l.length := by
  unfold kidsV
  split
  · unfold kidsP
    rw [List.length_map]
    exact Nat.le_trans (List.length_filter_le _ _) (by simp)
  · simp
theorem kidsLaw_ev {l : List S90} (hf : Fits l) (a : Int) : Ev (fun k => laws_FnExactKidsOf.f k l a) true := by
  obtain ⟨r, hz, hr⟩ := sz_ev hf
  unfold laws_FnExactKidsOf.f
  refine Ev.bind hz ?_
  by_cases hr0 : r < 0
  · simp only [if_pos hr0]; exact Ev.now _
  · simp only [if_neg hr0]
    obtain ⟨hS, hL⟩ := hr (by omega)
    have hL2 : (tov l).length ≤ 1073741824 := by rw [tov_len]; omega
    have hK := kidsV_len (tov l) a
    have hT := to_ev hL
    have hQ := eqI_ev (l := (kidsV (tov l) a).1) (by omega)
    obtain ⟨yx, _, hmx, _⟩ := markV_ev (tov l) hL2 1 (by omega)
    obtain ⟨y, hm, hh⟩ := markI_ev (kidsV (tov l) a).1 (by omega) 1 (by omega)
    refine Ev.bind hT (Ev.bind (skids_ev a hS) (Ev.bind hT (Ev.bind (ikids_ev _ a hL2) (Ev.bind hQ ?_))))
    simp only [if_true, bne_self_eq_false]
    refine Ev.step (f := fun k => _) (fun k => by rw [laws_FnExactKidsOf.j0, if_neg (by simp)]) ?_
    refine Ev.bind hT (Ev.bind (eq_ev (by rw [tov_len]; exact hL)) ?_)
    simp only [if_true]
    refine Ev.bind hmx ?_
    simp only [if_neg (show ¬ ((1 : Int) + 5 * ((tov l).length : Int) < 0) by omega)]
    refine Ev.bind hQ ?_
    simp only [if_true, bne_self_eq_false]
    refine Ev.step (f := fun k => _) (fun k => by rw [laws_FnExactKidsOf.j1, if_neg (by simp)]) ?_
    refine Ev.bind hm (Ev.bind hh ?_)
    simp only [if_neg (show ¬ ((1 : Int) + ((kidsV (tov l) a).1.length : Int) < 0) by omega), if_true]
    refine Ev.bind hT (Ev.bind (ikids_ev _ a hL2) (Ev.bind hQ ?_))
    simp only [if_true, bne_self_eq_false]
    refine Ev.step (f := fun k => _) (fun k => by rw [laws_FnExactKidsOf.j2, if_neg (by simp)]) ?_
    refine Ev.bind hh ?_
    simp only [if_neg (show ¬ ((1 : Int) + ((kidsV (tov l) a).1.length : Int) < 0) by omega), if_true]
    exact Ev.now _
theorem kids_law (A : Option Addr) (c : Nat) (l : List S90) (a : Int) (w : World) (ht : HT w) (hf : Fits l) (hr : Kd.C k90 w A l.length l) (hc : l.length ≤ c) :
    Calls Tryz.prog 9 #[.agg #[.slice A l.length c], .int .i64 a] w fun e w' => e = .returned (.bool true) ∧ Below w.heap.size w w' := by
  obtain ⟨k, hk⟩ := (kidsLaw_ev hf a).rounds
  exact laws_FnExactKidsOf.calls k A c l a w ht hr hc hk
end Go.Proofs.YtemamcbdjfabnaaGreatDoor.VT
