import Derived.Test.YtemamcbdjfabnaaGreatDoorSOVND
import Derived.Test.YtemamcbdjfabnaaGreatDoorSOVGA
import Derived.Test.YtemamcbdjfabnaaGreatDoorSOPVGx0
import Derived.Test.YtemamcbdjfabnaaGreatDoorSOPVGx2
import Derived.Test.YtemamcbdjfabnaaGreatDoorSOPVGx13
import Derived.Test.YtemamcbdjfabnaaGreatDoorSOPVGx15
import Derived.Test.YtemamcbdjfabnaaGreatDoorSOVLM
import Derived.Test.YtemamcbdjfabnaaGreatDoorSOPVGx21
-- Laid by this session's wip/pr.py over the kit's printer and the session's own contracts.
namespace Go.Proofs.YtemamcbdjfabnaaGreatDoor.PVG
open Go.RowKit Go.Proofs.YtemamcbdjfabnaaGreatDoorW.PrintWords Go.Proofs.YtemamcbdjfabnaaGreatDoorW.PrintLast Go.Proofs.YtemamcbdjfabnaaGreatDoorW.PrintMore
attribute [local go_sem] max2_int min2_int max_two min_two max_three min_three max_four min_four   -- for this text's walks alone
set_option linter.unusedVariables false
set_option linter.unusedSimpArgs false

/-! ### impl_TextOf: function 14, a contract by hand -/
end Go.Proofs.YtemamcbdjfabnaaGreatDoor.PVG
-- Laid by this session's wip/pr.py over the kit's printer and the session's own contracts.
namespace Go.Proofs.YtemamcbdjfabnaaGreatDoor.PVG
open Go.RowKit Go.Proofs.YtemamcbdjfabnaaGreatDoorW.PrintWords Go.Proofs.YtemamcbdjfabnaaGreatDoorW.PrintLast Go.Proofs.YtemamcbdjfabnaaGreatDoorW.PrintMore
attribute [local go_sem] max2_int min2_int max_two min_two max_three min_three max_four min_four   -- for this text's walks alone
set_option linter.unusedVariables false
set_option linter.unusedSimpArgs false

/-! ### laws_FnExactTextOf: function 3 -/
end Go.Proofs.YtemamcbdjfabnaaGreatDoor.PVG
/- The laws of SubOf and TextOf: the pure side. Conditions: none. -/
namespace Go.Proofs.YtemamcbdjfabnaaGreatDoor.VT
open Go.RowKit Go.Proofs.YtemamcbdjfabnaaGreatDoor.PVG Go.Proofs.YtemamcbdjfabnaaGreatDoorW.PrintWords
set_option linter.unusedVariables false
set_option linter.unusedSimpArgs false
theorem ofS_tree (t : Tr) : ofS ⟨t.kd, t.nu, t.tx, t.ns, toSL t.ks⟩ = t := by
  cases t
  simp only [Tr.kd, Tr.nu, Tr.tx, Tr.ns, Tr.ks]
  rw [ofS, ofSL_toSL]
theorem l1Of_f {t : Tr} (hf : fit t = true) (hn : cnt t ≤ 1073741824) : spec_l1Of.f t.kd t.nu t.tx t.ns (toSL t.ks) = some (flat t nil_ (-1) 0) := by
  unfold spec_l1Of.f
  rw [ofS_tree, if_pos ⟨hf, hn⟩]
theorem isub_f {l : List S54} (a : Int) (hl : l.length ≤ 1073741824) : impl_SubOf.f l a = some (subP l a) := by
  unfold impl_SubOf.f
  rw [if_pos hl]
theorem ssub_ev {l : List S54} (a : Int) (h : Small l) : Ev (fun k => spec_SubOf.f k l a) (subP l a) := by
  have hl := h.1
  have hw : wrap64 ((l.length : Int) - 1) = (l.length : Int) - 1 := by unfold wrap64; omega
  have bad : Ev (fun k => spec_SubOf.j0 k a true l) (([] : List S54), false) := Ev.step (f := fun _ => some (([] : List S54), false)) (fun k => by rw [spec_SubOf.j0, if_pos rfl]) (Ev.now _)
  unfold spec_SubOf.f
  refine Ev.bind (good_ev h) ?_
  rw [hw, in_f]
  simp only [Option.bind_some]
  cases hv : (valT l).isSome with
  | false =>
    simp only [Bool.false_eq_true, if_false]
    rw [subP_no hv]; exact bad
  | true =>
    simp only [if_true]
    by_cases hr : 0 ≤ a ∧ a ≤ (l.length : Int) - 1
    · obtain ⟨n, rfl⟩ : ∃ n : Nat, a = n := ⟨a.toNat, by omega⟩
      have hn : n < l.length := by omega
      obtain ⟨t0, hvt⟩ := Option.isSome_iff_exists.1 hv
      obtain ⟨u, nm, up, hu, hpu⟩ := sub_at hvt n hn
      have e : inB (n : Int) 0 ((l.length : Int) - 1) = true := by unfold inB; simp; omega
      rw [e, subP_at hv hn hpu]
      have hc : cnt u ≤ 1073741824 := by have := hu.lt; omega
      refine Ev.step (f := fun k => (spec_l1Tree.f k l n).bind fun bt => (spec_l1Of.f bt.1 bt.2.1 bt.2.2.1 bt.2.2.2.1 bt.2.2.2.2).bind fun t => some (t, true)) (fun k => by rw [spec_SubOf.j0, if_neg (by simp)]) (Ev.bind (tree_ev u hu) ?_)
      simp only [l1Of_f (wf_fit u hu.wf_) hc, Option.bind_some]
      exact Ev.now _
    · have e : inB a 0 ((l.length : Int) - 1) = false := by unfold inB; simp; omega
      rw [e, subP_out hr]; exact bad
theorem subP_len {l : List S54} (a : Int) : (subP l a).1.length ≤ l.length := by
  cases hv : (valT l).isSome with
  | false => rw [subP_no hv]; simp
  | true =>
    by_cases hr : 0 ≤ a ∧ a ≤ (l.length : Int) - 1
    · obtain ⟨n, rfl⟩ : ∃ n : Nat, a = n := ⟨a.toNat, by omega⟩
      have hn : n < l.length := by omega
      obtain ⟨t0, hvt⟩ := Option.isSome_iff_exists.1 hv
      obtain ⟨u, nm, up, hu, hpu⟩ := sub_at hvt n hn
      rw [subP_at hv hn hpu, flat_len]
      have := hu.lt
      omega
    · rw [subP_out hr]; simp
theorem subLaw_ev {l : List S90} (hf : Fits l) (a : Int) : Ev (fun k => laws_FnExactSubOf.f k l a) true := by
  obtain ⟨r, hz, hr⟩ := sz_ev hf
  unfold laws_FnExactSubOf.f
  refine Ev.bind hz ?_
  by_cases hr0 : r < 0
  · simp only [if_pos hr0]; exact Ev.now _
  · simp only [if_neg hr0]
    obtain ⟨hS, hL⟩ := hr (by omega)
    have hL3 : (tov l).length ≤ 1048576 := by rw [tov_len]; exact hL
    have hL2 : (tov l).length ≤ 1073741824 := by omega
    have hK := subP_len (l := tov l) a
    have hT := to_ev hL
    have hQ := eq_ev (l := (subP (tov l) a).1) (by omega)
    obtain ⟨yx, _, hmx, _⟩ := markV_ev (tov l) hL2 1 (by omega)
    obtain ⟨y, _, hm, hh⟩ := markV_ev (subP (tov l) a).1 (by omega) 1 (by omega)
    have hI := isub_f (l := tov l) a hL2
    refine Ev.bind hT (Ev.bind (ssub_ev a hS) (Ev.bind hT ?_))
    rw [hI]
    simp only [Option.bind_some]
    refine Ev.bind hQ ?_
    simp only [if_true, bne_self_eq_false]
    refine Ev.step (f := fun k => _) (fun k => by rw [laws_FnExactSubOf.j0, if_neg (by simp)]) ?_
    refine Ev.bind hT (Ev.bind (eq_ev hL3) ?_)
    simp only [if_true]
    refine Ev.bind hmx ?_
    simp only [if_neg (show ¬ ((1 : Int) + 5 * ((tov l).length : Int) < 0) by omega)]
    refine Ev.bind hQ ?_
    simp only [if_true, bne_self_eq_false]
    refine Ev.step (f := fun k => _) (fun k => by rw [laws_FnExactSubOf.j1, if_neg (by simp)]) ?_
    refine Ev.bind hm (Ev.bind hh ?_)
    simp only [if_neg (show ¬ ((1 : Int) + 5 * ((subP (tov l) a).1.length : Int) < 0) by omega), if_true]
    refine Ev.bind hT ?_
    rw [hI]
    simp only [Option.bind_some]
    refine Ev.bind hQ ?_
    simp only [if_true, bne_self_eq_false]
    refine Ev.step (f := fun k => _) (fun k => by rw [laws_FnExactSubOf.j2, if_neg (by simp)]) ?_
    refine Ev.bind hh ?_
    simp only [if_neg (show ¬ ((1 : Int) + 5 * ((subP (tov l) a).1.length : Int) < 0) by omega), if_true]
    exact Ev.now _
theorem sub_law (A : Option Addr) (c : Nat) (l : List S90) (a : Int) (w : World) (ht : HT w) (hf : Fits l) (hr : Kd.C k90 w A l.length l) (hc : l.length ≤ c) :
    Calls Tryz.prog 12 #[.agg #[.slice A l.length c], .int .i64 a] w fun e w' => e = .returned (.bool true) ∧ Below w.heap.size w w' := by
  obtain ⟨k, hk⟩ := (subLaw_ev hf a).rounds
  exact laws_FnExactSubOf.calls k A c l a w ht hr hc hk
end Go.Proofs.YtemamcbdjfabnaaGreatDoor.VT
