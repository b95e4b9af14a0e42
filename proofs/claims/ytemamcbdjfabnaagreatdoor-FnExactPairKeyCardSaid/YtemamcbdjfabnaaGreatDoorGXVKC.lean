import Derived.Test.YtemamcbdjfabnaaGreatDoorGXVKB
/- KeyOf: the program's, the reference's. Conditions: the powers of ten stand in memory; texts of moderate size. -/
namespace Go.Proofs.YtemamcbdjfabnaaGreatDoor.VT
open Go.RowKit Go.Proofs.YtemamcbdjfabnaaGreatDoor.PVG Go.Proofs.YtemamcbdjfabnaaGreatDoorW.PrintWords Go.Proofs.YtemamcbdjfabnaaGreatDoorW.PrintLast Go.Proofs.YtemamcbdjfabnaaGreatDoorW.PrintMore
set_option linter.unusedVariables false
set_option linter.unusedSimpArgs false
theorem skey_c {l : List S54} (hs : Small l) (A : Option Addr) (c : Nat) (w : World) (hr : Kd.C k54 w A l.length l) (hc : l.length ≤ c) :
    Calls Tryz.prog 26 #[.agg #[.slice A l.length c]] w fun e w' => e = .returned (.tuple #[.string (match valT l with | none => nil_ | some t => ofL (keyL t)), .bool (valT l).isSome]) ∧ Below w.heap.size w w' := by
  obtain ⟨k, hk⟩ := (keyOf_ev hs).rounds
  exact spec_KeyOf.calls k A c l _ _ w hr hc hk
set_option maxRecDepth 100000 in
set_option maxHeartbeats 4000000 in
theorem keyOf_c (l : List S54) (A : Option Addr) (c : Nat) (w : World) (ht : HT w) (hr : Kd.C k54 w A l.length l) (hc : l.length ≤ c) : Calls Tryz.prog 27 #[.agg #[.slice A l.length c]] w fun e w' => e = .returned (.tuple #[.string (match valT l with | none => nil_ | some t => ofL (keyL t)), .bool (valT l).isSome]) ∧ Below w.heap.size w w' := by
  have B0 := Aside0.mk (below_alloc (Below.refl w.heap.size w) (.cells #[.slice A l.length c] 24))
  have HV := Aside0.mk (valOf_c l A c _ (ht.below B0.out) (Kd.C_below hr B0.out) hc)
  have GT := Aside0.mk (show ∀ t, valT l = some t → wf t = true ∧ cnt t ≤ 1073741824 from fun t h => valT_wf h)
  clear ht hr hc
  cases hp : valT l with
  | none =>
    have HP := Aside0.mk hp
    clear hp
    go_enter Tryz.func27, Tryz.ntmps27
    go_wp2_with (first | (go_at_call 50; (with_reducible refine (VoPost.no HV.out HP.out).mono ?_); rintro e w2 ⟨rfl, hb⟩; have B2 := Aside0.mk (below_step B0.out hb); clear hb))
    go_ret2
    exact ⟨rfl, B2.out⟩
  | some t =>
    have HP := Aside0.mk hp
    have FT := Aside0.mk (And.intro (wf_fit t (GT.out t hp).1) (GT.out t hp).2)
    clear hp
    go_enter Tryz.func27, Tryz.ntmps27
    go_wp2_with (first | (go_at_call 50; (with_reducible refine (VoPost.yes HV.out HP.out).mono ?_); rintro e w2 ⟨g, rfl, hb, hv⟩; have B2 := Aside0.mk (below_step B0.out hb); have V2 := Aside0.mk hv; clear hb hv) | (go_at_call 56; (with_reducible refine ((key_c t).go _ g V2.out FT.out.1 FT.out.2).mono ?_); rintro e w3 ⟨rfl, hb⟩; have B3 := Aside0.mk (below_step B2.out hb); clear hb))
    go_ret2
    exact ⟨rfl, B3.out⟩
end Go.Proofs.YtemamcbdjfabnaaGreatDoor.VT
