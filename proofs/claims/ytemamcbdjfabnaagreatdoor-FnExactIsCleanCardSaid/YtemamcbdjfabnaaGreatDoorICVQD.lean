import Derived.Test.YtemamcbdjfabnaaGreatDoorICVQB
/- IsClean: the program's, over what cleaning answers; the reference's. Conditions: the powers of ten stand in memory; texts of moderate size. -/
namespace Go.Proofs.YtemamcbdjfabnaaGreatDoor.VT
open Go.RowKit Go.Proofs.YtemamcbdjfabnaaGreatDoor.PVG Go.Proofs.YtemamcbdjfabnaaGreatDoorW.PrintWords Go.Proofs.YtemamcbdjfabnaaGreatDoorW.PrintLast Go.Proofs.YtemamcbdjfabnaaGreatDoorW.PrintMore
set_option linter.unusedVariables false
set_option linter.unusedSimpArgs false
theorem sclean_c {l : List S54} (hs : Small l) (A : Option Addr) (c : Nat) (w : World) (hr : Kd.C k54 w A l.length l) (hc : l.length ≤ c) :
    Calls Tryz.prog 35 #[.agg #[.slice A l.length c]] w fun e w' => e = .returned (.tuple #[.bool (match valT l with | none => false | some t => isClean t), .bool (valT l).isSome]) ∧ Below w.heap.size w w' := by
  obtain ⟨k, hk⟩ := (isClean_ev hs).rounds
  exact spec_IsClean.calls k A c l _ _ w hr hc hk
set_option maxRecDepth 100000 in
set_option maxHeartbeats 4000000 in
theorem isClean_c' (hcl : ∀ t, ClCall t) (l : List S54) (A : Option Addr) (c : Nat) (w : World) (ht : HT w) (hr : Kd.C k54 w A l.length l) (hc : l.length ≤ c) : Calls Tryz.prog 36 #[.agg #[.slice A l.length c]] w fun e w' => e = .returned (.tuple #[.bool (match valT l with | none => false | some t => isClean t), .bool (valT l).isSome]) ∧ Below w.heap.size w w' := by
  have B0 := Aside0.mk (below_alloc (Below.refl w.heap.size w) (.cells #[.slice A l.length c] 24))
  have HV := Aside0.mk (valOf_c l A c _ (ht.below B0.out) (Kd.C_below hr B0.out) hc)
  have GT := Aside0.mk (show ∀ t, valT l = some t → wf t = true ∧ cnt t ≤ 1073741824 from fun t h => valT_wf h)
  clear ht hr hc
  cases hp : valT l with
  | none =>
    have HP := Aside0.mk hp
    clear hp
    go_enter Tryz.func36, Tryz.ntmps36
    go_wp2_with (first | (go_at_call 50; (with_reducible refine (VoPost.no HV.out HP.out).mono ?_); rintro e w2 ⟨rfl, hb⟩; have B2 := Aside0.mk (below_step B0.out hb); clear hb))
    go_ret2
    exact ⟨rfl, B2.out⟩
  | some t =>
    have HP := Aside0.mk hp
    have FT := Aside0.mk (And.intro (wf_fit t (GT.out t hp).1) (GT.out t hp).2)
    have FC := Aside0.mk (clean_fit t FT.out.1)
    have FN := Aside0.mk (show cnt (cleanT t) ≤ 1073741824 by have := FC.out.2; have := FT.out.2; omega)
    have CI := Aside0.mk (clean_iff t (GT.out t hp).1)
    have CL := Aside0.mk (show ∀ W g, IsV W g t → Calls Tryz.prog 61 #[.pointer (some ⟨g, 0, none⟩)] W fun e w' => ∃ g', e = .returned (.pointer (some ⟨g', 0, none⟩)) ∧ IsV w' g' (cleanT t) ∧ Below W.heap.size W w' from
      fun W g hv => (hcl t W g _ (IsV.in_ t hv) (fun k hk => hk) FT.out.1 FT.out.2).mono fun e w' h => by
        obtain ⟨g', e1, e2, e3⟩ := h
        exact ⟨g', e1, e2.is, e3⟩)
    clear hp
    go_enter Tryz.func36, Tryz.ntmps36
    go_wp2_with (first | (go_at_call 50; (with_reducible refine (VoPost.yes HV.out HP.out).mono ?_); rintro e w2 ⟨g, rfl, hb, hv⟩; have B2 := Aside0.mk (below_step B0.out hb); have V2 := Aside0.mk hv; clear hb hv) | (go_at_call 61; (with_reducible refine (CL.out _ g V2.out).mono ?_); rintro e w3 ⟨g3, rfl, hv, hb⟩; have B3 := Aside0.mk (below_step B2.out hb); have V3 := Aside0.mk hv; have V23 := Aside0.mk (V2.out.below hb); clear hb hv) | (go_at_call 62; (with_reducible refine (same_c (cleanT t) t _ g3 g V3.out V23.out FC.out.1 FT.out.1 FN.out FT.out.2).mono ?_); rintro e w4 ⟨rfl, hb⟩; rw [CI.out]; have B4 := Aside0.mk (below_step B3.out hb); clear hb))
    go_ret2
    exact ⟨rfl, B4.out⟩
end Go.Proofs.YtemamcbdjfabnaaGreatDoor.VT
