import Derived.Test.YtemamcbdjfabnaaGreatDoorICVLA
/- The laws' helpers as contracts; the law of GoodValue walked. Conditions: the powers of ten stand in memory. -/
namespace Go.Proofs.YtemamcbdjfabnaaGreatDoor.VT
open Go.RowKit Go.Proofs.YtemamcbdjfabnaaGreatDoor.PVG Go.Proofs.YtemamcbdjfabnaaGreatDoorW.PrintWords Go.Proofs.YtemamcbdjfabnaaGreatDoorW.PrintLast Go.Proofs.YtemamcbdjfabnaaGreatDoorW.PrintMore
set_option linter.unusedVariables false
set_option linter.unusedSimpArgs false
theorem sz_c {l : List S90} (hf : Fits l) : ∃ r : Int, (0 ≤ r → Small (tov l) ∧ l.length ≤ 1048576) ∧ ∀ (A : Option Addr) (c : Nat) (w : World), Kd.C k90 w A l.length l → l.length ≤ c →
    Calls Tryz.prog 18 #[.agg #[.slice A l.length c], .int .i64 1048576] w fun e w' => e = .returned (.int .i64 r) ∧ Below w.heap.size w w' := by
  obtain ⟨r, h1, h2⟩ := sz_ev hf
  obtain ⟨k, hk⟩ := h1.rounds
  exact ⟨r, h2, fun A c w hr hc => laws_szValue.calls k A c l 1048576 r w hr hc hk⟩
theorem to_c {l : List S90} (hl : l.length ≤ 1048576) (A : Option Addr) (c : Nat) (w : World) (hr : Kd.C k90 w A l.length l) (hc : l.length ≤ c) :
    Calls Tryz.prog 20 #[.agg #[.slice A l.length c]] w fun e w' => ∃ B d, e = .returned (.agg #[.slice B (tov l).length d]) ∧ (tov l).length ≤ d ∧ Kd.C k54 w' B (tov l).length (tov l) ∧ Below w.heap.size w w' := by
  obtain ⟨k, hk⟩ := (to_ev hl).rounds
  refine (laws_toValue.calls k A c l _ w hr hc hk).mono fun e w' h => ?_
  obtain ⟨v0, rfl, ho, hb⟩ := h
  obtain ⟨B, d, rfl⟩ := Kd.R_slice ho
  exact ⟨B, d, rfl, (Kd.R_reads' ho).2.1, (Kd.R_reads' ho).2.2, hb⟩
theorem eq_c {l : List S54} (hl : l.length ≤ 1048576) (A : Option Addr) (c : Nat) (B : Option Addr) (d : Nat) (w : World) (hr : Kd.C k54 w A l.length l) (hc : l.length ≤ c) (hs : Kd.C k54 w B l.length l) (hd : l.length ≤ d) :
    Calls Tryz.prog 15 #[.agg #[.slice A l.length c], .agg #[.slice B l.length d]] w fun e w' => e = .returned (.bool true) ∧ Below w.heap.size w w' := by
  obtain ⟨k, hk⟩ := (eq_ev hl).rounds
  exact laws_eqValue.calls k A c l B d l true w hr hc hs hd hk
end Go.Proofs.YtemamcbdjfabnaaGreatDoor.VT
