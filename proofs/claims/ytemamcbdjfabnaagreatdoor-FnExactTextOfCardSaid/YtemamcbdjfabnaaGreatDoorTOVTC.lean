import Derived.Test.YtemamcbdjfabnaaGreatDoorTOVTB
/- The reference's look at nodes: what it says, node by node. Conditions: none. -/
namespace Go.Proofs.YtemamcbdjfabnaaGreatDoor.VT
open Go.Proofs.YtemamcbdjfabnaaGreatDoor.PVG Go.Proofs.YtemamcbdjfabnaaGreatDoorW.PrintWords
set_option linter.unusedVariables false
set_option linter.unusedSimpArgs false
def badN (x : S54) : Bool := !(inB x.f0 1 7) || (x.f0 != 4 && x.f1 != 0) || !(inB x.f1 (-1000000000) 1000000000) || (x.f0 != 5 && !emp x.f2) || !prt x.f2 || !prt x.f3
/-- u lies on the way up from a. -/
inductive Ch (l : List S54) : Int → Int → Prop where
  | here (a : Int) : Ch l a a
  | up (a u : Int) (h0 : 0 ≤ a) (h : Ch l (nd l a.toNat).f4 u) : Ch l a u
/-- How many lists and maps node i lies within, itself told. -/
inductive Dep (l : List S54) : Nat → Int → Prop where
  | root : Dep l 0 (hN (nd l 0).f0)
  | step (i : Nat) (d : Int) (h0 : 0 < i) (h : Dep l (nd l i).f4.toNat d) : Dep l i (hN (nd l i).f0 + d)
/-- Node c is the part of u that stands last ahead of i. -/
structure Prev (l : List S54) (u : Int) (i c : Nat) : Prop where
  lt : c < i
  pos : 0 < c
  up : (nd l c).f4 = u
  no : ∀ j, c < j → j < i → (nd l j).f4 ≠ u
/-- What the look asks of node i. -/
structure Cond (l : List S54) (i : Nat) : Prop where
  good : badN (nd l i) = false
  root : i = 0 → (nd l i).f4 = -1 ∧ emp (nd l i).f3 = true
  ge : 0 < i → 0 ≤ (nd l i).f4
  lt : 0 < i → (nd l i).f4 < i
  holds : 0 < i → holdsB (nd l (nd l i).f4.toNat).f0 = true
  way : 0 < i → Ch l ((i : Int) - 1) (nd l i).f4
  rise : 0 < i → (nd l (nd l i).f4.toNat).f0 = 7 → ∀ c, Prev l (nd l i).f4 i c → VT.lt (nd l c).f3 (nd l i).f3 = true
  none : 0 < i → (nd l (nd l i).f4.toNat).f0 ≠ 7 → emp (nd l i).f3 = true
  deep : ∃ d, Dep l i d ∧ d ≤ 6
/-- What the look knows when it comes to node i. -/
structure St (l : List S54) (i : Nat) (d : List Int) (la : List ByteArray) (so : List Bool) : Prop where
  ld : d.length = l.length
  ll : la.length = l.length
  ls : so.length = l.length
  dd : ∀ j, j < i → Dep l j (d.getD j 0)
  d0 : ∀ j, i ≤ j → d.getD j 0 = 0
  no : ∀ j, j < i → (nd l j).f0 = 7 → so.getD j false = false → ∀ c, ¬ Prev l j i c
  some_ : ∀ j, so.getD j false = true → ∃ c, Prev l j i c ∧ la.getD j nil_ = (nd l c).f3
  so7 : ∀ j, so.getD j false = true → (nd l j).f0 = 7
end Go.Proofs.YtemamcbdjfabnaaGreatDoor.VT
