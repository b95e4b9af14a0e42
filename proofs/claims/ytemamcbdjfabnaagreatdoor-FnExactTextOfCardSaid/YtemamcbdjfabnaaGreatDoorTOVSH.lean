import Derived.Test.YtemamcbdjfabnaaGreatDoorTOVCA
import Derived.WalkLawsBesides
import Derived.RegionTactic
import Derived.ChangeAlike
/- spec.l1Shape, walked. Conditions: at most 2^30 nodes, texts of at most 2^30 bytes. -/
namespace Go.Proofs.YtemamcbdjfabnaaGreatDoor.VT
open Go.RowKit Go.Proofs.YtemamcbdjfabnaaGreatDoor.PVG Go.Proofs.YtemamcbdjfabnaaGreatDoorW.PrintWords Go.Proofs.YtemamcbdjfabnaaGreatDoorW.PrintLast Go.Proofs.YtemamcbdjfabnaaGreatDoorW.PrintMore
set_option linter.unusedVariables false
set_option linter.unusedSimpArgs false
section
variable {α : Type} {enc : α → Value} {h1 : ∀ x, (enc x).oneCell' = true} {e base g n cap : Nat} {W : World} {ok : Nat → Prop} {xs : List α}
end
/-- What the look holds: three rows of its own, the box of the value. -/
structure Sh (w : World) (A : Option Addr) (c : Nat) (l : List S54) (gb g3 c3 g4 c4 g5 c5 : Nat) (d : List Int) (la : List ByteArray) (so : List Bool) (W : World) : Prop where
  r3 : Kd.R (Kd.int .i64) 3 W w.heap.size (fun _ => True) (.slice (some ⟨g3, 0, none⟩) l.length c3) d
  r4 : Kd.R Kd.string 9 W w.heap.size (fun _ => True) (.slice (some ⟨g4, 0, none⟩) l.length c4) la
  r5 : Kd.R Kd.bool 4 W w.heap.size (fun _ => True) (.slice (some ⟨g5, 0, none⟩) l.length c5) so
  bk : W.heap[gb]? = some (.cells #[.slice A l.length c] 24 (0, 0))
  ge : w.heap.size ≤ gb
  bel : Below w.heap.size w W
section
variable {w W W' : World} {A : Option Addr} {c : Nat} {l : List S54} {gb g3 c3 g4 c4 g5 c5 : Nat} {d : List Int} {la : List ByteArray} {so : List Bool}
theorem Sh.below (h : Sh w A c l gb g3 c3 g4 c4 g5 c5 d la so W) (hb : Below W.heap.size W W') : Sh w A c l gb g3 c3 g4 c4 g5 c5 d la so W' :=
  ⟨Kd.R_below h.r3 hb, Kd.R_below h.r4 hb, Kd.R_below h.r5 hb, blk_below h.bk hb, h.ge, below_step h.bel hb⟩
theorem Sh.drew (h : Sh w A c l gb g3 c3 g4 c4 g5 c5 d la so W) : Sh w A c l gb g3 c3 g4 c4 g5 c5 d la so W.drew := h.below (below_drew1 (Below.refl _ _))
theorem Sh.drewN (h : Sh w A c l gb g3 c3 g4 c4 g5 c5 d la so W) (n : Nat) : Sh w A c l gb g3 c3 g4 c4 g5 c5 d la so (W.drewN n) := h.below (pw_below_drewN (Below.refl _ _) n)
theorem Sh.alloc (h : Sh w A c l gb g3 c3 g4 c4 g5 c5 d la so W) (o : Obj) : Sh w A c l gb g3 c3 g4 c4 g5 c5 d la so (W.alloc o) := h.below (below_alloc (Below.refl _ _) o)
theorem Sh.ty {g t : Nat} {cs : Array Value} (h : Sh w A c l gb g3 c3 g4 c4 g5 c5 d la so W) (hg : W.heap[g]? = some (.cells cs t (0, 0))) (h0 : w.heap.size ≤ g) (ht : t ≠ 3 ∧ t ≠ 9 ∧ t ≠ 4) (hne : g ≠ gb) (j : Nat) (u : Value) : Sh w A c l gb g3 c3 g4 c4 g5 c5 d la so (W.setCell ⟨g, j, none⟩ u) :=
  ⟨Kd.R_set h.r3 hg (by intro q hq; simp [Kd.int, Kd.scalar] at hq; omega) j u, Kd.R_set h.r4 hg (by intro q hq; simp [Kd.string, Kd.scalar] at hq; omega) j u, Kd.R_set h.r5 hg (by intro q hq; simp [Kd.bool, Kd.scalar] at hq; omega) j u, blk_far h.bk hne.symm u, h.ge, below_set h.bel h0⟩
theorem Sh.row3 (h : Sh w A c l gb g3 c3 g4 c4 g5 c5 d la so W) : w.heap.size ≤ g3 ∧ ∃ cs, W.heap[g3]? = some (.cells cs 3 (0, 0)) := by
  obtain ⟨inner, ho⟩ := Kd.R_own h.r3
  exact ⟨own_base ho g3 rfl, own_typed ho g3 rfl⟩
theorem Sh.row4 (h : Sh w A c l gb g3 c3 g4 c4 g5 c5 d la so W) : w.heap.size ≤ g4 ∧ ∃ cs, W.heap[g4]? = some (.cells cs 9 (0, 0)) := by
  obtain ⟨inner, ho⟩ := Kd.R_own h.r4
  exact ⟨own_base ho g4 rfl, own_typed ho g4 rfl⟩
theorem Sh.k3 {gn : Nat} {cs : Array Value} (h : Sh w A c l gb g3 c3 g4 c4 g5 c5 d la so W) (hK : W.heap[gn]? = some (.cells cs 54 (0, 0))) (i : Nat) (u : Value) : (W.setCell ⟨g3, i, none⟩ u).heap[gn]? = some (.cells cs 54 (0, 0)) := by
  obtain ⟨_, cs', hg⟩ := h.row3
  exact blk_far hK (blk_ne hK hg (by decide)) u
theorem Sh.k4 {gn : Nat} {cs : Array Value} (h : Sh w A c l gb g3 c3 g4 c4 g5 c5 d la so W) (hK : W.heap[gn]? = some (.cells cs 54 (0, 0))) (i : Nat) (u : Value) : (W.setCell ⟨g4, i, none⟩ u).heap[gn]? = some (.cells cs 54 (0, 0)) := by
  obtain ⟨_, cs', hg⟩ := h.row4
  exact blk_far hK (blk_ne hK hg (by decide)) u
end
end Go.Proofs.YtemamcbdjfabnaaGreatDoor.VT
