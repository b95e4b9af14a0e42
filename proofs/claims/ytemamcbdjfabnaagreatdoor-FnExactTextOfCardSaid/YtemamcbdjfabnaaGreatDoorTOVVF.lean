import Derived.Test.YtemamcbdjfabnaaGreatDoorTOVK
import Derived.Test.YtemamcbdjfabnaaGreatDoorTOVCA
import Derived.Deep.DeepCutAuto
import Derived.WalkLawsBesides
/- impl.valFrom, walked. Conditions: at most 2^30 nodes. -/
namespace Go.Proofs.YtemamcbdjfabnaaGreatDoor.VT
open Go.RowKit Go.Proofs.YtemamcbdjfabnaaGreatDoor.PVG Go.Proofs.YtemamcbdjfabnaaGreatDoorW.PrintWords Go.Proofs.YtemamcbdjfabnaaGreatDoorW.PrintLast Go.Proofs.YtemamcbdjfabnaaGreatDoorW.PrintMore
set_option linter.unusedVariables false
set_option linter.unusedSimpArgs false
/-- What reading a tree holds: the node's box, the struct, its row of names, its row of parts. -/
structure VF (w : World) (b8 g : Nat) (x : S54) (A3 : Option Addr) (c3 : Nat) (A4 : Option Addr) (c4 : Nat) (ns : List ByteArray) (ks : List Tr) (W : World) : Prop where
  bel : Below w.heap.size w W
  g8 : w.heap.size ≤ b8
  gg : w.heap.size ≤ g
  ne : b8 ≠ g
  k8 : W.heap[b8]? = some (.cells #[.int .i64 x.f0, .int .i64 x.f1, .string x.f2, .string x.f3, .int .i64 x.f4] 54 (0, 0))
  kg : W.heap[g]? = some (.cells #[.int .i64 x.f0, .int .i64 x.f1, .string x.f2, .slice A3 ns.length c3, .slice A4 ks.length c4] 59 (0, 0))
  r3 : Kd.R Kd.string 9 W w.heap.size (fun j => j ≠ g) (.slice A3 ns.length c3) ns
  r4 : kP.R 55 W w.heap.size (fun j => j ≠ g ∧ some j ≠ (Value.slice A3 ns.length c3).ownBlock) (.slice A4 ks.length c4) ks
section
variable {w W W' : World} {b8 g : Nat} {x : S54} {A3 A4 : Option Addr} {c3 c4 : Nat} {ns : List ByteArray} {ks : List Tr}
theorem VF.below (h : VF w b8 g x A3 c3 A4 c4 ns ks W) (hb : Below W.heap.size W W') : VF w b8 g x A3 c3 A4 c4 ns ks W' :=
  ⟨below_step h.bel hb, h.g8, h.gg, h.ne, blk_below h.k8 hb, blk_below h.kg hb, Kd.R_below h.r3 hb, Kd.R_below h.r4 hb⟩
theorem VF.cells (h : VF w b8 g x A3 c3 A4 c4 ns ks W) : W.cell? ⟨g, 3, none⟩ = some (.slice A3 ns.length c3) ∧ W.cell? ⟨g, 4, none⟩ = some (.slice A4 ks.length c4) ∧ W.frozen? ⟨g, 3, none⟩ = false ∧ W.frozen? ⟨g, 4, none⟩ = false :=
  ⟨(blk_cell h.kg 3).trans rfl, (blk_cell h.kg 4).trans rfl, blk_frozen h.kg 3, blk_frozen h.kg 4⟩
/-- A name is appended and stored back. -/
theorem VF.name (h : VF w b8 g x A3 c3 A4 c4 ns ks W) {s : ByteArray} {A3' : Option Addr} {c3' : Nat} (ho : Kd.R Kd.string 9 W' w.heap.size (fun j => j ≠ g) (.slice A3' (ns ++ [s]).length c3') (ns ++ [s])) (hb : Below w.heap.size W W') (hg : W.grownBy W' (Value.slice A3 ns.length c3).ownBlock)
    (hat : (Value.slice A3' (ns ++ [s]).length c3').ownBlock = (Value.slice A3 ns.length c3).ownBlock ∨ ∃ b, (Value.slice A3' (ns ++ [s]).length c3').ownBlock = some b ∧ W.heap.size ≤ b) :
    VF w b8 g x A3' c3' A4 c4 (ns ++ [s]) ks (W'.setCell ⟨g, 3, none⟩ (.slice A3' (ns.length + 1) c3')) := by
  rw [show ns.length + 1 = (ns ++ [s]).length by simp]
  have k8 := blk_grown h.k8 hg (Kd.R_ne h.r3 h.k8 (by decide))
  have kg := blk_grown h.kg hg (Kd.R_ne h.r3 h.kg (by decide))
  refine ⟨below_set (below_weaken h.bel (Nat.le_refl _) hb) h.gg, h.g8, h.gg, h.ne, blk_far k8 h.ne _, ?_, Kd.R_far ho (fun _ hk => hk) _, Kd.R_far (Kd.R_after h.r4 hg hat) (fun _ hk => hk.1) _⟩
  have := blk_set kg 3 (.slice A3' (ns ++ [s]).length c3')
  simpa using this
end
def VPost (l : List S54) (k : Nat) (up : Int) (w : World) (e : Ending) (w' : World) : Prop :=
  Below w.heap.size w w' ∧ ((par l k up = none ∧ e = .returned (.tuple #[.pointer none, .int .i64 0])) ∨ ∃ t e2 g, par l k up = some (t, e2) ∧ e = .returned (.tuple #[.pointer (some ⟨g, 0, none⟩), .int .i64 (e2 : Nat)]) ∧ kP.M w' w.heap.size (fun _ => True) t [.pointer (some ⟨g, 0, none⟩)])
theorem VPost.none {l : List S54} {k : Nat} {up : Int} {w w' : World} (h : par l k up = none) (hb : Below w.heap.size w w') : VPost l k up w (.returned (.tuple #[.pointer none, .int .i64 0])) w' := ⟨hb, .inl ⟨h, rfl⟩⟩
theorem VPost.some {l : List S54} {k : Nat} {up : Int} {w w' : World} {t : Tr} {e2 g : Nat} (h : par l k up = .some (t, e2)) (hb : Below w.heap.size w w') (hM : kP.M w' w.heap.size (fun _ => True) t [.pointer (.some ⟨g, 0, .none⟩)]) : VPost l k up w (.returned (.tuple #[.pointer (.some ⟨g, 0, .none⟩), .int .i64 (e2 : Nat)])) w' := ⟨hb, .inr ⟨t, e2, g, h, rfl, hM⟩⟩
theorem VPost.no {l : List S54} {k : Nat} {up : Int} {w : World} {xs : Array Value} (h : Calls Tryz.prog 66 xs w (VPost l k up w)) (hp : par l k up = .none) : Calls Tryz.prog 66 xs w fun e w' => e = .returned (.tuple #[.pointer .none, .int .i64 0]) ∧ Below w.heap.size w w' :=
  h.mono fun e w' hq => by
    obtain ⟨hb, ⟨_, rfl⟩ | ⟨t, e2, g, h2, _⟩⟩ := hq
    · exact ⟨rfl, hb⟩
    · rw [hp] at h2; cases h2
theorem VPost.yes {l : List S54} {k : Nat} {up : Int} {w : World} {xs : Array Value} {t : Tr} {e2 : Nat} (h : Calls Tryz.prog 66 xs w (VPost l k up w)) (hp : par l k up = .some (t, e2)) : Calls Tryz.prog 66 xs w fun e w' => ∃ g, e = .returned (.tuple #[.pointer (.some ⟨g, 0, .none⟩), .int .i64 (e2 : Nat)]) ∧ Below w.heap.size w w' ∧ kP.M w' w.heap.size (fun _ => True) t [.pointer (.some ⟨g, 0, .none⟩)] :=
  h.mono fun e w' hq => by
    obtain ⟨hb, ⟨h2, _⟩ | ⟨t', e2', g, h2, rfl, hM⟩⟩ := hq
    · rw [hp] at h2; cases h2
    · rw [hp] at h2
      cases h2
      exact ⟨g, rfl, hb, hM⟩
end Go.Proofs.YtemamcbdjfabnaaGreatDoor.VT
