import Derived.Test.YtemamcbdjfabnaaGreatDoorTOVTA
/- Reading nodes as a tree: what is read lies there, and what lies there is read. Conditions: none. -/
namespace Go.Proofs.YtemamcbdjfabnaaGreatDoor.VT
open Go.Proofs.YtemamcbdjfabnaaGreatDoor.PVG
set_option linter.unusedVariables false
set_option linter.unusedSimpArgs false
def nd (l : List S54) (k : Nat) : S54 := l.getD k z54
/-- What a tree that was read is. -/
structure Read (l : List S54) (k : Nat) (up : Int) (t : Tr) (e : Nat) : Prop where
  lt : k < l.length
  at_ : At l k (flat t (nd l k).f3 (nd l k).f4 k)
  e_ : e = k + cnt t
  le : e ≤ l.length
  wf_ : wf t = true
  ok : nodeOK (nd l k) up = true
  end_ : holdsB t.kd = true → e < l.length → (nd l e).f4 ≠ (k : Int)
structure ReadL (l : List S54) (k : Nat) (kd : Int) (e : Nat) (ns : List ByteArray) (ms : List ByteArray) (ts : List Tr) (e' : Nat) : Prop where
  at_ : At l e (flatL ts (kd == 7) ms k e)
  e_ : e' = e + cntL ts
  le : e' ≤ l.length
  wf_ : wfL ts = true
  m7 : kd = 7 → ms.length = ts.length ∧ ms.all prt = true ∧ (rising ns = true → rising (ns ++ ms) = true)
  m0 : kd ≠ 7 → ms = []
  h0 : holdsB kd = false → ts = []
  end_ : holdsB kd = true → e' < l.length → (nd l e').f4 ≠ (k : Int)
theorem ReadL.nil {l : List S54} {k : Nat} {kd : Int} {e : Nat} {ns : List ByteArray} (he : e ≤ l.length) (hend : holdsB kd = true → e < l.length → (nd l e).f4 ≠ (k : Int)) : ReadL l k kd e ns [] [] e :=
  ⟨by rw [flatL]; exact At.nil _ _, by simp [cntL], he, rfl, fun _ => ⟨rfl, rfl, fun h => by simpa using h⟩, fun _ => rfl, fun _ => rfl, hend⟩
end Go.Proofs.YtemamcbdjfabnaaGreatDoor.VT
