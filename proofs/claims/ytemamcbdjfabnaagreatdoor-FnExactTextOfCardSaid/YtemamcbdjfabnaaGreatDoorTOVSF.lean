import Derived.Test.YtemamcbdjfabnaaGreatDoorTOVPC
import Derived.Test.YtemamcbdjfabnaaGreatDoorTOVND
/- The reference's nodes of a tree, put behind others: l1Flat and l1Of, walked. Conditions: right trees. -/
namespace Go.Proofs.YtemamcbdjfabnaaGreatDoor.VT
open Go.RowKit Go.Proofs.YtemamcbdjfabnaaGreatDoor.PVG Go.Proofs.YtemamcbdjfabnaaGreatDoorW.PrintWords Go.Proofs.YtemamcbdjfabnaaGreatDoorW.PrintLast Go.Proofs.YtemamcbdjfabnaaGreatDoorW.PrintMore
set_option linter.unusedVariables false
set_option linter.unusedSimpArgs false
def NfCall (t : Tr) : Prop := ∀ (w0 w : World) (A3 : Option Addr) (c3 : Nat) (A4 : Option Addr) (c4 : Nat) (v : Value) (l : List S54) (nm : ByteArray) (up : Int), SAt w0 t A3 c3 A4 c4 → fit t = true → Below w0.heap.size w0 w → Kd.R k54 54 w w0.heap.size (fun _ => True) v l → l.length + cnt t ≤ 1073741824 →
  Calls Tryz.prog 88 #[.agg #[.int .i64 t.kd, .int .i64 t.nu, .string t.tx, .slice A3 t.ns.length c3, .slice A4 t.ks.length c4], .string nm, .int .i64 up, v] w fun e w' => ∃ v', e = .returned v' ∧ Kd.R k54 54 w' w0.heap.size (fun _ => True) v' (l ++ flat t nm up l.length) ∧ Below w0.heap.size w0 w' ∧ Kept w w' (fun k => some k = v.ownBlock) ∧ (v'.ownBlock = v.ownBlock ∨ ∃ b, v'.ownBlock = some b ∧ w.heap.size ≤ b)
theorem NfCall.go {t : Tr} (h : NfCall t) (w0 w : World) (A3 : Option Addr) (c3 : Nat) (A4 : Option Addr) (c4 : Nat) (v : Value) (l : List S54) (nm : ByteArray) (up : Int) (h1 : SAt w0 t A3 c3 A4 c4) (h2 : fit t = true) (h3 : Below w0.heap.size w0 w) (h4 : Kd.R k54 54 w w0.heap.size (fun _ => True) v l) (h5 : l.length + cnt t ≤ 1073741824) :
  Calls Tryz.prog 88 #[.agg #[.int .i64 t.kd, .int .i64 t.nu, .string t.tx, .slice A3 t.ns.length c3, .slice A4 t.ks.length c4], .string nm, .int .i64 up, v] w fun e w' => ∃ v', e = .returned v' ∧ Kd.R k54 54 w' w0.heap.size (fun _ => True) v' (l ++ flat t nm up l.length) ∧ Below w0.heap.size w0 w' ∧ Kept w w' (fun k => some k = v.ownBlock) ∧ (v'.ownBlock = v.ownBlock ∨ ∃ b, v'.ownBlock = some b ∧ w.heap.size ≤ b) := h w0 w A3 c3 A4 c4 v l nm up h1 h2 h3 h4 h5
end Go.Proofs.YtemamcbdjfabnaaGreatDoor.VT
