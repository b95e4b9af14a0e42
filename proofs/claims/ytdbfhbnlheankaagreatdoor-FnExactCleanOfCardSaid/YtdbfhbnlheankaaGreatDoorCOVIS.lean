import Derived.Test.YtdbfhbnlheankaaGreatDoorCOVSF
import Derived.Test.YtdbfhbnlheankaaGreatDoorCOVR1
import Derived.Test.YtdbfhbnlheankaaGreatDoorCOVTA
import Derived.WalkLawsBesides
import Derived.Lib.Walk
import Derived.Test.YtdbfhbnlheankaaGreatDoorCOVK
import Derived.Test.YtdbfhbnlheankaaGreatDoorCOPVGx0
/- What the reference's put keeps while it fills a new record. Conditions: none. -/
namespace Go.Proofs.YtdbfhbnlheankaaGreatDoor.VT
open Go.RowKit Go.Proofs.YtdbfhbnlheankaaGreatDoor.PVG Go.Proofs.YtdbfhbnlheankaaGreatDoorW.PrintWords Go.Proofs.YtdbfhbnlheankaaGreatDoorW.PrintLast Go.Proofs.YtdbfhbnlheankaaGreatDoorW.PrintMore
set_option linter.unusedVariables false
set_option linter.unusedSimpArgs false
/-- Records read in every world that agrees with w0 on P. -/
def kfx (w0 : World) (P : Nat → Prop) : Kd S49 where
  sz := 5
  E := []
  K := fun _ x cs => Kd.FK k49 w0 P x cs
  M := fun _ _ _ x cs => Kd.FK k49 w0 P x cs
  K_len := fun h => k49.K_len (Kd.FK_now h)
  K_one := fun h => k49.K_one (Kd.FK_now h)
  K_below := fun _ h => h
  K_of_M := fun h => h
  M_mono := fun _ h => h
  M_bound := fun h => h
  M_move := fun _ h => h
  M_lower := fun _ h => h
/-- The boxes g3, g5, g6 as they stand, the new record g8 (cells c3, c4), the rows v3, v4 that are made (elements of v4 as they were read in w). -/
structure Pt (w : World) (P : Nat → Prop) (g3 g5 g6 g8 : Nat) (o3 o5 o6 : Array Value) (c3 c4 v3 : Value) (ms : List ByteArray) (v4 : Value) (xs : List S49) (W : World) : Prop where
  bel : Below w.heap.size w W
  lo : w.heap.size ≤ g3 ∧ w.heap.size ≤ g6 ∧ w.heap.size ≤ g8 ∧ g3 < g8 ∧ g5 < g8 ∧ g6 < g8
  k3 : W.heap[g3]? = some (.cells o3 49 (0, 0))
  k5 : W.heap[g5]? = some (.cells o5 49 (0, 0))
  k6 : W.heap[g6]? = some (.cells o6 49 (0, 0))
  k8 : W.heap[g8]? = some (.cells #[.int .i64 7, .int .i64 0, .string ⟨#[]⟩, c3, c4] 49 (0, 0))
  r3 : Kd.R Kd.string 9 W w.heap.size (fun k => g8 < k) v3 ms
  r4 : Kd.R (kfx w P) 49 W w.heap.size (fun k => g8 < k) v4 xs
section
variable {w W W' : World} {P : Nat → Prop} {g3 g5 g6 g8 : Nat} {o3 o5 o6 : Array Value} {c3 c4 v3 v4 : Value} {ms : List ByteArray} {xs : List S49}
theorem Pt.move (h : Pt w P g3 g5 g6 g8 o3 o5 o6 c3 c4 v3 ms v4 xs W) (hb : Below W.heap.size W W') : Pt w P g3 g5 g6 g8 o3 o5 o6 c3 c4 v3 ms v4 xs W' :=
  ⟨below_step h.bel hb, h.lo, blk_below h.k3 hb, blk_below h.k5 hb, blk_below h.k6 hb, blk_below h.k8 hb, Kd.R_below h.r3 hb, Kd.R_below h.r4 hb⟩
theorem Pt.lt (h : Pt w P g3 g5 g6 g8 o3 o5 o6 c3 c4 v3 ms v4 xs W) : g8 < W.heap.size := blk_lt h.k8
theorem Pt.name (h : Pt w P g3 g5 g6 g8 o3 o5 o6 c3 c4 v3 ms v4 xs W) {v3' : Value} {ms' : List ByteArray} (hr : Kd.R Kd.string 9 W' w.heap.size (fun k => g8 < k) v3' ms') (hb : Below w.heap.size w W') (hg : W.grownBy W' v3.ownBlock) : Pt w P g3 g5 g6 g8 o3 o5 o6 c3 c4 v3' ms' v4 xs W' := by
  have q : ∀ g, g ≤ g8 → some g ≠ v3.ownBlock := fun g hle e => by have := h.r3.1 g e.symm; omega
  have := h.lo
  exact ⟨hb, h.lo, blk_grown h.k3 hg (q _ (by omega)), blk_grown h.k5 hg (q _ (by omega)), blk_grown h.k6 hg (q _ (by omega)), blk_grown h.k8 hg (q _ (by omega)), hr, Kd.R_over h.r4 h.r3 (show ∀ q, q ∈ [49] → q ≠ 9 by decide) hg⟩
theorem Pt.kid (h : Pt w P g3 g5 g6 g8 o3 o5 o6 c3 c4 v3 ms v4 xs W) {v4' : Value} {xs' : List S49} (hr : Kd.R (kfx w P) 49 W' w.heap.size (fun k => g8 < k) v4' xs') (hb : Below w.heap.size w W') (hg : W.grownBy W' v4.ownBlock) : Pt w P g3 g5 g6 g8 o3 o5 o6 c3 c4 v3 ms v4' xs' W' := by
  have q : ∀ g, g ≤ g8 → some g ≠ v4.ownBlock := fun g hle e => by have := h.r4.1 g e.symm; omega
  have := h.lo
  exact ⟨hb, h.lo, blk_grown h.k3 hg (q _ (by omega)), blk_grown h.k5 hg (q _ (by omega)), blk_grown h.k6 hg (q _ (by omega)), blk_grown h.k8 hg (q _ (by omega)), Kd.R_over h.r3 h.r4 (by decide) hg, hr⟩
theorem Pt.set3 (h : Pt w P g3 g5 g6 g8 o3 o5 o6 c3 c4 v3 ms v4 xs W) (x : Value) : Pt w P g3 g5 g6 g8 o3 o5 o6 x c4 v3 ms v4 xs (W.setCell ⟨g8, 3, none⟩ x) := by
  have l := h.lo
  refine ⟨below_set h.bel l.2.2.1, h.lo, blk_far h.k3 (by show g3 ≠ g8; omega) x, blk_far h.k5 (by show g5 ≠ g8; omega) x, blk_far h.k6 (by show g6 ≠ g8; omega) x, ?_, Kd.R_far h.r3 (fun k hk => by show k ≠ g8; omega) x, Kd.R_far h.r4 (fun k hk => by show k ≠ g8; omega) x⟩
  have := blk_set h.k8 3 x
  simpa using this
theorem Pt.set4 (h : Pt w P g3 g5 g6 g8 o3 o5 o6 c3 c4 v3 ms v4 xs W) (x : Value) : Pt w P g3 g5 g6 g8 o3 o5 o6 c3 x v3 ms v4 xs (W.setCell ⟨g8, 4, none⟩ x) := by
  have l := h.lo
  refine ⟨below_set h.bel l.2.2.1, h.lo, blk_far h.k3 (by show g3 ≠ g8; omega) x, blk_far h.k5 (by show g5 ≠ g8; omega) x, blk_far h.k6 (by show g6 ≠ g8; omega) x, ?_, Kd.R_far h.r3 (fun k hk => by show k ≠ g8; omega) x, Kd.R_far h.r4 (fun k hk => by show k ≠ g8; omega) x⟩
  have := blk_set h.k8 4 x
  simpa using this
end
/-- Rows that are made of what was read are read, with their footprint. -/
theorem kfx_V {w W : World} {P : Nat → Prop} {base base' : Nat} {ok : Nat → Prop} {v : Value} {xs : List S49} (hP : ∀ k, P k → k < w.heap.size) (hb : Below w.heap.size w W) (h : Kd.R (kfx w P) 49 W base ok v xs) : Kd.V k49 49 W base' (fun k => P k ∨ ok k) v xs := by
  obtain ⟨A, c, e, hl, hf⟩ := Kd.R_V (base' := base') h
  refine ⟨A, c, e, hl, fun W' hW => ?_⟩
  have h1 : (kfx w P).C W' A xs.length xs := hf W' (fun k hk hlt => hW k (.inr hk) hlt)
  exact Kd.C_read (dm := kfx w P) (d := k49) rfl (fun x cs h => (show Kd.FK k49 w P x cs from h) W' (fun k hk hlt => (hW k (.inl hk) (Nat.lt_of_lt_of_le (hP k hk) hb.size)).trans (hb.block k (hP k hk)))) h1
end Go.Proofs.YtdbfhbnlheankaaGreatDoor.VT
/- The place of a name among rising names: the library's search, walked; what it finds. Conditions: rows of moderate length. -/
namespace Go.Proofs.YtdbfhbnlheankaaGreatDoor.VT
open Go.RowKit Go.Proofs.YtdbfhbnlheankaaGreatDoor.PVG Go.Proofs.YtdbfhbnlheankaaGreatDoorW.PrintWords Go.Proofs.YtdbfhbnlheankaaGreatDoorW.PrintLast Go.Proofs.YtdbfhbnlheankaaGreatDoorW.PrintMore
set_option linter.unusedVariables false
set_option linter.unusedSimpArgs false
/-- The halving. -/
def bsG (less : Nat → Bool) : Nat → Nat → Nat → Nat
  | 0, lo, _ => lo
  | f + 1, lo, hi => if lo < hi then (if less ((lo + hi) / 2) = true then bsG less f ((lo + hi) / 2 + 1) hi else bsG less f lo ((lo + hi) / 2)) else lo
def lessAt (ns : List ByteArray) (s : ByteArray) (t : Nat) : Bool := lt (ns.getD t nil_) s
def bsI (ns : List ByteArray) (s : ByteArray) : Nat := bsG (lessAt ns s) ns.length 0 ns.length
def bsB (ns : List ByteArray) (s : ByteArray) : Bool := decide (bsI ns s < ns.length) && (ns.getD (bsI ns s) nil_).toList == s.toList
end Go.Proofs.YtdbfhbnlheankaaGreatDoor.VT
/- id: walked. Conditions: right trees. -/
namespace Go.Proofs.YtdbfhbnlheankaaGreatDoor.VT
open Go.RowKit Go.Proofs.YtdbfhbnlheankaaGreatDoor.PVG Go.Proofs.YtdbfhbnlheankaaGreatDoorW.PrintWords Go.Proofs.YtdbfhbnlheankaaGreatDoorW.PrintLast Go.Proofs.YtdbfhbnlheankaaGreatDoorW.PrintMore
set_option linter.unusedVariables false
set_option linter.unusedSimpArgs false
def idN : ByteArray := ⟨#[95, 105, 100]⟩
/-- The part that is a document's id. -/
def idT (t : Tr) : Option Tr := if t.kd = 7 then (if bsB t.ns idN = true then (match t.ks[bsI t.ns idN]? with
  | some u => if (u.kd == 4 || u.kd == 5) = true then some u else none
  | none => none) else none) else none
def IdPost (t : Tr) (w : World) (e : Ending) (w' : World) : Prop :=
  Below w.heap.size w w' ∧ ((idT t = none ∧ e = .returned (.pointer none)) ∨ ∃ u p, idT t = some u ∧ e = .returned (.pointer (some ⟨p, 0, none⟩)) ∧ IsV w' p u)
end Go.Proofs.YtdbfhbnlheankaaGreatDoor.VT
/- The reference's flat and id: walked. Conditions: the names of a map stand beside its parts. -/
namespace Go.Proofs.YtdbfhbnlheankaaGreatDoor.VT
open Go.RowKit Go.Proofs.YtdbfhbnlheankaaGreatDoor.PVG Go.Proofs.YtdbfhbnlheankaaGreatDoorW.PrintWords Go.Proofs.YtdbfhbnlheankaaGreatDoorW.PrintLast Go.Proofs.YtdbfhbnlheankaaGreatDoorW.PrintMore
set_option linter.unusedVariables false
set_option linter.unusedSimpArgs false
/-- The five cells of a record, set one by one. -/
theorem put5 {w : World} {g t : Nat} {a b c d e a' b' c' d' e' : Value} (h : w.heap[g]? = some (.cells #[a, b, c, d, e] t (0, 0))) :
    (((((w.setCell ⟨g, 0, none⟩ a').setCell ⟨g, 1, none⟩ b').setCell ⟨g, 2, none⟩ c').setCell ⟨g, 3, none⟩ d').setCell ⟨g, 4, none⟩ e').heap[g]? = some (.cells #[a', b', c', d', e'] t (0, 0)) :=
  blk_put (cs := #[a', b', c', d', e]) (blk_put (cs := #[a', b', c', d, e]) (blk_put (cs := #[a', b', c, d, e]) (blk_put (cs := #[a', b, c, d, e]) (blk_put (cs := #[a, b, c, d, e]) h 0 _ rfl) 1 _ rfl) 2 _ rfl) 3 _ rfl) 4 _ rfl
theorem k49_openF {W : World} {ok : Nat → Prop} {x : S49} {cs : List Value} (h : Kd.FK k49 W ok x cs) : ∃ A3 c3 A4 c4, cs = [.int .i64 x.f0, .int .i64 x.f1, .string x.f2, .slice A3 x.f3.length c3, .slice A4 x.f4.length c4] ∧ x.f3.length ≤ c3 ∧ Kd.F Kd.string W ok A3 x.f3.length x.f3 ∧ x.f4.length ≤ c4 ∧ Kd.F k49 W ok A4 x.f4.length x.f4 := by
 obtain ⟨A3, c3, A4, c4, rfl, l3, _, l4, _⟩ := k49_open (Kd.FK_now h)
 exact ⟨A3, c3, A4, c4, rfl, l3, (fun W' hW => by obtain ⟨A3_, c3_, A4_, c4_, he, l3_, g3_, l4_, g4_⟩ := k49_open (h W' hW); injection (Option.some.inj (show some (Value.slice A3 x.f3.length c3) = some (Value.slice A3_ x.f3.length c3_) from congrArg (fun l => l[3]?) he)) with ha_ _ _; rw [ha_]; exact g3_), l4, (fun W' hW => by obtain ⟨A3_, c3_, A4_, c4_, he, l3_, g3_, l4_, g4_⟩ := k49_open (h W' hW); injection (Option.some.inj (show some (Value.slice A4 x.f4.length c4) = some (Value.slice A4_ x.f4.length c4_) from congrArg (fun l => l[4]?) he)) with ha_ _ _; rw [ha_]; exact g4_)⟩
theorem k49_mkF (W : World) (ok : Nat → Prop) (x : S49) {A3 : Option Addr} {c3 : Nat} (l3 : x.f3.length ≤ c3) (g3 : Kd.F Kd.string W ok A3 x.f3.length x.f3) {A4 : Option Addr} {c4 : Nat} (l4 : x.f4.length ≤ c4) (g4 : Kd.F k49 W ok A4 x.f4.length x.f4) : Kd.FK k49 W ok x [.int .i64 x.f0, .int .i64 x.f1, .string x.f2, .slice A3 x.f3.length c3, .slice A4 x.f4.length c4] := fun W2 hW => k49_mk W2 x l3 (g3 W2 hW) l4 (g4 W2 hW)
/-- A record of a row that is read. -/
theorem rec_at {w : World} {P : Nat → Prop} {A4 : Option Addr} {c4 : Nat} {ks : List S49} (hs : Kd.V k49 49 w w.heap.size P (.slice A4 ks.length c4) ks) (i : Nat) (hi : i < ks.length) :
    ∃ ad a3 d3 a4 d4, A4 = some ad ∧ (∀ W, Below w.heap.size w W → W.cell? (ad.add (i * 5)) = some (.int .i64 (rd_T49 ks i).f0) ∧ W.cell? ⟨(ad.add (i * 5)).block, (ad.add (i * 5)).off + 1, none⟩ = some (.int .i64 (rd_T49 ks i).f1) ∧ W.cell? ⟨(ad.add (i * 5)).block, (ad.add (i * 5)).off + 2, none⟩ = some (.string (rd_T49 ks i).f2) ∧ W.cell? ⟨(ad.add (i * 5)).block, (ad.add (i * 5)).off + 3, none⟩ = some (.slice a3 (rd_T49 ks i).f3.length d3) ∧ W.cell? ⟨(ad.add (i * 5)).block, (ad.add (i * 5)).off + 4, none⟩ = some (.slice a4 (rd_T49 ks i).f4.length d4)) ∧
      Kd.V Kd.string 9 w w.heap.size P (.slice a3 (rd_T49 ks i).f3.length d3) (rd_T49 ks i).f3 ∧ Kd.V k49 49 w w.heap.size P (.slice a4 (rd_T49 ks i).f4.length d4) (rd_T49 ks i).f4 := by
  obtain ⟨ad, a3, d3, a4, d4, e, h0, h1, h2, h3, h4, _⟩ := at_T49 (Kd.V_reads' hs).2.2 (i : Int) (by omega) (by omega)
  subst e
  obtain ⟨ce, hce, hMe, hcc⟩ := Kd.V_get hs z49 (i : Int) (by omega) (by omega)
  obtain ⟨ua3, uc3, ua4, uc4, rfl, ul3, ge3, ul4, ge4⟩ := k49_openF hMe
  have hv3 := hcc 3 _ rfl
  rw [add_field _ _ 3 (by omega)] at hv3
  replace hv3 := Option.some.inj (hv3.symm.trans h3)
  injection hv3 with q1 q2 q3
  subst q1 q3
  have hv4 := hcc 4 _ rfl
  rw [add_field _ _ 4 (by omega)] at hv4
  replace hv4 := Option.some.inj (hv4.symm.trans h4)
  injection hv4 with q1 q2 q3
  subst q1 q3
  have q : ∀ {W a v}, Below w.heap.size w W → w.cell? a = .some v → W.cell? a = .some v := fun {W a v} hb e => (hb.cell (World.block_lt_of_cell? w _ e)).trans e
  exact ⟨ad, _, _, _, _, rfl, fun W hb => ⟨q hb h0, q hb h1, q hb h2, q hb h3, q hb h4⟩, Kd.V_mk ul3 ge3, Kd.V_mk ul4 ge4⟩
end Go.Proofs.YtdbfhbnlheankaaGreatDoor.VT
/- The reference's id: walked. Conditions: the names of a map stand beside its parts. -/
namespace Go.Proofs.YtdbfhbnlheankaaGreatDoor.VT
open Go.RowKit Go.Proofs.YtdbfhbnlheankaaGreatDoor.PVG Go.Proofs.YtdbfhbnlheankaaGreatDoorW.PrintWords Go.Proofs.YtdbfhbnlheankaaGreatDoorW.PrintLast Go.Proofs.YtdbfhbnlheankaaGreatDoorW.PrintMore
set_option linter.unusedVariables false
set_option linter.unusedSimpArgs false
theorem below_put5 {w0 w : World} {g : Nat} {a b c d e : Value} (h : Below w0.heap.size w0 w) (hg : w0.heap.size ≤ g) :
    Below w0.heap.size w0 (((((w.setCell ⟨g, 0, none⟩ a).setCell ⟨g, 1, none⟩ b).setCell ⟨g, 2, none⟩ c).setCell ⟨g, 3, none⟩ d).setCell ⟨g, 4, none⟩ e) :=
  below_set (below_set (below_set (below_set (below_set h hg) hg) hg) hg) hg
end Go.Proofs.YtdbfhbnlheankaaGreatDoor.VT
