import Derived.Test.YtdbfhbnlheankaaGreatDoorCOVPZ
import Derived.Test.YtdbfhbnlheankaaGreatDoorCOVCL
import Derived.Test.YtdbfhbnlheankaaGreatDoorCOVQE
import Derived.Test.YtdbfhbnlheankaaGreatDoorCOVIL
/- The reference's cleaning of a tree, where it is no map. Conditions: right trees. -/
namespace Go.Proofs.YtdbfhbnlheankaaGreatDoor.VT
open Go.RowKit Go.Proofs.YtdbfhbnlheankaaGreatDoor.PVG Go.Proofs.YtdbfhbnlheankaaGreatDoorW.PrintWords Go.Proofs.YtdbfhbnlheankaaGreatDoorW.PrintLast Go.Proofs.YtdbfhbnlheankaaGreatDoorW.PrintMore
set_option linter.unusedVariables false
set_option linter.unusedSimpArgs false
def L4Call (t : Tr) : Prop := ∀ (w : World) (P : Nat → Prop) (A3 : Option Addr) (c3 : Nat) (A4 : Option Addr) (c4 : Nat), (∀ k, P k → k < w.heap.size) → Kd.V Kd.string 9 w w.heap.size P (.slice A3 t.ns.length c3) t.ns → Kd.V k49 49 w w.heap.size P (.slice A4 t.ks.length c4) (toSL t.ks) → wf t = true → cnt t ≤ 1073741824 →
  Calls Tryz.prog 32 #[.agg #[.int .i64 t.kd, .int .i64 t.nu, .string t.tx, .slice A3 t.ns.length c3, .slice A4 t.ks.length c4]] w fun e w' => ∃ v3 v4, e = .returned (.agg #[.int .i64 (cleanT t).kd, .int .i64 (cleanT t).nu, .string (cleanT t).tx, v3, v4]) ∧ Kd.V Kd.string 9 w' w.heap.size (fun k => P k ∨ w.heap.size ≤ k) v3 (cleanT t).ns ∧ Kd.V k49 49 w' w.heap.size (fun k => P k ∨ w.heap.size ≤ k) v4 (toSL (cleanT t).ks) ∧ Below w.heap.size w w'
theorem L4Call.go {t : Tr} (h : L4Call t) (w : World) (P : Nat → Prop) (A3 : Option Addr) (c3 : Nat) (A4 : Option Addr) (c4 : Nat) (h0 : ∀ k, P k → k < w.heap.size) (h1 : Kd.V Kd.string 9 w w.heap.size P (.slice A3 t.ns.length c3) t.ns) (h4 : Kd.V k49 49 w w.heap.size P (.slice A4 t.ks.length c4) (toSL t.ks)) (h2 : wf t = true) (h3 : cnt t ≤ 1073741824) :
  Calls Tryz.prog 32 #[.agg #[.int .i64 t.kd, .int .i64 t.nu, .string t.tx, .slice A3 t.ns.length c3, .slice A4 t.ks.length c4]] w fun e w' => ∃ v3 v4, e = .returned (.agg #[.int .i64 (cleanT t).kd, .int .i64 (cleanT t).nu, .string (cleanT t).tx, v3, v4]) ∧ Kd.V Kd.string 9 w' w.heap.size (fun k => P k ∨ w.heap.size ≤ k) v3 (cleanT t).ns ∧ Kd.V k49 49 w' w.heap.size (fun k => P k ∨ w.heap.size ≤ k) v4 (toSL (cleanT t).ks) ∧ Below w.heap.size w w' := h w P A3 c3 A4 c4 h0 h1 h4 h2 h3
/-- What a round of the cleaning keeps: the argument's box g1, the result's g2, the new map's g3 with its rows. -/
structure L4 (w : World) (P : Nat → Prop) (kd nu : Int) (tx : ByteArray) (v3 v4 : Value) (g1 g2 g3 : Nat) (ms : List ByteArray) (cs : List Tr) (W : World) : Prop where
  bel : Below w.heap.size w W
  lo : w.heap.size ≤ g1 ∧ w.heap.size ≤ g2 ∧ g1 < g3 ∧ g2 < g3 ∧ g1 ≠ g2
  k1 : W.heap[g1]? = some (.cells #[.int .i64 kd, .int .i64 nu, .string tx, v3, v4] 49 (0, 0))
  k2 : W.heap[g2]? = some (.cells #[.int .i64 0, .int .i64 0, .string ⟨#[]⟩, .slice none 0 0, .slice none 0 0] 49 (0, 0))
  rows : ∃ D3 e3 D4 e4, W.heap[g3]? = some (.cells #[.int .i64 7, .int .i64 0, .string ⟨#[]⟩, .slice D3 ms.length e3, .slice D4 cs.length e4] 49 (0, 0)) ∧ Kd.V Kd.string 9 W w.heap.size (fun k => (P k ∨ g3 < k) ∧ k < W.heap.size) (.slice D3 ms.length e3) ms ∧ Kd.V k49 49 W w.heap.size (fun k => (P k ∨ g3 < k) ∧ k < W.heap.size) (.slice D4 cs.length e4) (toSL cs)
theorem L4.move {w W W' : World} {P : Nat → Prop} {kd nu : Int} {tx : ByteArray} {v3 v4 : Value} {g1 g2 g3 : Nat} {ms : List ByteArray} {cs : List Tr} (h : L4 w P kd nu tx v3 v4 g1 g2 g3 ms cs W) (hb : Below W.heap.size W W') : L4 w P kd nu tx v3 v4 g1 g2 g3 ms cs W' := by
  obtain ⟨D3, e3, D4, e4, k, r3, r4⟩ := h.rows
  exact ⟨below_step h.bel hb, h.lo, blk_below h.k1 hb, blk_below h.k2 hb, ⟨D3, e3, D4, e4, blk_below k hb, Kd.V_mono (Kd.V_below r3 hb) (fun k hk => ⟨hk.1, Nat.lt_of_lt_of_le hk.2 hb.size⟩), Kd.V_mono (Kd.V_below r4 hb) (fun k hk => ⟨hk.1, Nat.lt_of_lt_of_le hk.2 hb.size⟩)⟩⟩
theorem V_put5 {α : Type} {d : Kd α} {e : Nat} {W : World} {base : Nat} {ok : Nat → Prop} {v : Value} {xs : List α} {g : Nat} {a b c f h5 : Value} (h : Kd.V d e W base ok v xs) (hok : ∀ k, ok k → k ≠ g) :
    Kd.V d e (((((W.setCell ⟨g, 0, none⟩ a).setCell ⟨g, 1, none⟩ b).setCell ⟨g, 2, none⟩ c).setCell ⟨g, 3, none⟩ f).setCell ⟨g, 4, none⟩ h5) base ok v xs :=
  Kd.V_far (Kd.V_far (Kd.V_far (Kd.V_far (Kd.V_far h hok _) hok _) hok _) hok _) hok _
set_option maxRecDepth 100000 in
set_option maxHeartbeats 8000000 in
theorem l4_other (kd nu : Int) (tx : ByteArray) (ns : List ByteArray) (ks : List Tr) (h7 : ¬ kd = 7) : L4Call (.mk kd nu tx ns ks) := by
  intro w P A3 c3 A4 c4 hP hv3 hv4 hw hn
  rw [cleanT, if_neg h7]
  simp only [Tr.kd, Tr.nu, Tr.tx, Tr.ns, Tr.ks]
  obtain ⟨W1, hW1⟩ : ∃ W1, W1 = w.alloc (.cells #[.int .i64 kd, .int .i64 nu, .string tx, .slice A3 ns.length c3, .slice A4 ks.length c4] 49) := ⟨_, rfl⟩
  obtain ⟨W2, hW2⟩ : ∃ W2, W2 = W1.alloc (.cells #[.int .i64 0, .int .i64 0, .string ⟨#[]⟩, .slice none 0 0, .slice none 0 0] 49) := ⟨_, rfl⟩
  obtain ⟨gb, hgb⟩ : ∃ g, g = w.heap.size := ⟨_, rfl⟩
  obtain ⟨g0, hg0⟩ : ∃ g, g = w.heap.size + 1 := ⟨_, rfl⟩
  have hs1 : W1.heap.size = w.heap.size + 1 := by rw [hW1]; simp
  have b1 : Below w.heap.size w W1 := by rw [hW1]; exact below_alloc (Below.refl _ _) _
  have b2 : Below W1.heap.size W1 W2 := by rw [hW2]; exact below_alloc (Below.refl _ _) _
  have HB2 := Aside0.mk (below_step b1 b2)
  have KB := (blk_below (show W1.heap[gb]? = some (.cells #[.int .i64 kd, .int .i64 nu, .string tx, .slice A3 ns.length c3, .slice A4 ks.length c4] 49 (0, 0)) by rw [hW1, hgb]; exact blk_new w _) b2)
  have K0 := Aside0.mk (show W2.heap[g0]? = some (.cells #[.int .i64 0, .int .i64 0, .string ⟨#[]⟩, .slice none 0 0, .slice none 0 0] 49 (0, 0)) by rw [hW2, hg0, ← hs1]; exact blk_new W1 _)
  have GE := Aside0.mk (show w.heap.size ≤ g0 by rw [hg0]; omega)
  have k0 : W2.cell? ⟨gb, 0, none⟩ = some (.int .i64 kd) := (blk_cell KB 0).trans rfl
  have k1 : W2.cell? ⟨gb, 1, none⟩ = some (.int .i64 nu) := (blk_cell KB 1).trans rfl
  have k2 : W2.cell? ⟨gb, 2, none⟩ = some (.string tx) := (blk_cell KB 2).trans rfl
  have k3 : W2.cell? ⟨gb, 3, none⟩ = some (.slice A3 ns.length c3) := (blk_cell KB 3).trans rfl
  have k4 : W2.cell? ⟨gb, 4, none⟩ = some (.slice A4 ks.length c4) := (blk_cell KB 4).trans rfl
  have z0 : W2.cell? ⟨g0, 0, none⟩ = some (.int .i64 0) := (blk_cell K0.out 0).trans rfl
  have z1 : W2.cell? ⟨g0, 1, none⟩ = some (.int .i64 0) := (blk_cell K0.out 1).trans rfl
  have z2 : W2.cell? ⟨g0, 2, none⟩ = some (.string ⟨#[]⟩) := (blk_cell K0.out 2).trans rfl
  have z3 : W2.cell? ⟨g0, 3, none⟩ = some (.slice none 0 0) := (blk_cell K0.out 3).trans rfl
  have z4 : W2.cell? ⟨g0, 4, none⟩ = some (.slice none 0 0) := (blk_cell K0.out 4).trans rfl
  have f0 := blk_frozen K0.out 0
  have f1 := blk_frozen K0.out 1
  have f2 := blk_frozen K0.out 2
  have f3 := blk_frozen K0.out 3
  have f4 := blk_frozen K0.out 4
  have h7b : (kd == 7) = false := by simpa using h7
  simp only [Tr.ns, Tr.ks] at hv3 hv4
  have HA := Aside0.mk (And.intro hv3 hv4)
  clear hv3 hv4 hP KB b1 b2 hw hn
  go_enter Tryz.func32, Tryz.ntmps32
  go_upto_region 1 with fail
  rw [← hW1, ← hW2, ← hg0, ← hgb]
  clear hW1 hW2 hg0 hgb hs1
  go_wp2
  refine bodyPost_ret (results_cell_row rfl _ _ g0 49 _ (0, 0) _ rfl (put5 K0.out) Tryz.underlying49 rfl (by kernel_rfl)) rfl ?_
  have hb := below_put5 (a := .int .i64 kd) (b := .int .i64 nu) (c := .string tx) (d := .slice A3 ns.length c3) (e := .slice A4 ks.length c4) HB2.out GE.out
  exact ⟨_, _, rfl, Kd.V_mono (Kd.V_below HA.out.1 hb) (fun _ h => .inl h), Kd.V_mono (Kd.V_below HA.out.2 hb) (fun _ h => .inl h), hb⟩
end Go.Proofs.YtdbfhbnlheankaaGreatDoor.VT
