import Derived.Test.YtemamcbdjfabnaaGreatDoorSOVSF
import Derived.Test.YtemamcbdjfabnaaGreatDoorSOPVGx0
/- The reference's tree as a value: l1Of, walked. Conditions: right trees. -/
namespace Go.Proofs.YtemamcbdjfabnaaGreatDoor.VT
open Go.RowKit Go.Proofs.YtemamcbdjfabnaaGreatDoor.PVG Go.Proofs.YtemamcbdjfabnaaGreatDoorW.PrintWords Go.Proofs.YtemamcbdjfabnaaGreatDoorW.PrintLast Go.Proofs.YtemamcbdjfabnaaGreatDoorW.PrintMore
set_option linter.unusedVariables false
set_option linter.unusedSimpArgs false
mutual
/-- The reference's own record as a tree. -/
def ofS : S71 → Tr
  | ⟨kd, nu, tx, ns, ks⟩ => .mk kd nu tx ns (ofSL ks)
def ofSL : List S71 → List Tr
  | [] => []
  | x :: xs => ofS x :: ofSL xs
end
mutual
theorem toS_ofS : ∀ x : S71, toS (ofS x) = x
  | ⟨kd, nu, tx, ns, ks⟩ => by rw [ofS, toS, toSL_ofSL ks]
theorem toSL_ofSL : ∀ xs : List S71, toSL (ofSL xs) = xs
  | [] => rfl
  | x :: xs => by rw [ofSL, toSL, toS_ofS x, toSL_ofSL xs]
end
mutual
theorem ofS_toS : ∀ t : Tr, ofS (toS t) = t
  | .mk kd nu tx ns ks => by rw [toS, ofS, ofSL_toSL ks]
theorem ofSL_toSL : ∀ ts : List Tr, ofSL (toSL ts) = ts
  | [] => rfl
  | t :: ts => by rw [toSL, ofSL, ofS_toS t, ofSL_toSL ts]
end
set_option maxRecDepth 100000 in
set_option maxHeartbeats 4000000 in
theorem l1Of_c (t : Tr) (A3 : Option Addr) (c3 : Nat) (A4 : Option Addr) (c4 : Nat) (w : World) (ha : SAt w t A3 c3 A4 c4) (hf : fit t = true) (hn : cnt t ≤ 1073741824) :
    Calls Tryz.prog 65 #[.agg #[.int .i64 t.kd, .int .i64 t.nu, .string t.tx, .slice A3 t.ns.length c3, .slice A4 t.ks.length c4]] w fun e w' => ∃ v', e = .returned (.agg #[v']) ∧ Kd.R k54 54 w' w.heap.size (fun _ => True) v' (flat t nil_ (-1) 0) ∧ Below w.heap.size w w' := by
  obtain ⟨W1, hW1⟩ : ∃ W1, W1 = w.alloc (.cells #[.int .i64 t.kd, .int .i64 t.nu, .string t.tx, .slice A3 t.ns.length c3, .slice A4 t.ks.length c4] 71) := ⟨_, rfl⟩
  obtain ⟨gb, hgb⟩ : ∃ g, g = w.heap.size := ⟨_, rfl⟩
  obtain ⟨W2, hW2⟩ : ∃ W2, W2 = W1.alloc (.cells #[.slice none 0 0] 24) := ⟨_, rfl⟩
  obtain ⟨g0, hg0⟩ : ∃ g, g = w.heap.size + 1 := ⟨_, rfl⟩
  have hs1 : W1.heap.size = w.heap.size + 1 := by rw [hW1]; simp
  have HB1 := Aside0.mk (show Below w.heap.size w W1 by rw [hW1]; exact below_alloc (Below.refl _ _) _)
  have HB2 := Aside0.mk (show Below W1.heap.size W1 W2 by rw [hW2]; exact below_alloc (Below.refl _ _) _)
  have KB := Aside0.mk (show W1.heap[gb]? = some (.cells #[.int .i64 t.kd, .int .i64 t.nu, .string t.tx, .slice A3 t.ns.length c3, .slice A4 t.ks.length c4] 71 (0, 0)) by rw [hW1, hgb]; exact blk_new w _)
  have KB2 := Aside0.mk (blk_below KB.out HB2.out)
  have K0 := Aside0.mk (show W2.heap[g0]? = some (.cells #[.slice none 0 0] 24 (0, 0)) by rw [hW2, hg0, ← hs1]; exact blk_new W1 _)
  have GE := Aside0.mk (show w.heap.size ≤ g0 by rw [hg0]; omega)
  have ND := Aside0.mk ((nf_c t).go W2 W2 A3 c3 A4 c4 (.slice none 0 0) [] (⟨#[]⟩ : ByteArray) (-1) ((ha.below HB1.out).below HB2.out) hf (Below.refl _ _) (Kd.R_nil _ _ _ _ _) (by simpa using hn))
  have t0 : W2.cell? ⟨gb, 0, none⟩ = some (.int .i64 t.kd) := (blk_cell KB2.out 0).trans rfl
  have t1 : W2.cell? ⟨gb, 1, none⟩ = some (.int .i64 t.nu) := (blk_cell KB2.out 1).trans rfl
  have t2 : W2.cell? ⟨gb, 2, none⟩ = some (.string t.tx) := (blk_cell KB2.out 2).trans rfl
  have t3 : W2.cell? ⟨gb, 3, none⟩ = some (.slice A3 t.ns.length c3) := (blk_cell KB2.out 3).trans rfl
  have t4 : W2.cell? ⟨gb, 4, none⟩ = some (.slice A4 t.ks.length c4) := (blk_cell KB2.out 4).trans rfl
  clear ha hf hn
  go_enter Tryz.func65, Tryz.ntmps65
  go_upto_region 1 with fail
  rw [← hW1, ← hW2, ← hg0, ← hgb]
  clear hW1 hgb hW2 hg0 hs1
  go_wp2_with (first | (go_at_call 88; (with_reducible refine ND.out.mono ?_); rintro e w2 ⟨v2, rfl, ho, hb, _, _⟩; obtain ⟨A2, c2, rfl⟩ := Kd.R_slice ho; obtain ⟨n2, hn2⟩ : ∃ n, n = (([] : List S54) ++ flat t (⟨#[]⟩ : ByteArray) (-1) ([] : List S54).length).length := ⟨_, rfl⟩; rw [← hn2] at ho ⊢; have R2 := Aside0.mk ho; have B2 := Aside0.mk hb; have K2 := blk_below K0.out hb; have p0 : w2.cell? ⟨g0, 0, none⟩ = some (.slice none 0 0) := (blk_cell K2 0).trans rfl; have fz : w2.frozen? ⟨g0, 0, none⟩ = false := blk_frozen K2 0; have KK := Aside0.mk K2; clear ho hb K2 hn2))
  refine bodyPost_ret (results_cell_row rfl _ _ g0 24 #[.slice A2 n2 c2] (0, 0) _ rfl (by simpa using blk_set KK.out 0 (.slice A2 n2 c2)) Tryz.underlying24 rfl (by kernel_rfl)) rfl ?_
  refine ⟨_, rfl, ?_, below_set (below_step HB1.out (below_step HB2.out B2.out)) GE.out⟩
  exact Kd.R_lower (Kd.R_mono (Kd.R_far (Kd.R_types R2.out KK.out (by decide)) (fun k hk => hk.2) _) (fun _ _ => trivial)) (Nat.le_trans HB1.out.size HB2.out.size)
/-- The same, of a record. -/
theorem l1Of_s (x : S71) (A3 : Option Addr) (c3 : Nat) (A4 : Option Addr) (c4 : Nat) (w : World) (h3 : Kd.C Kd.string w A3 x.f3.length x.f3) (l3 : x.f3.length ≤ c3) (h4 : Kd.C k71 w A4 x.f4.length x.f4) (l4 : x.f4.length ≤ c4) (hf : fit (ofS x) = true) (hn : cnt (ofS x) ≤ 1073741824) :
    Calls Tryz.prog 65 #[.agg #[.int .i64 x.f0, .int .i64 x.f1, .string x.f2, .slice A3 x.f3.length c3, .slice A4 x.f4.length c4]] w fun e w' => ∃ v', e = .returned (.agg #[v']) ∧ Kd.R k54 54 w' w.heap.size (fun _ => True) v' (flat (ofS x) nil_ (-1) 0) ∧ Below w.heap.size w w' := by
  have hl : (ofSL x.f4).length = x.f4.length := by rw [← toSL_len, toSL_ofSL]
  have := l1Of_c (ofS x) A3 c3 A4 c4 w (by cases x; rw [ofS]; exact ⟨l3, h3, by simpa [Tr.ks, hl] using l4, by simpa [Tr.ks, toSL_ofSL, hl] using h4⟩) hf hn
  cases x
  rw [ofS] at this ⊢
  simp only [Tr.kd, Tr.nu, Tr.tx, Tr.ns, Tr.ks] at this
  rw [hl] at this
  exact this
end Go.Proofs.YtemamcbdjfabnaaGreatDoor.VT
-- Laid by this session's wip/pr.py over the kit's printer and the session's own contracts.
namespace Go.Proofs.YtemamcbdjfabnaaGreatDoor.PVG
open Go.RowKit Go.Proofs.YtemamcbdjfabnaaGreatDoorW.PrintWords Go.Proofs.YtemamcbdjfabnaaGreatDoorW.PrintLast Go.Proofs.YtemamcbdjfabnaaGreatDoorW.PrintMore
attribute [local go_sem] max2_int min2_int max_two min_two max_three min_three max_four min_four   -- for this text's walks alone
set_option linter.unusedVariables false
set_option linter.unusedSimpArgs false

/-! ### spec_l1Of: function 65, a contract by hand -/
def spec_l1Of.f (a0_0 : Int) (a0_1 : Int) (a0_2 : ByteArray) (l0_3 : List ByteArray) (l0_4 : List (S71)) : Option (List (S54)) := if Go.Proofs.YtemamcbdjfabnaaGreatDoor.VT.fit (Go.Proofs.YtemamcbdjfabnaaGreatDoor.VT.ofS ⟨a0_0, a0_1, a0_2, l0_3, l0_4⟩) = true ∧ Go.Proofs.YtemamcbdjfabnaaGreatDoor.VT.cnt (Go.Proofs.YtemamcbdjfabnaaGreatDoor.VT.ofS ⟨a0_0, a0_1, a0_2, l0_3, l0_4⟩) ≤ 1073741824 then some (Go.Proofs.YtemamcbdjfabnaaGreatDoor.VT.flat (Go.Proofs.YtemamcbdjfabnaaGreatDoor.VT.ofS ⟨a0_0, a0_1, a0_2, l0_3, l0_4⟩) Go.Proofs.YtemamcbdjfabnaaGreatDoor.VT.nil_ (-1) 0) else none
theorem spec_l1Of.calls (a0_0 : Int) (a0_1 : Int) (a0_2 : ByteArray) (A0_3 : Option Addr) (c0_3 : Nat) (l0_3 : List ByteArray) (A0_4 : Option Addr) (c0_4 : Nat) (l0_4 : List (S71)) (r : List (S54)) (w : World) (hr0_3 : Kd.C Kd.string w A0_3 l0_3.length l0_3) (hc0_3 : l0_3.length ≤ c0_3) (hr0_4 : Kd.C k71 w A0_4 l0_4.length l0_4) (hc0_4 : l0_4.length ≤ c0_4) (h : spec_l1Of.f a0_0 a0_1 a0_2 l0_3 l0_4 = some r) :
  Calls Tryz.prog 65 #[.agg #[.int .i64 a0_0, .int .i64 a0_1, .string a0_2, .slice A0_3 l0_3.length c0_3, .slice A0_4 l0_4.length c0_4]] w fun e w' => ∃ v0_ : Value, e = .returned (.agg #[v0_]) ∧ Kd.R k54 54 w' w.heap.size (fun _ => True) v0_ r ∧ Below w.heap.size w w' := by
 unfold spec_l1Of.f at h
 by_cases hl : Go.Proofs.YtemamcbdjfabnaaGreatDoor.VT.fit (Go.Proofs.YtemamcbdjfabnaaGreatDoor.VT.ofS ⟨a0_0, a0_1, a0_2, l0_3, l0_4⟩) = true ∧ Go.Proofs.YtemamcbdjfabnaaGreatDoor.VT.cnt (Go.Proofs.YtemamcbdjfabnaaGreatDoor.VT.ofS ⟨a0_0, a0_1, a0_2, l0_3, l0_4⟩) ≤ 1073741824
 ·rw [if_pos hl] at h
  have e := Option.some.inj h
  have hh := Go.Proofs.YtemamcbdjfabnaaGreatDoor.VT.l1Of_s ⟨a0_0, a0_1, a0_2, l0_3, l0_4⟩ A0_3 c0_3 A0_4 c0_4 w hr0_3 hc0_3 hr0_4 hc0_4 hl.1 hl.2
  rw [e] at hh
  exact hh
 ·rw [if_neg hl] at h
  exact absurd h (by simp)

end Go.Proofs.YtemamcbdjfabnaaGreatDoor.PVG
