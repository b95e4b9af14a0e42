import Derived.Test.YtdbfhbnlheankaaGreatDoorIOVIR
/- The reference's id: walked. Conditions: the names of a map stand beside its parts. -/
namespace Go.Proofs.YtdbfhbnlheankaaGreatDoor.VT
open Go.RowKit Go.Proofs.YtdbfhbnlheankaaGreatDoor.PVG Go.Proofs.YtdbfhbnlheankaaGreatDoorW.PrintWords Go.Proofs.YtdbfhbnlheankaaGreatDoorW.PrintLast Go.Proofs.YtdbfhbnlheankaaGreatDoorW.PrintMore
set_option linter.unusedVariables false
set_option linter.unusedSimpArgs false
theorem below_put5 {w0 w : World} {g : Nat} {a b c d e : Value} (h : Below w0.heap.size w0 w) (hg : w0.heap.size ≤ g) :
    Below w0.heap.size w0 (((((w.setCell ⟨g, 0, none⟩ a).setCell ⟨g, 1, none⟩ b).setCell ⟨g, 2, none⟩ c).setCell ⟨g, 3, none⟩ d).setCell ⟨g, 4, none⟩ e) :=
  below_set (below_set (below_set (below_set (below_set h hg) hg) hg) hg) hg
set_option maxRecDepth 100000 in
set_option maxHeartbeats 8000000 in
theorem l8Id_c (kd nu : Int) (tx : ByteArray) (ns : List ByteArray) (ks : List S49) (A3 A4 : Option Addr) (c3 c4 : Nat) (P : Nat → Prop) (w : World) (hr : Kd.C Kd.string w A3 ns.length ns) (hs : Kd.V k49 49 w w.heap.size P (.slice A4 ks.length c4) ks) (hl : kd = 7 → ns.length = ks.length ∧ ks.length ≤ 1073741824) :
    Calls Tryz.prog 50 #[.agg #[.int .i64 kd, .int .i64 nu, .string tx, .slice A3 ns.length c3, .slice A4 ks.length c4]] w fun e w' => ∃ v3 v4, e = .returned (.tuple #[.agg #[.int .i64 (l8R kd ns ks).1.f0, .int .i64 (l8R kd ns ks).1.f1, .string (l8R kd ns ks).1.f2, v3, v4], .bool (l8R kd ns ks).2]) ∧ Kd.V Kd.string 9 w' w.heap.size (fun k => P k ∨ w.heap.size ≤ k) v3 (l8R kd ns ks).1.f3 ∧ Kd.V k49 49 w' w.heap.size (fun k => P k ∨ w.heap.size ≤ k) v4 (l8R kd ns ks).1.f4 ∧ Below w.heap.size w w' := by
  obtain ⟨W1, hW1⟩ : ∃ W1, W1 = w.alloc (.cells #[.int .i64 kd, .int .i64 nu, .string tx, .slice A3 ns.length c3, .slice A4 ks.length c4] 49) := ⟨_, rfl⟩
  obtain ⟨W2, hW2⟩ : ∃ W2, W2 = W1.alloc (.cells #[.int .i64 0, .int .i64 0, .string ⟨#[]⟩, .slice none 0 0, .slice none 0 0] 49) := ⟨_, rfl⟩
  obtain ⟨gb, hgb⟩ : ∃ g, g = w.heap.size := ⟨_, rfl⟩
  obtain ⟨g0, hg0⟩ : ∃ g, g = w.heap.size + 1 := ⟨_, rfl⟩
  have hs1 : W1.heap.size = w.heap.size + 1 := by rw [hW1]; simp
  have HB1 := Aside0.mk (show Below w.heap.size w W1 by rw [hW1]; exact below_alloc (Below.refl _ _) _)
  have HB2 := Aside0.mk (below_step HB1.out (show Below W1.heap.size W1 W2 by rw [hW2]; exact below_alloc (Below.refl _ _) _))
  have KB := (blk_below (show W1.heap[gb]? = some (.cells #[.int .i64 kd, .int .i64 nu, .string tx, .slice A3 ns.length c3, .slice A4 ks.length c4] 49 (0, 0)) by rw [hW1, hgb]; exact blk_new w _) (show Below W1.heap.size W1 W2 by rw [hW2]; exact below_alloc (Below.refl _ _) _))
  have K0 := Aside0.mk (show W2.heap[g0]? = some (.cells #[.int .i64 0, .int .i64 0, .string ⟨#[]⟩, .slice none 0 0, .slice none 0 0] 49 (0, 0)) by rw [hW2, hg0, ← hs1]; exact blk_new W1 _)
  have GE := Aside0.mk (show w.heap.size ≤ g0 by rw [hg0]; omega)
  have CB := Aside0.mk (show ∀ W, Below W2.heap.size W2 W → W.cell? ⟨gb, 0, none⟩ = some (.int .i64 kd) ∧ W.cell? ⟨gb, 1, none⟩ = some (.int .i64 nu) ∧ W.cell? ⟨gb, 2, none⟩ = some (.string tx) ∧ W.cell? ⟨gb, 3, none⟩ = some (.slice A3 ns.length c3) ∧ W.cell? ⟨gb, 4, none⟩ = some (.slice A4 ks.length c4) from fun W hb => by
    have K := blk_below KB hb
    exact ⟨(blk_cell K 0).trans rfl, (blk_cell K 1).trans rfl, (blk_cell K 2).trans rfl, (blk_cell K 3).trans rfl, (blk_cell K 4).trans rfl⟩)
  obtain ⟨k0, k1, k2, k3, k4⟩ := CB.out W2 (Below.refl _ _)
  have CZ := Aside0.mk (show ∀ W, Below W2.heap.size W2 W → W.cell? ⟨g0, 0, none⟩ = some (.int .i64 0) ∧ W.cell? ⟨g0, 1, none⟩ = some (.int .i64 0) ∧ W.cell? ⟨g0, 2, none⟩ = some (.string ⟨#[]⟩) ∧ W.cell? ⟨g0, 3, none⟩ = some (.slice none 0 0) ∧ W.cell? ⟨g0, 4, none⟩ = some (.slice none 0 0) ∧ W.frozen? ⟨g0, 0, none⟩ = false ∧ W.frozen? ⟨g0, 1, none⟩ = false ∧ W.frozen? ⟨g0, 2, none⟩ = false ∧ W.frozen? ⟨g0, 3, none⟩ = false ∧ W.frozen? ⟨g0, 4, none⟩ = false from fun W hb => by
    have K := blk_below K0.out hb
    exact ⟨(blk_cell K 0).trans rfl, (blk_cell K 1).trans rfl, (blk_cell K 2).trans rfl, (blk_cell K 3).trans rfl, (blk_cell K 4).trans rfl, blk_frozen K 0, blk_frozen K 1, blk_frozen K 2, blk_frozen K 3, blk_frozen K 4⟩)
  have HR := Aside0.mk (Kd.C_below hr HB2.out)
  have HS := Aside0.mk hs
  have HL := Aside0.mk hl
  clear KB hr hs hl
  by_cases h7 : kd = 7
  · subst h7
    obtain ⟨hl1, hl2⟩ := HL.out rfl
    have HL1 := Aside0.mk hl1
    have L3 := Aside0.mk (show Calls Tryz.prog 77 #[.agg #[.int .i64 7, .int .i64 nu, .string tx, .slice A3 ns.length c3, .slice A4 ks.length c4], .string idN] W2 fun e w' => e = .returned (.int .i64 (fstI idN ns 0)) ∧ Below W2.heap.size W2 w' by have h := l3At_c nu tx idN ns A3 A4 c3 c4 ks.length W2 HR.out hl1 hl2; rw [hl1]; exact h)
    rcases fstI_cases idN ns 0 with hf | ⟨j, hf, hj⟩
    · have HF := Aside0.mk hf
      have HX := Aside0.mk (show l8R 7 ns ks = (z49, false) by unfold l8R; rw [if_pos rfl, if_pos (by omega)])
      rw [HX.out]
      clear hf hl2 hl1
      go_enter Tryz.func50, Tryz.ntmps50
      go_upto_region 1 with fail
      rw [← hW1, ← hW2, ← hg0, ← hgb]
      clear hW1 hW2 hg0 hgb hs1
      go_wp2_with (first | (go_at_call 77; (refine L3.out.mono ?_); rintro e w3 ⟨rfl, hb⟩; rw [HF.out]; have B3 := Aside0.mk (below_step HB2.out hb); have K3 := Aside0.mk (blk_below K0.out hb); obtain ⟨z0, z1, z2, z3, z4, f0, f1, f2, f3, f4⟩ := CZ.out w3 hb; clear hb))
      refine bodyPost_ret (results_ct rfl _ _ g0 49 _ (0, 0) _ rfl (put5 K3.out) Tryz.underlying49 rfl (by kernel_rfl)) rfl ?_
      exact ⟨_, _, rfl, Kd.V_nil _ _ _ _ _, Kd.V_nil _ _ _ _ _, below_put5 B3.out GE.out⟩
    · rw [Nat.zero_add] at hf
      have hjk : j < ks.length := by omega
      have HF := Aside0.mk hf
      obtain ⟨ad, a3, d3, a4, d4, rfl, hcell, hV3, hV4⟩ := rec_at HS.out j hjk
      have HC := Aside0.mk hcell
      have HV3 := Aside0.mk hV3
      have HV4 := Aside0.mk hV4
      have hji : (j : Int) < (ks.length : Int) := by omega
      obtain ⟨u, hu⟩ : ∃ u, u = rd_T49 ks j := ⟨_, rfl⟩
      have HX0 := Aside0.mk (show l8R 7 ns ks = if (u.f0 == 4 || u.f0 == 5) = true then (u, true) else (z49, false) by unfold l8R; rw [if_pos rfl, hf, if_neg (by omega), ← hu])
      rw [← hu] at HC HV3 HV4
      have F3 := Aside0.mk (l8Flat_c u.f0 u.f1 u.f2 (.slice a3 u.f3.length d3) (.slice a4 u.f4.length d4))
      clear hf hl2 hu hcell hV3 hV4 hjk hl1 hj
      cases hb : (u.f0 == 4 || u.f0 == 5) with
      | false =>
        have HQ := Aside0.mk hb
        rw [HX0.out, hb, if_neg (by simp)]
        clear hb
        go_enter Tryz.func50, Tryz.ntmps50
        go_upto_region 1 with fail
        rw [← hW1, ← hW2, ← hg0, ← hgb]
        clear hW1 hW2 hg0 hgb hs1
        go_wp2_with (first | (go_at_call 77; (refine L3.out.mono ?_); rintro e w3 ⟨rfl, hb⟩; rw [HF.out]; have B3 := Aside0.mk (below_step HB2.out hb); have K3 := Aside0.mk (blk_below K0.out hb); have BW3 := Aside0.mk hb; obtain ⟨y0, y1, y2, y3, y4⟩ := CB.out w3 hb; obtain ⟨x0, x1, x2, x3, x4⟩ := HC.out w3 B3.out; clear hb) | (go_at_call 78; (refine (F3.out _).mono ?_); rintro e w4 ⟨rfl, hb⟩; rw [HQ.out]; have B4 := Aside0.mk (below_step B3.out hb); have K4 := Aside0.mk (blk_below K3.out hb); obtain ⟨z0, z1, z2, z3, z4, f0, f1, f2, f3, f4⟩ := CZ.out w4 (below_step BW3.out hb); clear hb))
        refine bodyPost_ret (results_ct rfl _ _ g0 49 _ (0, 0) _ rfl (put5 K4.out) Tryz.underlying49 rfl (by kernel_rfl)) rfl ?_
        exact ⟨_, _, rfl, Kd.V_nil _ _ _ _ _, Kd.V_nil _ _ _ _ _, below_put5 B4.out GE.out⟩
      | true =>
        have HQ := Aside0.mk hb
        rw [HX0.out, hb, if_pos rfl]
        clear hb
        go_enter Tryz.func50, Tryz.ntmps50
        go_upto_region 1 with fail
        rw [← hW1, ← hW2, ← hg0, ← hgb]
        clear hW1 hW2 hg0 hgb hs1
        go_wp2_with (first | (go_at_call 77; (refine L3.out.mono ?_); rintro e w3 ⟨rfl, hb⟩; rw [HF.out]; have B3 := Aside0.mk (below_step HB2.out hb); have K3 := Aside0.mk (blk_below K0.out hb); have BW3 := Aside0.mk hb; obtain ⟨y0, y1, y2, y3, y4⟩ := CB.out w3 hb; obtain ⟨x0, x1, x2, x3, x4⟩ := HC.out w3 B3.out; clear hb) | (go_at_call 78; (refine (F3.out _).mono ?_); rintro e w4 ⟨rfl, hb⟩; rw [HQ.out]; have B4 := Aside0.mk (below_step B3.out hb); have K4 := Aside0.mk (blk_below K3.out hb); obtain ⟨z0, z1, z2, z3, z4, f0, f1, f2, f3, f4⟩ := CZ.out w4 (below_step BW3.out hb); obtain ⟨q0, q1, q2, q3, q4⟩ := CB.out w4 (below_step BW3.out hb); obtain ⟨s0, s1, s2, s3, s4⟩ := HC.out w4 B4.out; clear hb))
        refine bodyPost_ret (results_ct rfl _ _ g0 49 _ (0, 0) _ rfl (put5 K4.out) Tryz.underlying49 rfl (by kernel_rfl)) rfl ?_
        have HB := below_put5 (a := .int .i64 u.f0) (b := .int .i64 u.f1) (c := .string u.f2) (d := .slice a3 u.f3.length d3) (e := .slice a4 u.f4.length d4) B4.out GE.out
        exact ⟨_, _, rfl, Kd.V_mono (Kd.V_below HV3.out HB) (fun _ h => .inl h), Kd.V_mono (Kd.V_below HV4.out HB) (fun _ h => .inl h), HB⟩
  · have h7b : (kd == 7) = false := by simpa using h7
    have HX := Aside0.mk (show l8R kd ns ks = (z49, false) by unfold l8R; rw [if_neg h7])
    rw [HX.out]
    obtain ⟨z0, z1, z2, z3, z4, f0, f1, f2, f3, f4⟩ := CZ.out W2 (Below.refl _ _)
    clear h7
    go_enter Tryz.func50, Tryz.ntmps50
    go_upto_region 1 with fail
    rw [← hW1, ← hW2, ← hg0, ← hgb]
    clear hW1 hW2 hg0 hgb hs1
    go_wp2
    refine bodyPost_ret (results_ct rfl _ _ g0 49 _ (0, 0) _ rfl (put5 K0.out) Tryz.underlying49 rfl (by kernel_rfl)) rfl ?_
    exact ⟨_, _, rfl, Kd.V_nil _ _ _ _ _, Kd.V_nil _ _ _ _ _, below_put5 HB2.out GE.out⟩
end Go.Proofs.YtdbfhbnlheankaaGreatDoor.VT
