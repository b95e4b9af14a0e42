import Derived.Test.YtemamcbdjfabnaaGreatDoorTOVND
import Derived.Test.YtemamcbdjfabnaaGreatDoorTOVGA
/- A tree told as a value where it is good; TextOf: walked. Conditions: the powers of ten stand in memory. -/
namespace Go.Proofs.YtemamcbdjfabnaaGreatDoor.VT
open Go.RowKit Go.Proofs.YtemamcbdjfabnaaGreatDoor.PVG Go.Proofs.YtemamcbdjfabnaaGreatDoorW.PrintWords Go.Proofs.YtemamcbdjfabnaaGreatDoorW.PrintLast Go.Proofs.YtemamcbdjfabnaaGreatDoorW.PrintMore
set_option linter.unusedVariables false
set_option linter.unusedSimpArgs false
theorem goodB_bnd {t : Tr} (h : goodB t = true) : bnd t = true := by
  unfold goodB at h
  simp only [Bool.and_eq_true] at h
  exact h.1.1.1
set_option maxRecDepth 100000 in
set_option maxHeartbeats 4000000 in
theorem told_c (t : Tr) (w : World) (g : Nat) (ht : HT w) (hv : IsV w g t) (hs : shp t = true) (hn : cnt t ≤ 1073741824) :
    Calls Tryz.prog 42 #[.pointer (some ⟨g, 0, none⟩)] w fun e w' => ∃ v', e = .returned (.tuple #[.agg #[v'], .bool (goodB t)]) ∧ Kd.R k54 54 w' w.heap.size (fun _ => True) v' (if goodB t = true then flat t nil_ (-1) 0 else []) ∧ Below w.heap.size w w' := by
  obtain ⟨W1, hW1⟩ : ∃ W1, W1 = w.alloc (.cells #[.slice none 0 0] 24) := ⟨_, rfl⟩
  obtain ⟨g0, hg0⟩ : ∃ g, g = w.heap.size := ⟨_, rfl⟩
  have HB1 := Aside0.mk (show Below w.heap.size w W1 by rw [hW1]; exact below_alloc (Below.refl _ _) _)
  have K1 := Aside0.mk (show W1.heap[g0]? = some (.cells #[.slice none 0 0] 24 (0, 0)) by rw [hW1, hg0]; exact blk_new w _)
  have GE := Aside0.mk (show w.heap.size ≤ g0 by rw [hg0]; exact Nat.le_refl _)
  have V1 := Aside0.mk (hv.below HB1.out)
  have GC := Aside0.mk (good_c t W1 g (ht.below HB1.out) V1.out hs hn)
  have HS := Aside0.mk hs
  have HN := Aside0.mk hn
  clear hv hs hn ht
  cases hg : goodB t with
  | false =>
    have HG := Aside0.mk hg
    clear hg
    go_enter Tryz.func42, Tryz.ntmps42
    go_upto_region 1 with fail
    rw [← hW1, ← hg0]
    clear hW1 hg0
    go_wp2_with (first | (go_at_call 68; (with_reducible refine GC.out.mono ?_); rintro e w2 ⟨rfl, hb⟩; rw [HG.out]; have B2 := Aside0.mk hb; have K2 := blk_below K1.out hb; have p0 : w2.cell? ⟨g0, 0, none⟩ = some (.slice none 0 0) := (blk_cell K2 0).trans rfl; have fz : w2.frozen? ⟨g0, 0, none⟩ = false := blk_frozen K2 0; have KK := Aside0.mk K2; clear hb K2))
    refine bodyPost_ret (results_ct rfl _ _ g0 24 #[.slice none 0 0] (0, 0) _ rfl (by simpa using blk_set KK.out 0 (.slice none 0 0)) Tryz.underlying24 rfl (by kernel_rfl)) rfl ?_
    exact ⟨_, rfl, Kd.R_nil _ _ _ _ _, below_set (below_step HB1.out B2.out) GE.out⟩
  | true =>
    have HG := Aside0.mk hg
    have FT := Aside0.mk (fit_of t HS.out (goodB_bnd hg))
    clear hg
    go_enter Tryz.func42, Tryz.ntmps42
    go_upto_region 1 with fail
    rw [← hW1, ← hg0]
    clear hW1 hg0
    go_wp2_with (first | (go_at_call 68; (with_reducible refine GC.out.mono ?_); rintro e w2 ⟨rfl, hb⟩; rw [HG.out]; have B2 := Aside0.mk hb; have V2 := Aside0.mk (V1.out.below hb); have K2 := Aside0.mk (blk_below K1.out hb); clear hb) | (go_at_call 67; (with_reducible refine (value_c t _ g V2.out FT.out HN.out).mono ?_); rintro e w3 ⟨v3, rfl, ho, hb⟩; obtain ⟨A3, c3, rfl⟩ := Kd.R_slice ho; obtain ⟨n3, hn3⟩ : ∃ n, n = (flat t nil_ (-1) 0).length := ⟨_, rfl⟩; rw [← hn3] at ho ⊢; have R3 := Aside0.mk ho; have B3 := Aside0.mk hb; have K3 := blk_below K2.out hb; have p0 : w3.cell? ⟨g0, 0, none⟩ = some (.slice none 0 0) := (blk_cell K3 0).trans rfl; have fz : w3.frozen? ⟨g0, 0, none⟩ = false := blk_frozen K3 0; have KK := Aside0.mk K3; clear ho hb K3 hn3))
    refine bodyPost_ret (results_ct rfl _ _ g0 24 #[.slice A3 n3 c3] (0, 0) _ rfl (by simpa using blk_set KK.out 0 (.slice A3 n3 c3)) Tryz.underlying24 rfl (by kernel_rfl)) rfl ?_
    refine ⟨_, rfl, ?_, below_set (below_step HB1.out (below_step B2.out B3.out)) GE.out⟩
    exact Kd.R_lower (Kd.R_mono (Kd.R_far (Kd.R_types R3.out KK.out (by decide)) (fun k hk => hk.2) _) (fun _ _ => trivial)) (Nat.le_trans HB1.out.size B2.out.size)
set_option maxRecDepth 100000 in
set_option maxHeartbeats 4000000 in
theorem textOf_c (s : ByteArray) (w : World) (ht : HT w) :
    Calls Tryz.prog 14 #[.string s] w fun e w' => ∃ v', e = .returned (.tuple #[.agg #[v'], .bool (prt s)]) ∧ Kd.R k54 54 w' w.heap.size (fun _ => True) v' (if prt s = true then [⟨5, 0, s, nil_, -1⟩] else []) ∧ Below w.heap.size w w' := by
  have EG := Aside0.mk (show goodB (.mk 5 0 s [] []) = prt s by
    unfold goodB
    rw [bnd]
    have hd : deep (.mk 5 0 s [] []) ≤ 6 := by simp [deep, deepL, hN, holdsB]
    have hc : cnt (.mk 5 0 s [] []) ≤ 80 := by simp [cnt, cntL]
    rw [decide_eq_true hc, decide_eq_true hd]
    cases hp : prt s with
    | false => simp [hp]
    | true =>
      have hl : (textL (.mk 5 0 s [] [])).length ≤ 300 := by
        have := textF_len (.mk 5 0 s [] []) (by rw [fit, hp]; rfl)
        simp only [cnt, cntL] at this
        omega
      rw [decide_eq_true hl]
      simp [bndL, inB, hp])
  cases hp : prt s with
  | false =>
    obtain ⟨W1, hW1⟩ : ∃ W1, W1 = w.alloc (.cells #[.slice none 0 0] 24) := ⟨_, rfl⟩
    obtain ⟨g0, hg0⟩ : ∃ g, g = w.heap.size := ⟨_, rfl⟩
    have HB1 := Aside0.mk (show Below w.heap.size w W1 by rw [hW1]; exact below_alloc (Below.refl _ _) _)
    have K1 := Aside0.mk (show W1.heap[g0]? = some (.cells #[.slice none 0 0] 24 (0, 0)) by rw [hW1, hg0]; exact blk_new w _)
    have GE := Aside0.mk (show w.heap.size ≤ g0 by rw [hg0]; exact Nat.le_refl _)
    obtain ⟨W2, hW2⟩ : ∃ W2, W2 = W1.alloc (.cells #[.int .i64 5, .int .i64 0, .string s, .slice none 0 0, .slice none 0 0] 59) := ⟨_, rfl⟩
    obtain ⟨g1, hg1⟩ : ∃ g, g = W1.heap.size := ⟨_, rfl⟩
    have HB2 := Aside0.mk (show Below W1.heap.size W1 W2 by rw [hW2]; exact below_alloc (Below.refl _ _) _)
    have V2 := Aside0.mk (show IsV W2 g1 (.mk 5 0 s [] []) from kP_mk W2 (.mk 5 0 s [] []) (by rw [hW2, hg1]; exact blk_new W1 _) (Nat.le_refl _) (Kd.C_nil _ _) (Nat.le_refl _) (Kd.C_nil _ _))
    have TC := Aside0.mk (told_c (.mk 5 0 s [] []) W2 g1 (ht.below (below_step HB1.out HB2.out)) V2.out (by rw [shp]; rfl) (by simp [cnt, cntL]))
    have HP := Aside0.mk hp
    clear ht V2 hp
    go_enter Tryz.func14, Tryz.ntmps14
    go_upto_region 1 with fail
    rw [← hW1, ← hg0]
    clear hW1 hg0
    go_wp2_with (first | (go_at_call 42; rw [← hW2, ← hg1]; (with_reducible refine TC.out.mono ?_); rintro e w3 ⟨v3, rfl, ho, hb⟩; rw [EG.out, HP.out]; rw [EG.out, HP.out] at ho; obtain ⟨A3, c3, rfl⟩ := Kd.R_slice ho; obtain ⟨n3, hn3⟩ : ∃ n, n = (if false = true then flat (.mk 5 0 s [] []) nil_ (-1) 0 else []).length := ⟨_, rfl⟩; rw [← hn3] at ho ⊢; have R3 := Aside0.mk ho; have B3 := Aside0.mk hb; have K3 := blk_below (blk_below K1.out HB2.out) hb; have p0 : w3.cell? ⟨g0, 0, none⟩ = some (.slice none 0 0) := (blk_cell K3 0).trans rfl; have fz : w3.frozen? ⟨g0, 0, none⟩ = false := blk_frozen K3 0; have KK := Aside0.mk K3; clear ho hb K3 hn3 hW2 hg1))
    refine bodyPost_ret (results_ct rfl _ _ g0 24 #[.slice A3 n3 c3] (0, 0) _ rfl (by simpa using blk_set KK.out 0 (.slice A3 n3 c3)) Tryz.underlying24 rfl (by kernel_rfl)) rfl ?_
    refine ⟨_, rfl, ?_, below_set (below_step HB1.out (below_step HB2.out B3.out)) GE.out⟩
    have R4 := Kd.R_lower (Kd.R_mono (ok' := fun _ => True) (Kd.R_far (Kd.R_types R3.out KK.out (by decide)) (p := ⟨g0, 0, none⟩) (fun k hk => hk.2) (.slice A3 n3 c3)) (fun _ _ => trivial)) (Nat.le_trans HB1.out.size HB2.out.size)
    have e : flat (.mk 5 0 s [] []) nil_ (-1) 0 = [⟨5, 0, s, nil_, -1⟩] := by rw [flat, flatL]
    rw [e] at R4
    exact R4
  | true =>
    obtain ⟨W1, hW1⟩ : ∃ W1, W1 = w.alloc (.cells #[.slice none 0 0] 24) := ⟨_, rfl⟩
    obtain ⟨g0, hg0⟩ : ∃ g, g = w.heap.size := ⟨_, rfl⟩
    have HB1 := Aside0.mk (show Below w.heap.size w W1 by rw [hW1]; exact below_alloc (Below.refl _ _) _)
    have K1 := Aside0.mk (show W1.heap[g0]? = some (.cells #[.slice none 0 0] 24 (0, 0)) by rw [hW1, hg0]; exact blk_new w _)
    have GE := Aside0.mk (show w.heap.size ≤ g0 by rw [hg0]; exact Nat.le_refl _)
    obtain ⟨W2, hW2⟩ : ∃ W2, W2 = W1.alloc (.cells #[.int .i64 5, .int .i64 0, .string s, .slice none 0 0, .slice none 0 0] 59) := ⟨_, rfl⟩
    obtain ⟨g1, hg1⟩ : ∃ g, g = W1.heap.size := ⟨_, rfl⟩
    have HB2 := Aside0.mk (show Below W1.heap.size W1 W2 by rw [hW2]; exact below_alloc (Below.refl _ _) _)
    have V2 := Aside0.mk (show IsV W2 g1 (.mk 5 0 s [] []) from kP_mk W2 (.mk 5 0 s [] []) (by rw [hW2, hg1]; exact blk_new W1 _) (Nat.le_refl _) (Kd.C_nil _ _) (Nat.le_refl _) (Kd.C_nil _ _))
    have TC := Aside0.mk (told_c (.mk 5 0 s [] []) W2 g1 (ht.below (below_step HB1.out HB2.out)) V2.out (by rw [shp]; rfl) (by simp [cnt, cntL]))
    have HP := Aside0.mk hp
    clear ht V2 hp
    go_enter Tryz.func14, Tryz.ntmps14
    go_upto_region 1 with fail
    rw [← hW1, ← hg0]
    clear hW1 hg0
    go_wp2_with (first | (go_at_call 42; rw [← hW2, ← hg1]; (with_reducible refine TC.out.mono ?_); rintro e w3 ⟨v3, rfl, ho, hb⟩; rw [EG.out, HP.out]; rw [EG.out, HP.out] at ho; obtain ⟨A3, c3, rfl⟩ := Kd.R_slice ho; obtain ⟨n3, hn3⟩ : ∃ n, n = (if true = true then flat (.mk 5 0 s [] []) nil_ (-1) 0 else []).length := ⟨_, rfl⟩; rw [← hn3] at ho ⊢; have R3 := Aside0.mk ho; have B3 := Aside0.mk hb; have K3 := blk_below (blk_below K1.out HB2.out) hb; have p0 : w3.cell? ⟨g0, 0, none⟩ = some (.slice none 0 0) := (blk_cell K3 0).trans rfl; have fz : w3.frozen? ⟨g0, 0, none⟩ = false := blk_frozen K3 0; have KK := Aside0.mk K3; clear ho hb K3 hn3 hW2 hg1))
    refine bodyPost_ret (results_ct rfl _ _ g0 24 #[.slice A3 n3 c3] (0, 0) _ rfl (by simpa using blk_set KK.out 0 (.slice A3 n3 c3)) Tryz.underlying24 rfl (by kernel_rfl)) rfl ?_
    refine ⟨_, rfl, ?_, below_set (below_step HB1.out (below_step HB2.out B3.out)) GE.out⟩
    have R4 := Kd.R_lower (Kd.R_mono (ok' := fun _ => True) (Kd.R_far (Kd.R_types R3.out KK.out (by decide)) (p := ⟨g0, 0, none⟩) (fun k hk => hk.2) (.slice A3 n3 c3)) (fun _ _ => trivial)) (Nat.le_trans HB1.out.size HB2.out.size)
    have e : flat (.mk 5 0 s [] []) nil_ (-1) 0 = [⟨5, 0, s, nil_, -1⟩] := by rw [flat, flatL]
    rw [e] at R4
    exact R4
end Go.Proofs.YtemamcbdjfabnaaGreatDoor.VT
