import Derived.Test.YtemamcbdjfabnaaGreatDoorSOVND
import Derived.Test.YtemamcbdjfabnaaGreatDoorSOVGA
import Derived.Test.YtemamcbdjfabnaaGreatDoorSOVTH
/- A part of a value: where it lies, what the program's SubOf answers. Conditions: the powers of ten stand in memory. -/
namespace Go.Proofs.YtemamcbdjfabnaaGreatDoor.VT
open Go.RowKit Go.Proofs.YtemamcbdjfabnaaGreatDoor.PVG Go.Proofs.YtemamcbdjfabnaaGreatDoorW.PrintWords Go.Proofs.YtemamcbdjfabnaaGreatDoorW.PrintLast Go.Proofs.YtemamcbdjfabnaaGreatDoorW.PrintMore
set_option linter.unusedVariables false
set_option linter.unusedSimpArgs false
theorem cntL_split : ∀ (ks : List Tr) (j : Nat), j < cntL ks → ∃ a t b, ks = a ++ t :: b ∧ cntL a ≤ j ∧ j < cntL a + cnt t
  | [], j, h => by simp [cntL] at h
  | t :: ts, j, h => by
    by_cases hj : j < cnt t
    · exact ⟨[], t, ts, rfl, by simp [cntL], by simp [cntL]; omega⟩
    · simp only [cntL] at h
      obtain ⟨a, u, b, e, h1, h2⟩ := cntL_split ts (j - cnt t) (by omega)
      exact ⟨t :: a, u, b, by rw [e]; rfl, by simp only [cntL]; omega, by simp only [cntL]; omega⟩
/-- At each place of a right part there is a right part. -/
theorem pl_at {l : List S54} : ∀ (t : Tr) {k : Nat} {nm : ByteArray} {up : Int}, Pl l k t nm up → ∀ j, k ≤ j → j < k + cnt t → ∃ t' nm' up', Pl l j t' nm' up' := by
  intro t
  refine Tr.ind (P := fun t => ∀ {k : Nat} {nm : ByteArray} {up : Int}, Pl l k t nm up → ∀ j, k ≤ j → j < k + cnt t → ∃ t' nm' up', Pl l j t' nm' up') ?_ t
  intro kd nu tx ns ks ih k nm up h j h1 h2
  by_cases hj : j = k
  · subst hj; exact ⟨_, _, _, h⟩
  · simp only [cnt] at h2
    obtain ⟨a, u, b, e, h3, h4⟩ := cntL_split ks (j - (k + 1)) (by omega)
    subst e
    exact ih u (by simp) h.part j (by omega) (by omega)
theorem pl_par {l : List S54} {t : Tr} {k : Nat} {nm : ByteArray} {up : Int} (h : Pl l k t nm up) (hc : ∀ j, j < l.length → Cond l j) : par l k (upk l k) = some (t, k + cnt t) := by
  have hk := h.lt
  have hp := cnt_pos t
  have hn := (hc k (by omega)).nodeOK_
  rw [nd_flat h.at_] at hn
  refine (par_all (2 * cnt t)).1 t nm up k (upk l k) (Nat.le_refl _) h.at_ h.wf_ hn (fun he => ?_)
  have hl := (hc (k + cnt t) he).lt (by omega)
  rcases h.out (k + cnt t) (Nat.le_refl _) he with h1 | h1
  · exact h1
  · omega
/-- The nodes of a part. -/
def subL (l : List S54) (k : Nat) : List S54 := match par l k (upk l k) with
  | none => []
  | some (t, _) => flat t nil_ (-1) 0
def subP (l : List S54) (a : Int) : List S54 × Bool := if (valT l).isSome = true ∧ (0 ≤ a ∧ a ≤ (l.length : Int) - 1) then (subL l a.toNat, true) else ([], false)
theorem cond_of {l : List S54} {t : Tr} (h : valT l = some t) : ∀ j, j < l.length → Cond l j := by
  obtain ⟨h1, h2, h3, h4, h5⟩ := valT_iff.1 h
  exact ((shapeB_iff l).1 (shape_tree.2 ⟨t, h1, h2, h3, h4⟩)).2
theorem sub_at {l : List S54} {t : Tr} (h : valT l = some t) (k : Nat) (hk : k < l.length) : ∃ u nm up, Pl l k u nm up ∧ par l k (upk l k) = some (u, k + cnt u) := by
  obtain ⟨h1, h2, h3, h4, h5⟩ := valT_iff.1 h
  have hp : Pl l 0 t nil_ (-1) := by rw [h1]; exact Pl.root h2 h4
  have hlen : l.length = cnt t := by rw [h1, flat_len]
  obtain ⟨u, nm, up, hu⟩ := pl_at t hp k (by omega) (by omega)
  exact ⟨u, nm, up, hu, pl_par hu (cond_of h)⟩
theorem subP_no {l : List S54} {a : Int} (h : (valT l).isSome = false) : subP l a = ([], false) := by unfold subP; rw [if_neg (by rw [h]; simp)]
theorem subP_out {l : List S54} {a : Int} (h : ¬ (0 ≤ a ∧ a ≤ (l.length : Int) - 1)) : subP l a = ([], false) := by unfold subP; rw [if_neg (fun q => h q.2)]
theorem subP_at {l : List S54} {n : Nat} {u : Tr} {e : Nat} (h : (valT l).isSome = true) (hn : n < l.length) (hp : par l n (upk l n) = some (u, e)) : subP l n = (flat u nil_ (-1) 0, true) := by
  unfold subP
  rw [if_pos ⟨h, by omega, by omega⟩]
  unfold subL
  rw [Int.toNat_natCast, hp]
set_option maxRecDepth 100000 in
set_option maxHeartbeats 8000000 in
theorem subOf_c (l : List S54) (a : Int) (A : Option Addr) (c : Nat) (w : World) (ht : HT w) (hr : Kd.C k54 w A l.length l) (hc : l.length ≤ c) (hl : l.length ≤ 1073741824) :
    Calls Tryz.prog 40 #[.agg #[.slice A l.length c], .int .i64 a] w fun e w' => ∃ v', e = .returned (.tuple #[.agg #[v'], .bool (subP l a).2]) ∧ Kd.R k54 54 w' w.heap.size (fun _ => True) v' (subP l a).1 ∧ Below w.heap.size w w' := by
  obtain ⟨W1, hW1⟩ : ∃ W1, W1 = w.alloc (.cells #[.slice A l.length c] 24) := ⟨_, rfl⟩
  obtain ⟨W2, hW2⟩ : ∃ W2, W2 = W1.alloc (.cells #[.slice none 0 0] 24) := ⟨_, rfl⟩
  obtain ⟨gb, hgb⟩ : ∃ g, g = w.heap.size := ⟨_, rfl⟩
  obtain ⟨g0, hg0⟩ : ∃ g, g = w.heap.size + 1 := ⟨_, rfl⟩
  have hs1 : W1.heap.size = w.heap.size + 1 := by rw [hW1]; simp
  have HB1 := Aside0.mk (show Below w.heap.size w W1 by rw [hW1]; exact below_alloc (Below.refl _ _) _)
  have HB2 := Aside0.mk (below_step HB1.out (show Below W1.heap.size W1 W2 by rw [hW2]; exact below_alloc (Below.refl _ _) _))
  have KB := Aside0.mk (blk_below (show W1.heap[gb]? = some (.cells #[.slice A l.length c] 24 (0, 0)) by rw [hW1, hgb]; exact blk_new w _) (show Below W1.heap.size W1 W2 by rw [hW2]; exact below_alloc (Below.refl _ _) _))
  have K0 := Aside0.mk (show W2.heap[g0]? = some (.cells #[.slice none 0 0] 24 (0, 0)) by rw [hW2, hg0, ← hs1]; exact blk_new W1 _)
  have GE := Aside0.mk (show w.heap.size ≤ g0 by rw [hg0]; omega)
  have NE := Aside0.mk (show gb ≠ g0 by rw [hg0, hgb]; omega)
  have HR := Aside0.mk hr
  have HC := Aside0.mk hc
  have HL := Aside0.mk hl
  have GV := Aside0.mk (goodValue_c l A c W2 (ht.below HB2.out) (Kd.C_below hr HB2.out) hc)
  have t0 : W2.cell? ⟨gb, 0, none⟩ = some (.slice A l.length c) := (blk_cell KB.out 0).trans rfl
  have hl' : (l.length : Int) ≤ 1073741824 := by omega
  clear ht hr hc hl
  cases hv : (valT l).isSome with
  | false =>
    have HV := Aside0.mk hv
    have HP := Aside0.mk (subP_no (a := a) hv)
    rw [HP.out]
    clear hv
    go_enter Tryz.func40, Tryz.ntmps40
    go_upto_region 1 with fail
    rw [← hW1, ← hW2, ← hg0, ← hgb]
    clear hW1 hW2 hg0 hgb hs1
    go_wp2_with (first | (go_at_call 21; (with_reducible refine GV.out.mono ?_); rintro e w2 ⟨rfl, hb⟩; rw [HV.out]; have B2 := Aside0.mk hb; have K2 := blk_below K0.out hb; have p0 : w2.cell? ⟨g0, 0, none⟩ = some (.slice none 0 0) := (blk_cell K2 0).trans rfl; have fz : w2.frozen? ⟨g0, 0, none⟩ = false := blk_frozen K2 0; have KK := Aside0.mk K2; clear hb K2))
    refine bodyPost_ret (results_ct rfl _ _ g0 24 #[.slice none 0 0] (0, 0) _ rfl (by simpa using blk_set KK.out 0 (.slice none 0 0)) Tryz.underlying24 rfl (by kernel_rfl)) rfl ?_
    exact ⟨_, rfl, Kd.R_nil _ _ _ _ _, below_set (below_step HB2.out B2.out) GE.out⟩
  | true =>
    have HV := Aside0.mk hv
    by_cases hin : 0 ≤ a ∧ a ≤ (l.length : Int) - 1
    · obtain ⟨n, rfl⟩ : ∃ n : Nat, a = n := ⟨a.toNat, by omega⟩
      have hn : n < l.length := by omega
      obtain ⟨t0r, hvt⟩ := Option.isSome_iff_exists.1 hv
      obtain ⟨u, nm, up, hu, hpu⟩ := sub_at hvt n hn
      have HP := Aside0.mk (subP_at hv hn hpu)
      rw [HP.out]
      have HE := Aside0.mk (show inB (n : Int) 0 ((l.length : Int) - 1) = true by unfold inB; simp; omega)
      have HU := Aside0.mk hpu
      have HN := Aside0.mk hn
      have UW := Aside0.mk (wf_fit u hu.wf_)
      have UC := Aside0.mk (show cnt u ≤ 1073741824 by have := hu.lt; have := HL.out; omega)
      have CO := Aside0.mk (cond_of hvt)
      clear hv hvt hu hpu hin
      go_enter Tryz.func40, Tryz.ntmps40
      go_upto_region 1 with fail
      rw [← hW1, ← hW2, ← hg0, ← hgb]
      clear hW1 hW2 hg0 hgb hs1
      go_upto_region 3 with (first | (go_at_call 21; (with_reducible refine GV.out.mono ?_); rintro e w2 ⟨rfl, hb⟩; rw [HV.out]; have B2 := Aside0.mk hb; have K2 := Aside0.mk (blk_below K0.out hb); have KB2 := Aside0.mk (blk_below KB.out hb); have p0 : w2.cell? ⟨gb, 0, none⟩ = some (.slice A l.length c) := (blk_cell KB2.out 0).trans rfl; clear hb) | (go_at_call 59; (with_reducible refine (within_c _ _ _ _ _ HE.out).mono ?_); rintro e w' ⟨rfl, ⟨n_, rfl⟩⟩))
      obtain ⟨w3, hw3⟩ : ∃ w3, w3 = w2.drewN n_ := ⟨_, rfl⟩
      rw [← hw3]
      have B3 := Aside0.mk (show Below w.heap.size w w3 by rw [hw3]; exact pw_below_drewN (below_step HB2.out B2.out) _)
      have K3 := Aside0.mk (show w3.heap[g0]? = some (.cells #[.slice none 0 0] 24 (0, 0)) by rw [hw3]; exact blk_drewN K2.out _)
      have KB3 := Aside0.mk (show w3.heap[gb]? = some (.cells #[.slice A l.length c] 24 (0, 0)) by rw [hw3]; exact blk_drewN KB2.out _)
      clear hw3 p0 t0 K2 KB2 B2
      have hn' : (n : Int) < (l.length : Int) := by omega
      have k0 : w3.cell? ⟨gb, 0, none⟩ = some (.slice A l.length c) := (blk_cell KB3.out 0).trans rfl
      by_cases h0 : n = 0
      · have UZ := Aside0.mk (show upk l n = 0 by unfold upk; rw [if_pos h0])
        have HU0 := Aside0.mk (show par l n 0 = some (u, n + cnt u) by have := HU.out; rwa [UZ.out] at this)
        have hz : decide (0 < n) = false := decide_eq_false (by omega)
        clear hn' h0
        go_upto_region 7 with (first | (go_at_call 66; (with_reducible refine (VPost.yes (valFrom_c l A c HL.out HC.out (l.length - n) n 0 _ (Nat.le_refl _) HN.out (Kd.C_below HR.out B3.out)) HU0.out).mono ?_); rintro e w5 ⟨g5, rfl, hb, hM⟩; have B5 := Aside0.mk (below_step B3.out hb); have V5 := Aside0.mk (show IsV w5 g5 u from kP.K_of_M hM); have K5 := Aside0.mk (blk_below K3.out hb); clear hb hM))
        go_wp2_with (first | (go_at_call 67; (with_reducible refine (value_c u _ g5 V5.out UW.out UC.out).mono ?_); rintro e w6 ⟨v6, rfl, ho, hb⟩; obtain ⟨A6, c6, rfl⟩ := Kd.R_slice ho; obtain ⟨n6, hn6⟩ : ∃ n, n = (flat u nil_ (-1) 0).length := ⟨_, rfl⟩; rw [← hn6] at ho ⊢; have R6 := Aside0.mk ho; have B6 := Aside0.mk hb; have K6 := blk_below K5.out hb; have q0 : w6.cell? ⟨g0, 0, none⟩ = some (.slice none 0 0) := (blk_cell K6 0).trans rfl; have fz : w6.frozen? ⟨g0, 0, none⟩ = false := blk_frozen K6 0; have KK := Aside0.mk K6; clear ho hb K6 hn6))
        refine bodyPost_ret (results_ct rfl _ _ g0 24 #[.slice A6 n6 c6] (0, 0) _ rfl (by simpa using blk_set KK.out 0 (.slice A6 n6 c6)) Tryz.underlying24 rfl (by kernel_rfl)) rfl ?_
        refine ⟨_, rfl, ?_, below_set (below_step B5.out B6.out) GE.out⟩
        exact Kd.R_lower (Kd.R_mono (Kd.R_far (Kd.R_types R6.out KK.out (by decide)) (fun k hk => hk.2) _) (fun _ _ => trivial)) B5.out.size
      · have hpos : 0 < n := by omega
        obtain ⟨q, hq⟩ : ∃ q : Nat, (nd l n).f4 = (q : Int) := ⟨(nd l n).f4.toNat, by have := (CO.out n HN.out).ge (by omega); omega⟩
        have hqn : q < n := by have := (CO.out n HN.out).lt (by omega); omega
        obtain ⟨ad, eA, _, _, _, _, c4⟩ := node_at HR.out B3.out n HN.out
        obtain ⟨ad2, eA2, d0, _, _, _, _⟩ := node_at HR.out B3.out q (by omega)
        rw [eA] at eA2
        obtain rfl := Option.some.inj eA2
        subst eA
        rw [hq] at c4
        have UZ := Aside0.mk (show upk l n = (nd l q).f0 by unfold upk; rw [if_neg h0, hq]; rfl)
        have hq' : (q : Int) < (l.length : Int) := by omega
        have hql : q < l.length := by omega
        clear h0 hq hqn
        go_upto_region 5 with fail
        go_quiet (fail)
        have BX := Aside0.mk (pw_below_drewN B3.out nq)
        have KX := Aside0.mk (blk_drewN K3.out nq)
        have KBX := Aside0.mk (blk_drewN KB3.out nq)
        clear hpos c4 d0 k0
        obtain ⟨w4, hw4⟩ : ∃ w4, w4 = w3.drewN nq := ⟨_, rfl⟩
        rw [← hw4]
        have BY := BX.out
        have KY := KX.out
        have KBY := KBX.out
        clear BX KX KBX
        rw [← hw4] at BY KY KBY
        have BX := Aside0.mk BY
        have KX := Aside0.mk KY
        have KBX := Aside0.mk KBY
        clear hw4 BY KY KBY
        have k0 : w4.cell? ⟨gb, 0, none⟩ = some (.slice (some ad) l.length c) := (blk_cell KBX.out 0).trans rfl
        go_upto_region 7 with (first | (go_at_call 66; (with_reducible refine (VPost.yes (valFrom_c l (some ad) c HL.out HC.out (l.length - n) n (nd l q).f0 _ (Nat.le_refl _) HN.out (Kd.C_below HR.out BX.out)) (UZ.out ▸ HU.out)).mono ?_); rintro e w5 ⟨g5, rfl, hb, hM⟩; have B5 := Aside0.mk (below_step BX.out hb); have V5 := Aside0.mk (show IsV w5 g5 u from kP.K_of_M hM); have K5 := Aside0.mk (blk_below KX.out hb); clear hb hM))
        go_wp2_with (first | (go_at_call 67; (with_reducible refine (value_c u _ g5 V5.out UW.out UC.out).mono ?_); rintro e w6 ⟨v6, rfl, ho, hb⟩; obtain ⟨A6, c6, rfl⟩ := Kd.R_slice ho; obtain ⟨n6, hn6⟩ : ∃ n, n = (flat u nil_ (-1) 0).length := ⟨_, rfl⟩; rw [← hn6] at ho ⊢; have R6 := Aside0.mk ho; have B6 := Aside0.mk hb; have K6 := blk_below K5.out hb; have q0 : w6.cell? ⟨g0, 0, none⟩ = some (.slice none 0 0) := (blk_cell K6 0).trans rfl; have fz : w6.frozen? ⟨g0, 0, none⟩ = false := blk_frozen K6 0; have KK := Aside0.mk K6; clear ho hb K6 hn6))
        refine bodyPost_ret (results_ct rfl _ _ g0 24 #[.slice A6 n6 c6] (0, 0) _ rfl (by simpa using blk_set KK.out 0 (.slice A6 n6 c6)) Tryz.underlying24 rfl (by kernel_rfl)) rfl ?_
        refine ⟨_, rfl, ?_, below_set (below_step B5.out B6.out) GE.out⟩
        exact Kd.R_lower (Kd.R_mono (Kd.R_far (Kd.R_types R6.out KK.out (by decide)) (fun k hk => hk.2) _) (fun _ _ => trivial)) B5.out.size
    · have HP := Aside0.mk (subP_out hin)
      rw [HP.out]
      have HE := Aside0.mk (show inB a 0 ((l.length : Int) - 1) = false by unfold inB; simp; omega)
      clear hv hin
      go_enter Tryz.func40, Tryz.ntmps40
      go_upto_region 1 with fail
      rw [← hW1, ← hW2, ← hg0, ← hgb]
      clear hW1 hW2 hg0 hgb hs1
      go_wp2_with (first | (go_at_call 21; (with_reducible refine GV.out.mono ?_); rintro e w2 ⟨rfl, hb⟩; rw [HV.out]; have B2 := Aside0.mk hb; have K2 := blk_below K0.out hb; have KB2 := blk_below KB.out hb; have p1 : w2.cell? ⟨gb, 0, none⟩ = some (.slice A l.length c) := (blk_cell KB2 0).trans rfl; have p0 : w2.cell? ⟨g0, 0, none⟩ = some (.slice none 0 0) := (blk_cell K2 0).trans rfl; have fz : w2.frozen? ⟨g0, 0, none⟩ = false := blk_frozen K2 0; have KK := Aside0.mk K2; clear hb K2 KB2) | (go_at_call 59; (with_reducible refine (within_c _ _ _ _ _ HE.out).mono ?_); rintro e w' ⟨rfl, ⟨n_, rfl⟩⟩))
      refine bodyPost_ret (results_ct rfl _ _ g0 24 #[.slice none 0 0] (0, 0) _ rfl (by simpa using blk_set (blk_drewN KK.out n_) 0 (.slice none 0 0)) Tryz.underlying24 rfl (by kernel_rfl)) rfl ?_
      exact ⟨_, rfl, Kd.R_nil _ _ _ _ _, below_set (pw_below_drewN (below_step HB2.out B2.out) _) GE.out⟩
end Go.Proofs.YtemamcbdjfabnaaGreatDoor.VT
