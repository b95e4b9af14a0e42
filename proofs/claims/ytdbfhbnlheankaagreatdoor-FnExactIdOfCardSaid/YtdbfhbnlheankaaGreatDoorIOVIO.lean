import Derived.Test.YtdbfhbnlheankaaGreatDoorIOVND
import Derived.Test.YtdbfhbnlheankaaGreatDoorIOVGA
import Derived.Test.YtdbfhbnlheankaaGreatDoorIOPVGx0
import Derived.Test.YtdbfhbnlheankaaGreatDoorIOVTH
import Derived.Test.YtdbfhbnlheankaaGreatDoorIOVID
/- IdOf, the program's: walked. Conditions: the powers of ten stand in memory. -/
namespace Go.Proofs.YtdbfhbnlheankaaGreatDoor.VT
open Go.RowKit Go.Proofs.YtdbfhbnlheankaaGreatDoor.PVG Go.Proofs.YtdbfhbnlheankaaGreatDoorW.PrintWords Go.Proofs.YtdbfhbnlheankaaGreatDoorW.PrintLast Go.Proofs.YtdbfhbnlheankaaGreatDoorW.PrintMore
set_option linter.unusedVariables false
set_option linter.unusedSimpArgs false
/-- What IdOf answers. -/
def idV (l : List S82) : List S82 × Bool := match valT l with
  | none => ([], false)
  | some t => match idT t with
    | none => ([], false)
    | some u => (flat u nil_ (-1) 0, true)
theorem IdPost.no {t : Tr} {w : World} {xs : Array Value} (h : Calls Tryz.prog 51 xs w (IdPost t w)) (hp : idT t = .none) : Calls Tryz.prog 51 xs w fun e w' => e = .returned (.pointer .none) ∧ Below w.heap.size w w' :=
  h.mono fun e w' hq => by
    obtain ⟨hb, ⟨_, rfl⟩ | ⟨t, g, h2, _⟩⟩ := hq
    · exact ⟨rfl, hb⟩
    · rw [hp] at h2; cases h2
theorem IdPost.yes {t : Tr} {w : World} {xs : Array Value} {u : Tr} (h : Calls Tryz.prog 51 xs w (IdPost t w)) (hp : idT t = .some u) : Calls Tryz.prog 51 xs w fun e w' => ∃ g, e = .returned (.pointer (.some ⟨g, 0, .none⟩)) ∧ Below w.heap.size w w' ∧ IsV w' g u :=
  h.mono fun e w' hq => by
    obtain ⟨hb, ⟨h2, _⟩ | ⟨t', g, h2, rfl, hv⟩⟩ := hq
    · rw [hp] at h2; cases h2
    · rw [hp] at h2
      cases h2
      exact ⟨g, rfl, hb, hv⟩
theorem idT_kid {t u : Tr} (h : idT t = some u) : u ∈ t.ks := by
  unfold idT at h
  split at h
  · split at h
    · split at h
      · rename_i v e
        split at h
        · obtain rfl := Option.some.inj h
          exact List.mem_of_getElem? e
        · cases h
      · cases h
    · cases h
  · cases h
theorem cntL_kid : ∀ {ks : List Tr} {u : Tr}, u ∈ ks → cnt u ≤ cntL ks
  | t :: ts, u, h => by
    simp only [cntL]
    rcases List.mem_cons.1 h with rfl | h
    · omega
    · have := cntL_kid h; omega
set_option maxRecDepth 100000 in
set_option maxHeartbeats 4000000 in
theorem idOf_c (l : List S82) (A : Option Addr) (c : Nat) (w : World) (ht : HT w) (hr : Kd.C k82 w A l.length l) (hc : l.length ≤ c) :
    Calls Tryz.prog 24 #[.agg #[.slice A l.length c]] w fun e w' => ∃ v', e = .returned (.tuple #[.agg #[v'], .bool (idV l).2]) ∧ Kd.R k82 82 w' w.heap.size (fun _ => True) v' (idV l).1 ∧ Below w.heap.size w w' := by
  obtain ⟨W1, hW1⟩ : ∃ W1, W1 = w.alloc (.cells #[.slice A l.length c] 28) := ⟨_, rfl⟩
  obtain ⟨W2, hW2⟩ : ∃ W2, W2 = W1.alloc (.cells #[.slice none 0 0] 28) := ⟨_, rfl⟩
  obtain ⟨gb, hgb⟩ : ∃ g, g = w.heap.size := ⟨_, rfl⟩
  obtain ⟨g0, hg0⟩ : ∃ g, g = w.heap.size + 1 := ⟨_, rfl⟩
  have hs1 : W1.heap.size = w.heap.size + 1 := by rw [hW1]; simp
  have HB1 := Aside0.mk (show Below w.heap.size w W1 by rw [hW1]; exact below_alloc (Below.refl _ _) _)
  have HB2 := Aside0.mk (below_step HB1.out (show Below W1.heap.size W1 W2 by rw [hW2]; exact below_alloc (Below.refl _ _) _))
  have KB := Aside0.mk (blk_below (show W1.heap[gb]? = some (.cells #[.slice A l.length c] 28 (0, 0)) by rw [hW1, hgb]; exact blk_new w _) (show Below W1.heap.size W1 W2 by rw [hW2]; exact below_alloc (Below.refl _ _) _))
  have K0 := Aside0.mk (show W2.heap[g0]? = some (.cells #[.slice none 0 0] 28 (0, 0)) by rw [hW2, hg0, ← hs1]; exact blk_new W1 _)
  have GE := Aside0.mk (show w.heap.size ≤ g0 by rw [hg0]; omega)
  have VO := Aside0.mk (valOf_c l A c W2 (ht.below HB2.out) (Kd.C_below hr HB2.out) hc)
  have t0 : W2.cell? ⟨gb, 0, none⟩ = some (.slice A l.length c) := (blk_cell KB.out 0).trans rfl
  clear ht hr hc
  cases hv : valT l with
  | none =>
    have HV := Aside0.mk hv
    have HP := Aside0.mk (show idV l = ([], false) by unfold idV; rw [hv])
    rw [HP.out]
    clear hv
    go_enter Tryz.func24, Tryz.ntmps24
    go_upto_region 1 with fail
    rw [← hW1, ← hW2, ← hg0, ← hgb]
    clear hW1 hW2 hg0 hgb hs1
    go_wp2_with (first | (go_at_call 35; (refine (VoPost.no VO.out HV.out).mono ?_); rintro e w2 ⟨rfl, hb⟩; have B2 := Aside0.mk (below_step HB2.out hb); have K2 := Aside0.mk (blk_below K0.out hb); clear hb) | (go_at_call 51; (refine (id_nil _).mono ?_); rintro e w3 ⟨rfl, hb⟩; have B3 := Aside0.mk (below_step B2.out hb); have K3 := blk_below K2.out hb; have p0 : w3.cell? ⟨g0, 0, none⟩ = some (.slice none 0 0) := (blk_cell K3 0).trans rfl; have fz : w3.frozen? ⟨g0, 0, none⟩ = false := blk_frozen K3 0; have KK := Aside0.mk K3; clear hb K3))
    refine bodyPost_ret (results_ct rfl _ _ g0 28 #[.slice none 0 0] (0, 0) _ rfl (by simpa using blk_set KK.out 0 (.slice none 0 0)) Tryz.underlying28 rfl (by kernel_rfl)) rfl ?_
    exact ⟨_, rfl, Kd.R_nil _ _ _ _ _, below_set B3.out GE.out⟩
  | some t =>
    have HV := Aside0.mk hv
    obtain ⟨hwf, hcnt⟩ := valT_wf hv
    have hfit := wf_fit t hwf
    have FT := Aside0.mk hfit
    have CT := Aside0.mk hcnt
    obtain ⟨h7, hln⟩ : (t.kd = 7 → t.ns.length = t.ks.length) ∧ (t.kd = 7 → t.ns.length ≤ 1073741824) := by
      cases t with
      | mk kd nu tx ns ks =>
        have h1 := (fit1 hfit).hlen
        refine ⟨h1, fun h => ?_⟩
        have h2 := h1 h
        have h3 := cnt_ge_len ks
        simp only [cnt] at hcnt
        simp only [Tr.ns]
        omega
    have H7 := Aside0.mk h7
    have HLN := Aside0.mk hln
    clear hwf hfit hcnt h7 hln
    cases hi : idT t with
    | none =>
      have HI := Aside0.mk hi
      have HP := Aside0.mk (show idV l = ([], false) by unfold idV; rw [hv]; show (match idT t with | none => _ | some u => _) = _; rw [hi])
      rw [HP.out]
      clear hv hi
      go_enter Tryz.func24, Tryz.ntmps24
      go_upto_region 1 with fail
      rw [← hW1, ← hW2, ← hg0, ← hgb]
      clear hW1 hW2 hg0 hgb hs1
      go_wp2_with (first | (go_at_call 35; (refine (VoPost.yes VO.out HV.out).mono ?_); rintro e w2 ⟨gt, rfl, hb, hV⟩; have V2 := Aside0.mk hV; have B2 := Aside0.mk (below_step HB2.out hb); have K2 := Aside0.mk (blk_below K0.out hb); clear hb hV) | (go_at_call 51; (refine (IdPost.no (id_c t _ gt V2.out H7.out HLN.out) HI.out).mono ?_); rintro e w3 ⟨rfl, hb⟩; have B3 := Aside0.mk (below_step B2.out hb); have K3 := blk_below K2.out hb; have p0 : w3.cell? ⟨g0, 0, none⟩ = some (.slice none 0 0) := (blk_cell K3 0).trans rfl; have fz : w3.frozen? ⟨g0, 0, none⟩ = false := blk_frozen K3 0; have KK := Aside0.mk K3; clear hb K3))
      refine bodyPost_ret (results_ct rfl _ _ g0 28 #[.slice none 0 0] (0, 0) _ rfl (by simpa using blk_set KK.out 0 (.slice none 0 0)) Tryz.underlying28 rfl (by kernel_rfl)) rfl ?_
      exact ⟨_, rfl, Kd.R_nil _ _ _ _ _, below_set B3.out GE.out⟩
    | some u =>
      have HI := Aside0.mk hi
      have HP := Aside0.mk (show idV l = (flat u nil_ (-1) 0, true) by unfold idV; rw [hv]; show (match idT t with | none => _ | some u => _) = _; rw [hi])
      rw [HP.out]
      have FU := Aside0.mk (show fit u = true by have h1 := FT.out; have h2 := idT_kid hi; cases t; exact (fitL_iff _).1 (fit1 h1).hks u h2)
      have CU := Aside0.mk (show cnt u ≤ 1073741824 by
        have h1 := cntL_kid (idT_kid hi)
        have h2 := CT.out
        cases t
        simp only [cnt, Tr.ks] at h1 h2
        omega)
      clear hv hi
      go_enter Tryz.func24, Tryz.ntmps24
      go_upto_region 1 with fail
      rw [← hW1, ← hW2, ← hg0, ← hgb]
      clear hW1 hW2 hg0 hgb hs1
      go_wp2_with (first | (go_at_call 35; (refine (VoPost.yes VO.out HV.out).mono ?_); rintro e w2 ⟨gt, rfl, hb, hV⟩; have V2 := Aside0.mk hV; have B2 := Aside0.mk (below_step HB2.out hb); have K2 := Aside0.mk (blk_below K0.out hb); clear hb hV) | (go_at_call 51; (refine (IdPost.yes (id_c t _ gt V2.out H7.out HLN.out) HI.out).mono ?_); rintro e w3 ⟨gu, rfl, hb, hV⟩; have V3 := Aside0.mk hV; have B3 := Aside0.mk (below_step B2.out hb); have K3 := Aside0.mk (blk_below K2.out hb); clear hb hV) | (go_at_call 52; (with_reducible refine (value_c u _ gu V3.out FU.out CU.out).mono ?_); rintro e w6 ⟨v6, rfl, ho, hb⟩; obtain ⟨A6, c6, rfl⟩ := Kd.R_slice ho; obtain ⟨n6, hn6⟩ : ∃ n, n = (flat u nil_ (-1) 0).length := ⟨_, rfl⟩; rw [← hn6] at ho ⊢; have R6 := Aside0.mk ho; have B6 := Aside0.mk hb; have K6 := blk_below K3.out hb; have q0 : w6.cell? ⟨g0, 0, none⟩ = some (.slice none 0 0) := (blk_cell K6 0).trans rfl; have fz : w6.frozen? ⟨g0, 0, none⟩ = false := blk_frozen K6 0; have KK := Aside0.mk K6; clear ho hb K6 hn6))
      refine bodyPost_ret (results_ct rfl _ _ g0 28 #[.slice A6 n6 c6] (0, 0) _ rfl (by simpa using blk_set KK.out 0 (.slice A6 n6 c6)) Tryz.underlying28 rfl (by kernel_rfl)) rfl ?_
      refine ⟨_, rfl, ?_, below_set (below_step B3.out B6.out) GE.out⟩
      exact Kd.R_lower (Kd.R_mono (Kd.R_far (Kd.R_types R6.out KK.out (by decide)) (fun k hk => hk.2) _) (fun _ _ => trivial)) B3.out.size
end Go.Proofs.YtdbfhbnlheankaaGreatDoor.VT
