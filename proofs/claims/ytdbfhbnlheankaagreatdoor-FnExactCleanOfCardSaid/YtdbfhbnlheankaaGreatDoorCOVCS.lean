import Derived.Test.YtdbfhbnlheankaaGreatDoorCOVIL
import Derived.Test.YtdbfhbnlheankaaGreatDoorCOVQF
import Derived.Test.YtdbfhbnlheankaaGreatDoorCOVCL
import Derived.Test.YtdbfhbnlheankaaGreatDoorCOVPY
import Derived.Test.YtdbfhbnlheankaaGreatDoorCOPVGx6
import Derived.Test.YtdbfhbnlheankaaGreatDoorCOVPC
/- CleanOf, the program's: walked. Conditions: the powers of ten stand in memory. -/
namespace Go.Proofs.YtdbfhbnlheankaaGreatDoor.VT
open Go.RowKit Go.Proofs.YtdbfhbnlheankaaGreatDoor.PVG Go.Proofs.YtdbfhbnlheankaaGreatDoorW.PrintWords Go.Proofs.YtdbfhbnlheankaaGreatDoorW.PrintLast Go.Proofs.YtdbfhbnlheankaaGreatDoorW.PrintMore
set_option linter.unusedVariables false
set_option linter.unusedSimpArgs false
/-- What CleanOf answers. -/
def cleanV (l : List S82) : List S82 × Bool := match valT l with
  | none => ([], false)
  | some t => (flat (cleanT t) nil_ (-1) 0, true)
theorem valT_good {l : List S82} {t : Tr} (h : valT l = some t) : goodB (cleanT t) = true := by
  obtain ⟨_, h2, h3, h4, h5⟩ := valT_iff.1 h
  exact clean_good h2 h3 h4 h5
set_option maxRecDepth 100000 in
set_option maxHeartbeats 4000000 in
theorem cleanOf_c (l : List S82) (A : Option Addr) (c : Nat) (w : World) (ht : HT w) (hr : Kd.C k82 w A l.length l) (hc : l.length ≤ c) :
    Calls Tryz.prog 12 #[.agg #[.slice A l.length c]] w fun e w' => ∃ v', e = .returned (.tuple #[.agg #[v'], .bool (cleanV l).2]) ∧ Kd.R k82 82 w' w.heap.size (fun _ => True) v' (cleanV l).1 ∧ Below w.heap.size w w' := by
  obtain ⟨W1, hW1⟩ : ∃ W1, W1 = w.alloc (.cells #[.slice A l.length c] 28) := ⟨_, rfl⟩
  obtain ⟨W2, hW2⟩ : ∃ W2, W2 = W1.alloc (.cells #[.slice none 0 0] 28) := ⟨_, rfl⟩
  obtain ⟨gb, hgb⟩ : ∃ g, g = w.heap.size := ⟨_, rfl⟩
  obtain ⟨g0, hg0⟩ : ∃ g, g = w.heap.size + 1 := ⟨_, rfl⟩
  have hs1 : W1.heap.size = w.heap.size + 1 := by rw [hW1]; simp
  have HB1 := Aside0.mk (show Below w.heap.size w W1 by rw [hW1]; exact below_alloc (Below.refl _ _) _)
  have HB2 := Aside0.mk (below_step HB1.out (show Below W1.heap.size W1 W2 by rw [hW2]; exact below_alloc (Below.refl _ _) _))
  have KB := Aside0.mk (blk_below (show W1.heap[gb]? = some (.cells #[.slice A l.length c] 28 (0, 0)) by rw [hW1, hgb]; exact blk_new w _) (show Below W1.heap.size W1 W2 by rw [hW2]; exact below_alloc (Below.refl _ _) _))
  have K0 := Aside0.mk (show W2.heap[g0]? = some (.cells #[.slice none 0 0] 28 (0, 0)) by rw [hW2, hg0, ← hs1]; exact blk_new W1 _)
  have GE := Aside0.mk (show w.heap.size ≤ g0 by rw [hg0]; omega)
  have HTT := Aside0.mk ht
  have VO := Aside0.mk (valOf_c l A c W2 (ht.below HB2.out) (Kd.C_below hr HB2.out) hc)
  have t0 : W2.cell? ⟨gb, 0, none⟩ = some (.slice A l.length c) := (blk_cell KB.out 0).trans rfl
  clear ht hr hc
  cases hv : valT l with
  | none =>
    have HV := Aside0.mk hv
    have HP := Aside0.mk (show cleanV l = ([], false) by unfold cleanV; rw [hv])
    rw [HP.out]
    clear hv
    go_enter Tryz.func12, Tryz.ntmps12
    go_upto_region 1 with fail
    rw [← hW1, ← hW2, ← hg0, ← hgb]
    clear hW1 hW2 hg0 hgb hs1
    go_wp2_with (first | (go_at_call 35; (refine (VoPost.no VO.out HV.out).mono ?_); rintro e w3 ⟨rfl, hb⟩; have B3 := Aside0.mk (below_step HB2.out hb); have K3 := blk_below K0.out hb; have p0 : w3.cell? ⟨g0, 0, none⟩ = some (.slice none 0 0) := (blk_cell K3 0).trans rfl; have fz : w3.frozen? ⟨g0, 0, none⟩ = false := blk_frozen K3 0; have KK := Aside0.mk K3; clear hb K3))
    refine bodyPost_ret (results_ct rfl _ _ g0 28 #[.slice none 0 0] (0, 0) _ rfl (by simpa using blk_set KK.out 0 (.slice none 0 0)) Tryz.underlying28 rfl (by kernel_rfl)) rfl ?_
    exact ⟨_, rfl, Kd.R_nil _ _ _ _ _, below_set B3.out GE.out⟩
  | some t =>
    have HV := Aside0.mk hv
    obtain ⟨hwf, hcnt⟩ := valT_wf hv
    have FT := Aside0.mk (wf_fit t hwf)
    have CT := Aside0.mk hcnt
    have CC := Aside0.mk (Nat.le_trans (clean_cnt t) hcnt)
    have SH := Aside0.mk (shp_wf (cleanT t) (clean_wf t hwf) CC.out)
    have GD := Aside0.mk (valT_good hv)
    have HP := Aside0.mk (show cleanV l = (flat (cleanT t) nil_ (-1) 0, true) by unfold cleanV; rw [hv])
    rw [HP.out]
    clear hv hwf hcnt
    obtain ⟨u, hu⟩ : ∃ u, u = cleanT t := ⟨_, rfl⟩
    have HU := Aside0.mk hu
    rw [← hu] at CC SH GD ⊢
    clear hu
    go_enter Tryz.func12, Tryz.ntmps12
    go_upto_region 1 with fail
    rw [← hW1, ← hW2, ← hg0, ← hgb]
    clear hW1 hW2 hg0 hgb hs1
    go_wp2_with (first | (go_at_call 35; (refine (VoPost.yes VO.out HV.out).mono ?_); rintro e w3 ⟨gt, rfl, hb, hV⟩; have V3 := Aside0.mk hV; have B3 := Aside0.mk (below_step HB2.out hb); have K3 := Aside0.mk (blk_below K0.out hb); clear hb hV) | (go_at_call 36; (refine ((clean_c t).go _ gt _ (IsV.in_ t V3.out) (fun _ h => h) FT.out CT.out).mono ?_); rintro e w4 ⟨gc, rfl, hI, hb⟩; have V4 := Aside0.mk (show IsV w4 gc u by rw [HU.out]; exact hI.is); have B4 := Aside0.mk (below_step B3.out hb); have K4 := Aside0.mk (blk_below K3.out hb); clear hb hI) | (go_at_call 37; (with_reducible refine (told_c u _ gc (HTT.out.below B4.out) V4.out SH.out CC.out).mono ?_); rintro e w6 ⟨v6, rfl, ho, hb⟩; rw [GD.out] at ho ⊢; rw [if_pos rfl] at ho; obtain ⟨A6, c6, rfl⟩ := Kd.R_slice ho; obtain ⟨n6, hn6⟩ : ∃ n, n = (flat u nil_ (-1) 0).length := ⟨_, rfl⟩; rw [← hn6] at ho ⊢; have R6 := Aside0.mk ho; have B6 := Aside0.mk hb; have K6 := blk_below K4.out hb; have q0 : w6.cell? ⟨g0, 0, none⟩ = some (.slice none 0 0) := (blk_cell K6 0).trans rfl; have fz : w6.frozen? ⟨g0, 0, none⟩ = false := blk_frozen K6 0; have KK := Aside0.mk K6; clear ho hb K6 hn6))
    refine bodyPost_ret (results_ct rfl _ _ g0 28 #[.slice A6 n6 c6] (0, 0) _ rfl (by simpa using blk_set KK.out 0 (.slice A6 n6 c6)) Tryz.underlying28 rfl (by kernel_rfl)) rfl ?_
    refine ⟨_, rfl, ?_, below_set (below_step B4.out B6.out) GE.out⟩
    exact Kd.R_lower (Kd.R_mono (Kd.R_far (Kd.R_types R6.out KK.out (by decide)) (fun k hk => hk.2) _) (fun _ _ => trivial)) B4.out.size
end Go.Proofs.YtdbfhbnlheankaaGreatDoor.VT
/- The reference's CleanOf: walked. Conditions: the list is one whose texts are not too long. -/
namespace Go.Proofs.YtdbfhbnlheankaaGreatDoor.VT
open Go.RowKit Go.Proofs.YtdbfhbnlheankaaGreatDoor.PVG Go.Proofs.YtdbfhbnlheankaaGreatDoorW.PrintWords Go.Proofs.YtdbfhbnlheankaaGreatDoorW.PrintLast Go.Proofs.YtdbfhbnlheankaaGreatDoorW.PrintMore
set_option linter.unusedVariables false
set_option linter.unusedSimpArgs false
theorem l4_x {t : Tr} {x : S49} (hx : x = toS (cleanT t)) (A3 A4 : Option Addr) (c3 c4 : Nat) (w : World) (P : Nat → Prop) (hP : ∀ k, P k → k < w.heap.size) (h3 : Kd.V Kd.string 9 w w.heap.size P (.slice A3 t.ns.length c3) t.ns) (h4 : Kd.V k49 49 w w.heap.size P (.slice A4 (toSL t.ks).length c4) (toSL t.ks)) (hw : wf t = true) (hc : cnt t ≤ 1073741824) :
    Calls Tryz.prog 32 #[.agg #[.int .i64 t.kd, .int .i64 t.nu, .string t.tx, .slice A3 t.ns.length c3, .slice A4 (toSL t.ks).length c4]] w fun e w' => ∃ B5 d5 B6 d6, e = .returned (.agg #[.int .i64 x.f0, .int .i64 x.f1, .string x.f2, .slice B5 x.f3.length d5, .slice B6 x.f4.length d6]) ∧ (x.f3.length ≤ d5 ∧ Kd.C Kd.string w' B5 x.f3.length x.f3) ∧ (x.f4.length ≤ d6 ∧ Kd.C k49 w' B6 x.f4.length x.f4) ∧ Below w.heap.size w w' := by
  rw [toSL_len] at h4 ⊢
  refine (l4_kid (l4_c t) hx w w P A3 c3 A4 c4 hP (Below.refl _ _) h3 h4 hw hc).mono ?_
  rintro e w' ⟨B5, d5, B6, d6, rfl, r3, r4, hb⟩
  exact ⟨B5, d5, B6, d6, rfl, (Kd.V_reads' r3).2, (Kd.V_reads' r4).2, hb⟩
set_option maxRecDepth 100000 in
set_option maxHeartbeats 8000000 in
theorem scleanOf_c (l : List S82) (A : Option Addr) (c : Nat) (w : World) (hS : Small l) (hr : Kd.C k82 w A l.length l) (hc : l.length ≤ c) :
    Calls Tryz.prog 10 #[.agg #[.slice A l.length c]] w fun e w' => ∃ v', e = .returned (.tuple #[.agg #[v'], .bool (cleanV l).2]) ∧ Kd.R k82 82 w' w.heap.size (fun _ => True) v' (cleanV l).1 ∧ Below w.heap.size w w' := by
  obtain ⟨W1, hW1⟩ : ∃ W1, W1 = w.alloc (.cells #[.slice A l.length c] 28) := ⟨_, rfl⟩
  obtain ⟨W2, hW2⟩ : ∃ W2, W2 = W1.alloc (.cells #[.slice none 0 0] 28) := ⟨_, rfl⟩
  obtain ⟨gb, hgb⟩ : ∃ g, g = w.heap.size := ⟨_, rfl⟩
  obtain ⟨g0, hg0⟩ : ∃ g, g = w.heap.size + 1 := ⟨_, rfl⟩
  have hs1 : W1.heap.size = w.heap.size + 1 := by rw [hW1]; simp
  have HB1 := Aside0.mk (show Below w.heap.size w W1 by rw [hW1]; exact below_alloc (Below.refl _ _) _)
  have HB2 := Aside0.mk (below_step HB1.out (show Below W1.heap.size W1 W2 by rw [hW2]; exact below_alloc (Below.refl _ _) _))
  have KB := Aside0.mk (blk_below (show W1.heap[gb]? = some (.cells #[.slice A l.length c] 28 (0, 0)) by rw [hW1, hgb]; exact blk_new w _) (show Below W1.heap.size W1 W2 by rw [hW2]; exact below_alloc (Below.refl _ _) _))
  have K0 := Aside0.mk (show W2.heap[g0]? = some (.cells #[.slice none 0 0] 28 (0, 0)) by rw [hW2, hg0, ← hs1]; exact blk_new W1 _)
  have GE := Aside0.mk (show w.heap.size ≤ g0 by rw [hg0]; omega)
  have HR2 := Aside0.mk (Kd.C_below hr HB2.out)
  have HC := Aside0.mk hc
  obtain ⟨kg, hkg⟩ := (good_ev hS).rounds
  have GV := Aside0.mk (spec_GoodValue.calls kg A c l (valT l).isSome W2 HR2.out hc hkg)
  have t0 : W2.cell? ⟨gb, 0, none⟩ = some (.slice A l.length c) := (blk_cell KB.out 0).trans rfl
  clear hr hc hkg hS
  cases hv : valT l with
  | none =>
    have HV := Aside0.mk (show (valT l).isSome = false by rw [hv]; rfl)
    have HP := Aside0.mk (show cleanV l = ([], false) by unfold cleanV; rw [hv])
    rw [HP.out]
    clear hv
    go_enter Tryz.func10, Tryz.ntmps10
    go_upto_region 1 with fail
    rw [← hW1, ← hW2, ← hg0, ← hgb]
    clear hW1 hW2 hg0 hgb hs1
    go_wp2_with (first | (go_at_call 30; (refine GV.out.mono ?_); rintro e w3 ⟨rfl, hb⟩; rw [HV.out]; have B3 := Aside0.mk (below_step HB2.out hb); have K3 := blk_below K0.out hb; have p0 : w3.cell? ⟨g0, 0, none⟩ = some (.slice none 0 0) := (blk_cell K3 0).trans rfl; have fz : w3.frozen? ⟨g0, 0, none⟩ = false := blk_frozen K3 0; have KK := Aside0.mk K3; clear hb K3))
    refine bodyPost_ret (results_ct rfl _ _ g0 28 #[.slice none 0 0] (0, 0) _ rfl (by simpa using blk_set KK.out 0 (.slice none 0 0)) Tryz.underlying28 rfl (by kernel_rfl)) rfl ?_
    exact ⟨_, rfl, Kd.R_nil _ _ _ _ _, below_set B3.out GE.out⟩
  | some t =>
    have HV := Aside0.mk (show (valT l).isSome = true by rw [hv]; rfl)
    obtain ⟨h1, h2, h3, h4, h5⟩ := valT_iff.1 hv
    have hp : Pl l 0 t nil_ (-1) := by rw [h1]; exact Pl.root h2 h4
    have TR := Aside0.mk (fun W (hb : Below w.heap.size w W) (hr : Kd.C k82 W A l.length l) => l1Tree_0 hp hr HC.out)
    have WF := Aside0.mk (show wf t = true ∧ cnt t ≤ 1073741824 from ⟨h2, by have := h4; omega⟩)
    obtain ⟨x, hx⟩ : ∃ x, x = toS (cleanT t) := ⟨_, rfl⟩
    have XE := Aside0.mk hx
    have hox : ofS x = cleanT t := by rw [hx, ofS_toS]
    have FX := Aside0.mk (show fit (ofS x) = true ∧ cnt (ofS x) ≤ 1073741824 by rw [hox]; exact ⟨wf_fit _ (clean_wf t h2), by have := clean_cnt t; have := h4; omega⟩)
    have HI := Aside0.mk (show cleanV l = (flat (ofS x) nil_ (-1) 0, true) by unfold cleanV; rw [hv, hox])
    have RD := Aside0.mk HR2.out
    clear hv h1 h2 h3 h4 h5 hp hx hox
    go_enter Tryz.func10, Tryz.ntmps10
    go_upto_region 1 with fail
    rw [← hW1, ← hW2, ← hg0, ← hgb]
    clear hW1 hW2 hg0 hgb hs1
    go_wp2_with (first | (go_at_call 30; (refine GV.out.mono ?_); rintro e w3 ⟨rfl, hb⟩; rw [HV.out]; have B3 := Aside0.mk (below_step HB2.out hb); have K3 := Aside0.mk (blk_below K0.out hb); have R3 := Aside0.mk (Kd.C_below HR2.out hb); have q0 : w3.cell? ⟨gb, 0, none⟩ = some (.slice A l.length c) := (blk_cell (blk_below KB.out hb) 0).trans rfl; clear hb) | (go_at_call 33; (refine (TR.out _ B3.out R3.out).mono ?_); rintro e w4 ⟨v3, v4, rfl, ha3, ha4, hb⟩; obtain ⟨A3, c3, rfl⟩ := Kd.R_slice ha3; obtain ⟨A4, c4, rfl⟩ := Kd.R_slice ha4; have B4 := Aside0.mk (below_step B3.out hb); have K4 := Aside0.mk (blk_below K3.out hb); have V43 := Aside0.mk (Kd.V_mono (Kd.V_bound (Kd.R_V (base' := w4.heap.size) ha3)) (fun k hk => hk.2)); have V44 := Aside0.mk (Kd.V_mono (Kd.V_bound (Kd.R_V (base' := w4.heap.size) ha4)) (fun k hk => hk.2)); clear hb ha3 ha4) | (go_at_call 32; (refine (l4_x XE.out _ _ _ _ _ _ (fun k hk => hk) V43.out V44.out WF.out.1 WF.out.2).mono ?_); rintro e w5 ⟨B5, d5, B6, d6, rfl, hx3, hx4, hb⟩; have BB5 := Aside0.mk (below_step B4.out hb); have K5 := Aside0.mk (blk_below K4.out hb); have X3 := Aside0.mk hx3; have X4 := Aside0.mk hx4; clear hb hx3 hx4) | (go_at_call 31; (refine (l1Of_s x B5 d5 B6 d6 _ X3.out.2 X3.out.1 X4.out.2 X4.out.1 FX.out.1 FX.out.2).mono ?_); rintro e w8 ⟨v6, rfl, ho, hb⟩; obtain ⟨A8, c8, rfl⟩ := Kd.R_slice ho; obtain ⟨n8, hn8⟩ : ∃ n, n = (flat (ofS x) nil_ (-1) 0).length := ⟨_, rfl⟩; rw [← hn8] at ho ⊢; have R8 := Aside0.mk ho; have B8 := Aside0.mk hb; have K8 := blk_below K5.out hb; have q0 : w8.cell? ⟨g0, 0, none⟩ = some (.slice none 0 0) := (blk_cell K8 0).trans rfl; have fz : w8.frozen? ⟨g0, 0, none⟩ = false := blk_frozen K8 0; have KK := Aside0.mk K8; clear ho hb K8 hn8))
    refine bodyPost_ret (results_ct rfl _ _ g0 28 #[.slice A8 n8 c8] (0, 0) _ rfl (by simpa using blk_set KK.out 0 (.slice A8 n8 c8)) Tryz.underlying28 rfl (by kernel_rfl)) rfl ?_
    rw [HI.out]
    refine ⟨_, rfl, ?_, below_set (below_step BB5.out B8.out) GE.out⟩
    exact Kd.R_lower (Kd.R_mono (Kd.R_far (Kd.R_types R8.out KK.out (by decide)) (fun k hk => hk.2) _) (fun _ _ => trivial)) BB5.out.size
theorem cleanV_len {l : List S82} : (cleanV l).1.length ≤ l.length := by
  unfold cleanV
  cases hv : valT l with
  | none => simp
  | some t =>
    obtain ⟨h1, h2, h3, h4, h5⟩ := valT_iff.1 hv
    simp only []
    rw [flat_len, h1, flat_len]
    exact clean_cnt t
end Go.Proofs.YtdbfhbnlheankaaGreatDoor.VT
