import Derived.Test.YtdbfhbnlheankaaGreatDoorIOVIL
import Derived.Test.YtdbfhbnlheankaaGreatDoorIOPVGx6
import Derived.Test.YtdbfhbnlheankaaGreatDoorIOPVGx7
/- The reference's IdOf: walked. Conditions: the list is one whose texts are not too long. -/
namespace Go.Proofs.YtdbfhbnlheankaaGreatDoor.VT
open Go.RowKit Go.Proofs.YtdbfhbnlheankaaGreatDoor.PVG Go.Proofs.YtdbfhbnlheankaaGreatDoorW.PrintWords Go.Proofs.YtdbfhbnlheankaaGreatDoorW.PrintLast Go.Proofs.YtdbfhbnlheankaaGreatDoorW.PrintMore
set_option linter.unusedVariables false
set_option linter.unusedSimpArgs false
theorem l8Id_x {t : Tr} {x : S49} {b : Bool} (hx : l8R t.kd t.ns (toSL t.ks) = (x, b)) (A3 A4 : Option Addr) (c3 c4 : Nat) (P : Nat → Prop) (w : World) (hr : Kd.C Kd.string w A3 t.ns.length t.ns) (hs : Kd.V k49 49 w w.heap.size P (.slice A4 (toSL t.ks).length c4) (toSL t.ks)) (hl : t.kd = 7 → t.ns.length = (toSL t.ks).length ∧ (toSL t.ks).length ≤ 1073741824) :
    Calls Tryz.prog 50 #[.agg #[.int .i64 t.kd, .int .i64 t.nu, .string t.tx, .slice A3 t.ns.length c3, .slice A4 (toSL t.ks).length c4]] w fun e w' => ∃ v3 v4, e = .returned (.tuple #[.agg #[.int .i64 x.f0, .int .i64 x.f1, .string x.f2, v3, v4], .bool b]) ∧ Kd.V Kd.string 9 w' w.heap.size (fun k => P k ∨ w.heap.size ≤ k) v3 x.f3 ∧ Kd.V k49 49 w' w.heap.size (fun k => P k ∨ w.heap.size ≤ k) v4 x.f4 ∧ Below w.heap.size w w' := by
  have h := l8Id_c t.kd t.nu t.tx t.ns (toSL t.ks) A3 A4 c3 c4 P w hr hs hl
  rw [hx] at h
  exact h
set_option maxRecDepth 100000 in
set_option maxHeartbeats 8000000 in
theorem sidOf_c (l : List S82) (A : Option Addr) (c : Nat) (w : World) (hS : Small l) (hr : Kd.C k82 w A l.length l) (hc : l.length ≤ c) :
    Calls Tryz.prog 23 #[.agg #[.slice A l.length c]] w fun e w' => ∃ v', e = .returned (.tuple #[.agg #[v'], .bool (idV l).2]) ∧ Kd.R k82 82 w' w.heap.size (fun _ => True) v' (idV l).1 ∧ Below w.heap.size w w' := by
  obtain ⟨W1, hW1⟩ : ∃ W1, W1 = w.alloc (.cells #[.slice A l.length c] 28) := ⟨_, rfl⟩
  obtain ⟨W2, hW2⟩ : ∃ W2, W2 = W1.alloc (.cells #[.slice none 0 0] 28) := ⟨_, rfl⟩
  obtain ⟨gb, hgb⟩ : ∃ g, g = w.heap.size := ⟨_, rfl⟩
  obtain ⟨g0, hg0⟩ : ∃ g, g = w.heap.size + 1 := ⟨_, rfl⟩
  have hs1 : W1.heap.size = w.heap.size + 1 := by rw [hW1]; simp
  have HB1 := Aside0.mk (show Below w.heap.size w W1 by rw [hW1]; exact below_alloc (Below.refl _ _) _)
  have HB2 := Aside0.mk (below_step HB1.out (show Below W1.heap.size W1 W2 by rw [hW2]; exact below_alloc (Below.refl _ _) _))
  have KB := Aside0.mk (blk_below (show W1.heap[gb]? = some (.cells #[.slice A l.length c] 28 (0, 0)) by rw [hW1, hgb]; exact blk_new w _) (show Below W1.heap.size W1 W2 by rw [hW2]; exact below_alloc (Below.refl _ _) _))
  have K0 := Aside0.mk (show W2.heap[g0]? = some (.cells #[.slice none 0 0] 28 (0, 0)) by rw [hW2, hg0, ← hs1]; exact blk_new W1 _)
  have GE := Aside0.mk (show w.heap.size ≤ g0 by rw [hg0]; omega)
  have HR2 := Aside0.mk (Kd.C_below hr HB2.out)
  have HC := Aside0.mk hc
  obtain ⟨kg, hkg⟩ := (good_ev hS).rounds
  have GV := Aside0.mk (spec_GoodValue.calls kg A c l (valT l).isSome W2 HR2.out hc hkg)
  have t0 : W2.cell? ⟨gb, 0, none⟩ = some (.slice A l.length c) := (blk_cell KB.out 0).trans rfl
  clear hr hc hkg hS
  cases hv : valT l with
  | none =>
    have HV := Aside0.mk (show (valT l).isSome = false by rw [hv]; rfl)
    have HP := Aside0.mk (show idV l = ([], false) by unfold idV; rw [hv])
    rw [HP.out]
    clear hv
    go_enter Tryz.func23, Tryz.ntmps23
    go_upto_region 1 with fail
    rw [← hW1, ← hW2, ← hg0, ← hgb]
    clear hW1 hW2 hg0 hgb hs1
    go_wp2_with (first | (go_at_call 30; (refine GV.out.mono ?_); rintro e w3 ⟨rfl, hb⟩; rw [HV.out]; have B3 := Aside0.mk (below_step HB2.out hb); have K3 := blk_below K0.out hb; have p0 : w3.cell? ⟨g0, 0, none⟩ = some (.slice none 0 0) := (blk_cell K3 0).trans rfl; have fz : w3.frozen? ⟨g0, 0, none⟩ = false := blk_frozen K3 0; have KK := Aside0.mk K3; clear hb K3))
    refine bodyPost_ret (results_ct rfl _ _ g0 28 #[.slice none 0 0] (0, 0) _ rfl (by simpa using blk_set KK.out 0 (.slice none 0 0)) Tryz.underlying28 rfl (by kernel_rfl)) rfl ?_
    exact ⟨_, rfl, Kd.R_nil _ _ _ _ _, below_set B3.out GE.out⟩
  | some t =>
    have HV := Aside0.mk (show (valT l).isSome = true by rw [hv]; rfl)
    obtain ⟨h1, h2, h3, h4, h5⟩ := valT_iff.1 hv
    have hp : Pl l 0 t nil_ (-1) := by rw [h1]; exact Pl.root h2 h4
    obtain ⟨kt, hkt⟩ := (tree_ev t hp).rounds
    have TR := Aside0.mk (fun W (hb : Below w.heap.size w W) (hr : Kd.C k82 W A l.length l) => spec_l1Tree.calls kt A c l 0 _ _ _ _ _ W hr HC.out hkt)
    have HM := Aside0.mk (show t.kd = 7 → t.ns.length = (toSL t.ks).length ∧ (toSL t.ks).length ≤ 1073741824 from fun h7 => by
      have q1 := (wf_map h2 h7).1
      have q2 := cnt_ge_len t.ks
      rw [toSL_map, List.length_map]
      refine ⟨q1, ?_⟩
      cases t
      simp only [cnt, Tr.ks] at h4 q2 ⊢
      omega)
    obtain ⟨x, b, hx, hcase⟩ := l8R_idV hv
    have HX := Aside0.mk hx
    have RD := Aside0.mk HR2.out
    clear hv h1 h2 h3 h4 h5 hp hkt hx
    go_enter Tryz.func23, Tryz.ntmps23
    go_upto_region 1 with fail
    rw [← hW1, ← hW2, ← hg0, ← hgb]
    clear hW1 hW2 hg0 hgb hs1
    go_upto_region 4 with (first | (go_at_call 30; (refine GV.out.mono ?_); rintro e w3 ⟨rfl, hb⟩; rw [HV.out]; have B3 := Aside0.mk (below_step HB2.out hb); have K3 := Aside0.mk (blk_below K0.out hb); have R3 := Aside0.mk (Kd.C_below HR2.out hb); have q0 : w3.cell? ⟨gb, 0, none⟩ = some (.slice A l.length c) := (blk_cell (blk_below KB.out hb) 0).trans rfl; clear hb) | (go_at_call 33; (refine (TR.out _ B3.out R3.out).mono ?_); rintro e w4 ⟨v3, v4, rfl, ha3, ha4, hb⟩; obtain ⟨A3, c3, rfl⟩ := Kd.R_slice ha3; obtain ⟨A4, c4, rfl⟩ := Kd.R_slice ha4; have B4 := Aside0.mk (below_step B3.out hb); have K4 := Aside0.mk (blk_below K3.out hb); have R43 := Aside0.mk (Kd.R_reads' ha3).2.2; have V44 := Aside0.mk (Kd.R_V (base' := w4.heap.size) ha4); clear hb ha3 ha4) | (go_at_call 50; (refine (l8Id_x HX.out _ _ _ _ _ _ R43.out V44.out HM.out).mono ?_); rintro e w5 ⟨v3, v4, rfl, ha3, ha4, hb⟩; obtain ⟨A5, c5, rfl⟩ := Kd.V_slice ha3; obtain ⟨A6, c6, rfl⟩ := Kd.V_slice ha4; have B5 := Aside0.mk (below_step B4.out hb); have K5 := Aside0.mk (blk_below K4.out hb); have V5 := Aside0.mk ha3; have V6 := Aside0.mk ha4; clear hb ha3 ha4) | ((with_reducible refine gate_dst (N := 4) rfl ?_); refine box_event ?hg (N := 4) ?hd (cs := #[.int .i64 0, .int .i64 0, .string (⟨#[]⟩ : ByteArray), .slice none 0 0, .slice none 0 0]) (t := 49) ?hr ?_; (case hd => rfl); (case hg => rfl); (case hr => first | (go_simp; done) | (go_simp; rfl)); intro g4 hg w6 hbox hb; have B6 := Aside0.mk (below_step B5.out hb); have K6 := Aside0.mk (blk_below K5.out hb); have KX := Aside0.mk hbox; have G4 := Aside0.mk (show w5.heap.size ≤ g4 by rw [hg]; exact Nat.le_refl _); have BW := Aside0.mk hb; have z0 : w6.cell? ⟨g4, 0, none⟩ = some (.int .i64 0) := (blk_cell hbox 0).trans rfl; have z1 : w6.cell? ⟨g4, 1, none⟩ = some (.int .i64 0) := (blk_cell hbox 1).trans rfl; have z2 : w6.cell? ⟨g4, 2, none⟩ = some (.string ⟨#[]⟩) := (blk_cell hbox 2).trans rfl; have z3 : w6.cell? ⟨g4, 3, none⟩ = some (.slice none 0 0) := (blk_cell hbox 3).trans rfl; have z4 : w6.cell? ⟨g4, 4, none⟩ = some (.slice none 0 0) := (blk_cell hbox 4).trans rfl; have f0 := blk_frozen hbox 0; have f1 := blk_frozen hbox 1; have f2 := blk_frozen hbox 2; have f3 := blk_frozen hbox 3; have f4 := blk_frozen hbox 4; clear hb hbox hg))
    clear z0 z1 z2 z3 z4 f0 f1 f2 f3 f4
    obtain ⟨W7, hW7⟩ : ∃ W7, W7 = (((((w6.setCell ⟨g4, 0, none⟩ (.int .i64 x.f0)).setCell ⟨g4, 1, none⟩ (.int .i64 x.f1)).setCell ⟨g4, 2, none⟩ (.string x.f2)).setCell ⟨g4, 3, none⟩ (.slice A5 x.f3.length c5)).setCell ⟨g4, 4, none⟩ (.slice A6 x.f4.length c6)) := ⟨_, rfl⟩
    rw [← hW7]
    have B57 := Aside0.mk (show Below w5.heap.size w5 W7 by rw [hW7]; exact below_put5 BW.out G4.out)
    have B7 := Aside0.mk (below_step B5.out B57.out)
    have K7 := Aside0.mk (show W7.heap[g4]? = some (.cells #[.int .i64 x.f0, .int .i64 x.f1, .string x.f2, .slice A5 x.f3.length c5, .slice A6 x.f4.length c6] 49 (0, 0)) by rw [hW7]; exact put5 KX.out)
    have K07 := Aside0.mk (blk_below K5.out B57.out)
    have V57 := Aside0.mk (Kd.V_reads' (Kd.V_below V5.out B57.out)).2
    have V67 := Aside0.mk (Kd.V_reads' (Kd.V_below V6.out B57.out)).2
    clear hW7
    rcases hcase with ⟨rfl, hi⟩ | ⟨rfl, hf, hn, hi⟩
    · have q0 : W7.cell? ⟨g0, 0, none⟩ = some (.slice none 0 0) := (blk_cell K07.out 0).trans rfl
      have fz : W7.frozen? ⟨g0, 0, none⟩ = false := blk_frozen K07.out 0
      have HI := Aside0.mk hi
      clear hi
      go_wp2
      refine bodyPost_ret (results_ct rfl _ _ g0 28 #[.slice none 0 0] (0, 0) _ rfl (by simpa using blk_set K07.out 0 (.slice none 0 0)) Tryz.underlying28 rfl (by kernel_rfl)) rfl ?_
      rw [HI.out]
      exact ⟨_, rfl, Kd.R_nil _ _ _ _ _, below_set B7.out GE.out⟩
    · have OF := Aside0.mk (l1Of_s x A5 c5 A6 c6 W7 V57.out.2 V57.out.1 V67.out.2 V67.out.1 hf hn)
      have HI := Aside0.mk hi
      have y0 : W7.cell? ⟨g4, 0, none⟩ = some (.int .i64 x.f0) := (blk_cell K7.out 0).trans rfl
      have y1 : W7.cell? ⟨g4, 1, none⟩ = some (.int .i64 x.f1) := (blk_cell K7.out 1).trans rfl
      have y2 : W7.cell? ⟨g4, 2, none⟩ = some (.string x.f2) := (blk_cell K7.out 2).trans rfl
      have y3 : W7.cell? ⟨g4, 3, none⟩ = some (.slice A5 x.f3.length c5) := (blk_cell K7.out 3).trans rfl
      have y4 : W7.cell? ⟨g4, 4, none⟩ = some (.slice A6 x.f4.length c6) := (blk_cell K7.out 4).trans rfl
      clear hi hf hn
      go_wp2_with (first | (go_at_call 31; (refine OF.out.mono ?_); rintro e w8 ⟨v6, rfl, ho, hb⟩; obtain ⟨A8, c8, rfl⟩ := Kd.R_slice ho; obtain ⟨n8, hn8⟩ : ∃ n, n = (flat (ofS x) nil_ (-1) 0).length := ⟨_, rfl⟩; rw [← hn8] at ho ⊢; have R8 := Aside0.mk ho; have B8 := Aside0.mk hb; have K8 := blk_below K07.out hb; have q0 : w8.cell? ⟨g0, 0, none⟩ = some (.slice none 0 0) := (blk_cell K8 0).trans rfl; have fz : w8.frozen? ⟨g0, 0, none⟩ = false := blk_frozen K8 0; have KK := Aside0.mk K8; clear ho hb K8 hn8))
      refine bodyPost_ret (results_ct rfl _ _ g0 28 #[.slice A8 n8 c8] (0, 0) _ rfl (by simpa using blk_set KK.out 0 (.slice A8 n8 c8)) Tryz.underlying28 rfl (by kernel_rfl)) rfl ?_
      rw [HI.out]
      refine ⟨_, rfl, ?_, below_set (below_step B7.out B8.out) GE.out⟩
      exact Kd.R_lower (Kd.R_mono (Kd.R_far (Kd.R_types R8.out KK.out (by decide)) (fun k hk => hk.2) _) (fun _ _ => trivial)) B7.out.size
end Go.Proofs.YtdbfhbnlheankaaGreatDoor.VT
