import Derived.Test.YtdbfhbnlheankaaGreatDoorCOVIS
import Derived.Test.YtdbfhbnlheankaaGreatDoorCOVCL
import Derived.Test.YtdbfhbnlheankaaGreatDoorCOVTR
import Derived.Test.YtdbfhbnlheankaaGreatDoorCOVTG
import Derived.Test.YtdbfhbnlheankaaGreatDoorCOVTH
import Derived.Test.YtdbfhbnlheankaaGreatDoorCOPVGx0
import Derived.Test.YtdbfhbnlheankaaGreatDoorCOPVGx2
import Derived.Test.YtdbfhbnlheankaaGreatDoorCOVPC
import Derived.Test.YtdbfhbnlheankaaGreatDoorCOVND
import Derived.Test.YtdbfhbnlheankaaGreatDoorCOVGA
import Derived.Test.YtdbfhbnlheankaaGreatDoorCOVSF
/- The place of a name among rising names, the id of a tree: plain. Conditions: none. -/
namespace Go.Proofs.YtdbfhbnlheankaaGreatDoor.VT
open Go.RowKit Go.Proofs.YtdbfhbnlheankaaGreatDoor.PVG Go.Proofs.YtdbfhbnlheankaaGreatDoorW.PrintWords
set_option linter.unusedVariables false
set_option linter.unusedSimpArgs false
theorem rising_at : ∀ {ns : List ByteArray}, rising ns = true → ∀ i j, i < j → j < ns.length → lt (ns.getD i nil_) (ns.getD j nil_) = true
  | [], _, i, j, _, hj => by simp at hj
  | a :: ns, h, i, j, hij, hj => by
    obtain ⟨h1, h2⟩ := rising_cons.1 h
    cases j with
    | zero => omega
    | succ j =>
      have hl : j < ns.length := by simpa using hj
      cases i with
      | zero =>
        refine h1 _ ?_
        show ns.getD j nil_ ∈ ns
        rw [List.getD_eq_getElem?_getD, List.getElem?_eq_getElem hl]
        exact List.getElem_mem hl
      | succ i => exact rising_at h2 i j (by omega) hl
end Go.Proofs.YtdbfhbnlheankaaGreatDoor.VT
/- A tree told as a value where it is good; TextOf: walked. Conditions: the powers of ten stand in memory. -/
namespace Go.Proofs.YtdbfhbnlheankaaGreatDoor.VT
open Go.RowKit Go.Proofs.YtdbfhbnlheankaaGreatDoor.PVG Go.Proofs.YtdbfhbnlheankaaGreatDoorW.PrintWords Go.Proofs.YtdbfhbnlheankaaGreatDoorW.PrintLast Go.Proofs.YtdbfhbnlheankaaGreatDoorW.PrintMore
set_option linter.unusedVariables false
set_option linter.unusedSimpArgs false
theorem goodB_bnd {t : Tr} (h : goodB t = true) : bnd t = true := by
  unfold goodB at h
  simp only [Bool.and_eq_true] at h
  exact h.1.1.1
set_option maxRecDepth 100000 in
set_option maxHeartbeats 4000000 in
theorem told_c (t : Tr) (w : World) (g : Nat) (ht : HT w) (hv : IsV w g t) (hs : shp t = true) (hn : cnt t ≤ 1073741824) :
    Calls Tryz.prog 37 #[.pointer (some ⟨g, 0, none⟩)] w fun e w' => ∃ v', e = .returned (.tuple #[.agg #[v'], .bool (goodB t)]) ∧ Kd.R k82 82 w' w.heap.size (fun _ => True) v' (if goodB t = true then flat t nil_ (-1) 0 else []) ∧ Below w.heap.size w w' := by
  obtain ⟨W1, hW1⟩ : ∃ W1, W1 = w.alloc (.cells #[.slice none 0 0] 28) := ⟨_, rfl⟩
  obtain ⟨g0, hg0⟩ : ∃ g, g = w.heap.size := ⟨_, rfl⟩
  have HB1 := Aside0.mk (show Below w.heap.size w W1 by rw [hW1]; exact below_alloc (Below.refl _ _) _)
  have K1 := Aside0.mk (show W1.heap[g0]? = some (.cells #[.slice none 0 0] 28 (0, 0)) by rw [hW1, hg0]; exact blk_new w _)
  have GE := Aside0.mk (show w.heap.size ≤ g0 by rw [hg0]; exact Nat.le_refl _)
  have V1 := Aside0.mk (hv.below HB1.out)
  have GC := Aside0.mk (good_c t W1 g (ht.below HB1.out) V1.out hs hn)
  have HS := Aside0.mk hs
  have HN := Aside0.mk hn
  clear hv hs hn ht
  cases hg : goodB t with
  | false =>
    have HG := Aside0.mk hg
    clear hg
    go_enter Tryz.func37, Tryz.ntmps37
    go_upto_region 1 with fail
    rw [← hW1, ← hg0]
    clear hW1 hg0
    go_wp2_with (first | (go_at_call 65; (with_reducible refine GC.out.mono ?_); rintro e w2 ⟨rfl, hb⟩; rw [HG.out]; have B2 := Aside0.mk hb; have K2 := blk_below K1.out hb; have p0 : w2.cell? ⟨g0, 0, none⟩ = some (.slice none 0 0) := (blk_cell K2 0).trans rfl; have fz : w2.frozen? ⟨g0, 0, none⟩ = false := blk_frozen K2 0; have KK := Aside0.mk K2; clear hb K2))
    refine bodyPost_ret (results_ct rfl _ _ g0 28 #[.slice none 0 0] (0, 0) _ rfl (by simpa using blk_set KK.out 0 (.slice none 0 0)) Tryz.underlying28 rfl (by kernel_rfl)) rfl ?_
    exact ⟨_, rfl, Kd.R_nil _ _ _ _ _, below_set (below_step HB1.out B2.out) GE.out⟩
  | true =>
    have HG := Aside0.mk hg
    have FT := Aside0.mk (fit_of t HS.out (goodB_bnd hg))
    clear hg
    go_enter Tryz.func37, Tryz.ntmps37
    go_upto_region 1 with fail
    rw [← hW1, ← hg0]
    clear hW1 hg0
    go_wp2_with (first | (go_at_call 65; (with_reducible refine GC.out.mono ?_); rintro e w2 ⟨rfl, hb⟩; rw [HG.out]; have B2 := Aside0.mk hb; have V2 := Aside0.mk (V1.out.below hb); have K2 := Aside0.mk (blk_below K1.out hb); clear hb) | (go_at_call 52; (with_reducible refine (value_c t _ g V2.out FT.out HN.out).mono ?_); rintro e w3 ⟨v3, rfl, ho, hb⟩; obtain ⟨A3, c3, rfl⟩ := Kd.R_slice ho; obtain ⟨n3, hn3⟩ : ∃ n, n = (flat t nil_ (-1) 0).length := ⟨_, rfl⟩; rw [← hn3] at ho ⊢; have R3 := Aside0.mk ho; have B3 := Aside0.mk hb; have K3 := blk_below K2.out hb; have p0 : w3.cell? ⟨g0, 0, none⟩ = some (.slice none 0 0) := (blk_cell K3 0).trans rfl; have fz : w3.frozen? ⟨g0, 0, none⟩ = false := blk_frozen K3 0; have KK := Aside0.mk K3; clear ho hb K3 hn3))
    refine bodyPost_ret (results_ct rfl _ _ g0 28 #[.slice A3 n3 c3] (0, 0) _ rfl (by simpa using blk_set KK.out 0 (.slice A3 n3 c3)) Tryz.underlying28 rfl (by kernel_rfl)) rfl ?_
    refine ⟨_, rfl, ?_, below_set (below_step HB1.out (below_step B2.out B3.out)) GE.out⟩
    exact Kd.R_lower (Kd.R_mono (Kd.R_far (Kd.R_types R3.out KK.out (by decide)) (fun k hk => hk.2) _) (fun _ _ => trivial)) (Nat.le_trans HB1.out.size B2.out.size)
end Go.Proofs.YtdbfhbnlheankaaGreatDoor.VT
/- IdOf, the program's: walked. Conditions: the powers of ten stand in memory. -/
namespace Go.Proofs.YtdbfhbnlheankaaGreatDoor.VT
open Go.RowKit Go.Proofs.YtdbfhbnlheankaaGreatDoor.PVG Go.Proofs.YtdbfhbnlheankaaGreatDoorW.PrintWords Go.Proofs.YtdbfhbnlheankaaGreatDoorW.PrintLast Go.Proofs.YtdbfhbnlheankaaGreatDoorW.PrintMore
set_option linter.unusedVariables false
set_option linter.unusedSimpArgs false
theorem IdPost.no {t : Tr} {w : World} {xs : Array Value} (h : Calls Tryz.prog 51 xs w (IdPost t w)) (hp : idT t = .none) : Calls Tryz.prog 51 xs w fun e w' => e = .returned (.pointer .none) ∧ Below w.heap.size w w' :=
  h.mono fun e w' hq => by
    obtain ⟨hb, ⟨_, rfl⟩ | ⟨t, g, h2, _⟩⟩ := hq
    · exact ⟨rfl, hb⟩
    · rw [hp] at h2; cases h2
theorem IdPost.yes {t : Tr} {w : World} {xs : Array Value} {u : Tr} (h : Calls Tryz.prog 51 xs w (IdPost t w)) (hp : idT t = .some u) : Calls Tryz.prog 51 xs w fun e w' => ∃ g, e = .returned (.pointer (.some ⟨g, 0, .none⟩)) ∧ Below w.heap.size w w' ∧ IsV w' g u :=
  h.mono fun e w' hq => by
    obtain ⟨hb, ⟨h2, _⟩ | ⟨t', g, h2, rfl, hv⟩⟩ := hq
    · rw [hp] at h2; cases h2
    · rw [hp] at h2
      cases h2
      exact ⟨g, rfl, hb, hv⟩
theorem cntL_kid : ∀ {ks : List Tr} {u : Tr}, u ∈ ks → cnt u ≤ cntL ks
  | t :: ts, u, h => by
    simp only [cntL]
    rcases List.mem_cons.1 h with rfl | h
    · omega
    · have := cntL_kid h; omega
end Go.Proofs.YtdbfhbnlheankaaGreatDoor.VT
/- The reference's tree as a value: l1Of, walked. Conditions: right trees. -/
namespace Go.Proofs.YtdbfhbnlheankaaGreatDoor.VT
open Go.RowKit Go.Proofs.YtdbfhbnlheankaaGreatDoor.PVG Go.Proofs.YtdbfhbnlheankaaGreatDoorW.PrintWords Go.Proofs.YtdbfhbnlheankaaGreatDoorW.PrintLast Go.Proofs.YtdbfhbnlheankaaGreatDoorW.PrintMore
set_option linter.unusedVariables false
set_option linter.unusedSimpArgs false
mutual
/-- The reference's own record as a tree. -/
def ofS : S49 → Tr
  | ⟨kd, nu, tx, ns, ks⟩ => .mk kd nu tx ns (ofSL ks)
def ofSL : List S49 → List Tr
  | [] => []
  | x :: xs => ofS x :: ofSL xs
end
mutual
theorem toS_ofS : ∀ x : S49, toS (ofS x) = x
  | ⟨kd, nu, tx, ns, ks⟩ => by rw [ofS, toS, toSL_ofSL ks]
theorem toSL_ofSL : ∀ xs : List S49, toSL (ofSL xs) = xs
  | [] => rfl
  | x :: xs => by rw [ofSL, toSL, toS_ofS x, toSL_ofSL xs]
end
mutual
theorem ofS_toS : ∀ t : Tr, ofS (toS t) = t
  | .mk kd nu tx ns ks => by rw [toS, ofS, ofSL_toSL ks]
theorem ofSL_toSL : ∀ ts : List Tr, ofSL (toSL ts) = ts
  | [] => rfl
  | t :: ts => by rw [toSL, ofSL, ofS_toS t, ofSL_toSL ts]
end
set_option maxRecDepth 100000 in
set_option maxHeartbeats 4000000 in
theorem l1Of_c (t : Tr) (A3 : Option Addr) (c3 : Nat) (A4 : Option Addr) (c4 : Nat) (w : World) (ha : SAt w t A3 c3 A4 c4) (hf : fit t = true) (hn : cnt t ≤ 1073741824) :
    Calls Tryz.prog 31 #[.agg #[.int .i64 t.kd, .int .i64 t.nu, .string t.tx, .slice A3 t.ns.length c3, .slice A4 t.ks.length c4]] w fun e w' => ∃ v', e = .returned (.agg #[v']) ∧ Kd.R k82 82 w' w.heap.size (fun _ => True) v' (flat t nil_ (-1) 0) ∧ Below w.heap.size w w' := by
  obtain ⟨W1, hW1⟩ : ∃ W1, W1 = w.alloc (.cells #[.int .i64 t.kd, .int .i64 t.nu, .string t.tx, .slice A3 t.ns.length c3, .slice A4 t.ks.length c4] 49) := ⟨_, rfl⟩
  obtain ⟨gb, hgb⟩ : ∃ g, g = w.heap.size := ⟨_, rfl⟩
  obtain ⟨W2, hW2⟩ : ∃ W2, W2 = W1.alloc (.cells #[.slice none 0 0] 28) := ⟨_, rfl⟩
  obtain ⟨g0, hg0⟩ : ∃ g, g = w.heap.size + 1 := ⟨_, rfl⟩
  have hs1 : W1.heap.size = w.heap.size + 1 := by rw [hW1]; simp
  have HB1 := Aside0.mk (show Below w.heap.size w W1 by rw [hW1]; exact below_alloc (Below.refl _ _) _)
  have HB2 := Aside0.mk (show Below W1.heap.size W1 W2 by rw [hW2]; exact below_alloc (Below.refl _ _) _)
  have KB := Aside0.mk (show W1.heap[gb]? = some (.cells #[.int .i64 t.kd, .int .i64 t.nu, .string t.tx, .slice A3 t.ns.length c3, .slice A4 t.ks.length c4] 49 (0, 0)) by rw [hW1, hgb]; exact blk_new w _)
  have KB2 := Aside0.mk (blk_below KB.out HB2.out)
  have K0 := Aside0.mk (show W2.heap[g0]? = some (.cells #[.slice none 0 0] 28 (0, 0)) by rw [hW2, hg0, ← hs1]; exact blk_new W1 _)
  have GE := Aside0.mk (show w.heap.size ≤ g0 by rw [hg0]; omega)
  have ND := Aside0.mk ((nf_c t).go W2 W2 A3 c3 A4 c4 (.slice none 0 0) [] (⟨#[]⟩ : ByteArray) (-1) ((ha.below HB1.out).below HB2.out) hf (Below.refl _ _) (Kd.R_nil _ _ _ _ _) (by simpa using hn))
  have t0 : W2.cell? ⟨gb, 0, none⟩ = some (.int .i64 t.kd) := (blk_cell KB2.out 0).trans rfl
  have t1 : W2.cell? ⟨gb, 1, none⟩ = some (.int .i64 t.nu) := (blk_cell KB2.out 1).trans rfl
  have t2 : W2.cell? ⟨gb, 2, none⟩ = some (.string t.tx) := (blk_cell KB2.out 2).trans rfl
  have t3 : W2.cell? ⟨gb, 3, none⟩ = some (.slice A3 t.ns.length c3) := (blk_cell KB2.out 3).trans rfl
  have t4 : W2.cell? ⟨gb, 4, none⟩ = some (.slice A4 t.ks.length c4) := (blk_cell KB2.out 4).trans rfl
  clear ha hf hn
  go_enter Tryz.func31, Tryz.ntmps31
  go_upto_region 1 with fail
  rw [← hW1, ← hW2, ← hg0, ← hgb]
  clear hW1 hgb hW2 hg0 hs1
  go_wp2_with (first | (go_at_call 59; (with_reducible refine ND.out.mono ?_); rintro e w2 ⟨v2, rfl, ho, hb, _, _⟩; obtain ⟨A2, c2, rfl⟩ := Kd.R_slice ho; obtain ⟨n2, hn2⟩ : ∃ n, n = (([] : List S82) ++ flat t (⟨#[]⟩ : ByteArray) (-1) ([] : List S82).length).length := ⟨_, rfl⟩; rw [← hn2] at ho ⊢; have R2 := Aside0.mk ho; have B2 := Aside0.mk hb; have K2 := blk_below K0.out hb; have p0 : w2.cell? ⟨g0, 0, none⟩ = some (.slice none 0 0) := (blk_cell K2 0).trans rfl; have fz : w2.frozen? ⟨g0, 0, none⟩ = false := blk_frozen K2 0; have KK := Aside0.mk K2; clear ho hb K2 hn2))
  refine bodyPost_ret (results_cell_row rfl _ _ g0 28 #[.slice A2 n2 c2] (0, 0) _ rfl (by simpa using blk_set KK.out 0 (.slice A2 n2 c2)) Tryz.underlying28 rfl (by kernel_rfl)) rfl ?_
  refine ⟨_, rfl, ?_, below_set (below_step HB1.out (below_step HB2.out B2.out)) GE.out⟩
  exact Kd.R_lower (Kd.R_mono (Kd.R_far (Kd.R_types R2.out KK.out (by decide)) (fun k hk => hk.2) _) (fun _ _ => trivial)) (Nat.le_trans HB1.out.size HB2.out.size)
/-- The same, of a record. -/
theorem l1Of_s (x : S49) (A3 : Option Addr) (c3 : Nat) (A4 : Option Addr) (c4 : Nat) (w : World) (h3 : Kd.C Kd.string w A3 x.f3.length x.f3) (l3 : x.f3.length ≤ c3) (h4 : Kd.C k49 w A4 x.f4.length x.f4) (l4 : x.f4.length ≤ c4) (hf : fit (ofS x) = true) (hn : cnt (ofS x) ≤ 1073741824) :
    Calls Tryz.prog 31 #[.agg #[.int .i64 x.f0, .int .i64 x.f1, .string x.f2, .slice A3 x.f3.length c3, .slice A4 x.f4.length c4]] w fun e w' => ∃ v', e = .returned (.agg #[v']) ∧ Kd.R k82 82 w' w.heap.size (fun _ => True) v' (flat (ofS x) nil_ (-1) 0) ∧ Below w.heap.size w w' := by
  have hl : (ofSL x.f4).length = x.f4.length := by rw [← toSL_len, toSL_ofSL]
  have := l1Of_c (ofS x) A3 c3 A4 c4 w (by cases x; rw [ofS]; exact ⟨l3, h3, by simpa [Tr.ks, hl] using l4, by simpa [Tr.ks, toSL_ofSL, hl] using h4⟩) hf hn
  cases x
  rw [ofS] at this ⊢
  simp only [Tr.kd, Tr.nu, Tr.tx, Tr.ns, Tr.ks] at this
  rw [hl] at this
  exact this
end Go.Proofs.YtdbfhbnlheankaaGreatDoor.VT
/- The reference's id of a tree: plain. Conditions: none. -/
namespace Go.Proofs.YtdbfhbnlheankaaGreatDoor.VT
open Go.RowKit Go.Proofs.YtdbfhbnlheankaaGreatDoor.PVG Go.Proofs.YtdbfhbnlheankaaGreatDoorW.PrintWords
set_option linter.unusedVariables false
set_option linter.unusedSimpArgs false
theorem rd_toS {ks : List Tr} {i : Nat} {u : Tr} (h : ks[i]? = some u) : rd_T49 (toSL ks) (i : Int) = toS u := by
  unfold rd_T49
  rw [toSL_map, Int.toNat_natCast, List.getD_eq_getElem?_getD, List.getElem?_map, h]
  rfl
theorem wf_map {t : Tr} (hw : wf t = true) (h7 : t.kd = 7) : t.ns.length = t.ks.length ∧ rising t.ns = true := by
  cases t with
  | mk kd nu tx ns ks =>
    obtain rfl : kd = 7 := h7
    rw [wf] at hw
    simp only [Bool.and_eq_true, beq_self_eq_true, if_true, decide_eq_true_eq] at hw
    exact ⟨hw.1.1.2.1.1, hw.1.1.2.1.2⟩
end Go.Proofs.YtdbfhbnlheankaaGreatDoor.VT
