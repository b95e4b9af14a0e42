import Derived.Test.YtdbfhbnlheankaaGreatDoorIOVSF
import Derived.Test.YtdbfhbnlheankaaGreatDoorIOPVGx0
import Derived.Test.YtdbfhbnlheankaaGreatDoorIOVIP
import Derived.Test.YtdbfhbnlheankaaGreatDoorIOVIO
import Derived.Test.YtdbfhbnlheankaaGreatDoorIOVIS
import Derived.Test.YtdbfhbnlheankaaGreatDoorIOVTN
/- The reference's tree as a value: l1Of, walked. Conditions: right trees. -/
namespace Go.Proofs.YtdbfhbnlheankaaGreatDoor.VT
open Go.RowKit Go.Proofs.YtdbfhbnlheankaaGreatDoor.PVG Go.Proofs.YtdbfhbnlheankaaGreatDoorW.PrintWords Go.Proofs.YtdbfhbnlheankaaGreatDoorW.PrintLast Go.Proofs.YtdbfhbnlheankaaGreatDoorW.PrintMore
set_option linter.unusedVariables false
set_option linter.unusedSimpArgs false
mutual
/-- The reference's own record as a tree. -/
def ofS : S49 → Tr
  | ⟨kd, nu, tx, ns, ks⟩ => .mk kd nu tx ns (ofSL ks)
def ofSL : List S49 → List Tr
  | [] => []
  | x :: xs => ofS x :: ofSL xs
end
mutual
theorem toS_ofS : ∀ x : S49, toS (ofS x) = x
  | ⟨kd, nu, tx, ns, ks⟩ => by rw [ofS, toS, toSL_ofSL ks]
theorem toSL_ofSL : ∀ xs : List S49, toSL (ofSL xs) = xs
  | [] => rfl
  | x :: xs => by rw [ofSL, toSL, toS_ofS x, toSL_ofSL xs]
end
mutual
theorem ofS_toS : ∀ t : Tr, ofS (toS t) = t
  | .mk kd nu tx ns ks => by rw [toS, ofS, ofSL_toSL ks]
theorem ofSL_toSL : ∀ ts : List Tr, ofSL (toSL ts) = ts
  | [] => rfl
  | t :: ts => by rw [toSL, ofSL, ofS_toS t, ofSL_toSL ts]
end
set_option maxRecDepth 100000 in
set_option maxHeartbeats 4000000 in
theorem l1Of_c (t : Tr) (A3 : Option Addr) (c3 : Nat) (A4 : Option Addr) (c4 : Nat) (w : World) (ha : SAt w t A3 c3 A4 c4) (hf : fit t = true) (hn : cnt t ≤ 1073741824) :
    Calls Tryz.prog 31 #[.agg #[.int .i64 t.kd, .int .i64 t.nu, .string t.tx, .slice A3 t.ns.length c3, .slice A4 t.ks.length c4]] w fun e w' => ∃ v', e = .returned (.agg #[v']) ∧ Kd.R k82 82 w' w.heap.size (fun _ => True) v' (flat t nil_ (-1) 0) ∧ Below w.heap.size w w' := by
  obtain ⟨W1, hW1⟩ : ∃ W1, W1 = w.alloc (.cells #[.int .i64 t.kd, .int .i64 t.nu, .string t.tx, .slice A3 t.ns.length c3, .slice A4 t.ks.length c4] 49) := ⟨_, rfl⟩
  obtain ⟨gb, hgb⟩ : ∃ g, g = w.heap.size := ⟨_, rfl⟩
  obtain ⟨W2, hW2⟩ : ∃ W2, W2 = W1.alloc (.cells #[.slice none 0 0] 28) := ⟨_, rfl⟩
  obtain ⟨g0, hg0⟩ : ∃ g, g = w.heap.size + 1 := ⟨_, rfl⟩
  have hs1 : W1.heap.size = w.heap.size + 1 := by rw [hW1]; simp
  have HB1 := Aside0.mk (show Below w.heap.size w W1 by rw [hW1]; exact below_alloc (Below.refl _ _) _)
  have HB2 := Aside0.mk (show Below W1.heap.size W1 W2 by rw [hW2]; exact below_alloc (Below.refl _ _) _)
  have KB := Aside0.mk (show W1.heap[gb]? = some (.cells #[.int .i64 t.kd, .int .i64 t.nu, .string t.tx, .slice A3 t.ns.length c3, .slice A4 t.ks.length c4] 49 (0, 0)) by rw [hW1, hgb]; exact blk_new w _)
  have KB2 := Aside0.mk (blk_below KB.out HB2.out)
  have K0 := Aside0.mk (show W2.heap[g0]? = some (.cells #[.slice none 0 0] 28 (0, 0)) by rw [hW2, hg0, ← hs1]; exact blk_new W1 _)
  have GE := Aside0.mk (show w.heap.size ≤ g0 by rw [hg0]; omega)
  have ND := Aside0.mk ((nf_c t).go W2 W2 A3 c3 A4 c4 (.slice none 0 0) [] (⟨#[]⟩ : ByteArray) (-1) ((ha.below HB1.out).below HB2.out) hf (Below.refl _ _) (Kd.R_nil _ _ _ _ _) (by simpa using hn))
  have t0 : W2.cell? ⟨gb, 0, none⟩ = some (.int .i64 t.kd) := (blk_cell KB2.out 0).trans rfl
  have t1 : W2.cell? ⟨gb, 1, none⟩ = some (.int .i64 t.nu) := (blk_cell KB2.out 1).trans rfl
  have t2 : W2.cell? ⟨gb, 2, none⟩ = some (.string t.tx) := (blk_cell KB2.out 2).trans rfl
  have t3 : W2.cell? ⟨gb, 3, none⟩ = some (.slice A3 t.ns.length c3) := (blk_cell KB2.out 3).trans rfl
  have t4 : W2.cell? ⟨gb, 4, none⟩ = some (.slice A4 t.ks.length c4) := (blk_cell KB2.out 4).trans rfl
  clear ha hf hn
  go_enter Tryz.func31, Tryz.ntmps31
  go_upto_region 1 with fail
  rw [← hW1, ← hW2, ← hg0, ← hgb]
  clear hW1 hgb hW2 hg0 hs1
  go_wp2_with (first | (go_at_call 59; (with_reducible refine ND.out.mono ?_); rintro e w2 ⟨v2, rfl, ho, hb, _, _⟩; obtain ⟨A2, c2, rfl⟩ := Kd.R_slice ho; obtain ⟨n2, hn2⟩ : ∃ n, n = (([] : List S82) ++ flat t (⟨#[]⟩ : ByteArray) (-1) ([] : List S82).length).length := ⟨_, rfl⟩; rw [← hn2] at ho ⊢; have R2 := Aside0.mk ho; have B2 := Aside0.mk hb; have K2 := blk_below K0.out hb; have p0 : w2.cell? ⟨g0, 0, none⟩ = some (.slice none 0 0) := (blk_cell K2 0).trans rfl; have fz : w2.frozen? ⟨g0, 0, none⟩ = false := blk_frozen K2 0; have KK := Aside0.mk K2; clear ho hb K2 hn2))
  refine bodyPost_ret (results_cell_row rfl _ _ g0 28 #[.slice A2 n2 c2] (0, 0) _ rfl (by simpa using blk_set KK.out 0 (.slice A2 n2 c2)) Tryz.underlying28 rfl (by kernel_rfl)) rfl ?_
  refine ⟨_, rfl, ?_, below_set (below_step HB1.out (below_step HB2.out B2.out)) GE.out⟩
  exact Kd.R_lower (Kd.R_mono (Kd.R_far (Kd.R_types R2.out KK.out (by decide)) (fun k hk => hk.2) _) (fun _ _ => trivial)) (Nat.le_trans HB1.out.size HB2.out.size)
/-- The same, of a record. -/
theorem l1Of_s (x : S49) (A3 : Option Addr) (c3 : Nat) (A4 : Option Addr) (c4 : Nat) (w : World) (h3 : Kd.C Kd.string w A3 x.f3.length x.f3) (l3 : x.f3.length ≤ c3) (h4 : Kd.C k49 w A4 x.f4.length x.f4) (l4 : x.f4.length ≤ c4) (hf : fit (ofS x) = true) (hn : cnt (ofS x) ≤ 1073741824) :
    Calls Tryz.prog 31 #[.agg #[.int .i64 x.f0, .int .i64 x.f1, .string x.f2, .slice A3 x.f3.length c3, .slice A4 x.f4.length c4]] w fun e w' => ∃ v', e = .returned (.agg #[v']) ∧ Kd.R k82 82 w' w.heap.size (fun _ => True) v' (flat (ofS x) nil_ (-1) 0) ∧ Below w.heap.size w w' := by
  have hl : (ofSL x.f4).length = x.f4.length := by rw [← toSL_len, toSL_ofSL]
  have := l1Of_c (ofS x) A3 c3 A4 c4 w (by cases x; rw [ofS]; exact ⟨l3, h3, by simpa [Tr.ks, hl] using l4, by simpa [Tr.ks, toSL_ofSL, hl] using h4⟩) hf hn
  cases x
  rw [ofS] at this ⊢
  simp only [Tr.kd, Tr.nu, Tr.tx, Tr.ns, Tr.ks] at this
  rw [hl] at this
  exact this
end Go.Proofs.YtdbfhbnlheankaaGreatDoor.VT
/- The reference's id of a tree: plain. Conditions: none. -/
namespace Go.Proofs.YtdbfhbnlheankaaGreatDoor.VT
open Go.RowKit Go.Proofs.YtdbfhbnlheankaaGreatDoor.PVG Go.Proofs.YtdbfhbnlheankaaGreatDoorW.PrintWords
set_option linter.unusedVariables false
set_option linter.unusedSimpArgs false
theorem fstI_yes (s : ByteArray) : ∀ (ns : List ByteArray) (i j : Nat), j < ns.length → (ns.getD j nil_).toList = s.toList → (∀ t, t < j → (ns.getD t nil_).toList ≠ s.toList) → fstI s ns i = ((i + j : Nat) : Int)
  | [], i, j, h, _, _ => by simp at h
  | a :: ns, i, 0, h, e, _ => by
    rw [fstI, if_pos (by simpa using e)]; rfl
  | a :: ns, i, j + 1, h, e, p => by
    have h0 := p 0 (by omega)
    rw [fstI, if_neg (by simpa using h0), fstI_yes s ns (i + 1) j (by simpa using h) e (fun t ht => p (t + 1) (by omega))]
    congr 1
    omega
theorem fstI_no (s : ByteArray) : ∀ (ns : List ByteArray) (i : Nat), (∀ t, t < ns.length → (ns.getD t nil_).toList ≠ s.toList) → fstI s ns i = -1
  | [], i, _ => rfl
  | a :: ns, i, p => by
    have h0 := p 0 (by simp)
    rw [fstI, if_neg (by simpa using h0), fstI_no s ns (i + 1) (fun t ht => p (t + 1) (by simpa using ht))]
theorem rd_toS {ks : List Tr} {i : Nat} {u : Tr} (h : ks[i]? = some u) : rd_T49 (toSL ks) (i : Int) = toS u := by
  unfold rd_T49
  rw [toSL_map, Int.toNat_natCast, List.getD_eq_getElem?_getD, List.getElem?_map, h]
  rfl
theorem toS_f0 (u : Tr) : (toS u).f0 = u.kd := by cases u; rfl
theorem wf_map {t : Tr} (hw : wf t = true) (h7 : t.kd = 7) : t.ns.length = t.ks.length ∧ rising t.ns = true := by
  cases t with
  | mk kd nu tx ns ks =>
    obtain rfl : kd = 7 := h7
    rw [wf] at hw
    simp only [Bool.and_eq_true, beq_self_eq_true, if_true, decide_eq_true_eq] at hw
    exact ⟨hw.1.1.2.1.1, hw.1.1.2.1.2⟩
theorem l8R_t {t : Tr} (hw : wf t = true) : l8R t.kd t.ns (toSL t.ks) = match idT t with
    | none => (z49, false)
    | some u => (toS u, true) := by
  unfold l8R idT
  by_cases h7 : t.kd = 7
  · obtain ⟨hl, hr⟩ := wf_map hw h7
    rw [if_pos h7, if_pos h7]
    cases hb : bsB t.ns idN with
    | false =>
      rw [fstI_no idN t.ns 0 (bs_no hr hb), if_pos (by omega), if_neg (by simp)]
    | true =>
      obtain ⟨h1, h2, h3⟩ := bs_yes hr hb
      rw [fstI_yes idN t.ns 0 (bsI t.ns idN) h1 h2 h3, if_neg (by omega), if_pos rfl, Nat.zero_add]
      have hu := List.getElem?_eq_getElem (show bsI t.ns idN < t.ks.length by omega)
      generalize t.ks[bsI t.ns idN] = u at hu
      rw [rd_toS hu, hu, toS_f0]
      simp only []
      by_cases h : (u.kd == 4 || u.kd == 5) = true
      · simp only [if_pos h]
      · simp only [if_neg h]
  · rw [if_neg h7, if_neg h7]
/-- The reference's id and IdOf answer alike. -/
theorem l8R_idV {l : List S82} {t : Tr} (hv : valT l = some t) : ∃ x b, l8R t.kd t.ns (toSL t.ks) = (x, b) ∧ ((b = false ∧ idV l = ([], false)) ∨ (b = true ∧ fit (ofS x) = true ∧ cnt (ofS x) ≤ 1073741824 ∧ idV l = (flat (ofS x) nil_ (-1) 0, true))) := by
  obtain ⟨h1, h2, h3, h4, h5⟩ := valT_iff.1 hv
  refine ⟨_, _, l8R_t h2, ?_⟩
  cases hi : idT t with
  | none => exact .inl ⟨rfl, by unfold idV; rw [hv]; show (match idT t with | none => _ | some u => _) = _; rw [hi]⟩
  | some u =>
    have hf : fit u = true := by have q1 := wf_fit t h2; have q2 := idT_kid hi; cases t; exact (fitL_iff _).1 (fit1 q1).hks u q2
    have hc : cnt u ≤ 80 := by
      have q1 := cntL_kid (idT_kid hi)
      cases t
      simp only [cnt, Tr.ks] at q1 h4
      omega
    refine .inr ⟨rfl, ?_, ?_, ?_⟩
    · show fit (ofS (toS u)) = true
      rw [ofS_toS]; exact hf
    · show cnt (ofS (toS u)) ≤ 1073741824
      rw [ofS_toS]; omega
    · show idV l = (flat (ofS (toS u)) nil_ (-1) 0, true)
      rw [ofS_toS]
      unfold idV; rw [hv]; show (match idT t with | none => _ | some u => _) = _; rw [hi]
theorem idV_len {l : List S82} : (idV l).1.length ≤ l.length := by
  unfold idV
  cases hv : valT l with
  | none => simp
  | some t =>
    obtain ⟨h1, h2, h3, h4, h5⟩ := valT_iff.1 hv
    simp only []
    cases hi : idT t with
    | none => simp
    | some u =>
      simp only []
      rw [flat_len, h1, flat_len]
      have q1 := cntL_kid (idT_kid hi)
      cases t
      simp only [cnt, Tr.ks] at q1 ⊢
      omega
end Go.Proofs.YtdbfhbnlheankaaGreatDoor.VT
