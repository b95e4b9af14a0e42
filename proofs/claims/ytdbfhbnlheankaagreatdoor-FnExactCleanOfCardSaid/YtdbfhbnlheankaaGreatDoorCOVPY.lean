import Derived.Test.YtdbfhbnlheankaaGreatDoorCOVPX
/- The reference's cleaning of a map: walked. Conditions: right trees. -/
namespace Go.Proofs.YtdbfhbnlheankaaGreatDoor.VT
open Go.RowKit Go.Proofs.YtdbfhbnlheankaaGreatDoor.PVG Go.Proofs.YtdbfhbnlheankaaGreatDoorW.PrintWords Go.Proofs.YtdbfhbnlheankaaGreatDoorW.PrintLast Go.Proofs.YtdbfhbnlheankaaGreatDoorW.PrintMore
set_option linter.unusedVariables false
set_option linter.unusedSimpArgs false
theorem cleanN_skip {ks : List Tr} {ns : List ByteArray} {i : Nat} (h : i < ks.length) (h1 : (ks[i]).kd = 1) : cleanN (ks.take (i + 1)) ns = cleanN (ks.take i) ns ∧ cleanK (ks.take (i + 1)) = cleanK (ks.take i) := by
  rw [List.take_succ_eq_append_getElem h, cleanN_app, cleanK_app, cleanN, cleanK, if_pos h1, if_pos h1]
  simp [cleanN, cleanK]
theorem cleanN_put {ks : List Tr} {ns : List ByteArray} {i : Nat} (h : i < ks.length) (h2 : i < ns.length) (h1 : ¬ (ks[i]).kd = 1) : cleanN (ks.take (i + 1)) ns = cleanN (ks.take i) ns ++ [ns[i]] ∧ cleanK (ks.take (i + 1)) = cleanK (ks.take i) ++ [cleanT ks[i]] := by
  rw [List.take_succ_eq_append_getElem h, cleanN_app, cleanK_app, cleanN, cleanK, if_neg h1, if_neg h1]
  rw [List.length_take, Nat.min_eq_left (by omega), List.drop_eq_getElem_cons h2]
  simp [cleanN, cleanK, List.getElem?_eq_getElem h2]
theorem wfL_mem : ∀ {ks : List Tr} {u : Tr}, wfL ks = true → u ∈ ks → wf u = true
  | t :: ts, u, h, hu => by
    rw [wfL, Bool.and_eq_true] at h
    rcases List.mem_cons.1 hu with rfl | hu
    · exact h.1
    · exact wfL_mem h.2 hu
theorem cleanN_take : ∀ (ks : List Tr) (ns : List ByteArray), cleanN ks ns = cleanN ks (ns.take ks.length)
  | [], ns => by simp [cleanN]
  | t :: ts, [] => by simp
  | t :: ts, a :: r => by
    have := cleanN_take ts r
    rw [List.length_cons, List.take_succ_cons, cleanN, cleanN, List.tail_cons, List.tail_cons, List.headD_cons, List.headD_cons, ← this]
theorem cleanN_lt {ks : List Tr} {ns : List ByteArray} {i : Nat} (hl : ns.length = ks.length) (hr : rising ns = true) (h : i < ks.length) (h2 : i < ns.length) : ∀ j, j < (cleanN (ks.take i) ns).length → lt ((cleanN (ks.take i) ns).getD j nil_) ns[i] = true := by
  intro j hj
  have hm : (cleanN (ks.take i) ns)[j] ∈ ns.take i := by
    have h0 := List.getElem_mem hj
    have e := cleanN_take (ks.take i) ns
    rw [List.length_take, Nat.min_eq_left (by omega)] at e
    have h1 : ∀ s, s ∈ cleanN (ks.take i) ns → s ∈ ns.take i := by
      rw [e]
      exact cleanN_mem (ks.take i) (ns.take i) (by simp; omega)
    exact h1 _ h0
  obtain ⟨t, ht, e⟩ := List.mem_take_iff_getElem.1 hm
  have h3 := rising_at hr t i (by omega) h2
  rw [List.getD_eq_getElem?_getD, List.getElem?_eq_getElem hj, Option.getD_some, ← e]
  rw [List.getD_eq_getElem?_getD, List.getD_eq_getElem?_getD, List.getElem?_eq_getElem h2, List.getElem?_eq_getElem (by omega)] at h3
  exact h3
theorem l4_kid {t : Tr} (h : L4Call t) {x : S49} (hx : x = toS (cleanT t)) (w W : World) (P : Nat → Prop) (B3 : Option Addr) (d3 : Nat) (B4 : Option Addr) (d4 : Nat) (hP : ∀ k, P k → k < w.heap.size) (hb : Below w.heap.size w W) (h3 : Kd.V Kd.string 9 w w.heap.size P (.slice B3 t.ns.length d3) t.ns) (h4 : Kd.V k49 49 w w.heap.size P (.slice B4 t.ks.length d4) (toSL t.ks)) (hw : wf t = true) (hc : cnt t ≤ 1073741824) :
    Calls Tryz.prog 32 #[.agg #[.int .i64 t.kd, .int .i64 t.nu, .string t.tx, .slice B3 t.ns.length d3, .slice B4 t.ks.length d4]] W fun e w' => ∃ B5 d5 B6 d6, e = .returned (.agg #[.int .i64 x.f0, .int .i64 x.f1, .string x.f2, .slice B5 x.f3.length d5, .slice B6 x.f4.length d6]) ∧ Kd.V Kd.string 9 w' w.heap.size (fun k => P k ∨ W.heap.size ≤ k) (.slice B5 x.f3.length d5) x.f3 ∧ Kd.V k49 49 w' w.heap.size (fun k => P k ∨ W.heap.size ≤ k) (.slice B6 x.f4.length d6) x.f4 ∧ Below W.heap.size W w' := by
  refine (h.go W P B3 d3 B4 d4 (fun k hk => Nat.lt_of_lt_of_le (hP k hk) hb.size) (Kd.V_below h3 hb) (Kd.V_below h4 hb) hw hc).mono ?_
  rintro e w' ⟨v3, v4, rfl, r3, r4, hb'⟩
  obtain ⟨B5, d5, rfl⟩ := Kd.V_slice r3
  obtain ⟨B6, d6, rfl⟩ := Kd.V_slice r4
  subst hx
  rw [toS_eq]
  exact ⟨B5, d5, B6, d6, rfl, r3, r4, hb'⟩
theorem l4_put (w W6 W7 : World) (P : Nat → Prop) (g3 : Nat) (D3 D4 B5 B6 : Option Addr) (e3 e4 d5 d6 n : Nat) (ms : List ByteArray) (cs : List S49) (s : ByteArray) (x : S49)
    (hP : ∀ k, P k → k < w.heap.size) (hw : w.heap.size ≤ W6.heap.size) (hg : g3 < W6.heap.size) (h67 : Below W6.heap.size W6 W7)
    (r3 : Kd.V Kd.string 9 W6 w.heap.size (fun k => (P k ∨ g3 < k) ∧ k < W6.heap.size) (.slice D3 n e3) ms) (r4 : Kd.V k49 49 W6 w.heap.size (fun k => (P k ∨ g3 < k) ∧ k < W6.heap.size) (.slice D4 n e4) cs) (hn : n ≤ 1073741824)
    (x3 : Kd.V Kd.string 9 W7 w.heap.size (fun k => P k ∨ W6.heap.size ≤ k) (.slice B5 x.f3.length d5) x.f3) (x4 : Kd.V k49 49 W7 w.heap.size (fun k => P k ∨ W6.heap.size ≤ k) (.slice B6 x.f4.length d6) x.f4)
    (hle : ∀ i, i < n → lt (ms.getD i nil_) s = true) :
    Calls Tryz.prog 60 #[.agg #[.int .i64 7, .int .i64 0, .string ⟨#[]⟩, .slice D3 n e3, .slice D4 n e4], .string s, .agg #[.int .i64 x.f0, .int .i64 x.f1, .string x.f2, .slice B5 x.f3.length d5, .slice B6 x.f4.length d6]] W7 fun e w' => ∃ E3 p3 E4 p4, e = .returned (.agg #[.int .i64 7, .int .i64 0, .string ⟨#[]⟩, .slice E3 (n + 1) p3, .slice E4 (n + 1) p4]) ∧ Kd.V Kd.string 9 w' w.heap.size (fun k => (P k ∨ g3 < k) ∧ k < w'.heap.size) (.slice E3 (n + 1) p3) (ms ++ [s]) ∧ Kd.V k49 49 w' w.heap.size (fun k => (P k ∨ g3 < k) ∧ k < w'.heap.size) (.slice E4 (n + 1) p4) (cs ++ [x]) ∧ Below W7.heap.size W7 w' := by
  have hs := h67.size
  have m1 : ∀ k, ((P k ∨ g3 < k) ∧ k < W6.heap.size) → ((P k ∨ g3 < k) ∧ k < W7.heap.size) := fun k hk => ⟨hk.1, by omega⟩
  have m2 : ∀ k, ((P k ∨ W6.heap.size ≤ k) ∧ k < W7.heap.size) → ((P k ∨ g3 < k) ∧ k < W7.heap.size) := fun k hk => ⟨hk.1.imp id (fun h => by omega), hk.2⟩
  obtain ⟨q1, q2, q3⟩ := Kd.V_reads' (Kd.V_below r3 h67)
  obtain ⟨p1, _, _⟩ := Kd.V_reads' r4
  refine (l1Put_c 0 ⟨#[]⟩ s ms cs x D3 D4 B5 B6 e3 e4 d5 d6 n (fun k => (P k ∨ g3 < k) ∧ k < W7.heap.size) W7 (fun k hk => hk.2) q3 q1.symm q2 (Kd.V_mono (Kd.V_below r4 h67) m1) hn (Kd.V_mono (Kd.V_bound x3) m2) (Kd.V_mono (Kd.V_bound x4) m2) hle).mono ?_
  rintro e w' ⟨v3, v4, rfl, a3, a4, hb⟩
  have m3 : ∀ k, ((((P k ∨ g3 < k) ∧ k < W7.heap.size) ∨ W7.heap.size ≤ k) ∧ k < w'.heap.size) → ((P k ∨ g3 < k) ∧ k < w'.heap.size) := fun k hk => ⟨hk.1.elim (fun h => h.1) (fun h => .inr (by omega)), hk.2⟩
  have b3 := Kd.V_mono (Kd.V_bound a3) m3
  have b4 := Kd.V_mono (Kd.V_bound a4) m3
  obtain ⟨E3, p3, rfl⟩ := Kd.V_slice b3
  obtain ⟨E4, p4, rfl⟩ := Kd.V_slice b4
  have l3 : (ms ++ [s]).length = n + 1 := by simp [q1]
  have l4 : (cs ++ [x]).length = n + 1 := by simp [p1]
  rw [l3] at b3 ⊢
  rw [l4] at b4 ⊢
  exact ⟨E3, p3, E4, p4, rfl, b3, b4, hb⟩
set_option maxRecDepth 100000 in
set_option maxHeartbeats 8000000 in
theorem l4_map (nu : Int) (tx : ByteArray) (ns : List ByteArray) (ks : List Tr) (ih : ∀ t, t ∈ ks → L4Call t) : L4Call (.mk 7 nu tx ns ks) := by
  intro w P A3 c3 A4 c4 hP hv3 hv4 hw hn
  obtain ⟨hln, hri⟩ := wf_map hw rfl
  simp only [Tr.ns, Tr.ks] at hln hri hv3 hv4
  rw [cleanT, if_pos rfl]
  simp only [Tr.kd, Tr.nu, Tr.tx, Tr.ns, Tr.ks]
  obtain ⟨W1, hW1⟩ : ∃ W1, W1 = w.alloc (.cells #[.int .i64 7, .int .i64 nu, .string tx, .slice A3 ns.length c3, .slice A4 ks.length c4] 49) := ⟨_, rfl⟩
  obtain ⟨W2, hW2⟩ : ∃ W2, W2 = W1.alloc (.cells #[.int .i64 0, .int .i64 0, .string ⟨#[]⟩, .slice none 0 0, .slice none 0 0] 49) := ⟨_, rfl⟩
  obtain ⟨g1, hg1⟩ : ∃ g, g = w.heap.size := ⟨_, rfl⟩
  obtain ⟨g2, hg2⟩ : ∃ g, g = w.heap.size + 1 := ⟨_, rfl⟩
  have hs1 : W1.heap.size = w.heap.size + 1 := by rw [hW1]; simp
  have b1 : Below w.heap.size w W1 := by rw [hW1]; exact below_alloc (Below.refl _ _) _
  have b2 : Below W1.heap.size W1 W2 := by rw [hW2]; exact below_alloc (Below.refl _ _) _
  have B2 := Aside0.mk (below_step b1 b2)
  have K1 := Aside0.mk (blk_below (show W1.heap[g1]? = some (.cells #[.int .i64 7, .int .i64 nu, .string tx, .slice A3 ns.length c3, .slice A4 ks.length c4] 49 (0, 0)) by rw [hW1, hg1]; exact blk_new w _) b2)
  have K2 := Aside0.mk (show W2.heap[g2]? = some (.cells #[.int .i64 0, .int .i64 0, .string ⟨#[]⟩, .slice none 0 0, .slice none 0 0] 49 (0, 0)) by rw [hW2, hg2, ← hs1]; exact blk_new W1 _)
  have LO := Aside0.mk (show w.heap.size ≤ g1 ∧ w.heap.size ≤ g2 ∧ g1 ≠ g2 ∧ g1 < W2.heap.size ∧ g2 < W2.heap.size ∧ w.heap.size ≤ W2.heap.size from ⟨by omega, by omega, by omega, blk_lt K1.out, blk_lt K2.out, B2.out.size⟩)
  have k0 : W2.cell? ⟨g1, 0, none⟩ = some (.int .i64 7) := (blk_cell K1.out 0).trans rfl
  have HV3 := Aside0.mk hv3
  have HV4 := Aside0.mk (show Kd.V k49 49 w w.heap.size P (.slice A4 (toSL ks).length c4) (toSL ks) by rw [toSL_len]; exact hv4)
  have HPP := Aside0.mk hP
  have HLN := Aside0.mk hln
  have HRI := Aside0.mk hri
  have HW := Aside0.mk hw
  have HN := Aside0.mk hn
  have IH := Aside0.mk ih
  clear hv3 hv4 hP hln hri hw hn ih b1 b2
  go_enter Tryz.func32, Tryz.ntmps32
  go_upto_region 1 with fail
  rw [← hW1, ← hW2, ← hg2, ← hg1]
  clear hW1 hW2 hg1 hg2 hs1
  go_upto_region 4 with (first | ((with_reducible refine gate_dst (N := 3) rfl ?_); refine box_event ?hg (N := 3) ?hd (cs := #[.int .i64 0, .int .i64 0, .string ⟨#[]⟩, .slice none 0 0, .slice none 0 0]) (t := 49) ?hr ?_; (case hd => rfl); (case hg => rfl); (case hr => first | (go_simp; done) | (go_simp; rfl)); intro gxa hg wxa hbox hb; have GXa := Aside0.mk hg; have KXa := Aside0.mk hbox; have BXa := Aside0.mk hb; have z0 : wxa.cell? ⟨gxa, 0, none⟩ = some (.int .i64 0) := (blk_cell hbox 0).trans rfl; have z1 : wxa.cell? ⟨gxa, 1, none⟩ = some (.int .i64 0) := (blk_cell hbox 1).trans rfl; have z2 : wxa.cell? ⟨gxa, 2, none⟩ = some (.string ⟨#[]⟩) := (blk_cell hbox 2).trans rfl; have z3 : wxa.cell? ⟨gxa, 3, none⟩ = some (.slice none 0 0) := (blk_cell hbox 3).trans rfl; have z4 : wxa.cell? ⟨gxa, 4, none⟩ = some (.slice none 0 0) := (blk_cell hbox 4).trans rfl; have f0 := blk_frozen hbox 0; have f1 := blk_frozen hbox 1; have f2 := blk_frozen hbox 2; have f3 := blk_frozen hbox 3; have f4 := blk_frozen hbox 4; clear hb hbox hg))
  clear z0 z1 z2 z3 z4 f0 f1 f2 f3 f4 k0
  obtain ⟨g3, hg3⟩ : ∃ g, g = gxa := ⟨_, rfl⟩
  obtain ⟨w4, hw4⟩ : ∃ W, W = (((((wxa.setCell ⟨gxa, 0, none⟩ (.int .i64 7)).setCell ⟨gxa, 1, none⟩ (.int .i64 0)).setCell ⟨gxa, 2, none⟩ (.string ⟨#[]⟩)).setCell ⟨gxa, 3, none⟩ (.slice none 0 0)).setCell ⟨gxa, 4, none⟩ (.slice none 0 0)) := ⟨_, rfl⟩
  rw [← hw4]
  have S4 : Below W2.heap.size W2 w4 := by rw [hw4]; exact below_put5 BXa.out (Nat.le_of_eq GXa.out.symm)
  have L0 := Aside0.mk (show L4 w P 7 nu tx (.slice A3 ns.length c3) (.slice A4 ks.length c4) g1 g2 gxa [] [] w4 from ⟨below_step B2.out S4, by have := LO.out; have := GXa.out; omega, blk_below K1.out S4, blk_below K2.out S4, ⟨none, 0, none, 0, by rw [hw4]; exact put5 KXa.out, Kd.V_nil _ _ _ _ _, Kd.V_nil _ _ _ _ _⟩⟩)
  rw [← hg3] at L0 ⊢
  clear hw4 hg3 S4
  have t14 : w4.cell? ⟨g1, 4, none⟩ = some (.slice A4 ks.length c4) := (blk_cell L0.out.k1 4).trans rfl
  go_wp2
  go_loopg [14] ks.length (fun m v14 W => ∃ i : Nat, v14 = .int .i64 (i : Int) ∧ Aside0 (i + m = ks.length) ∧ Aside0 (L4 w P 7 nu tx (.slice A3 ns.length c3) (.slice A4 ks.length c4) g1 g2 g3 (cleanN (ks.take i) ns) (cleanK (ks.take i)) W))
  case atStart => exact ⟨0, rfl, ⟨by omega⟩, by rw [List.take_zero]; exact L0⟩
  case round =>
    obtain ⟨i, rfl, HI, HL⟩ := hrel
    cases gk with
    | zero =>
      have hin : decide (i < ks.length) = false := decide_eq_false (by have := HI.out; omega)
      have e1 : ks.take i = ks := List.take_of_length_le (by have := HI.out; omega)
      rw [e1] at HL
      obtain ⟨D3, e3, D4, e4, k3, r3, r4⟩ := HL.out.rows
      have RR := Aside0.mk (And.intro r3 r4)
      have q0 : wr.cell? ⟨g3, 0, none⟩ = some (.int .i64 7) := (blk_cell k3 0).trans rfl
      have q1 : wr.cell? ⟨g3, 1, none⟩ = some (.int .i64 0) := (blk_cell k3 1).trans rfl
      have q2 : wr.cell? ⟨g3, 2, none⟩ = some (.string ⟨#[]⟩) := (blk_cell k3 2).trans rfl
      have q3 : wr.cell? ⟨g3, 3, none⟩ = some (.slice D3 (cleanN ks ns).length e3) := (blk_cell k3 3).trans rfl
      have q4 : wr.cell? ⟨g3, 4, none⟩ = some (.slice D4 (cleanK ks).length e4) := (blk_cell k3 4).trans rfl
      have z0 : wr.cell? ⟨g2, 0, none⟩ = some (.int .i64 0) := (blk_cell HL.out.k2 0).trans rfl
      have z1 : wr.cell? ⟨g2, 1, none⟩ = some (.int .i64 0) := (blk_cell HL.out.k2 1).trans rfl
      have z2 : wr.cell? ⟨g2, 2, none⟩ = some (.string ⟨#[]⟩) := (blk_cell HL.out.k2 2).trans rfl
      have z3 : wr.cell? ⟨g2, 3, none⟩ = some (.slice none 0 0) := (blk_cell HL.out.k2 3).trans rfl
      have z4 : wr.cell? ⟨g2, 4, none⟩ = some (.slice none 0 0) := (blk_cell HL.out.k2 4).trans rfl
      have f0 := blk_frozen HL.out.k2 0
      have f1 := blk_frozen HL.out.k2 1
      have f2 := blk_frozen HL.out.k2 2
      have f3 := blk_frozen HL.out.k2 3
      have f4 := blk_frozen HL.out.k2 4
      clear k3 r3 r4 e1
      go_wp2
      refine bodyPost_ret (results_cell_row rfl _ _ g2 49 _ (0, 0) _ rfl (put5 HL.out.k2) Tryz.underlying49 rfl (by kernel_rfl)) rfl ?_
      have lo := HL.out.lo
      have hB := below_put5 (a := .int .i64 7) (b := .int .i64 0) (c := .string ⟨#[]⟩) (d := .slice D3 (cleanN ks ns).length e3) (e := .slice D4 (cleanK ks).length e4) HL.out.bel lo.2.1
      have ne : ∀ k, ((P k ∨ g3 < k) ∧ k < wr.heap.size) → k ≠ g2 := fun k hk => by
        rcases hk.1 with h | h
        · have := HPP.out k h; omega
        · omega
      have mo : ∀ k, ((P k ∨ g3 < k) ∧ k < wr.heap.size) → (P k ∨ w.heap.size ≤ k) := fun k hk => hk.1.elim .inl (fun h => .inr (by omega))
      exact ⟨_, _, rfl, Kd.V_mono (V_put5 RR.out.1 ne) mo, Kd.V_mono (V_put5 RR.out.2 ne) mo, hB⟩
    | succ m =>
      have hi : i < ks.length := by have := HI.out; omega
      have hin : decide (i < ks.length) = true := decide_eq_true hi
      have hi2 : (i : Int) < (ks.length : Int) := by omega
      have b1 : (i : Int) ≤ 1073741824 := by have h1 := HN.out; simp only [cnt] at h1; have := cnt_ge_len ks; omega
      obtain ⟨ad, B3, d3, B4, d4, rfl, hcell, hq3, hq4⟩ := rec_at HV4.out i (by rw [toSL_len]; exact hi)
      rw [rd_toS (List.getElem?_eq_getElem hi), toS_eq] at hcell hq3 hq4
      simp only [toSL_len] at hcell hq4
      obtain ⟨q0, q1, q2, q3, q4⟩ := hcell wr HL.out.bel
      have HQ := Aside0.mk (And.intro hq3 hq4)
      clear hcell hq3 hq4
      go_upto_region 7 with (first | ((with_reducible refine gate_dst (N := 5) rfl ?_); refine box_event ?hg (N := 5) ?hd (cs := #[.int .i64 0, .int .i64 0, .string ⟨#[]⟩, .slice none 0 0, .slice none 0 0]) (t := 49) ?hr ?_; (case hd => rfl); (case hg => rfl); (case hr => first | (go_simp; done) | (go_simp; rfl)); intro gxb hg wxb hbox hb; have GXb := Aside0.mk hg; have KXb := Aside0.mk hbox; have BXb := Aside0.mk hb; have z0 : wxb.cell? ⟨gxb, 0, none⟩ = some (.int .i64 0) := (blk_cell hbox 0).trans rfl; have z1 : wxb.cell? ⟨gxb, 1, none⟩ = some (.int .i64 0) := (blk_cell hbox 1).trans rfl; have z2 : wxb.cell? ⟨gxb, 2, none⟩ = some (.string ⟨#[]⟩) := (blk_cell hbox 2).trans rfl; have z3 : wxb.cell? ⟨gxb, 3, none⟩ = some (.slice none 0 0) := (blk_cell hbox 3).trans rfl; have z4 : wxb.cell? ⟨gxb, 4, none⟩ = some (.slice none 0 0) := (blk_cell hbox 4).trans rfl; have f0 := blk_frozen hbox 0; have f1 := blk_frozen hbox 1; have f2 := blk_frozen hbox 2; have f3 := blk_frozen hbox 3; have f4 := blk_frozen hbox 4; clear hb hbox hg))
      clear z0 z1 z2 z3 z4 f0 f1 f2 f3 f4 q0 q1 q2 q3 q4
      obtain ⟨g5, hg5⟩ : ∃ g, g = gxb := ⟨_, rfl⟩
      obtain ⟨w6, hw6⟩ : ∃ W, W = (((((wxb.setCell ⟨gxb, 0, none⟩ (.int .i64 (ks[i]).kd)).setCell ⟨gxb, 1, none⟩ (.int .i64 (ks[i]).nu)).setCell ⟨gxb, 2, none⟩ (.string (ks[i]).tx)).setCell ⟨gxb, 3, none⟩ (.slice B3 (ks[i]).ns.length d3)).setCell ⟨gxb, 4, none⟩ (.slice B4 (ks[i]).ks.length d4)) := ⟨_, rfl⟩
      rw [← hw6]
      have S6 : Below wr.heap.size wr w6 := by rw [hw6]; exact below_put5 BXb.out (Nat.le_of_eq GXb.out.symm)
      have L6 := Aside0.mk (HL.out.move S6)
      have K5 := Aside0.mk (show w6.heap[gxb]? = some (.cells #[.int .i64 (ks[i]).kd, .int .i64 (ks[i]).nu, .string (ks[i]).tx, .slice B3 (ks[i]).ns.length d3, .slice B4 (ks[i]).ks.length d4] 49 (0, 0)) by rw [hw6]; exact put5 KXb.out)
      rw [← hg5] at K5 ⊢
      clear hw6 hg5 S6
      by_cases h1 : (ks[i]).kd = 1
      · have t5 : w6.cell? ⟨g5, 0, none⟩ = some (.int .i64 1) := by rw [← h1]; exact (blk_cell K5.out 0).trans rfl
        have HS := Aside0.mk (cleanN_skip (ns := ns) hi h1)
        clear h1
        go_wp2
        go_roundg m
        case rel => exact ⟨i + 1, rfl, ⟨by have := HI.out; omega⟩, ⟨by rw [HS.out.1, HS.out.2]; exact L6.out⟩⟩
        case measure => omega
      · have hni : i < ns.length := by have := HLN.out; omega
        have hi3 : (i : Int) < (ns.length : Int) := by omega
        have HS := Aside0.mk (cleanN_put (ns := ns) hi hni h1)
        obtain ⟨D3, e3, D4, e4, kg, r3, r4⟩ := L6.out.rows
        obtain ⟨n, hnn⟩ : ∃ n, n = (cleanN (ks.take i) ns).length := ⟨_, rfl⟩
        have hcl : (cleanK (ks.take i)).length = n := by
          rw [hnn, cleanN_take (ks.take i) ns]
          exact (cleanN_lenK (ks.take i) _ (by simp; have := HLN.out; omega)).symm
        rw [← hnn] at kg r3
        rw [hcl] at kg r4
        have NN := Aside0.mk (And.intro hnn hcl)
        have HN1 := Aside0.mk (show n ≤ 1073741824 by rw [hnn]; have := cleanN_le (ks.take i) ns; rw [List.length_take] at this; omega)
        have HLE := Aside0.mk (show ∀ j, j < n → lt ((cleanN (ks.take i) ns).getD j nil_) ns[i] = true by rw [hnn]; exact cleanN_lt HLN.out HRI.out hi hni)
        obtain ⟨ad3, rfl, nmc⟩ : ∃ ad3, A3 = some ad3 ∧ w.cell? (ad3.add i) = some (.string ns[i]) := by
          obtain ⟨ad, c, e, _, hK, hc⟩ := Kd.C_get (Kd.V_reads' HV3.out).2.2 nil_ (i : Int) (by omega) (by omega)
          have h0 := hc 0 _ (by rw [show c = [.string (ns.getD (i : Int).toNat nil_)] from hK]; rfl)
          have e1 : (i : Int).toNat * Kd.string.sz + 0 = i := by show (i : Int).toNat * 1 + 0 = i; omega
          rw [e1, List.getD_eq_getElem?_getD, Int.toNat_natCast, List.getElem?_eq_getElem hni] at h0
          exact ⟨ad, e, h0⟩
        obtain ⟨x, hx⟩ : ∃ x, x = toS (cleanT ks[i]) := ⟨_, rfl⟩
        have XE := Aside0.mk hx
        have DW := Aside0.mk (show Below w6.heap.size w6 w6.drew from below_drew1 (Below.refl _ _))
        have LOW := Aside0.mk L6.out.lo
        obtain ⟨w6c, hw6c⟩ : ∃ W, W = w6.drew := ⟨_, rfl⟩
        have BWD := Aside0.mk (show Below w.heap.size w w6c by rw [hw6c]; exact below_step L6.out.bel DW.out)
        have KG := Aside0.mk (show w6c.heap[g3]? = some (.cells #[.int .i64 7, .int .i64 0, .string ⟨#[]⟩, .slice D3 n e3, .slice D4 n e4] 49 (0, 0)) by rw [hw6c]; exact blk_below kg DW.out)
        have K5D := Aside0.mk (show w6c.heap[g5]? = some (.cells #[.int .i64 (ks[i]).kd, .int .i64 (ks[i]).nu, .string (ks[i]).tx, .slice B3 (ks[i]).ns.length d3, .slice B4 (ks[i]).ks.length d4] 49 (0, 0)) by rw [hw6c]; exact blk_below K5.out DW.out)
        have K1D := Aside0.mk (show w6c.heap[g1]? = some (.cells #[.int .i64 7, .int .i64 nu, .string tx, .slice (some ad3) ns.length c3, .slice (some ad) ks.length c4] 49 (0, 0)) by rw [hw6c]; exact blk_below L6.out.k1 DW.out)
        have K2D := Aside0.mk (show w6c.heap[g2]? = some (.cells #[.int .i64 0, .int .i64 0, .string ⟨#[]⟩, .slice none 0 0, .slice none 0 0] 49 (0, 0)) by rw [hw6c]; exact blk_below L6.out.k2 DW.out)
        have G3L := Aside0.mk (show g3 < w6c.heap.size from blk_lt KG.out)
        have RR6 := Aside0.mk (show Kd.V Kd.string 9 w6c w.heap.size (fun k => (P k ∨ g3 < k) ∧ k < w6c.heap.size) (.slice D3 n e3) (cleanN (ks.take i) ns) ∧ Kd.V k49 49 w6c w.heap.size (fun k => (P k ∨ g3 < k) ∧ k < w6c.heap.size) (.slice D4 n e4) (toSL (cleanK (ks.take i))) by
          rw [hw6c]
          have hsz := DW.out.size
          exact ⟨Kd.V_mono (Kd.V_below r3 DW.out) (fun k hk => ⟨hk.1, by omega⟩), Kd.V_mono (Kd.V_below r4 DW.out) (fun k hk => ⟨hk.1, by omega⟩)⟩)
        have HELD := Aside0.mk (show ∀ w', Below w6c.heap.size w6c w' → w'.cell? ⟨g3, 0, none⟩ = some (.int .i64 7) ∧ w'.cell? ⟨g3, 1, none⟩ = some (.int .i64 0) ∧ w'.cell? ⟨g3, 2, none⟩ = some (.string ⟨#[]⟩) ∧ w'.cell? ⟨g3, 3, none⟩ = some (.slice D3 n e3) ∧ w'.cell? ⟨g3, 4, none⟩ = some (.slice D4 n e4) ∧ w'.cell? ⟨g1, 3, none⟩ = some (.slice (some ad3) ns.length c3) ∧ w'.cell? (ad3.add i) = some (.string ns[i]) ∧ w'.cell? ⟨g5, 0, none⟩ = some (.int .i64 (ks[i]).kd) ∧ w'.cell? ⟨g5, 1, none⟩ = some (.int .i64 (ks[i]).nu) ∧ w'.cell? ⟨g5, 2, none⟩ = some (.string (ks[i]).tx) ∧ w'.cell? ⟨g5, 3, none⟩ = some (.slice B3 (ks[i]).ns.length d3) ∧ w'.cell? ⟨g5, 4, none⟩ = some (.slice B4 (ks[i]).ks.length d4) from fun w' hb => ⟨(blk_cell (blk_below KG.out hb) 0).trans rfl, (blk_cell (blk_below KG.out hb) 1).trans rfl, (blk_cell (blk_below KG.out hb) 2).trans rfl, (blk_cell (blk_below KG.out hb) 3).trans rfl, (blk_cell (blk_below KG.out hb) 4).trans rfl, (blk_cell (blk_below K1D.out hb) 3).trans rfl, ((below_step BWD.out hb).cell (World.block_lt_of_cell? w _ nmc)).trans nmc, (blk_cell (blk_below K5D.out hb) 0).trans rfl, (blk_cell (blk_below K5D.out hb) 1).trans rfl, (blk_cell (blk_below K5D.out hb) 2).trans rfl, (blk_cell (blk_below K5D.out hb) 3).trans rfl, (blk_cell (blk_below K5D.out hb) 4).trans rfl⟩)
        have WFI := Aside0.mk (show wf ks[i] = true ∧ cnt ks[i] ≤ 1073741824 by
          have h2 := HW.out
          have h3 := HN.out
          have h4 := cntL_kid (List.getElem_mem hi)
          rw [wf] at h2
          simp only [Bool.and_eq_true] at h2
          simp only [cnt] at h3
          exact ⟨wfL_mem h2.2 (List.getElem_mem hi), by omega⟩)
        have CX := Aside0.mk (show ∀ W, Below w.heap.size w W → _ from fun W hb => l4_kid (IH.out ks[i] (List.getElem_mem hi)) XE.out w W P B3 d3 B4 d4 HPP.out hb HQ.out.1 HQ.out.2 WFI.out.1 WFI.out.2)
        have t5 : w6.cell? ⟨g5, 0, none⟩ = some (.int .i64 (ks[i]).kd) := (blk_cell K5.out 0).trans rfl
        have h1b : ((ks[i]).kd != 1) = true := by simpa using h1
        have h1c : ((ks[i]).kd == 1) = false := by simpa using h1
        clear h1 kg r3 r4 hnn hcl nmc hx
        go_upto_region 8 with fail
        clear t5
        rw [← hw6c] at DW
        have E6C := Aside0.mk hw6c
        clear hw6c
        refine start_ (n := 10) (S := fun w' => w'.cell? ⟨g3, 0, none⟩ = some (.int .i64 7) ∧ w'.cell? ⟨g3, 1, none⟩ = some (.int .i64 0) ∧ w'.cell? ⟨g3, 2, none⟩ = some (.string ⟨#[]⟩) ∧ w'.cell? ⟨g3, 3, none⟩ = some (.slice D3 n e3) ∧ w'.cell? ⟨g3, 4, none⟩ = some (.slice D4 n e4) ∧ w'.cell? ⟨g1, 3, none⟩ = some (.slice (some ad3) ns.length c3) ∧ w'.cell? (ad3.add i) = some (.string ns[i]) ∧ w'.cell? ⟨g5, 0, none⟩ = some (.int .i64 (ks[i]).kd) ∧ w'.cell? ⟨g5, 1, none⟩ = some (.int .i64 (ks[i]).nu) ∧ w'.cell? ⟨g5, 2, none⟩ = some (.string (ks[i]).tx) ∧ w'.cell? ⟨g5, 3, none⟩ = some (.slice B3 (ks[i]).ns.length d3) ∧ w'.cell? ⟨g5, 4, none⟩ = some (.slice B4 (ks[i]).ks.length d4)) (ds := [9]) #[false, false, false, false, false, false, false, false, false, false] (by kernel_rfl) rfl rfl (HELD.out _ (by rw [E6C.out]; exact Below.refl _ _)) (fun hHeld => ?_)
        generalize w6.drew = w6d at E6C hHeld ⊢
        obtain rfl : w6c = w6d := E6C.out
        refine pure_ (i := 1) (N := (some 23)) (v := ?_) (a' := ?_) #[false, true, false, false, false, false, false, false, false, false] rfl rfl (by kernel_rfl) (fun _ _ _ h => h) (Or.inl ⟨by rfl, ?_⟩) ?_ ?_
        rotate_left
        · intro w'
          go_simp
          with_reducible rfl
        rotate_left
        · simp only [Act.put, List.setIfInBounds_toArray, List.set_cons_zero, List.set_cons_succ, i64_w, i32_w]
          rfl
        refine pure_ (i := 3) (N := (some 25)) (v := ?_) (a' := ?_) #[false, true, false, true, false, false, false, false, false, false] rfl rfl (by kernel_rfl) (fun _ _ _ h => h) (Or.inl ⟨by rfl, ?_⟩) ?_ ?_
        rotate_left
        · intro w'
          go_simp
          with_reducible rfl
        rotate_left
        · simp only [Act.put, List.setIfInBounds_toArray, List.set_cons_zero, List.set_cons_succ, i64_w, i32_w]
          rfl
        refine take_ (i := 0) (N := (some 22)) (v := ?_) (a' := ?_) #[true, true, false, true, false, false, false, false, false, false] rfl rfl (by kernel_rfl) (fun _ _ _ h => h) (Or.inl ⟨by rfl, ?_⟩) hHeld ?_ ?_
        rotate_left
        · rintro w' ⟨s0, s1, s2, s3, s4, s5, s6, s7, s8, s9, s10, s11⟩
          go_simp
          with_reducible rfl
        rotate_left
        · simp only [Act.put, List.setIfInBounds_toArray, List.set_cons_zero, List.set_cons_succ, i64_w, i32_w]
          rfl
        refine take_ (i := 2) (N := (some 24)) (v := ?_) (a' := ?_) #[true, true, true, true, false, false, false, false, false, false] rfl rfl (by kernel_rfl) (fun _ _ _ h => h) (Or.inl ⟨by rfl, ?_⟩) hHeld ?_ ?_
        rotate_left
        · rintro w' ⟨s0, s1, s2, s3, s4, s5, s6, s7, s8, s9, s10, s11⟩
          go_simp
          with_reducible rfl
        rotate_left
        · simp only [Act.put, List.setIfInBounds_toArray, List.set_cons_zero, List.set_cons_succ, i64_w, i32_w]
          rfl
        refine pure_ (i := 4) (N := (some 26)) (v := ?_) (a' := ?_) #[true, true, true, true, true, false, false, false, false, false] rfl rfl (by kernel_rfl) (fun _ _ _ h => h) (Or.inl ⟨by rfl, ?_⟩) ?_ ?_
        rotate_left
        · intro w'
          go_simp
          with_reducible rfl
        rotate_left
        · simp only [Act.put, List.setIfInBounds_toArray, List.set_cons_zero, List.set_cons_succ, i64_w, i32_w]
          rfl
        refine take_ (i := 5) (N := (some 27)) (v := ?_) (a' := ?_) #[true, true, true, true, true, true, false, false, false, false] rfl rfl (by kernel_rfl) (fun _ _ _ h => h) (Or.inl ⟨by rfl, ?_⟩) hHeld ?_ ?_
        rotate_left
        · rintro w' ⟨s0, s1, s2, s3, s4, s5, s6, s7, s8, s9, s10, s11⟩
          go_simp
          with_reducible rfl
        rotate_left
        · simp only [Act.put, List.setIfInBounds_toArray, List.set_cons_zero, List.set_cons_succ, i64_w, i32_w]
          rfl
        refine take_ (i := 6) (N := (some 28)) (v := ?_) (a' := ?_) #[true, true, true, true, true, true, true, false, false, false] rfl rfl (by kernel_rfl) (fun _ _ _ h => h) (Or.inl ⟨by rfl, ?_⟩) hHeld ?_ ?_
        rotate_left
        · rintro w' ⟨s0, s1, s2, s3, s4, s5, s6, s7, s8, s9, s10, s11⟩
          go_simp
          with_reducible rfl
        rotate_left
        · simp only [Act.put, List.setIfInBounds_toArray, List.set_cons_zero, List.set_cons_succ, i64_w, i32_w]
          rfl
        refine one_ (i := 7) (N := (some 29)) #[true, true, true, true, true, true, true, true, false, false] rfl rfl (by kernel_rfl) (by decide) (fun K hK => ?_)
        refine goes_ Tryz.func32 (by kernel_rfl) rfl #[.agg #[.int .i64 (ks[i]).kd, .int .i64 (ks[i]).nu, .string (ks[i]).tx, .slice B3 (ks[i]).ns.length d3, .slice B4 (ks[i]).ks.length d4]] (by rfl) rfl rfl (by (try simp only [List.map_toArray, List.map_cons, List.map_nil]); first | done | rfl) ?_
        with_reducible refine (CX.out w6c BWD.out).mono ?_
        rintro e w7 ⟨B5, d5, B6, d6, rfl, hx3, hx4, hb⟩
        refine ⟨_, rfl, ?_⟩
        have B67 := Aside0.mk hb
        have X3 := Aside0.mk hx3
        have X4 := Aside0.mk hx4
        clear hb hx3 hx4
        refine hK.out _ _ (HELD.out _ B67.out) (fun hHeld => ?_)
        clear hK K
        refine norm_ (a' := ?_) ?_ ?_
        rotate_left
        · show Act.put _ (some 29) _ = _
          simp only [Act.put, List.setIfInBounds_toArray, List.set_cons_zero, List.set_cons_succ, i64_w, i32_w]
          rfl
        refine one_ (i := 8) (N := (some 30)) #[true, true, true, true, true, true, true, true, true, false] rfl rfl (by kernel_rfl) (by decide) (fun K hK => ?_)
        refine goes_ Tryz.func60 (by kernel_rfl) rfl #[.agg #[.int .i64 7, .int .i64 0, .string ⟨#[]⟩, .slice D3 n e3, .slice D4 n e4], .string ns[i], .agg #[.int .i64 x.f0, .int .i64 x.f1, .string x.f2, .slice B5 x.f3.length d5, .slice B6 x.f4.length d6]] (by rfl) rfl rfl (by (try simp only [List.map_toArray, List.map_cons, List.map_nil]); first | done | rfl) ?_
        with_reducible refine (l4_put w w6c w7 P g3 D3 D4 B5 B6 e3 e4 d5 d6 n _ _ ns[i] x HPP.out BWD.out.size G3L.out B67.out RR6.out.1 RR6.out.2 HN1.out X3.out X4.out HLE.out).mono ?_
        rintro e w8 ⟨E3, p3, E4, p4, rfl, hy3, hy4, hb⟩
        refine ⟨_, rfl, ?_⟩
        have B68 := Aside0.mk (below_step B67.out hb)
        have Y3 := Aside0.mk hy3
        have Y4 := Aside0.mk hy4
        clear hb hy3 hy4
        refine hK.out _ _ (HELD.out _ B68.out) (fun hHeld => ?_)
        clear hK K
        refine norm_ (a' := ?_) ?_ ?_
        rotate_left
        · show Act.put _ (some 30) _ = _
          simp only [Act.put, List.setIfInBounds_toArray, List.set_cons_zero, List.set_cons_succ, i64_w, i32_w]
          rfl
        refine last_ (i := 9) (N := none) #[true, true, true, true, true, true, true, true, true, true] rfl rfl (by kernel_rfl) (by decide) (fun K hK => ?_)
        have K8 := Aside0.mk (blk_below KG.out B68.out)
        have s0 : w8.cell? ⟨g3, 0, none⟩ = some (.int .i64 7) := (blk_cell K8.out 0).trans rfl
        have s1 : w8.cell? ⟨g3, 1, none⟩ = some (.int .i64 0) := (blk_cell K8.out 1).trans rfl
        have s2 : w8.cell? ⟨g3, 2, none⟩ = some (.string ⟨#[]⟩) := (blk_cell K8.out 2).trans rfl
        have s3 : w8.cell? ⟨g3, 3, none⟩ = some (.slice D3 n e3) := (blk_cell K8.out 3).trans rfl
        have s4 : w8.cell? ⟨g3, 4, none⟩ = some (.slice D4 n e4) := (blk_cell K8.out 4).trans rfl
        have f0 := blk_frozen K8.out 0
        have f1 := blk_frozen K8.out 1
        have f2 := blk_frozen K8.out 2
        have f3 := blk_frozen K8.out 3
        have f4 := blk_frozen K8.out 4
        refine skip_ (w1 := ?_) (by rfl) rfl ?_ ?_
        rotate_left
        · go_simp
          rfl
        refine hK.out _ _ ?_
        clear hK K hHeld s0 s1 s2 s3 s4 f0 f1 f2 f3 f4
        refine done_ (by kernel_rfl) ?_
        obtain ⟨w9, hw9⟩ : ∃ W, W = (((((w8.setCell ⟨g3, 0, none⟩ (.int .i64 7)).setCell ⟨g3, 1, none⟩ (.int .i64 0)).setCell ⟨g3, 2, none⟩ (.string ⟨#[]⟩)).setCell ⟨g3, 3, none⟩ (.slice E3 (n + 1) p3)).setCell ⟨g3, 4, none⟩ (.slice E4 (n + 1) p4)) := ⟨_, rfl⟩
        rw [← hw9]
        have L9 := Aside0.mk (show L4 w P 7 nu tx (.slice (some ad3) ns.length c3) (.slice (some ad) ks.length c4) g1 g2 g3 (cleanN (ks.take (i + 1)) ns) (cleanK (ks.take (i + 1))) w9 from by
          rw [HS.out.1, HS.out.2, hw9]
          have lo := LOW.out
          have l3 : (cleanN (ks.take i) ns ++ [ns[i]]).length = n + 1 := by simp [NN.out.1]
          have l4 : (cleanK (ks.take i) ++ [cleanT ks[i]]).length = n + 1 := by simp [NN.out.2]
          have l5 : toSL (cleanK (ks.take i) ++ [cleanT ks[i]]) = toSL (cleanK (ks.take i)) ++ [x] := by rw [XE.out, toSL_map, toSL_map]; simp
          have ne : ∀ k, ((P k ∨ g3 < k) ∧ k < w8.heap.size) → k ≠ g3 := fun k hk => by
            rcases hk.1 with h | h
            · have := HPP.out k h; omega
            · omega
          have sz : ((((((w8.setCell ⟨g3, 0, none⟩ (.int .i64 7)).setCell ⟨g3, 1, none⟩ (.int .i64 0)).setCell ⟨g3, 2, none⟩ (.string ⟨#[]⟩)).setCell ⟨g3, 3, none⟩ (.slice E3 (n + 1) p3)).setCell ⟨g3, 4, none⟩ (.slice E4 (n + 1) p4))).heap.size = w8.heap.size := by simp
          refine ⟨below_put5 (below_step BWD.out B68.out) (by omega), lo, ?_, ?_, ⟨E3, p3, E4, p4, ?_, ?_, ?_⟩⟩
          · exact blk_far (blk_far (blk_far (blk_far (blk_far (blk_below K1D.out B68.out) (by show g1 ≠ g3; omega) _) (by show g1 ≠ g3; omega) _) (by show g1 ≠ g3; omega) _) (by show g1 ≠ g3; omega) _) (by show g1 ≠ g3; omega) _
          · exact blk_far (blk_far (blk_far (blk_far (blk_far (blk_below K2D.out B68.out) (by show g2 ≠ g3; omega) _) (by show g2 ≠ g3; omega) _) (by show g2 ≠ g3; omega) _) (by show g2 ≠ g3; omega) _) (by show g2 ≠ g3; omega) _
          · rw [l3, l4]; exact put5 (blk_below KG.out B68.out)
          · rw [l3, sz]; exact V_put5 Y3.out ne
          · rw [l4, l5, sz]; exact V_put5 Y4.out ne)
        clear hw9
        go_wp2
        go_roundg m
        case rel => exact ⟨i + 1, by go_num, ⟨by have := HI.out; omega⟩, L9⟩
        case measure => omega
theorem l4_c : ∀ t, L4Call t := by
  intro t
  refine Tr.ind (P := L4Call) ?_ t
  intro kd nu tx ns ks ih
  by_cases h7 : kd = 7
  · subst h7; exact l4_map nu tx ns ks ih
  · exact l4_other kd nu tx ns ks h7
end Go.Proofs.YtdbfhbnlheankaaGreatDoor.VT
