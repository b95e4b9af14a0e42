import Derived.Test.YtemamcbdjfabnaaGreatDoorCVVPB
import Derived.Test.YtemamcbdjfabnaaGreatDoorCVVTI
import Derived.Test.YtemamcbdjfabnaaGreatDoorCVPVGx10
/- The reference's comparing of two trees, walked. Conditions: right trees. -/
namespace Go.Proofs.YtemamcbdjfabnaaGreatDoor.VT
open Go.RowKit Go.Proofs.YtemamcbdjfabnaaGreatDoor.PVG Go.Proofs.YtemamcbdjfabnaaGreatDoorW.PrintWords Go.Proofs.YtemamcbdjfabnaaGreatDoorW.PrintLast Go.Proofs.YtemamcbdjfabnaaGreatDoorW.PrintMore
set_option linter.unusedVariables false
set_option linter.unusedSimpArgs false
/-- A tree's fields that are read as the reference's own record. -/
structure SAt (w : World) (t : Tr) (A3 : Option Addr) (c3 : Nat) (A4 : Option Addr) (c4 : Nat) : Prop where
  l3 : t.ns.length ≤ c3
  g3 : Kd.string.C w A3 t.ns.length t.ns
  l4 : t.ks.length ≤ c4
  g4 : k71.C w A4 t.ks.length (toSL t.ks)
theorem SAt.below {w w' : World} {t : Tr} {A3 : Option Addr} {c3 : Nat} {A4 : Option Addr} {c4 : Nat} (h : SAt w t A3 c3 A4 c4) (hb : Below w.heap.size w w') : SAt w' t A3 c3 A4 c4 := ⟨h.l3, Kd.C_below h.g3 hb, h.l4, Kd.C_below h.g4 hb⟩
theorem SAt.name {w : World} {t : Tr} {A3 : Option Addr} {c3 : Nat} {A4 : Option Addr} {c4 : Nat} (h : SAt w t A3 c3 A4 c4) (i : Nat) (hi : i < t.ns.length) : ∃ ad, A3 = some ad ∧ w.cell? (ad.add i) = some (.string (t.ns[i])) := by
  obtain ⟨ad, c, e, _, hK, hc⟩ := Kd.C_get h.g3 nil_ (i : Int) (by omega) (by omega)
  have hK : c = [.string (t.ns.getD (i : Int).toNat nil_)] := hK
  rw [List.getD_eq_getElem?_getD, Int.toNat_natCast, List.getElem?_eq_getElem hi] at hK
  subst hK
  have h0 := hc 0 _ rfl
  have e1 : (i : Int).toNat * Kd.string.sz + 0 = i := by show (i : Int).toNat * 1 + 0 = i; omega
  rw [e1] at h0
  exact ⟨ad, e, h0⟩
theorem SAt.kid {w : World} {t : Tr} {A3 : Option Addr} {c3 : Nat} {A4 : Option Addr} {c4 : Nat} (h : SAt w t A3 c3 A4 c4) (i : Nat) (hi : i < t.ks.length) : ∃ ad B3 d3 B4 d4, A4 = some ad ∧
    w.cell? (ad.add (i * 5)) = some (.int .i64 t.ks[i].kd) ∧ w.cell? ⟨(ad.add (i * 5)).block, (ad.add (i * 5)).off + 1, none⟩ = some (.int .i64 t.ks[i].nu) ∧ w.cell? ⟨(ad.add (i * 5)).block, (ad.add (i * 5)).off + 2, none⟩ = some (.string t.ks[i].tx) ∧
    w.cell? ⟨(ad.add (i * 5)).block, (ad.add (i * 5)).off + 3, none⟩ = some (.slice B3 t.ks[i].ns.length d3) ∧ w.cell? ⟨(ad.add (i * 5)).block, (ad.add (i * 5)).off + 4, none⟩ = some (.slice B4 t.ks[i].ks.length d4) ∧ SAt w t.ks[i] B3 d3 B4 d4 := by
  obtain ⟨ad, B3, d3, B4, d4, e, q0, q1, q2, q3, q4, l3, g3, l4, g4⟩ := at_T71 h.g4 (i : Int) (by omega) (by omega)
  have hr : rd_T71 (toSL t.ks) (i : Int) = toS t.ks[i] := by
    unfold rd_T71
    rw [Int.toNat_natCast, toSL_map, List.getD_eq_getElem?_getD, List.getElem?_map, List.getElem?_eq_getElem hi]
    rfl
  rw [hr, toS_eq] at q0 q1 q2 q3 q4 l3 g3 l4 g4
  simp only [Int.toNat_natCast, toSL_len] at q0 q1 q2 q3 q4 l3 g3 l4 g4
  exact ⟨ad, B3, d3, B4, d4, e, q0, q1, q2, q3, q4, l3, g3, l4, g4⟩
/-- What is known of a right tree's first node. -/
structure Wf1 (kd nu : Int) (tx : ByteArray) (ns : List ByteArray) (ks : List Tr) : Prop where
  nu0 : kd ≠ 4 → nu = 0
  tx0 : kd ≠ 5 → tx = nil_
  hlen : kd = 7 → ns.length = ks.length
  ks0 : kd ≠ 6 → kd ≠ 7 → ks = []
  hks : wfL ks = true
theorem wf1 {kd nu : Int} {tx : ByteArray} {ns : List ByteArray} {ks : List Tr} (h : wf (.mk kd nu tx ns ks) = true) : Wf1 kd nu tx ns ks := by
  rw [wf] at h
  simp only [Bool.and_eq_true, nodeG, Bool.or_eq_true, beq_iff_eq] at h
  refine ⟨fun h4 => by rcases h.1.1.1.1.1.1.2 with e | e; exact absurd e h4; exact e, fun h5 => by rcases h.1.1.1.1.2 with e | e; exact absurd e h5; exact emp_iff.1 e, fun h7 => ?_, fun h6 h7 => ?_, h.2⟩
  · have h8 := h.1.1.2
    rw [if_pos h7] at h8
    simp at h8
    exact h8.1.1
  · rcases h.1.2 with e | e
    · simp [holdsB, h6, h7] at e
    · simpa using e
theorem ci_self (a : Int) : ci a a = 0 := by unfold ci; rw [if_neg (by omega), if_neg (by omega)]
theorem cs_self (a : ByteArray) : cs a a = 0 := by
  have h := bytesLess_tri a.toList a.toList
  have h2 : Op.bytesLess a.toList a.toList = false := by
    cases e : Op.bytesLess a.toList a.toList with
    | false => rfl
    | true => rw [e] at h; simp at h
  unfold cs
  rw [h2]; rfl
theorem cs_nil : cs nil_ nil_ = 0 := cs_self nil_
theorem cmp4 {nu nu2 : Int} {tx tx2 : ByteArray} {ns ms : List ByteArray} {ks us : List Tr} (h : Wf1 4 nu tx ns ks) (k : Wf1 4 nu2 tx2 ms us) : cmpT (.mk 4 nu tx ns ks) (.mk 4 nu2 tx2 ms us) = ci nu nu2 := by
  rw [cmpT_mk rfl, h.tx0 (by decide), k.tx0 (by decide), h.ks0 (by decide) (by decide), k.ks0 (by decide) (by decide), ci_self, cs_nil]
  simp only [orL, if_true, cmpL, List.length_nil]
  by_cases h0 : ci nu nu2 = 0
  · rw [if_pos h0, h0]; rfl
  · rw [if_neg h0, if_neg h0]
theorem cmp5 {nu nu2 : Int} {tx tx2 : ByteArray} {ns ms : List ByteArray} {ks us : List Tr} (h : Wf1 5 nu tx ns ks) (k : Wf1 5 nu2 tx2 ms us) : cmpT (.mk 5 nu tx ns ks) (.mk 5 nu2 tx2 ms us) = cs tx tx2 := by
  rw [cmpT_mk rfl, h.nu0 (by decide), k.nu0 (by decide), h.ks0 (by decide) (by decide), k.ks0 (by decide) (by decide), ci_self, ci_self]
  simp only [orL, if_true, cmpL, List.length_nil]
  by_cases h0 : cs tx tx2 = 0
  · rw [if_pos h0, h0]; rfl
  · rw [if_neg h0, if_neg h0]
theorem cmpO {kd nu nu2 : Int} {tx tx2 : ByteArray} {ns ms : List ByteArray} {ks us : List Tr} (h4 : kd ≠ 4) (h5 : kd ≠ 5) (h : Wf1 kd nu tx ns ks) (k : Wf1 kd nu2 tx2 ms us) : cmpT (.mk kd nu tx ns ks) (.mk kd nu2 tx2 ms us) = cmpL ks (kd == 7) ns ms us := by
  rw [cmpT_mk rfl, h.nu0 h4, k.nu0 h4, h.tx0 h5, k.tx0 h5, ci_self, ci_self, cs_nil]
  simp only [orL, if_true]
theorem ints_c (a b : Int) (w : World) : Calls Tryz.prog 83 #[.int .i64 a, .int .i64 b] w fun e w' => e = .returned (.int .i64 (ci a b)) ∧ Below w.heap.size w w' := by
  refine (spec_l2Ints.calls a b (ci a b) w ?_).mono fun e w' h => ⟨h.1, h.2.below⟩
  unfold spec_l2Ints.f ci
  by_cases h1 : a < b
  · rw [if_pos h1, if_pos h1]
  · rw [if_neg h1, if_neg h1]
    by_cases h2 : b < a
    · rw [if_pos h2, if_pos h2]
    · rw [if_neg h2, if_neg h2]
theorem texts_c (a b : ByteArray) (w : World) : Calls Tryz.prog 84 #[.string a, .string b] w fun e w' => e = .returned (.int .i64 (cs a b)) ∧ Below w.heap.size w w' :=
  (spec_l2Texts.calls a b (cs a b) w rfl).mono fun e w' h => ⟨h.1, h.2.below⟩
def LcCall (t : Tr) : Prop := ∀ (u : Tr) (w : World) (A3 : Option Addr) (c3 : Nat) (A4 : Option Addr) (c4 : Nat) (B3 : Option Addr) (d3 : Nat) (B4 : Option Addr) (d4 : Nat), SAt w t A3 c3 A4 c4 → SAt w u B3 d3 B4 d4 → wf t = true → wf u = true → cnt t ≤ 80 → cnt u ≤ 80 →
  Calls Tryz.prog 63 #[.agg #[.int .i64 t.kd, .int .i64 t.nu, .string t.tx, .slice A3 t.ns.length c3, .slice A4 t.ks.length c4], .agg #[.int .i64 u.kd, .int .i64 u.nu, .string u.tx, .slice B3 u.ns.length d3, .slice B4 u.ks.length d4]] w fun e w' => e = .returned (.int .i64 (cmpT t u)) ∧ Below w.heap.size w w'
set_option maxRecDepth 100000 in
set_option maxHeartbeats 16000000 in
theorem lc_c (t : Tr) : LcCall t := by
  refine Tr.ind (P := LcCall) ?_ t
  intro kd nu tx ns ks ih u w A3 c3 A4 c4 B3 d3 B4 d4 ha hb hw hw2 hn hn2
  obtain ⟨kd2, nu2, tx2, ms, us⟩ := u
  simp only [Tr.kd, Tr.nu, Tr.tx, Tr.ns, Tr.ks]
  have HA := Aside0.mk ha
  have HB := Aside0.mk hb
  have WF := Aside0.mk (wf1 hw)
  have WF2 := Aside0.mk (wf1 hw2)
  have IH := Aside0.mk ih
  have HN := Aside0.mk (show 1 + cntL ks ≤ 80 by simp only [cnt] at hn; exact hn)
  have HN2 := Aside0.mk (show 1 + cntL us ≤ 80 by simp only [cnt] at hn2; exact hn2)
  have B2 := Aside0.mk (below_alloc (below_alloc (Below.refl w.heap.size w) (.cells #[.int .i64 kd, .int .i64 nu, .string tx, .slice A3 ns.length c3, .slice A4 ks.length c4] 71)) (.cells #[.int .i64 kd2, .int .i64 nu2, .string tx2, .slice B3 ms.length d3, .slice B4 us.length d4] 71))
  have KA := Aside0.mk (blk_below (blk_new w (.cells #[.int .i64 kd, .int .i64 nu, .string tx, .slice A3 ns.length c3, .slice A4 ks.length c4] 71)) (below_alloc (Below.refl _ _) (.cells #[.int .i64 kd2, .int .i64 nu2, .string tx2, .slice B3 ms.length d3, .slice B4 us.length d4] 71)))
  have KB := Aside0.mk (blk_new (w.alloc (.cells #[.int .i64 kd, .int .i64 nu, .string tx, .slice A3 ns.length c3, .slice A4 ks.length c4] 71)) (.cells #[.int .i64 kd2, .int .i64 nu2, .string tx2, .slice B3 ms.length d3, .slice B4 us.length d4] 71))
  clear ha hb hw hw2 hn hn2 ih
  go_enter Tryz.func63, Tryz.ntmps63
  go_upto_region 1 with fail
  obtain ⟨W2, hW2⟩ : ∃ W2, W2 = (w.alloc (.cells #[.int .i64 kd, .int .i64 nu, .string tx, .slice A3 ns.length c3, .slice A4 ks.length c4] 71)).alloc (.cells #[.int .i64 kd2, .int .i64 nu2, .string tx2, .slice B3 ms.length d3, .slice B4 us.length d4] 71) := ⟨_, rfl⟩
  obtain ⟨g, hg⟩ : ∃ g, g = w.heap.size := ⟨_, rfl⟩
  obtain ⟨h, hh⟩ : ∃ g, g = w.heap.size + 1 := ⟨_, rfl⟩
  have BX := B2.out
  have KAX := KA.out
  have KBX := KB.out
  clear B2 KA KB
  rw [← hW2] at BX KAX KBX
  have B2 := Aside0.mk BX
  have KB := Aside0.mk (show W2.heap[h]? = some (.cells #[.int .i64 kd2, .int .i64 nu2, .string tx2, .slice B3 ms.length d3, .slice B4 us.length d4] 71 (0, 0)) by rw [hh]; rw [show (w.alloc (.cells #[.int .i64 kd, .int .i64 nu, .string tx, .slice A3 ns.length c3, .slice A4 ks.length c4] 71)).heap.size = w.heap.size + 1 by simp] at KBX; exact KBX)
  have KA := Aside0.mk (show W2.heap[g]? = some (.cells #[.int .i64 kd, .int .i64 nu, .string tx, .slice A3 ns.length c3, .slice A4 ks.length c4] 71 (0, 0)) by rw [hg]; exact KAX)
  rw [← hW2, ← hh]
  simp only [show w.heap.size = g from hg.symm]
  clear BX KAX KBX hh hg hW2
  have C := Aside0.mk (show ∀ W, Below W2.heap.size W2 W → (W.cell? ⟨g, 0, none⟩ = some (.int .i64 kd) ∧ W.cell? ⟨g, 1, none⟩ = some (.int .i64 nu) ∧ W.cell? ⟨g, 2, none⟩ = some (.string tx) ∧ W.cell? ⟨g, 3, none⟩ = some (.slice A3 ns.length c3) ∧ W.cell? ⟨g, 4, none⟩ = some (.slice A4 ks.length c4)) ∧ (W.cell? ⟨h, 0, none⟩ = some (.int .i64 kd2) ∧ W.cell? ⟨h, 1, none⟩ = some (.int .i64 nu2) ∧ W.cell? ⟨h, 2, none⟩ = some (.string tx2) ∧ W.cell? ⟨h, 3, none⟩ = some (.slice B3 ms.length d3) ∧ W.cell? ⟨h, 4, none⟩ = some (.slice B4 us.length d4)) from fun W hb =>
    ⟨⟨(blk_cell (blk_below KA.out hb) 0).trans rfl, (blk_cell (blk_below KA.out hb) 1).trans rfl, (blk_cell (blk_below KA.out hb) 2).trans rfl, (blk_cell (blk_below KA.out hb) 3).trans rfl, (blk_cell (blk_below KA.out hb) 4).trans rfl⟩, ⟨(blk_cell (blk_below KB.out hb) 0).trans rfl, (blk_cell (blk_below KB.out hb) 1).trans rfl, (blk_cell (blk_below KB.out hb) 2).trans rfl, (blk_cell (blk_below KB.out hb) 3).trans rfl, (blk_cell (blk_below KB.out hb) 4).trans rfl⟩⟩)
  clear KA KB
  obtain ⟨⟨p0, p1, p2, p3, p4⟩, r0, r1, r2, r3, r4⟩ := C.out W2 (Below.refl _ _)
  obtain ⟨o, ho⟩ : ∃ o, ci kd kd2 = o := ⟨_, rfl⟩
  have HO := Aside0.mk ho
  go_upto_region 2 with (first | (go_at_call 83; (with_reducible refine (ints_c _ _ _).mono ?_); rintro e w3 ⟨rfl, hb⟩; rw [HO.out]; have U3 := Aside0.mk hb; clear hb))
  clear p0 p1 p2 p3 p4 r0 r1 r2 r3 r4
  obtain ⟨⟨p0, p1, p2, p3, p4⟩, r0, r1, r2, r3, r4⟩ := C.out _ U3.out
  by_cases h0 : o = 0
  · have hk2 : kd2 = kd := by
      rw [h0] at ho
      unfold ci at ho
      by_cases h1 : kd < kd2
      · rw [if_pos h1] at ho; omega
      · rw [if_neg h1] at ho
        by_cases h2 : kd2 < kd
        · rw [if_pos h2] at ho; omega
        · omega
    subst hk2
    subst h0
    clear ho HO
    by_cases h4 : kd2 = 4
    · subst h4
      have CT := Aside0.mk (cmp4 WF.out WF2.out)
      go_wp2_with (first | (go_at_call 83; (with_reducible refine (ints_c _ _ _).mono ?_); rintro e w4 ⟨rfl, hb⟩; have U4 := Aside0.mk (below_step B2.out (U3.out.trans (below_B hb U3.out.size))); clear hb))
      go_ret
      exact ⟨by rw [CT.out]; rfl, U4.out⟩
    · by_cases h5 : kd2 = 5
      · subst h5
        have CT := Aside0.mk (cmp5 WF.out WF2.out)
        clear h4
        go_wp2_with (first | (go_at_call 84; (with_reducible refine (texts_c _ _ _).mono ?_); rintro e w4 ⟨rfl, hb⟩; have U4 := Aside0.mk (below_step B2.out (U3.out.trans (below_B hb U3.out.size))); clear hb))
        go_ret
        exact ⟨by rw [CT.out]; rfl, U4.out⟩
      · have CT := Aside0.mk (cmpO (ns := ns) (ms := ms) h4 h5 WF.out WF2.out)
        have b4 : (kd2 == 4) = false := by simpa using h4
        have b5 : (kd2 == 5) = false := by simpa using h5
        clear h4 h5
        go_wp2_with fail
        clear p0 p1 p2 p3 p4 r0 r1 r2 r3 r4
        go_loopg [36] ks.length (fun m v36 W => ∃ i : Nat, v36 = .int .i64 (i : Int) ∧ Aside0 (i + m = ks.length) ∧ Aside0 (i ≤ us.length) ∧ Aside0 (cmpL ks (kd2 == 7) ns ms us = cmpL (ks.drop i) (kd2 == 7) (ns.drop i) (ms.drop i) (us.drop i)) ∧ Aside0 (Below W2.heap.size W2 W))
        case atStart => exact ⟨0, rfl, ⟨by omega⟩, ⟨by omega⟩, ⟨rfl⟩, U3⟩
        case round =>
          clear U3
          obtain ⟨i, rfl, HI, HLE, HD, Ui⟩ := hrel
          obtain ⟨⟨p0, p1, p2, p3, p4⟩, r0, r1, r2, r3, r4⟩ := C.out _ Ui.out
          cases gk with
          | zero =>
            have hlt : decide (i < ks.length) = false := decide_eq_false (by have := HI.out; omega)
            have HE := Aside0.mk (show cmpL ks (kd2 == 7) ns ms us = ci ks.length us.length by rw [HD.out]; exact cmpL_end (by have := HI.out; have := HLE.out; omega))
            go_wp2_with (first | (go_at_call 83; (with_reducible refine (ints_c _ _ _).mono ?_); rintro e w4 ⟨rfl, hb⟩; have U4 := Aside0.mk (below_tr Ui.out (below_B hb Ui.out.size)); clear hb))
            go_ret
            exact ⟨by rw [CT.out, HE.out]; rfl, below_step B2.out U4.out⟩
          | succ m =>
            have hi : i < ks.length := by have := HI.out; omega
            have hlt : decide (i < ks.length) = true := decide_eq_true hi
            by_cases he : i = us.length
            · have heb : ((i : Int) == (us.length : Int)) = true := by simp; omega
              have HE := Aside0.mk (show cmpL ks (kd2 == 7) ns ms us = 1 by rw [HD.out, cmpL_end (by omega)]; unfold ci; rw [if_neg (by omega), if_pos (by omega)])
              clear he
              go_wp2_with fail
              go_ret
              exact ⟨by rw [CT.out, HE.out]; rfl, below_step B2.out Ui.out⟩
            · have heb : ((i : Int) == (us.length : Int)) = false := by simp; omega
              have hi2 : i < us.length := by have := HLE.out; omega
              have b9 : (i : Int) ≤ 80 := by have := HN.out; have := cnt_ge_len ks; omega
              clear he
              obtain ⟨ad, E3, e3, E4, e4, rfl, k0, k1, k2, k3, k4, ka⟩ := HA.out.kid i hi
              obtain ⟨bd, F3, f3, F4, f4, rfl, l0, l1, l2, l3, l4, kb⟩ := HB.out.kid i hi2
              simp only [Tr.ks] at k0 k1 k2 k3 k4 ka l0 l1 l2 l3 l4 kb
              have HFk := Aside0.mk ((wfL_iff ks).1 WF.out.hks _ (List.getElem_mem hi))
              have HFu := Aside0.mk ((wfL_iff us).1 WF2.out.hks _ (List.getElem_mem hi2))
              have HIm := Aside0.mk (IH.out _ (List.getElem_mem hi))
              have HCk := Aside0.mk (show cnt ks[i] ≤ 80 by have := cntL_take ks i hi; have := cntL_take_le ks (i + 1); have := HN.out; omega)
              have HCu := Aside0.mk (show cnt us[i] ≤ 80 by have := cntL_take us i hi2; have := cntL_take_le us (i + 1); have := HN2.out; omega)
              have CD := Aside0.mk (HD.out.trans (cmpL_drop (m := kd2 == 7) (ns := ns) (ms := ms) hi hi2))
              have hk1 : ((i : Int) < (ks.length : Int)) := by omega
              have hk2 : ((i : Int) < (us.length : Int)) := by omega
              obtain ⟨kid, hkid⟩ : ∃ k, k = ks[i] := ⟨_, rfl⟩
              obtain ⟨kid2, hkid2⟩ : ∃ k, k = us[i] := ⟨_, rfl⟩
              rw [← hkid] at HFk HIm HCk CD k0 k1 k2 k3 k4 ka
              rw [← hkid2] at HFu HCu CD l0 l1 l2 l3 l4 kb
              have SA := Aside0.mk ka
              have SB := Aside0.mk kb
              have q : ∀ {a : Addr} {v : Value}, w.cell? a = some v → ∀ W, Below W2.heap.size W2 W → W.cell? a = some v := fun {a v} e W hw => ((below_step B2.out hw).cell (World.block_lt_of_cell? w _ e)).trans e
              have PK := Aside0.mk (show ∀ W, Below W2.heap.size W2 W → W.cell? (ad.add (i * 5)) = some (.int .i64 kid.kd) ∧ W.cell? ⟨(ad.add (i * 5)).block, (ad.add (i * 5)).off + 1, none⟩ = some (.int .i64 kid.nu) ∧ W.cell? ⟨(ad.add (i * 5)).block, (ad.add (i * 5)).off + 2, none⟩ = some (.string kid.tx) ∧ W.cell? ⟨(ad.add (i * 5)).block, (ad.add (i * 5)).off + 3, none⟩ = some (.slice E3 kid.ns.length e3) ∧ W.cell? ⟨(ad.add (i * 5)).block, (ad.add (i * 5)).off + 4, none⟩ = some (.slice E4 kid.ks.length e4) from fun W hw => ⟨q k0 W hw, q k1 W hw, q k2 W hw, q k3 W hw, q k4 W hw⟩)
              have RK := Aside0.mk (show ∀ W, Below W2.heap.size W2 W → W.cell? (bd.add (i * 5)) = some (.int .i64 kid2.kd) ∧ W.cell? ⟨(bd.add (i * 5)).block, (bd.add (i * 5)).off + 1, none⟩ = some (.int .i64 kid2.nu) ∧ W.cell? ⟨(bd.add (i * 5)).block, (bd.add (i * 5)).off + 2, none⟩ = some (.string kid2.tx) ∧ W.cell? ⟨(bd.add (i * 5)).block, (bd.add (i * 5)).off + 3, none⟩ = some (.slice F3 kid2.ns.length f3) ∧ W.cell? ⟨(bd.add (i * 5)).block, (bd.add (i * 5)).off + 4, none⟩ = some (.slice F4 kid2.ks.length f4) from fun W hw => ⟨q l0 W hw, q l1 W hw, q l2 W hw, q l3 W hw, q l4 W hw⟩)
              clear hkid hkid2 k0 k1 k2 k3 k4 ka l0 l1 l2 l3 l4 kb HD q
              by_cases h7 : kd2 = 7
              · have b7 : (kd2 == 7) = true := by simpa using h7
                have hni : i < ns.length := by have := WF.out.hlen h7; omega
                have hmi : i < ms.length := by have := WF2.out.hlen h7; omega
                clear h7
                obtain ⟨ad3, g3, kn⟩ := HA.out.name i hni
                obtain ⟨bd3, g4, ln⟩ := HB.out.name i hmi
                simp only [Tr.ns] at kn ln
                subst g3 g4
                have HQ1 : (ns.drop i).headD nil_ = ns[i] := by rw [List.drop_eq_getElem_cons hni]; rfl
                have HQ2 : (ms.drop i).headD nil_ = ms[i] := by rw [List.drop_eq_getElem_cons hmi]; rfl
                rw [HQ1, HQ2] at CD
                have NK := Aside0.mk (show ∀ W, Below W2.heap.size W2 W → W.cell? (ad3.add i) = some (.string ns[i]) ∧ W.cell? (bd3.add i) = some (.string ms[i]) from fun W hw => ⟨((below_step B2.out hw).cell (World.block_lt_of_cell? w _ kn)).trans kn, ((below_step B2.out hw).cell (World.block_lt_of_cell? w _ ln)).trans ln⟩)
                obtain ⟨na, hna⟩ : ∃ s, s = ns[i] := ⟨_, rfl⟩
                obtain ⟨nb, hnb⟩ : ∃ s, s = ms[i] := ⟨_, rfl⟩
                rw [← hna, ← hnb] at CD NK
                clear hna hnb kn ln HQ1 HQ2
                obtain ⟨pn, rn⟩ := NK.out _ Ui.out
                obtain ⟨x, hx⟩ : ∃ x, cs na nb = x := ⟨_, rfl⟩
                have HX := Aside0.mk hx
                rw [hx] at CD
                clear hx
                go_upto_region 15 with fail
                go_region_held3 (fun w' => w'.cell? ⟨g, 3, none⟩ = some (.slice (some ad3) ns.length c3) ∧ w'.cell? ⟨h, 3, none⟩ = some (.slice (some bd3) ms.length d3) ∧ w'.cell? (ad3.add i) = some (.string na) ∧ w'.cell? (bd3.add i) = some (.string nb)) (go_keep) (first | (go_at_call 84; (with_reducible refine (texts_c _ _ _).mono ?_); rintro e w5 ⟨rfl, hb⟩; rw [HX.out]; have U5 := Aside0.mk (below_tr (below_drew1 Ui.out) (below_B hb (below_drew1 Ui.out).size)); clear hb; have zz := C.out _ U5.out; have z0 := zz.1.2.2.2.1; have z1 := zz.2.2.2.2.1; clear zz; obtain ⟨z2, z3⟩ := NK.out _ U5.out))
                all_goals
                  clear p0 p1 p2 p3 p4 r0 r1 r2 r3 r4 pn rn z0 z1 z2 z3
                  obtain ⟨⟨p0, p1, p2, p3, p4⟩, r0, r1, r2, r3, r4⟩ := C.out _ U5.out
                  by_cases hx0 : x = 0
                  · have hxb : (x != 0) = false := by simpa using hx0
                    have CE := Aside0.mk (show cmpL ks (kd2 == 7) ns ms us = if cmpT kid kid2 = 0 then cmpL (ks.drop (i + 1)) (kd2 == 7) (ns.drop (i + 1)) (ms.drop (i + 1)) (us.drop (i + 1)) else cmpT kid kid2 by rw [CD.out, if_neg (fun hh => hh.2 hx0)])
                    clear CD HX hx0
                    obtain ⟨y, hy⟩ : ∃ y, cmpT kid kid2 = y := ⟨_, rfl⟩
                    have HY := Aside0.mk hy
                    have YC := Aside0.mk (show ∀ W, Below W2.heap.size W2 W → Calls Tryz.prog 63 #[.agg #[.int .i64 kid.kd, .int .i64 kid.nu, .string kid.tx, .slice E3 kid.ns.length e3, .slice E4 kid.ks.length e4], .agg #[.int .i64 kid2.kd, .int .i64 kid2.nu, .string kid2.tx, .slice F3 kid2.ns.length f3, .slice F4 kid2.ks.length f4]] W fun e w' => e = .returned (.int .i64 y) ∧ Below W.heap.size W w' from fun W hw => by rw [← hy]; exact HIm.out kid2 W E3 e3 E4 e4 F3 f3 F4 f4 (SA.out.below (below_step B2.out hw)) (SB.out.below (below_step B2.out hw)) HFk.out HFu.out HCk.out HCu.out)
                    clear hy
                    obtain ⟨q0, q1, q2, q3, q4⟩ := PK.out _ U5.out
                    obtain ⟨s0, s1, s2, s3, s4⟩ := RK.out _ U5.out
                    by_cases hy0 : y = 0
                    · have hyb : (y != 0) = false := by simpa using hy0
                      have HX2 := Aside0.mk (show cmpL ks (kd2 == 7) ns ms us = cmpL (ks.drop (i + 1)) (kd2 == 7) (ns.drop (i + 1)) (ms.drop (i + 1)) (us.drop (i + 1)) by rw [CE.out, HY.out, if_pos hy0])
                      clear hy0
                      go_upto_region 18 with fail
                      go_region_held3 (fun w' => w'.cell? ⟨g, 4, none⟩ = some (.slice (some ad) ks.length c4) ∧ w'.cell? ⟨h, 4, none⟩ = some (.slice (some bd) us.length d4) ∧ w'.cell? (ad.add (i * 5)) = some (.int .i64 kid.kd) ∧ w'.cell? ⟨(ad.add (i * 5)).block, (ad.add (i * 5)).off + 1, none⟩ = some (.int .i64 kid.nu) ∧ w'.cell? ⟨(ad.add (i * 5)).block, (ad.add (i * 5)).off + 2, none⟩ = some (.string kid.tx) ∧ w'.cell? ⟨(ad.add (i * 5)).block, (ad.add (i * 5)).off + 3, none⟩ = some (.slice E3 kid.ns.length e3) ∧ w'.cell? ⟨(ad.add (i * 5)).block, (ad.add (i * 5)).off + 4, none⟩ = some (.slice E4 kid.ks.length e4) ∧ w'.cell? (bd.add (i * 5)) = some (.int .i64 kid2.kd) ∧ w'.cell? ⟨(bd.add (i * 5)).block, (bd.add (i * 5)).off + 1, none⟩ = some (.int .i64 kid2.nu) ∧ w'.cell? ⟨(bd.add (i * 5)).block, (bd.add (i * 5)).off + 2, none⟩ = some (.string kid2.tx) ∧ w'.cell? ⟨(bd.add (i * 5)).block, (bd.add (i * 5)).off + 3, none⟩ = some (.slice F3 kid2.ns.length f3) ∧ w'.cell? ⟨(bd.add (i * 5)).block, (bd.add (i * 5)).off + 4, none⟩ = some (.slice F4 kid2.ks.length f4)) (go_keep) (first | (go_at_call 63; (with_reducible refine (YC.out _ (below_drew1 U5.out)).mono ?_); rintro e wy ⟨rfl, hb⟩; have BY := Aside0.mk (below_tr (below_drew1 U5.out) (below_B hb (below_drew1 U5.out).size)); clear hb; have zz := C.out _ BY.out; have z0 := zz.1.2.2.2.2; have z1 := zz.2.2.2.2.2; clear zz; obtain ⟨x0, x1, x2, x3, x4⟩ := PK.out _ BY.out; obtain ⟨v0, v1, v2, v3, v4⟩ := RK.out _ BY.out))
                      all_goals
                        go_wp2_with fail
                        go_roundg m
                        case rel => exact ⟨i + 1, by go_num, ⟨by have := HI.out; omega⟩, ⟨by have := HLE.out; omega⟩, HX2, BY⟩
                        case measure => omega
                    · have hyb : (y != 0) = true := by simpa using hy0
                      have HX2 := Aside0.mk (show cmpL ks (kd2 == 7) ns ms us = y by rw [CE.out, HY.out, if_neg hy0])
                      clear hy0
                      go_upto_region 18 with fail
                      go_region_held3 (fun w' => w'.cell? ⟨g, 4, none⟩ = some (.slice (some ad) ks.length c4) ∧ w'.cell? ⟨h, 4, none⟩ = some (.slice (some bd) us.length d4) ∧ w'.cell? (ad.add (i * 5)) = some (.int .i64 kid.kd) ∧ w'.cell? ⟨(ad.add (i * 5)).block, (ad.add (i * 5)).off + 1, none⟩ = some (.int .i64 kid.nu) ∧ w'.cell? ⟨(ad.add (i * 5)).block, (ad.add (i * 5)).off + 2, none⟩ = some (.string kid.tx) ∧ w'.cell? ⟨(ad.add (i * 5)).block, (ad.add (i * 5)).off + 3, none⟩ = some (.slice E3 kid.ns.length e3) ∧ w'.cell? ⟨(ad.add (i * 5)).block, (ad.add (i * 5)).off + 4, none⟩ = some (.slice E4 kid.ks.length e4) ∧ w'.cell? (bd.add (i * 5)) = some (.int .i64 kid2.kd) ∧ w'.cell? ⟨(bd.add (i * 5)).block, (bd.add (i * 5)).off + 1, none⟩ = some (.int .i64 kid2.nu) ∧ w'.cell? ⟨(bd.add (i * 5)).block, (bd.add (i * 5)).off + 2, none⟩ = some (.string kid2.tx) ∧ w'.cell? ⟨(bd.add (i * 5)).block, (bd.add (i * 5)).off + 3, none⟩ = some (.slice F3 kid2.ns.length f3) ∧ w'.cell? ⟨(bd.add (i * 5)).block, (bd.add (i * 5)).off + 4, none⟩ = some (.slice F4 kid2.ks.length f4)) (go_keep) (first | (go_at_call 63; (with_reducible refine (YC.out _ (below_drew1 U5.out)).mono ?_); rintro e wy ⟨rfl, hb⟩; have BY := Aside0.mk (below_tr (below_drew1 U5.out) (below_B hb (below_drew1 U5.out).size)); clear hb; have zz := C.out _ BY.out; have z0 := zz.1.2.2.2.2; have z1 := zz.2.2.2.2.2; clear zz; obtain ⟨x0, x1, x2, x3, x4⟩ := PK.out _ BY.out; obtain ⟨v0, v1, v2, v3, v4⟩ := RK.out _ BY.out))
                      all_goals
                        go_wp2_with fail
                        go_ret
                        exact ⟨by rw [CT.out, HX2.out]; rfl, below_step B2.out BY.out⟩
                  · have hxb : (x != 0) = true := by simpa using hx0
                    have CE := Aside0.mk (show cmpL ks (kd2 == 7) ns ms us = x by rw [CD.out, if_pos ⟨b7, hx0⟩])
                    clear CD HX hx0
                    go_wp2_with fail
                    go_ret
                    exact ⟨by rw [CT.out, CE.out]; rfl, below_step B2.out U5.out⟩
              · have b7 : (kd2 == 7) = false := by simpa using h7
                have CE := Aside0.mk (show cmpL ks (kd2 == 7) ns ms us = if cmpT kid kid2 = 0 then cmpL (ks.drop (i + 1)) (kd2 == 7) (ns.drop (i + 1)) (ms.drop (i + 1)) (us.drop (i + 1)) else cmpT kid kid2 by rw [CD.out, if_neg (fun hh => by rw [b7] at hh; cases hh.1)])
                clear CD h7
                obtain ⟨y, hy⟩ : ∃ y, cmpT kid kid2 = y := ⟨_, rfl⟩
                have HY := Aside0.mk hy
                have YC := Aside0.mk (show ∀ W, Below W2.heap.size W2 W → Calls Tryz.prog 63 #[.agg #[.int .i64 kid.kd, .int .i64 kid.nu, .string kid.tx, .slice E3 kid.ns.length e3, .slice E4 kid.ks.length e4], .agg #[.int .i64 kid2.kd, .int .i64 kid2.nu, .string kid2.tx, .slice F3 kid2.ns.length f3, .slice F4 kid2.ks.length f4]] W fun e w' => e = .returned (.int .i64 y) ∧ Below W.heap.size W w' from fun W hw => by rw [← hy]; exact HIm.out kid2 W E3 e3 E4 e4 F3 f3 F4 f4 (SA.out.below (below_step B2.out hw)) (SB.out.below (below_step B2.out hw)) HFk.out HFu.out HCk.out HCu.out)
                clear hy
                obtain ⟨q0, q1, q2, q3, q4⟩ := PK.out _ Ui.out
                obtain ⟨s0, s1, s2, s3, s4⟩ := RK.out _ Ui.out
                by_cases hy0 : y = 0
                · have hyb : (y != 0) = false := by simpa using hy0
                  have HX2 := Aside0.mk (show cmpL ks (kd2 == 7) ns ms us = cmpL (ks.drop (i + 1)) (kd2 == 7) (ns.drop (i + 1)) (ms.drop (i + 1)) (us.drop (i + 1)) by rw [CE.out, HY.out, if_pos hy0])
                  clear hy0
                  go_upto_region 18 with fail
                  go_region_held3 (fun w' => w'.cell? ⟨g, 4, none⟩ = some (.slice (some ad) ks.length c4) ∧ w'.cell? ⟨h, 4, none⟩ = some (.slice (some bd) us.length d4) ∧ w'.cell? (ad.add (i * 5)) = some (.int .i64 kid.kd) ∧ w'.cell? ⟨(ad.add (i * 5)).block, (ad.add (i * 5)).off + 1, none⟩ = some (.int .i64 kid.nu) ∧ w'.cell? ⟨(ad.add (i * 5)).block, (ad.add (i * 5)).off + 2, none⟩ = some (.string kid.tx) ∧ w'.cell? ⟨(ad.add (i * 5)).block, (ad.add (i * 5)).off + 3, none⟩ = some (.slice E3 kid.ns.length e3) ∧ w'.cell? ⟨(ad.add (i * 5)).block, (ad.add (i * 5)).off + 4, none⟩ = some (.slice E4 kid.ks.length e4) ∧ w'.cell? (bd.add (i * 5)) = some (.int .i64 kid2.kd) ∧ w'.cell? ⟨(bd.add (i * 5)).block, (bd.add (i * 5)).off + 1, none⟩ = some (.int .i64 kid2.nu) ∧ w'.cell? ⟨(bd.add (i * 5)).block, (bd.add (i * 5)).off + 2, none⟩ = some (.string kid2.tx) ∧ w'.cell? ⟨(bd.add (i * 5)).block, (bd.add (i * 5)).off + 3, none⟩ = some (.slice F3 kid2.ns.length f3) ∧ w'.cell? ⟨(bd.add (i * 5)).block, (bd.add (i * 5)).off + 4, none⟩ = some (.slice F4 kid2.ks.length f4)) (go_keep) (first | (go_at_call 63; (with_reducible refine (YC.out _ (below_drew1 Ui.out)).mono ?_); rintro e wy ⟨rfl, hb⟩; have BY := Aside0.mk (below_tr (below_drew1 Ui.out) (below_B hb (below_drew1 Ui.out).size)); clear hb; have zz := C.out _ BY.out; have z0 := zz.1.2.2.2.2; have z1 := zz.2.2.2.2.2; clear zz; obtain ⟨x0, x1, x2, x3, x4⟩ := PK.out _ BY.out; obtain ⟨v0, v1, v2, v3, v4⟩ := RK.out _ BY.out))
                  all_goals
                    go_wp2_with fail
                    go_roundg m
                    case rel => exact ⟨i + 1, by go_num, ⟨by have := HI.out; omega⟩, ⟨by have := HLE.out; omega⟩, HX2, BY⟩
                    case measure => omega
                · have hyb : (y != 0) = true := by simpa using hy0
                  have HX2 := Aside0.mk (show cmpL ks (kd2 == 7) ns ms us = y by rw [CE.out, HY.out, if_neg hy0])
                  clear hy0
                  go_upto_region 18 with fail
                  go_region_held3 (fun w' => w'.cell? ⟨g, 4, none⟩ = some (.slice (some ad) ks.length c4) ∧ w'.cell? ⟨h, 4, none⟩ = some (.slice (some bd) us.length d4) ∧ w'.cell? (ad.add (i * 5)) = some (.int .i64 kid.kd) ∧ w'.cell? ⟨(ad.add (i * 5)).block, (ad.add (i * 5)).off + 1, none⟩ = some (.int .i64 kid.nu) ∧ w'.cell? ⟨(ad.add (i * 5)).block, (ad.add (i * 5)).off + 2, none⟩ = some (.string kid.tx) ∧ w'.cell? ⟨(ad.add (i * 5)).block, (ad.add (i * 5)).off + 3, none⟩ = some (.slice E3 kid.ns.length e3) ∧ w'.cell? ⟨(ad.add (i * 5)).block, (ad.add (i * 5)).off + 4, none⟩ = some (.slice E4 kid.ks.length e4) ∧ w'.cell? (bd.add (i * 5)) = some (.int .i64 kid2.kd) ∧ w'.cell? ⟨(bd.add (i * 5)).block, (bd.add (i * 5)).off + 1, none⟩ = some (.int .i64 kid2.nu) ∧ w'.cell? ⟨(bd.add (i * 5)).block, (bd.add (i * 5)).off + 2, none⟩ = some (.string kid2.tx) ∧ w'.cell? ⟨(bd.add (i * 5)).block, (bd.add (i * 5)).off + 3, none⟩ = some (.slice F3 kid2.ns.length f3) ∧ w'.cell? ⟨(bd.add (i * 5)).block, (bd.add (i * 5)).off + 4, none⟩ = some (.slice F4 kid2.ks.length f4)) (go_keep) (first | (go_at_call 63; (with_reducible refine (YC.out _ (below_drew1 Ui.out)).mono ?_); rintro e wy ⟨rfl, hb⟩; have BY := Aside0.mk (below_tr (below_drew1 Ui.out) (below_B hb (below_drew1 Ui.out).size)); clear hb; have zz := C.out _ BY.out; have z0 := zz.1.2.2.2.2; have z1 := zz.2.2.2.2.2; clear zz; obtain ⟨x0, x1, x2, x3, x4⟩ := PK.out _ BY.out; obtain ⟨v0, v1, v2, v3, v4⟩ := RK.out _ BY.out))
                  all_goals
                    go_wp2_with fail
                    go_ret
                    exact ⟨by rw [CT.out, HX2.out]; rfl, below_step B2.out BY.out⟩
  · have h0b : (o != 0) = true := by simpa using h0
    have CT2 := Aside0.mk (show cmpT (.mk kd nu tx ns ks) (.mk kd2 nu2 tx2 ms us) = o by
      have ho' : orL [ci kd kd2, ci nu nu2, cs tx tx2] = o := by
        rw [ho]
        show (if o = 0 then _ else o) = o
        rw [if_neg h0]
      rw [cmpT_mk ho', if_neg h0])
    clear h0 HO ho
    go_wp2_with fail
    go_ret
    exact ⟨by rw [CT2.out]; rfl, below_step B2.out U3.out⟩
end Go.Proofs.YtemamcbdjfabnaaGreatDoor.VT
