import Derived.Test.YtemamcbdjfabnaaGreatDoorICVPA
/- Two trees compared, walked. Conditions: the trees' texts are right. -/
namespace Go.Proofs.YtemamcbdjfabnaaGreatDoor.VT
open Go.RowKit Go.Proofs.YtemamcbdjfabnaaGreatDoor.PVG Go.Proofs.YtemamcbdjfabnaaGreatDoorW.PrintWords Go.Proofs.YtemamcbdjfabnaaGreatDoorW.PrintLast Go.Proofs.YtemamcbdjfabnaaGreatDoorW.PrintMore
set_option linter.unusedVariables false
set_option linter.unusedSimpArgs false
def CmCall (t : Tr) : Prop := ∀ (u : Tr) (w : World) (g h : Nat), IsV w g t → IsV w h u → fit t = true → fit u = true → cnt t ≤ 1073741824 → cnt u ≤ 1073741824 →
  Calls Tryz.prog 64 #[.pointer (some ⟨g, 0, none⟩), .pointer (some ⟨h, 0, none⟩)] w fun e w' => e = .returned (.int .i64 (cmpT t u)) ∧ Below w.heap.size w w'
theorem CmCall.go {t : Tr} (hh : CmCall t) (u : Tr) (w : World) (g h : Nat) (h1 : IsV w g t) (h2 : IsV w h u) (h3 : fit t = true) (h4 : fit u = true) (h5 : cnt t ≤ 1073741824) (h6 : cnt u ≤ 1073741824) :
    Calls Tryz.prog 64 #[.pointer (some ⟨g, 0, none⟩), .pointer (some ⟨h, 0, none⟩)] w fun e w' => e = .returned (.int .i64 (cmpT t u)) ∧ Below w.heap.size w w' := hh u w g h h1 h2 h3 h4 h5 h6
theorem orL_ci {a b x y : Int} (h : orL [ci a b, x, y] = 0) : a = b := by
  rw [orL] at h
  by_cases hc : ci a b = 0
  · unfold ci at hc
    by_cases h1 : a < b
    · rw [if_pos h1] at hc; omega
    · rw [if_neg h1] at hc
      by_cases h2 : b < a
      · rw [if_pos h2] at hc; omega
      · omega
  · rw [if_neg hc] at h; exact absurd h hc
theorem cmpT_mk {kd nu : Int} {tx : ByteArray} {ns : List ByteArray} {ks : List Tr} {kd2 nu2 : Int} {tx2 : ByteArray} {ms : List ByteArray} {us : List Tr} {o : Int} (h : orL [ci kd kd2, ci nu nu2, cs tx tx2] = o) :
    cmpT (.mk kd nu tx ns ks) (.mk kd2 nu2 tx2 ms us) = if o = 0 then cmpL ks (kd == 7) ns ms us else o := by
  subst h
  rw [cmpT]
  rfl
set_option maxRecDepth 100000 in
set_option maxHeartbeats 16000000 in
theorem cmp_c (t : Tr) : CmCall t := by
  refine Tr.ind (P := CmCall) ?_ t
  intro kd nu tx ns ks ih u w g h hv hv2 hf hf2 hn hn2
  obtain ⟨kd2, nu2, tx2, ms, us⟩ := u
  have hf1 := fit1 hf
  have hf3 := fit1 hf2
  obtain ⟨A3, c3, A4, c4, ha⟩ := hv.at_
  obtain ⟨B3, d3, B4, d4, hb⟩ := hv2.at_
  have HA := Aside0.mk ha
  have HB := Aside0.mk hb
  obtain ⟨k0, k1, k2, k3, k4⟩ := ha.cells
  obtain ⟨m0, m1, m2, m3, m4⟩ := hb.cells
  simp only [Tr.ks, Tr.ns, Tr.kd, Tr.nu, Tr.tx] at k0 k1 k2 k3 k4 m0 m1 m2 m3 m4
  have q : ∀ {a : Addr} {v : Value}, w.cell? a = some v → ∀ W, Below w.heap.size w W → W.cell? a = some v := fun {a v} e W hw => (hw.cell (World.block_lt_of_cell? w _ e)).trans e
  have K0 := Aside0.mk (q k0)
  have K3 := Aside0.mk (q k3)
  have K4 := Aside0.mk (q k4)
  have M3 := Aside0.mk (q m3)
  have M4 := Aside0.mk (q m4)
  have IH := Aside0.mk ih
  have HN := Aside0.mk (show 1 + cntL ks ≤ 1073741824 by simp only [cnt] at hn; exact hn)
  have HN2 := Aside0.mk (show 1 + cntL us ≤ 1073741824 by simp only [cnt] at hn2; exact hn2)
  have HF := Aside0.mk hf1
  have HF2 := Aside0.mk hf3
  have B0 := Aside0.mk (below_drew1 (Below.refl w.heap.size w))
  have H1 := Aside0.mk (show (w.alloc (.cells #[.int .i64 (ci kd kd2), .int .i64 (ci nu nu2), .int .i64 (cs tx tx2)] 3)).drew.heap[w.heap.size]? = some (.cells #[.int .i64 (ci kd kd2), .int .i64 (ci nu nu2), .int .i64 (cs tx tx2)] 3 (0, 0)) from blk_new w _)
  obtain ⟨o, ho⟩ : ∃ o, orL [ci kd kd2, ci nu nu2, cs tx tx2] = o := ⟨_, rfl⟩
  have HO := Aside0.mk ho
  clear ha hb hf1 hf3 hv hv2 hf hf2 hn hn2 ih k3 k4 m3 m4 q ho
  go_enter Tryz.func64, Tryz.ntmps64
  go_upto_region 1 with fail
  go_region_held3 (fun w' => w'.cell? ⟨g, 0, none⟩ = some (.int .i64 kd) ∧ w'.cell? ⟨g, 1, none⟩ = some (.int .i64 nu) ∧ w'.cell? ⟨g, 2, none⟩ = some (.string tx) ∧ w'.cell? ⟨h, 0, none⟩ = some (.int .i64 kd2) ∧ w'.cell? ⟨h, 1, none⟩ = some (.int .i64 nu2) ∧ w'.cell? ⟨h, 2, none⟩ = some (.string tx2)) (go_keep) (first | (go_at_call 86; (with_reducible refine (cmpi_c _ _ _).mono ?_); rintro e w2 ⟨rfl, rfl⟩) | (go_at_call 87; (with_reducible refine (cmps_c _ _ _).mono ?_); rintro e w2 ⟨rfl, rfl⟩) | (go_at_call 85; (with_reducible refine (or3_c _ _ _ _ _ H1.out).mono ?_); rintro e w2 ⟨rfl, rfl⟩; rw [HO.out]))
  obtain ⟨W1, hW1⟩ : ∃ W1, W1 = (w.alloc (.cells #[.int .i64 (ci kd kd2), .int .i64 (ci nu nu2), .int .i64 (cs tx tx2)] 3)).drew := ⟨_, rfl⟩
  have B1 := Aside0.mk (show Below w.heap.size w W1 by rw [hW1]; exact below_drew1 (below_alloc (Below.refl _ _) _))
  rw [← hW1]
  clear hW1 H1 k0 k1 k2 m0 m1 m2
  have CT := Aside0.mk (cmpT_mk (ns := ns) (ks := ks) (ms := ms) (us := us) HO.out)
  by_cases h0 : o = 0
  · have hk2 : kd2 = kd := (orL_ci (HO.out.trans h0)).symm
    subst hk2
    have CT2 := Aside0.mk (show cmpT (.mk kd2 nu tx ns ks) (.mk kd2 nu2 tx2 ms us) = cmpL ks (kd2 == 7) ns ms us by rw [CT.out, if_pos h0])
    subst h0
    clear CT HO
    have p4 := K4.out _ B1.out
    have r4 := M4.out _ B1.out
    have b1 : (ks.length : Int) ≤ 1073741824 := by have := HN.out; have := cnt_ge_len ks; omega
    have b2 : (us.length : Int) ≤ 1073741824 := by have := HN2.out; have := cnt_ge_len us; omega
    go_wp2_with fail
    go_quiet (fail)
    go_wp2_with fail
    obtain ⟨W2, hW2⟩ : ∃ W2, W2 = W1.drewN nq := ⟨_, rfl⟩
    have B2 := Aside0.mk (show Below w.heap.size w W2 by rw [hW2]; exact pw_below_drewN B1.out _)
    obtain ⟨n, hn⟩ : ∃ n, n = min ks.length us.length := ⟨_, rfl⟩
    have HMIN := Aside0.mk hn
    rw [← hW2, show min (ks.length : Int) (us.length : Int) = (n : Int) by omega]
    clear hW2 hn p4 r4
    go_loopg [52] n (fun m v52 W => ∃ i : Nat, v52 = .int .i64 (i : Int) ∧ Aside0 (i + m = n) ∧ Aside0 (cmpL ks (kd2 == 7) ns ms us = cmpL (ks.drop i) (kd2 == 7) (ns.drop i) (ms.drop i) (us.drop i)) ∧ Aside0 (Below w.heap.size w W))
    case atStart => exact ⟨0, rfl, ⟨by omega⟩, ⟨rfl⟩, B2⟩
    case round =>
      clear B2 B1 B0
      obtain ⟨i, rfl, HI, HD, Bi⟩ := hrel
      cases gk with
      | zero =>
        have hlt : decide (i < n) = false := decide_eq_false (by have := HI.out; omega)
        have HE := Aside0.mk (show cmpL ks (kd2 == 7) ns ms us = ci ks.length us.length by rw [HD.out]; exact cmpL_end (by have := HI.out; have := HMIN.out; omega))
        have p4 := K4.out _ Bi.out
        have r4 := M4.out _ Bi.out
        go_upto_region 15 with fail
        go_region_held3 (fun w' => w'.cell? ⟨g, 4, none⟩ = some (.slice A4 ks.length c4) ∧ w'.cell? ⟨h, 4, none⟩ = some (.slice B4 us.length d4)) (go_keep) (first | (go_at_call 86; (with_reducible refine (cmpi_c _ _ _).mono ?_); rintro e w5 ⟨rfl, rfl⟩))
        all_goals
          go_wp2_with fail
          go_ret
          exact ⟨by rw [CT2.out, HE.out]; rfl, pw_below_drewN Bi.out _⟩
      | succ m =>
        have hin : i < n := by have := HI.out; omega
        have hi : i < ks.length := by have := HMIN.out; omega
        have hi2 : i < us.length := by have := HMIN.out; omega
        have hlt : decide (i < n) = true := decide_eq_true hin
        have b4 : (i : Int) ≤ 1073741824 := by have := b1; omega
        obtain ⟨ad, p, rfl, kc, kv⟩ := HA.out.kid i hi
        obtain ⟨bd, p2, rfl, lc, lv⟩ := HB.out.kid i hi2
        simp only [Tr.ks] at kv lv
        have PK := Aside0.mk (show ∀ W, Below w.heap.size w W → W.cell? (ad.add i) = some (.pointer (some ⟨p, 0, none⟩)) from fun W hw => (hw.cell (World.block_lt_of_cell? w _ kc)).trans kc)
        have RK := Aside0.mk (show ∀ W, Below w.heap.size w W → W.cell? (bd.add i) = some (.pointer (some ⟨p2, 0, none⟩)) from fun W hw => (hw.cell (World.block_lt_of_cell? w _ lc)).trans lc)
        have V0 := Aside0.mk kv
        have U0 := Aside0.mk lv
        have HFk := Aside0.mk ((fitL_iff ks).1 HF.out.hks _ (List.getElem_mem hi))
        have HFu := Aside0.mk ((fitL_iff us).1 HF2.out.hks _ (List.getElem_mem hi2))
        have HIm := Aside0.mk (IH.out _ (List.getElem_mem hi))
        have HCk := Aside0.mk (show cnt ks[i] ≤ 1073741824 by have := cntL_take ks i hi; have := cntL_take_le ks (i + 1); have := HN.out; omega)
        have HCu := Aside0.mk (show cnt us[i] ≤ 1073741824 by have := cntL_take us i hi2; have := cntL_take_le us (i + 1); have := HN2.out; omega)
        have CD := Aside0.mk (HD.out.trans (cmpL_drop (m := kd2 == 7) (ns := ns) (ms := ms) hi hi2))
        have hk1 : ((i : Int) < (ks.length : Int)) := by omega
        have hk2 : ((i : Int) < (us.length : Int)) := by omega
        clear kc lc kv lv HD
        obtain ⟨kid, hkid⟩ : ∃ k, k = ks[i] := ⟨_, rfl⟩
        obtain ⟨kid2, hkid2⟩ : ∃ k, k = us[i] := ⟨_, rfl⟩
        rw [← hkid] at V0 HFk HIm HCk CD
        rw [← hkid2] at U0 HFu HCu CD
        clear hkid hkid2
        have p0 := K0.out _ Bi.out
        by_cases h7 : kd2 = 7
        · have b7 : (kd2 == 7) = true := by simpa using h7
          have hni : i < ns.length := by have := HF.out.hlen h7; omega
          have hmi : i < ms.length := by have := HF2.out.hlen h7; omega
          clear h7
          obtain ⟨ad3, e3, kn⟩ := HA.out.name i hni
          obtain ⟨bd3, f3, ln⟩ := HB.out.name i hmi
          simp only [Tr.ns] at kn ln
          subst e3 f3
          have HQ1 : (ns.drop i).headD nil_ = ns[i] := by rw [List.drop_eq_getElem_cons hni]; rfl
          have HQ2 : (ms.drop i).headD nil_ = ms[i] := by rw [List.drop_eq_getElem_cons hmi]; rfl
          rw [HQ1, HQ2] at CD
          have pn := (Bi.out.cell (World.block_lt_of_cell? w _ kn)).trans kn
          have rn := (Bi.out.cell (World.block_lt_of_cell? w _ ln)).trans ln
          have p3 := K3.out _ Bi.out
          have r3 := M3.out _ Bi.out
          obtain ⟨na, hna⟩ : ∃ s, s = ns[i] := ⟨_, rfl⟩
          obtain ⟨nb, hnb⟩ : ∃ s, s = ms[i] := ⟨_, rfl⟩
          rw [← hna] at CD pn
          rw [← hnb] at CD rn
          clear hna hnb kn ln HQ1 HQ2
          obtain ⟨x, hx⟩ : ∃ x, cs na nb = x := ⟨_, rfl⟩
          have HX := Aside0.mk hx
          rw [hx] at CD
          clear hx
          go_upto_region 8 with fail
          go_region_held3 (fun w' => w'.cell? ⟨g, 3, none⟩ = some (.slice (some ad3) ns.length c3) ∧ w'.cell? ⟨h, 3, none⟩ = some (.slice (some bd3) ms.length d3) ∧ w'.cell? (ad3.add i) = some (.string na) ∧ w'.cell? (bd3.add i) = some (.string nb)) (go_keep) (first | (go_at_call 87; (with_reducible refine (cmps_c _ _ _).mono ?_); rintro e w5 ⟨rfl, rfl⟩; rw [HX.out]))
          all_goals
            by_cases hx0 : x = 0
            · have hxb : (x != 0) = false := by simpa using hx0
              have CE := Aside0.mk (show cmpL ks (kd2 == 7) ns ms us = if cmpT kid kid2 = 0 then cmpL (ks.drop (i + 1)) (kd2 == 7) (ns.drop (i + 1)) (ms.drop (i + 1)) (us.drop (i + 1)) else cmpT kid kid2 by rw [CD.out, if_neg (fun hh => hh.2 hx0)])
              clear CD HX hx0 p3 r3 pn rn
              obtain ⟨y, hy⟩ : ∃ y, cmpT kid kid2 = y := ⟨_, rfl⟩
              have HY := Aside0.mk hy
              have YC := Aside0.mk (show ∀ W, Below w.heap.size w W → Calls Tryz.prog 64 #[.pointer (some ⟨p, 0, none⟩), .pointer (some ⟨p2, 0, none⟩)] W fun e w' => e = .returned (.int .i64 y) ∧ Below W.heap.size W w' from fun W hw => by rw [← hy]; exact HIm.out.go kid2 W p p2 (V0.out.below hw) (U0.out.below hw) HFk.out HFu.out HCk.out HCu.out)
              clear hy
              by_cases hy0 : y = 0
              · have hyb : (y != 0) = false := by simpa using hy0
                have HN := Aside0.mk (show cmpL ks (kd2 == 7) ns ms us = cmpL (ks.drop (i + 1)) (kd2 == 7) (ns.drop (i + 1)) (ms.drop (i + 1)) (us.drop (i + 1)) by rw [CE.out, HY.out, if_pos hy0])
                clear hy0
                go_upto_region 11 with fail
                have p4 := K4.out _ (below_drew1 Bi.out)
                have r4 := M4.out _ (below_drew1 Bi.out)
                have pk := PK.out _ (below_drew1 Bi.out)
                have rk := RK.out _ (below_drew1 Bi.out)
                go_region_held3 (fun w' => w'.cell? ⟨g, 4, none⟩ = some (.slice (some ad) ks.length c4) ∧ w'.cell? ⟨h, 4, none⟩ = some (.slice (some bd) us.length d4) ∧ w'.cell? (ad.add i) = some (.pointer (some ⟨p, 0, none⟩)) ∧ w'.cell? (bd.add i) = some (.pointer (some ⟨p2, 0, none⟩))) (go_keep) (first | (go_at_call 64; (with_reducible refine (YC.out _ (below_drew1 (below_drew1 Bi.out))).mono ?_); rintro e wy ⟨rfl, hb⟩; have BY := Aside0.mk (below_step (below_drew1 (below_drew1 Bi.out)) hb); clear hb; have z0 := K4.out _ BY.out; have z1 := M4.out _ BY.out; have z2 := PK.out _ BY.out; have z3 := RK.out _ BY.out))
                all_goals
                  go_wp2_with fail
                  go_roundg m
                  case rel => exact ⟨i + 1, by go_num, ⟨by have := HI.out; omega⟩, HN, BY⟩
                  case measure => omega
              · have hyb : (y != 0) = true := by simpa using hy0
                have HN := Aside0.mk (show cmpL ks (kd2 == 7) ns ms us = y by rw [CE.out, HY.out, if_neg hy0])
                clear hy0
                go_upto_region 11 with fail
                have p4 := K4.out _ (below_drew1 Bi.out)
                have r4 := M4.out _ (below_drew1 Bi.out)
                have pk := PK.out _ (below_drew1 Bi.out)
                have rk := RK.out _ (below_drew1 Bi.out)
                go_region_held3 (fun w' => w'.cell? ⟨g, 4, none⟩ = some (.slice (some ad) ks.length c4) ∧ w'.cell? ⟨h, 4, none⟩ = some (.slice (some bd) us.length d4) ∧ w'.cell? (ad.add i) = some (.pointer (some ⟨p, 0, none⟩)) ∧ w'.cell? (bd.add i) = some (.pointer (some ⟨p2, 0, none⟩))) (go_keep) (first | (go_at_call 64; (with_reducible refine (YC.out _ (below_drew1 (below_drew1 Bi.out))).mono ?_); rintro e wy ⟨rfl, hb⟩; have BY := Aside0.mk (below_step (below_drew1 (below_drew1 Bi.out)) hb); clear hb; have z0 := K4.out _ BY.out; have z1 := M4.out _ BY.out; have z2 := PK.out _ BY.out; have z3 := RK.out _ BY.out))
                all_goals
                  go_wp2_with fail
                  go_ret
                  exact ⟨by rw [CT2.out, HN.out]; rfl, BY.out⟩
            · have hxb : (x != 0) = true := by simpa using hx0
              have CE := Aside0.mk (show cmpL ks (kd2 == 7) ns ms us = x by rw [CD.out, if_pos ⟨b7, hx0⟩])
              clear CD HX hx0
              go_wp2_with fail
              go_ret
              exact ⟨by rw [CT2.out, CE.out]; rfl, below_drew1 Bi.out⟩
        · have b7 : (kd2 == 7) = false := by simpa using h7
          have CE := Aside0.mk (show cmpL ks (kd2 == 7) ns ms us = if cmpT kid kid2 = 0 then cmpL (ks.drop (i + 1)) (kd2 == 7) (ns.drop (i + 1)) (ms.drop (i + 1)) (us.drop (i + 1)) else cmpT kid kid2 by rw [CD.out, if_neg (fun hh => by rw [b7] at hh; cases hh.1)])
          clear CD h7
          obtain ⟨y, hy⟩ : ∃ y, cmpT kid kid2 = y := ⟨_, rfl⟩
          have HY := Aside0.mk hy
          have YC := Aside0.mk (show ∀ W, Below w.heap.size w W → Calls Tryz.prog 64 #[.pointer (some ⟨p, 0, none⟩), .pointer (some ⟨p2, 0, none⟩)] W fun e w' => e = .returned (.int .i64 y) ∧ Below W.heap.size W w' from fun W hw => by rw [← hy]; exact HIm.out.go kid2 W p p2 (V0.out.below hw) (U0.out.below hw) HFk.out HFu.out HCk.out HCu.out)
          clear hy
          by_cases hy0 : y = 0
          · have hyb : (y != 0) = false := by simpa using hy0
            have HN := Aside0.mk (show cmpL ks (kd2 == 7) ns ms us = cmpL (ks.drop (i + 1)) (kd2 == 7) (ns.drop (i + 1)) (ms.drop (i + 1)) (us.drop (i + 1)) by rw [CE.out, HY.out, if_pos hy0])
            clear hy0
            go_upto_region 11 with fail
            have p4 := K4.out _ Bi.out
            have r4 := M4.out _ Bi.out
            have pk := PK.out _ Bi.out
            have rk := RK.out _ Bi.out
            go_region_held3 (fun w' => w'.cell? ⟨g, 4, none⟩ = some (.slice (some ad) ks.length c4) ∧ w'.cell? ⟨h, 4, none⟩ = some (.slice (some bd) us.length d4) ∧ w'.cell? (ad.add i) = some (.pointer (some ⟨p, 0, none⟩)) ∧ w'.cell? (bd.add i) = some (.pointer (some ⟨p2, 0, none⟩))) (go_keep) (first | (go_at_call 64; (with_reducible refine (YC.out _ (below_drew1 Bi.out)).mono ?_); rintro e wy ⟨rfl, hb⟩; have BY := Aside0.mk (below_step (below_drew1 Bi.out) hb); clear hb; have z0 := K4.out _ BY.out; have z1 := M4.out _ BY.out; have z2 := PK.out _ BY.out; have z3 := RK.out _ BY.out))
            all_goals
              go_wp2_with fail
              go_roundg m
              case rel => exact ⟨i + 1, by go_num, ⟨by have := HI.out; omega⟩, HN, BY⟩
              case measure => omega
          · have hyb : (y != 0) = true := by simpa using hy0
            have HN := Aside0.mk (show cmpL ks (kd2 == 7) ns ms us = y by rw [CE.out, HY.out, if_neg hy0])
            clear hy0
            go_upto_region 11 with fail
            have p4 := K4.out _ Bi.out
            have r4 := M4.out _ Bi.out
            have pk := PK.out _ Bi.out
            have rk := RK.out _ Bi.out
            go_region_held3 (fun w' => w'.cell? ⟨g, 4, none⟩ = some (.slice (some ad) ks.length c4) ∧ w'.cell? ⟨h, 4, none⟩ = some (.slice (some bd) us.length d4) ∧ w'.cell? (ad.add i) = some (.pointer (some ⟨p, 0, none⟩)) ∧ w'.cell? (bd.add i) = some (.pointer (some ⟨p2, 0, none⟩))) (go_keep) (first | (go_at_call 64; (with_reducible refine (YC.out _ (below_drew1 Bi.out)).mono ?_); rintro e wy ⟨rfl, hb⟩; have BY := Aside0.mk (below_step (below_drew1 Bi.out) hb); clear hb; have z0 := K4.out _ BY.out; have z1 := M4.out _ BY.out; have z2 := PK.out _ BY.out; have z3 := RK.out _ BY.out))
            all_goals
              go_wp2_with fail
              go_ret
              exact ⟨by rw [CT2.out, HN.out]; rfl, BY.out⟩
  · have h0b : (o != 0) = true := by simpa using h0
    have CT2 := Aside0.mk (show cmpT (.mk kd nu tx ns ks) (.mk kd2 nu2 tx2 ms us) = o by rw [CT.out, if_neg h0])
    clear h0 CT HO
    go_wp2_with fail
    go_ret
    exact ⟨by rw [CT2.out]; rfl, B1.out⟩
end Go.Proofs.YtemamcbdjfabnaaGreatDoor.VT
