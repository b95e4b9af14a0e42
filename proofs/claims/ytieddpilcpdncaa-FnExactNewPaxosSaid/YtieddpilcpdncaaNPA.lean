import Derived.Test.YtieddpilcpdncaaPNPx5
import Derived.WalkKit
/- What marks the askers of a case: six fields of each, and nobody that was heard. Conditions: no asker has heard anybody. -/
namespace Go.Proofs.Ytieddpilcpdncaa.PNP
open Go.RowKit Go.Proofs.YtieddpilcpdncaaW.PrintWords Go.Proofs.YtieddpilcpdncaaW.PrintLast Go.Proofs.YtieddpilcpdncaaW.PrintMore
set_option linter.unusedVariables false
set_option linter.unusedSimpArgs false
/-- One asker of a row of one's own, and what each store makes of the row. -/
structure AskV (w1 : World) (base : Nat) (ok : Nat → Prop) (g n cap : Nat) (xs : List S107) (i : Int) (v3 : Value) : Prop where
  c0 : w1.cell? ⟨g, i.toNat * 7, none⟩ = some (.int .i64 (rd_T107 xs i).f0)
  c3 : w1.cell? ⟨g, i.toNat * 7 + 3, none⟩ = some v3
  r3 : Kd.R (Kd.int .i64) 3 w1 base (fun k => ok k ∧ k ≠ g) v3 (rd_T107 xs i).f3
  fz : ∀ j, w1.frozen? ⟨g, i.toNat * 7 + j, none⟩ = false
  c1 : w1.cell? ⟨g, i.toNat * 7 + 1, none⟩ = some (.int .i64 (rd_T107 xs i).f1)
  c2 : w1.cell? ⟨g, i.toNat * 7 + 2, none⟩ = some (.string (rd_T107 xs i).f2)
  c4 : w1.cell? ⟨g, i.toNat * 7 + 4, none⟩ = some (.int .i64 (rd_T107 xs i).f4)
  c5 : w1.cell? ⟨g, i.toNat * 7 + 5, none⟩ = some (.string (rd_T107 xs i).f5)
  c6 : w1.cell? ⟨g, i.toNat * 7 + 6, none⟩ = some (.bool (rd_T107 xs i).f6)
  p0 : ∀ z, Kd.R k107 107 (w1.setCell ⟨g, i.toNat * 7, none⟩ (.int .i64 z)) base ok (.slice (some ⟨g, 0, none⟩) n cap) (xs.set i.toNat { rd_T107 xs i with f0 := z })
  p1 : ∀ z, Kd.R k107 107 (w1.setCell ⟨g, i.toNat * 7 + 1, none⟩ (.int .i64 z)) base ok (.slice (some ⟨g, 0, none⟩) n cap) (xs.set i.toNat { rd_T107 xs i with f1 := z })
  p2 : ∀ z, Kd.R k107 107 (w1.setCell ⟨g, i.toNat * 7 + 2, none⟩ (.string z)) base ok (.slice (some ⟨g, 0, none⟩) n cap) (xs.set i.toNat { rd_T107 xs i with f2 := z })
  p4 : ∀ z, Kd.R k107 107 (w1.setCell ⟨g, i.toNat * 7 + 4, none⟩ (.int .i64 z)) base ok (.slice (some ⟨g, 0, none⟩) n cap) (xs.set i.toNat { rd_T107 xs i with f4 := z })
  p5 : ∀ z, Kd.R k107 107 (w1.setCell ⟨g, i.toNat * 7 + 5, none⟩ (.string z)) base ok (.slice (some ⟨g, 0, none⟩) n cap) (xs.set i.toNat { rd_T107 xs i with f5 := z })
  p6 : ∀ z, Kd.R k107 107 (w1.setCell ⟨g, i.toNat * 7 + 6, none⟩ (.bool z)) base ok (.slice (some ⟨g, 0, none⟩) n cap) (xs.set i.toNat { rd_T107 xs i with f6 := z })
theorem ask_at {w1 : World} {base : Nat} {ok : Nat → Prop} {g n cap : Nat} {xs : List S107} (h : Kd.R k107 107 w1 base ok (.slice (some ⟨g, 0, none⟩) n cap) xs) (i : Int) (h0 : 0 ≤ i) (h1 : i < (n : Int)) : ∃ v3, AskV w1 base ok g n cap xs i v3 := by
  obtain ⟨ce, hcl, hM, hcc, hfr⟩ := Kd.R_elem h z107 i h0 h1
  obtain ⟨v3, rfl, g3⟩ := k107_openM hM
  refine ⟨v3, hcc 0 _ rfl, hcc 3 _ rfl, g3, hfr, hcc 1 _ rfl, hcc 2 _ rfl, hcc 4 _ rfl, hcc 5 _ rfl, hcc 6 _ rfl, ?_, ?_, ?_, ?_, ?_, ?_⟩
  · intro z; exact (Kd.R_seg h i h0 h1 (seg := [.int .i64 z]) (j := 0) hcl hcc (show 1 ≤ 7 by decide) (x' := { rd_T107 xs i with f0 := z }) (k107_mkM _ _ _ { rd_T107 xs i with f0 := z } g3) (fun _ hk => hk)).1
  · intro z; exact (Kd.R_seg h i h0 h1 (seg := [.int .i64 z]) (j := 1) hcl hcc (show 2 ≤ 7 by decide) (x' := { rd_T107 xs i with f1 := z }) (k107_mkM _ _ _ { rd_T107 xs i with f1 := z } g3) (fun _ hk => hk)).1
  · intro z; exact (Kd.R_seg h i h0 h1 (seg := [.string z]) (j := 2) hcl hcc (show 3 ≤ 7 by decide) (x' := { rd_T107 xs i with f2 := z }) (k107_mkM _ _ _ { rd_T107 xs i with f2 := z } g3) (fun _ hk => hk)).1
  · intro z; exact (Kd.R_seg h i h0 h1 (seg := [.int .i64 z]) (j := 4) hcl hcc (show 5 ≤ 7 by decide) (x' := { rd_T107 xs i with f4 := z }) (k107_mkM _ _ _ { rd_T107 xs i with f4 := z } g3) (fun _ hk => hk)).1
  · intro z; exact (Kd.R_seg h i h0 h1 (seg := [.string z]) (j := 5) hcl hcc (show 6 ≤ 7 by decide) (x' := { rd_T107 xs i with f5 := z }) (k107_mkM _ _ _ { rd_T107 xs i with f5 := z } g3) (fun _ hk => hk)).1
  · intro z; exact (Kd.R_seg h i h0 h1 (seg := [.bool z]) (j := 6) hcl hcc (show 7 ≤ 7 by decide) (x' := { rd_T107 xs i with f6 := z }) (k107_mkM _ _ _ { rd_T107 xs i with f6 := z } g3) (fun _ hk => hk)).1
theorem rd107_set (x : List S107) (i : Int) (j : Int) (v : S107) (h0 : 0 ≤ i) (h1 : i < (x.length : Int)) (j0 : 0 ≤ j) : rd_T107 (x.set i.toNat v) j = if j = i then v else rd_T107 x j := by
  unfold rd_T107
  rw [List.getD_eq_getElem?_getD, List.getD_eq_getElem?_getD, List.getElem?_set]
  by_cases e : j = i
  · subst e; simp [show j.toNat < x.length by omega]
  · rw [if_neg (by omega), if_neg e]
theorem rd107_self (x : List S107) (i : Int) (v : S107) (h0 : 0 ≤ i) (h1 : i < (x.length : Int)) : rd_T107 (x.set i.toNat v) i = v := by rw [rd107_set x i i v h0 h1 h0, if_pos rfl]
/-- What an asker is marked with. -/
def mkA (T : Int → ByteArray) (k : Int) (x : S107) : S107 := ⟨k, k + 1, T (k + 1 + 1), x.f3, k + 1 + 1 + 1, T (k + 1 + 1 + 1 + 1), (k + 1 + 1 + 1 + 1 + 1) % 3 == 0⟩
theorem markIntS_nil (A : Option Addr) (c : Nat) (z : Int) (w : World) : Calls Try.prog 88 #[.slice A 0 c, .int .i64 z] w fun e w' => e = .returned (.int .i64 z) ∧ Below w.heap.size w w' := by
  go_enter Try.func88, Try.ntmps88
  go_wp2
  go_loop [1, 5] (fun v1 v5 => v1 = .int .i64 z ∧ v5 = .int .i64 0) (fun _ _ => 0)
  case atStart => exact ⟨rfl, rfl⟩
  case round =>
    obtain ⟨rfl, rfl⟩ := hrel
    go_wp2
    go_ret
    exact ⟨rfl, Below.refl _ _⟩
set_option maxRecDepth 100000 in
set_option maxHeartbeats 4000000 in
theorem markAsk_c (T : Int → ByteArray) (ht : ∀ z, 0 ≤ z → z ≤ 10000 → ∃ k, laws_markText.f k z = some (T z)) (P0_ : Nat → Prop) (u : Value) (l : List S107) (hl3 : ∀ x ∈ l, x.f3 = []) (a1 : Int) (ha0 : 0 ≤ a1) (ha1 : a1 ≤ 1000) (hll : l.length ≤ 1000) (w0 w : World) (hB : Below w0.heap.size w0 w) (ho : Kd.R k107 107 w w0.heap.size P0_ u l) :
    Calls Try.prog 45 #[u, .int .i64 a1] w fun e w' => ∃ ys : List S107, e = .returned (.int .i64 (a1 + 6 * l.length)) ∧ Aside0 (ys.length = l.length ∧ ∀ j : Int, 0 ≤ j → j < l.length → rd_T107 ys j = mkA T (a1 + 6 * j) (rd_T107 l j)) ∧ Kd.R k107 107 w' w0.heap.size P0_ u ys ∧ Below w0.heap.size w0 w' ∧ Kept w w' P0_ := by
  obtain ⟨A, c, rfl⟩ := Kd.R_slice ho
  have HO0 := Aside0.mk ho
  have HB0 := Aside0.mk hB
  have HT := Aside0.mk ht
  have HL3 := Aside0.mk hl3
  clear ho hB ht hl3
  go_enter Try.func45, Try.ntmps45
  go_wp2
  go_loopw [1, 5] (fun v1 v5 wr => ∃ (x : Int) (xs : List S107), 0 ≤ x ∧ x ≤ (l.length : Int) ∧ v5 = .int .i64 x ∧ v1 = .int .i64 (a1 + 6 * x) ∧ Aside0 (xs.length = l.length ∧ (∀ j : Int, 0 ≤ j → j < x → rd_T107 xs j = mkA T (a1 + 6 * j) (rd_T107 l j)) ∧ ∀ j : Int, x ≤ j → j < l.length → rd_T107 xs j = rd_T107 l j) ∧ Aside0 (Kd.R k107 107 wr w0.heap.size P0_ (.slice A l.length c) xs) ∧ Aside0 (Below w0.heap.size w0 wr) ∧ Aside0 (Kept w wr P0_)) (fun _ v _ => (l.length - intOf v).toNat)
  case atStart => exact ⟨0, l, by omega, by omega, rfl, by simp, ⟨rfl, fun j h0 h1 => by omega, fun _ _ _ => rfl⟩, HO0, HB0, ⟨Kept.refl _ _⟩⟩
  case round =>
    obtain ⟨x, xs, h0, hx, rfl, rfl, HX, HO, HB, HK⟩ := hrel
    by_cases hlt : x < (l.length : Int)
    · obtain ⟨hxl, hxa, hxb⟩ := HX.out
      obtain ⟨g, c', e1, hgb, hgl, _⟩ := Kd.R_form HO.out (by omega)
      injection e1 with e1 e2 e3
      subst e1 e3
      clear e2
      obtain ⟨v3, HV⟩ := ask_at HO.out x h0 hlt
      have hP : P0_ g := HO.out.1 g rfl
      have R1 := HV.p0 (a1 + 6 * x)
      obtain ⟨v31, HV1⟩ := ask_at R1 x h0 hlt
      have R2 := HV1.p1 (a1 + 6 * x + 1)
      obtain ⟨k1, t1⟩ := HT.out (a1 + 6 * x + 1 + 1) (by omega) (by omega)
      obtain ⟨k2, t2⟩ := HT.out (a1 + 6 * x + 1 + 1 + 1 + 1) (by omega) (by omega)
      have F0 : wr.frozen? ⟨g, x.toNat * 7, none⟩ = false := HV.fz 0
      have C0 := HV.c0
      have C1 := HV.c1
      have F1 := HV.fz 1
      have HR2 := Aside0.mk R2
      have HB1 : Aside0 (Below w0.heap.size w0 ((wr.setCell ⟨g, x.toNat * 7, none⟩ (.int .i64 (a1 + 6 * x))).setCell ⟨g, x.toNat * 7 + 1, none⟩ (.int .i64 (a1 + 6 * x + 1)))) := ⟨below_set (below_set HB.out hgb) hgb⟩
      have HK1 : Aside0 (Kept w ((wr.setCell ⟨g, x.toNat * 7, none⟩ (.int .i64 (a1 + 6 * x))).setCell ⟨g, x.toNat * 7 + 1, none⟩ (.int .i64 (a1 + 6 * x + 1))) P0_) := ⟨Kept.setCell (Kept.setCell HK.out (.inl hP) _) (.inl hP) _⟩
      have T1 := Aside0.mk t1
      have T2 := Aside0.mk t2
      clear R1 R2 HV HV1 t1 t2 hxa hxb
      go_upto_region 9 with (first | (go_at_call 63; refine (laws_markText.calls k1 (a1 + 6 * x + 1 + 1) _ _ T1.out).mono ?_; rintro e w2 ⟨rfl, hb⟩; obtain ⟨v32, HV2⟩ := ask_at (Kd.R_below HR2.out hb) x h0 hlt; have F2 := HV2.fz 2; have C2 := HV2.c2; have R3 := Aside0.mk (HV2.p2 (T (a1 + 6 * x + 1 + 1))); have HB2 := Aside0.mk (below_step HB1.out hb); have HK2 := Aside0.mk (HK1.out.below hb); clear hb HV2))
      have hxn : x < (xs.length : Int) := by omega
      have e3 : ((xs.set x.toNat { rd_T107 xs x with f0 := a1 + 6 * x }).set x.toNat { rd_T107 (xs.set x.toNat { rd_T107 xs x with f0 := a1 + 6 * x }) x with f1 := a1 + 6 * x + 1 }) = xs.set x.toNat { rd_T107 xs x with f0 := a1 + 6 * x, f1 := a1 + 6 * x + 1 } := by
        rw [rd107_self _ _ _ h0 hxn, List.set_set]
      rw [e3] at R3
      replace R3 := R3.out
      rw [rd107_self _ _ _ h0 hxn, List.set_set] at R3
      have HR3 := Aside0.mk R3
      have HB3 : Aside0 (Below w0.heap.size w0 (w2.setCell ⟨g, x.toNat * 7 + 2, none⟩ (.string (T (a1 + 6 * x + 1 + 1))))) := ⟨below_set HB2.out hgb⟩
      have HK3 : Aside0 (Kept w (w2.setCell ⟨g, x.toNat * 7 + 2, none⟩ (.string (T (a1 + 6 * x + 1 + 1)))) P0_) := ⟨Kept.setCell HK2.out (.inl hP) _⟩
      have hf3 : (rd_T107 xs x).f3 = [] := by
        rw [HX.out.2.2 x (by omega) hlt]
        apply HL3.out
        unfold rd_T107
        rw [List.getD_eq_getElem?_getD, List.getElem?_eq_getElem (by omega)]
        exact List.getElem_mem _
      generalize (w2.setCell ⟨g, x.toNat * 7 + 2, none⟩ (.string (T (a1 + 6 * x + 1 + 1)))) = w3 at HR3 HB3 HK3 ⊢
      clear F2 C2 HR2 F0 F1 C0 C1 HB1 HK1 HB2 HK2 R3 e3
      obtain ⟨v33, HV3⟩ := ask_at HR3.out x h0 hlt
      obtain ⟨A3, c3, rfl⟩ : ∃ A3 c3, v33 = .slice A3 0 c3 := by
        have r3 := HV3.r3
        rw [rd107_self _ _ _ h0 hxn] at r3
        have r4 : Kd.R (Kd.int .i64) 3 w3 w0.heap.size _ v33 (rd_T107 xs x).f3 := r3
        rw [hf3] at r4
        exact Kd.R_slice r4
      have C3 := HV3.c3
      clear HV3
      go_upto_region 11 with (first | (go_at_call 88; refine (markIntS_nil A3 c3 (a1 + 6 * x + 1 + 1 + 1) _).mono ?_; rintro e w4 ⟨rfl, hb⟩; have HR4 := Aside0.mk (Kd.R_below HR3.out hb); have HB4 := Aside0.mk (below_step HB3.out hb); have HK4 := Aside0.mk (HK3.out.below hb); clear hb))
      clear C3
      obtain ⟨v34, HV4⟩ := ask_at HR4.out x h0 hlt
      have C4 := HV4.c4
      have F4 := HV4.fz 4
      have HR5 := Aside0.mk (HV4.p4 (a1 + 6 * x + 1 + 1 + 1))
      have HB5 : Aside0 (Below w0.heap.size w0 (w4.setCell ⟨g, x.toNat * 7 + 4, none⟩ (.int .i64 (a1 + 6 * x + 1 + 1 + 1)))) := ⟨below_set HB4.out hgb⟩
      have HK5 : Aside0 (Kept w (w4.setCell ⟨g, x.toNat * 7 + 4, none⟩ (.int .i64 (a1 + 6 * x + 1 + 1 + 1))) P0_) := ⟨Kept.setCell HK4.out (.inl hP) _⟩
      clear HV4
      go_upto_region 16 with (first | (go_at_call 63; refine (laws_markText.calls k2 (a1 + 6 * x + 1 + 1 + 1 + 1) _ _ T2.out).mono ?_; rintro e w5 ⟨rfl, hb⟩; obtain ⟨v35, HV5⟩ := ask_at (Kd.R_below HR5.out hb) x h0 hlt; have C5 := HV5.c5; have F5 := HV5.fz 5; have C6 := HV5.c6; have F6 := HV5.fz 6; have HR6 := Aside0.mk (HV5.p5 (T (a1 + 6 * x + 1 + 1 + 1 + 1))); have HB6 := Aside0.mk (below_step HB5.out hb); have HK6 := Aside0.mk (HK5.out.below hb); clear hb HV5))
      go_wp2
      go_roundw
      case rel =>
        obtain ⟨v36, HV6⟩ := ask_at HR6.out x h0 hlt
        have R8 := HV6.p6 ((a1 + 6 * x + 1 + 1 + 1 + 1 + 1) % 3 == 0)
        clear HV6
        simp only [rd107_self, List.set_set, List.length_set, h0, hxn] at R8
        have e8 := HX.out.2.2 x (by omega) hlt
        refine ⟨x + 1, xs.set x.toNat (mkA T (a1 + 6 * x) (rd_T107 l x)), by omega, by omega, rfl, by congr 1; omega, ⟨by simpa using HX.out.1, fun j j0 j1 => ?_, fun j j0 j1 => ?_⟩, ⟨?_⟩, ⟨below_set (below_set HB6.out hgb) hgb⟩, ⟨Kept.setCell (Kept.setCell HK6.out (.inl hP) _) (.inl hP) _⟩⟩
        · rw [rd107_set _ _ _ _ h0 hxn j0]
          by_cases e : j = x
          · rw [if_pos e, e]
          · rw [if_neg e]; exact HX.out.2.1 j j0 (by omega)
        · rw [rd107_set _ _ _ _ h0 hxn (by omega), if_neg (by omega)]
          exact HX.out.2.2 j (by omega) j1
        · rw [e8] at R8; exact R8
      case measure => simp [intOf]; omega
    · obtain rfl : x = (l.length : Int) := by omega
      go_wp2
      go_ret
      exact ⟨rfl, xs, ⟨HX.out.1, HX.out.2.1⟩, HO.out, HB.out, HK.out⟩
end Go.Proofs.Ytieddpilcpdncaa.PNP
