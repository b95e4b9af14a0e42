import Derived.Test.YtieddpilcpdncaaNPD
import Derived.Test.YtieddpilcpdncaaPNPx1
/- The law of NewPaxos, walked along the way that answers true. Conditions: what its functions compute, told as hypotheses. -/
namespace Go.Proofs.Ytieddpilcpdncaa.PNP
open Go.RowKit Go.Proofs.YtieddpilcpdncaaW.PrintWords Go.Proofs.YtieddpilcpdncaaW.PrintLast Go.Proofs.YtieddpilcpdncaaW.PrintMore
set_option linter.unusedVariables false
set_option linter.unusedSimpArgs false
/-- A case's four rows, the call's own. -/
structure PX (base : Nat) (W : World) (A0 A1 A2 A3 : Option Addr) (c0 c1 c2 c3 n0 n1 : Nat) (l0 : List S103) (l1 : List S107) : Prop where
  v : Kd.R k103 103 W base (fun _ => True) (.slice A0 n0 c0) l0
  a : Kd.R k107 107 W base (fun _ => True) (.slice A1 n1 c1) l1
  n : Kd.R k110 110 W base (fun _ => True) (.slice A2 0 c2) []
  t : Kd.R k113 113 W base (fun _ => True) (.slice A3 0 c3) []
theorem PX.below {base : Nat} {W W' : World} {A0 A1 A2 A3 : Option Addr} {c0 c1 c2 c3 n0 n1 : Nat} {l0 : List S103} {l1 : List S107} (h : PX base W A0 A1 A2 A3 c0 c1 c2 c3 n0 n1 l0 l1) (hb : Below W.heap.size W W') : PX base W' A0 A1 A2 A3 c0 c1 c2 c3 n0 n1 l0 l1 :=
  ⟨Kd.R_below h.v hb, Kd.R_below h.a hb, Kd.R_below h.n hb, Kd.R_below h.t hb⟩
theorem eq_c {ke : Nat} {l0 : List S103} {l1 : List S107} (heq : laws_eqPaxos.f ke l0 l1 [] [] l0 l1 [] [] = some true) {b1 b2 : Nat} {W : World} {A0 A1 A2 A3 B0 B1 B2 B3 : Option Addr} {c0 c1 c2 c3 d0 d1 d2 d3 : Nat}
    (G : PX b1 W A0 A1 A2 A3 c0 c1 c2 c3 l0.length l1.length l0 l1) (S : PX b2 W B0 B1 B2 B3 d0 d1 d2 d3 l0.length l1.length l0 l1) :
    Calls Try.prog 9 #[.agg #[.slice A0 l0.length c0, .slice A1 l1.length c1, .slice A2 0 c2, .slice A3 0 c3], .agg #[.slice B0 l0.length d0, .slice B1 l1.length d1, .slice B2 0 d2, .slice B3 0 d3]] W fun e w' => e = .returned (.bool true) ∧ Below W.heap.size W w' :=
  laws_eqPaxos.calls ke A0 c0 l0 A1 c1 l1 A2 c2 [] A3 c3 [] B0 d0 l0 B1 d1 l1 B2 d2 [] B3 d3 [] true W (Kd.R_reads' G.v).2.2 (Kd.R_reads' G.v).2.1 (Kd.R_reads' G.a).2.2 (Kd.R_reads' G.a).2.1 (Kd.R_reads' G.n).2.2 (Kd.R_reads' G.n).2.1 (Kd.R_reads' G.t).2.2 (Kd.R_reads' G.t).2.1
    (Kd.R_reads' S.v).2.2 (Kd.R_reads' S.v).2.1 (Kd.R_reads' S.a).2.2 (Kd.R_reads' S.a).2.1 (Kd.R_reads' S.n).2.2 (Kd.R_reads' S.n).2.1 (Kd.R_reads' S.t).2.2 (Kd.R_reads' S.t).2.1 heq
theorem held_c (T : Int → ByteArray) (ht : ∀ z, 0 ≤ z → z ≤ 10000 → ∃ k, laws_markText.f k z = some (T z)) {A0 A1 : Option Addr} (A2 A3 : Option Addr) {c0 c1 : Nat} (c2 c3 : Nat) {n0 n1 base : Nat} {l0 : List S103} {l1 : List S107} (m0 kv : Nat) (hv : laws_heldVoterS.f kv l0 1 = some (m0 : Int)) (hm0 : m0 ≤ 1000) (hl1 : n1 ≤ 1000)
    (hm : ∀ j : Int, 0 ≤ j → j < n1 → (rd_T107 l1 j).f3 = [] ∧ rd_T107 l1 j = mkA T (m0 + 6 * j) (rd_T107 l1 j)) (w : World) (h0 : Kd.R k103 103 w base (fun _ => True) (.slice A0 n0 c0) l0) (h1 : Kd.R k107 107 w base (fun _ => True) (.slice A1 n1 c1) l1) :
    Calls Try.prog 11 #[.agg #[.slice A0 n0 c0, .slice A1 n1 c1, .slice A2 0 c2, .slice A3 0 c3], .int .i64 1] w fun e w' => e = .returned (.int .i64 (m0 + 6 * n1)) ∧ Below w.heap.size w w' := by
  obtain ⟨e0, d0, r0⟩ := Kd.R_reads' h0
  obtain ⟨e1, d1, r1⟩ := Kd.R_reads' h1
  subst e0 e1
  exact heldPax_c T ht A0 A1 A2 A3 c0 c1 c2 c3 l0 l1 m0 kv hv hm0 hl1 hm w r0 d0 r1
theorem marked_ok {T : Int → ByteArray} {m0 : Nat} {l1 y1 : List S107} (hl3 : ∀ x ∈ l1, x.f3 = []) (hy : y1.length = l1.length ∧ ∀ j : Int, 0 ≤ j → j < l1.length → rd_T107 y1 j = mkA T (m0 + 6 * j) (rd_T107 l1 j)) :
    ∀ j : Int, 0 ≤ j → j < l1.length → (rd_T107 y1 j).f3 = [] ∧ rd_T107 y1 j = mkA T (m0 + 6 * j) (rd_T107 y1 j) := by
  intro j h0 h1
  rw [hy.2 j h0 h1]
  refine ⟨?_, rfl⟩
  show (rd_T107 l1 j).f3 = []
  apply hl3
  unfold rd_T107
  rw [List.getD_eq_getElem?_getD, List.getElem?_eq_getElem (by omega)]
  exact List.getElem_mem _
set_option maxRecDepth 100000 in
set_option maxHeartbeats 4000000 in
theorem law_c (T : Int → ByteArray) (ht : ∀ z, 0 ≤ z → z ≤ 10000 → ∃ k, laws_markText.f k z = some (T z)) (a b : Int) (l0 y0 : List S103) (l1 : List S107) (bb : Bool) (hS : spec_NewPaxos.f a b = some (l0, l1, [], [], bb)) (hI : impl_NewPaxos.f a b = some (l0, l1, [], [], bb))
    (m0 kv kh ke : Nat) (hv : laws_markVoterS.f kv l0 1 = some ((m0 : Int), y0)) (hh : laws_heldVoterS.f kh y0 1 = some (m0 : Int)) (hm0 : m0 ≤ 1000) (hl1 : l1.length ≤ 1000) (hl3 : ∀ x ∈ l1, x.f3 = []) (heq : laws_eqPaxos.f ke l0 l1 [] [] l0 l1 [] [] = some true) (w : World) :
    Calls Try.prog 3 #[.int .i64 a, .int .i64 b] w fun e w' => e = .returned (.bool true) ∧ Below w.heap.size w w' := by
  have HT := Aside0.mk ht
  have HS := Aside0.mk hS
  have HI := Aside0.mk hI
  have HV := Aside0.mk hv
  have HH := Aside0.mk hh
  have HE := Aside0.mk heq
  have HL := Aside0.mk hl3
  clear ht hS hI hv hh heq hl3
  go_enter Try.func3, Try.ntmps3
  go_upto_region 3 with (first | (go_at_call 7; refine (spec_NewPaxos.calls a b l0 l1 [] [] bb _ HS.out).mono ?_; rintro e w1 ⟨s0, s1, s2, s3, rfl, r0, r1, r2, r3, hb⟩; obtain ⟨A0, c0, rfl⟩ := Kd.R_slice r0; obtain ⟨A1, c1, rfl⟩ := Kd.R_slice (Kd.S_R r1); obtain ⟨A2, c2, rfl⟩ := Kd.R_slice r2; obtain ⟨A3, c3, rfl⟩ := Kd.R_slice r3; have P1 := Aside0.mk (PX.mk r0 (Kd.S_R r1) r2 r3); have HB1 := Aside0.mk hb; clear r0 r1 r2 r3 hb) | (go_at_call 8; refine (impl_NewPaxos.calls a b l0 l1 [] [] bb _ HI.out).mono ?_; rintro e w3 ⟨s0, s1, s2, s3, rfl, r0, r1, r2, r3, hb⟩; obtain ⟨B0, d0, rfl⟩ := Kd.R_slice r0; obtain ⟨B1, d1, rfl⟩ := Kd.R_slice (Kd.S_R r1); obtain ⟨B2, d2, rfl⟩ := Kd.R_slice r2; obtain ⟨B3, d3, rfl⟩ := Kd.R_slice r3; have G3 := Aside0.mk (PX.mk r0 (Kd.S_R r1) r2 r3); have HB3 := Aside0.mk hb; clear r0 r1 r2 r3 hb))
  obtain ⟨W2, hW2⟩ : ∃ W2, W2 = w1.alloc (.cells #[.slice A0 l0.length c0, .slice A1 l1.length c1, .slice A2 0 c2, .slice A3 0 c3] 27) := ⟨_, rfl⟩
  have hb3 : Below W2.heap.size W2 w3 := by rw [hW2]; exact HB3.out
  have g3 : PX W2.heap.size w3 B0 B1 B2 B3 d0 d1 d2 d3 l0.length l1.length l0 l1 := by rw [hW2]; exact G3.out
  have S2 : PX w.heap.size W2 A0 A1 A2 A3 c0 c1 c2 c3 l0.length l1.length l0 l1 := by rw [hW2]; exact P1.out.below (below_alloc (Below.refl _ _) _)
  have b5 : W2.heap[w1.heap.size]? = some (.cells #[.slice A0 l0.length c0, .slice A1 l1.length c1, .slice A2 0 c2, .slice A3 0 c3] 27 (0, 0)) := by rw [hW2]; exact blk_new w1 _
  have hw2 : Below w.heap.size w W2 := by rw [hW2]; exact below_alloc HB1.out _
  clear G3 HB3 P1
  obtain ⟨W4, hW4⟩ : ∃ W4, W4 = w3.alloc (.cells #[.slice B0 l0.length d0, .slice B1 l1.length d1, .slice B2 0 d2, .slice B3 0 d3] 27) := ⟨_, rfl⟩
  have HB4 := Aside0.mk (show Below W2.heap.size W2 W4 by rw [hW4]; exact below_alloc hb3 _)
  have G4 := Aside0.mk (show PX W2.heap.size W4 B0 B1 B2 B3 d0 d1 d2 d3 l0.length l1.length l0 l1 by rw [hW4]; exact g3.below (below_alloc (Below.refl _ _) _))
  have BK7 := Aside0.mk (show W4.heap[w3.heap.size]? = some (.cells #[.slice B0 l0.length d0, .slice B1 l1.length d1, .slice B2 0 d2, .slice B3 0 d3] 27 (0, 0)) by rw [hW4]; exact blk_new w3 _)
  have S := Aside0.mk S2
  have BK5 := Aside0.mk b5
  have HW2 := Aside0.mk hw2
  clear S2 b5 hw2 hb3 g3 hW2 HB1
  rw [← hW4]
  clear hW4
  have k50 : W4.cell? ⟨w1.heap.size, 0, none⟩ = some (.slice A0 l0.length c0) := (blk_cell (blk_below BK5.out HB4.out) 0).trans rfl
  have k51 : W4.cell? ⟨w1.heap.size, 1, none⟩ = some (.slice A1 l1.length c1) := (blk_cell (blk_below BK5.out HB4.out) 1).trans rfl
  have k52 : W4.cell? ⟨w1.heap.size, 2, none⟩ = some (.slice A2 0 c2) := (blk_cell (blk_below BK5.out HB4.out) 2).trans rfl
  have k53 : W4.cell? ⟨w1.heap.size, 3, none⟩ = some (.slice A3 0 c3) := (blk_cell (blk_below BK5.out HB4.out) 3).trans rfl
  have k70 : W4.cell? ⟨w3.heap.size, 0, none⟩ = some (.slice B0 l0.length d0) := (blk_cell BK7.out 0).trans rfl
  have k71 : W4.cell? ⟨w3.heap.size, 1, none⟩ = some (.slice B1 l1.length d1) := (blk_cell BK7.out 1).trans rfl
  have k72 : W4.cell? ⟨w3.heap.size, 2, none⟩ = some (.slice B2 0 d2) := (blk_cell BK7.out 2).trans rfl
  have k73 : W4.cell? ⟨w3.heap.size, 3, none⟩ = some (.slice B3 0 d3) := (blk_cell BK7.out 3).trans rfl
  go_upto_region 5 with (first | (go_at_call 9; refine (eq_c HE.out G4.out (S.out.below HB4.out)).mono ?_; rintro e w5 ⟨rfl, hb⟩; have HB5 := Aside0.mk (below_step HB4.out hb); have G5 := Aside0.mk (G4.out.below hb); have BK75 := Aside0.mk (blk_below BK7.out hb); clear hb; have p0 : w5.cell? ⟨w3.heap.size, 0, none⟩ = some (.slice B0 l0.length d0) := (blk_cell BK75.out 0).trans rfl; have p1 : w5.cell? ⟨w3.heap.size, 1, none⟩ = some (.slice B1 l1.length d1) := (blk_cell BK75.out 1).trans rfl; have p2 : w5.cell? ⟨w3.heap.size, 2, none⟩ = some (.slice B2 0 d2) := (blk_cell BK75.out 2).trans rfl; have p3 : w5.cell? ⟨w3.heap.size, 3, none⟩ = some (.slice B3 0 d3) := (blk_cell BK75.out 3).trans rfl))
  clear k50 k51 k52 k53 k70 k71 k72 k73
  go_upto_region 7 with (first | (go_at_call 10; refine (markPax_c T HT.out _ _ B2 B3 d2 d3 l0 y0 l1 m0 kv HV.out hm0 hl1 HL.out W2 w5 HB5.out G5.out.v G5.out.a).mono ?_; rintro e w6 ⟨y1, rfl, hy, rv, ra, hb, hk⟩; have HY := hy; have HB6 := Aside0.mk hb; have BK76 := Aside0.mk (hk _ _ BK75.out); have RV6 := Aside0.mk rv; have RA6 := Aside0.mk ra; clear hy hb hk rv ra; have o0 : w6.cell? ⟨w3.heap.size, 0, none⟩ = some (.slice B0 l0.length d0) := (blk_cell BK76.out 0).trans rfl; have o1 : w6.cell? ⟨w3.heap.size, 1, none⟩ = some (.slice B1 l1.length d1) := (blk_cell BK76.out 1).trans rfl; have o2 : w6.cell? ⟨w3.heap.size, 2, none⟩ = some (.slice B2 0 d2) := (blk_cell BK76.out 2).trans rfl; have o3 : w6.cell? ⟨w3.heap.size, 3, none⟩ = some (.slice B3 0 d3) := (blk_cell BK76.out 3).trans rfl))
  clear p0 p1 p2 p3
  have nn1 : ¬ ((m0 : Int) + 6 * l1.length < 0) := by omega
  go_upto_region 13 with (first | (go_at_call 11; refine (held_c T HT.out B2 B3 d2 d3 m0 kh HH.out hm0 hl1 (marked_ok HL.out HY.out) w6 RV6.out RA6.out).mono ?_; rintro e w7 ⟨rfl, hb⟩; have HB7 := Aside0.mk (below_step HB6.out hb); have RV7 := Aside0.mk (Kd.R_below RV6.out hb); have RA7 := Aside0.mk (Kd.R_below RA6.out hb); have BK77 := Aside0.mk (blk_below BK76.out hb); clear hb))
  clear o0 o1 o2 o3
  go_upto_region 14 with (first | (go_at_call 8; refine (impl_NewPaxos.calls a b l0 l1 [] [] bb _ HI.out).mono ?_; rintro e w8 ⟨s0, s1, s2, s3, rfl, r0, r1, r2, r3, hb⟩; obtain ⟨D0, e0, rfl⟩ := Kd.R_slice r0; obtain ⟨D1, e1, rfl⟩ := Kd.R_slice (Kd.S_R r1); obtain ⟨D2, e2, rfl⟩ := Kd.R_slice r2; obtain ⟨D3, e3, rfl⟩ := Kd.R_slice r3; have G8 := Aside0.mk (PX.mk r0 (Kd.S_R r1) r2 r3); have HB8 := Aside0.mk (below_step HB7.out hb); have RV8 := Aside0.mk (Kd.R_below RV7.out hb); have RA8 := Aside0.mk (Kd.R_below RA7.out hb); have BK78 := Aside0.mk (blk_below BK77.out hb); clear r0 r1 r2 r3 hb))
  obtain ⟨W9, hW9⟩ : ∃ W9, W9 = w8.alloc (.cells #[.slice D0 l0.length e0, .slice D1 l1.length e1, .slice D2 0 e2, .slice D3 0 e3] 27) := ⟨_, rfl⟩
  have hal : Below w8.heap.size w8 W9 := by rw [hW9]; exact below_alloc (Below.refl _ _) _
  have HB9 := Aside0.mk (below_step HB8.out hal)
  have RV9 := Aside0.mk (Kd.R_below RV8.out hal)
  have RA9 := Aside0.mk (Kd.R_below RA8.out hal)
  have BK79 := Aside0.mk (blk_below BK78.out hal)
  have G9 := Aside0.mk (G8.out.below hal)
  have BK11 := Aside0.mk (show W9.heap[w8.heap.size]? = some (.cells #[.slice D0 l0.length e0, .slice D1 l1.length e1, .slice D2 0 e2, .slice D3 0 e3] 27 (0, 0)) by rw [hW9]; exact blk_new w8 _)
  have BK59 := Aside0.mk (blk_below BK5.out HB9.out)
  rw [← hW9]
  clear hal hW9
  have k0 : W9.cell? ⟨w1.heap.size, 0, none⟩ = some (.slice A0 l0.length c0) := (blk_cell BK59.out 0).trans rfl
  have k1 : W9.cell? ⟨w1.heap.size, 1, none⟩ = some (.slice A1 l1.length c1) := (blk_cell BK59.out 1).trans rfl
  have k2 : W9.cell? ⟨w1.heap.size, 2, none⟩ = some (.slice A2 0 c2) := (blk_cell BK59.out 2).trans rfl
  have k3 : W9.cell? ⟨w1.heap.size, 3, none⟩ = some (.slice A3 0 c3) := (blk_cell BK59.out 3).trans rfl
  have h110 : W9.cell? ⟨w8.heap.size, 0, none⟩ = some (.slice D0 l0.length e0) := (blk_cell BK11.out 0).trans rfl
  have h111 : W9.cell? ⟨w8.heap.size, 1, none⟩ = some (.slice D1 l1.length e1) := (blk_cell BK11.out 1).trans rfl
  have h112 : W9.cell? ⟨w8.heap.size, 2, none⟩ = some (.slice D2 0 e2) := (blk_cell BK11.out 2).trans rfl
  have h113 : W9.cell? ⟨w8.heap.size, 3, none⟩ = some (.slice D3 0 e3) := (blk_cell BK11.out 3).trans rfl
  go_upto_region 16 with (first | (go_at_call 9; refine (eq_c HE.out G9.out (S.out.below HB9.out)).mono ?_; rintro e w10 ⟨rfl, hb⟩; have HB10 := Aside0.mk (below_step HB9.out hb); have RV10 := Aside0.mk (Kd.R_below RV9.out hb); have RA10 := Aside0.mk (Kd.R_below RA9.out hb); have BK710 := Aside0.mk (blk_below BK79.out hb); clear hb; have o0 : w10.cell? ⟨w3.heap.size, 0, none⟩ = some (.slice B0 l0.length d0) := (blk_cell BK710.out 0).trans rfl; have o1 : w10.cell? ⟨w3.heap.size, 1, none⟩ = some (.slice B1 l1.length d1) := (blk_cell BK710.out 1).trans rfl; have o2 : w10.cell? ⟨w3.heap.size, 2, none⟩ = some (.slice B2 0 d2) := (blk_cell BK710.out 2).trans rfl; have o3 : w10.cell? ⟨w3.heap.size, 3, none⟩ = some (.slice B3 0 d3) := (blk_cell BK710.out 3).trans rfl))
  clear k0 k1 k2 k3 h110 h111 h112 h113
  go_wp2_with (first | (go_at_call 11; refine (held_c T HT.out B2 B3 d2 d3 m0 kh HH.out hm0 hl1 (marked_ok HL.out HY.out) w10 RV10.out RA10.out).mono ?_; rintro e w11 ⟨rfl, hb⟩; have HB11 := Aside0.mk (below_step HB10.out hb); clear hb))
  go_ret
  exact ⟨rfl, below_step HW2.out HB11.out⟩
end Go.Proofs.Ytieddpilcpdncaa.PNP
