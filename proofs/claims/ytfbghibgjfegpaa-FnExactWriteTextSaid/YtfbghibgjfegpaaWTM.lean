import Derived.Test.YtfbghibgjfegpaaWTL
import Derived.Test.YtfbghibgjfegpaaPWTx9
import Derived.Test.YtfbghibgjfegpaaPWTx3
import Derived.Test.YtfbghibgjfegpaaPWTx6
import Derived.Test.YtfbghibgjfegpaaPWTx2
namespace Go.Proofs.Ytfbghibgjfegpaa.PWT
open Go.RowKit Go.Proofs.YtfbghibgjfegpaaW.PrintWords Go.Proofs.YtfbghibgjfegpaaW.PrintLast Go.Proofs.YtfbghibgjfegpaaW.PrintMore
set_option linter.unusedVariables false
set_option linter.unusedSimpArgs false
theorem held_n {k : Nat} {AG : Option Addr} {cG nG base : Nat} {ok : Nat → Prop} {G : List S57} {R W m : Int} {w : World} (hR : Kd.R k57 57 w base ok (.slice AG nG cG) G) (h : laws_heldVoting.f k G R W 1 = some m) :
    Calls Try.prog 28 #[.agg #[.slice AG nG cG, .int .i64 R, .int .i64 W], .int .i64 1] w fun e w' => e = .returned (.int .i64 m) ∧ Below w.heap.size w w' := by
  obtain ⟨e0, d0, r0⟩ := Kd.R_reads' hR
  subst e0
  exact laws_heldVoting.calls k AG cG G R W 1 m w r0 d0 h
set_option maxRecDepth 100000 in
set_option maxHeartbeats 4000000 in
theorem write_law (A : Option Addr) (c : Nat) (l : List S98) (R Wt : Int) (A1 : Option Addr) (c1 : Nat) (s : List Int) (w : World) (hr : Kd.C k98 w A l.length l) (hc : l.length ≤ c) (hs : Kd.C (Kd.int .i64) w A1 s.length s) (hc1 : s.length ≤ c1) (hn : ¬ (s.length : Int) > 1048576) (t : ByteArray) (hnt : ¬ (t.size : Int) > 1048576) (ks : Nat)
    (kz kt ki ke kc kei kx km kg kh : Nat) (r : Int) (hz : laws_szVoting.f kz l R Wt 1048576 = some r) (hr0 : ¬ r < 0) (C : List S57) (ht : laws_toVoting.f kt l R Wt = some (C, R, Wt)) (hi : laws_toIntS.f ki s = some s) (L : List S57) (R' W' : Int) (b : Bool)
    (hS : spec_WriteText.f ks C R Wt s t = some (L, R', W', b)) (hP : impl_WriteText.f C R Wt s t = some (L, R', W', b)) (heL : laws_eqVoting.f ke L R' W' L R' W' = some true) (heC : laws_eqVoting.f kc C R Wt C R Wt = some true) (heI : laws_eqIntS.f kei s s = some true)
    (mx : Int) (yx : List S57) (hmx : laws_markVoting.f kx C R Wt 1 = some (mx, yx)) (mi : Int) (yi : List Int) (hmi : laws_markIntS.f km s mx = some (mi, yi)) (hmi0 : 0 ≤ mi) (mg : Int) (yg : List S57) (hmg : laws_markVoting.f kg L R' W' 1 = some (mg, yg)) (hmg0 : 0 ≤ mg) (hhg : laws_heldVoting.f kh yg R' W' 1 = some mg) :
    Calls Try.prog 11 #[.agg #[.slice A l.length c, .int .i64 R, .int .i64 Wt], .slice A1 s.length c1, .string t] w fun e w' => e = .returned (.bool true) ∧ Below w.heap.size w w' := by
  have HR := Aside0.mk hr
  have HC := Aside0.mk hc
  have HSI := Aside0.mk hs
  have HC1 := Aside0.mk hc1
  have HZ := Aside0.mk hz
  have HT := Aside0.mk ht
  have HI := Aside0.mk hi
  have HS := Aside0.mk hS
  have HP := Aside0.mk hP
  have HEL := Aside0.mk heL
  have HEC := Aside0.mk heC
  have HEI := Aside0.mk heI
  have HMX := Aside0.mk hmx
  have HMI := Aside0.mk hmi
  have HMG := Aside0.mk hmg
  have HHG := Aside0.mk hhg
  have d1 : decide (1048576 < (s.length : Int)) = false := decide_eq_false (by omega)
  have d5 : decide (1048576 < (t.size : Int)) = false := decide_eq_false (by omega)
  have d2 : decide (r < 0) = false := decide_eq_false hr0
  have d3 : decide (mi < 0) = false := decide_eq_false (by omega)
  have d4 : decide (mg < 0) = false := decide_eq_false (by omega)
  have HBX := Aside0.mk (below_alloc (Below.refl w.heap.size w) (.cells #[.slice A l.length c, .int .i64 R, .int .i64 Wt] 30))
  clear hr hc hs hc1 hz ht hi hS hP heL heC heI hmx hmi hmg hhg hn hnt hr0
  go_enter Try.func11, Try.ntmps11
  go_upto_region 9 with (first | (go_at_call 17; refine (laws_szVoting.calls kz A c l R Wt 1048576 r _ (Kd.C_alloc HR.out _) HC.out HZ.out).mono ?_; rintro e w2 ⟨rfl, hb⟩; have HB2 := Aside0.mk (below_step HBX.out hb); have K2 := Aside0.mk (blk_below (blk_new w (.cells #[.slice A l.length c, .int .i64 R, .int .i64 Wt] 30)) hb); clear hb; have p0 : w2.cell? ⟨w.heap.size, 0, none⟩ = some (.slice A l.length c) := (blk_cell K2.out 0).trans rfl; have p1 : w2.cell? ⟨w.heap.size, 1, none⟩ = some (.int .i64 R) := (blk_cell K2.out 1).trans rfl; have p2 : w2.cell? ⟨w.heap.size, 2, none⟩ = some (.int .i64 Wt) := (blk_cell K2.out 2).trans rfl))
  go_upto_region 10 with (first | (go_at_call 19; refine (laws_toVoting.calls kt A c l R Wt C R Wt _ (Kd.C_below HR.out HB2.out) HC.out HT.out).mono ?_; rintro e w3 ⟨v0, rfl, ho, hb⟩; obtain ⟨AT, cT, rfl⟩ := Kd.R_slice ho; have RT3 := Aside0.mk ho; have HB3 := Aside0.mk (below_step HB2.out hb); have K23 := Aside0.mk (blk_below K2.out hb); clear ho hb) | (go_at_call 14; refine (laws_toIntS.calls ki A1 c1 s s _ (Kd.C_below HSI.out HB3.out) HC1.out HI.out).mono ?_; rintro e w4 ⟨v0, rfl, ho, hb⟩; obtain ⟨AJ, cJ, rfl⟩ := Kd.R_slice ho; have RJ4 := Aside0.mk ho; have RT4 := Aside0.mk (Kd.R_below RT3.out hb); have HB4 := Aside0.mk (below_step HB3.out hb); have K24 := Aside0.mk (blk_below K23.out hb); clear ho hb) | (go_at_call 38; refine (spec_WriteText.calls ks AT cT C R Wt AJ cJ s t L R' W' b _ (Kd.R_reads' RT4.out).2.2 (Kd.R_reads' RT4.out).2.1 (Kd.R_reads' RJ4.out).2.2 (Kd.R_reads' RJ4.out).2.1 HS.out).mono ?_; rintro e w5 ⟨v0, rfl, ho, hb⟩; obtain ⟨AS, cS, rfl⟩ := Kd.R_slice ho; have RS5 := Aside0.mk (Kd.R_lower ho HB4.out.size); have HB5 := Aside0.mk (below_step HB4.out hb); have K25 := Aside0.mk (blk_below K24.out hb); clear ho hb))
  clear p0 p1 p2
  obtain ⟨W6, hW6⟩ : ∃ W6, W6 = w5.alloc (.cells #[.slice AS L.length cS, .int .i64 R', .int .i64 W'] 35) := ⟨_, rfl⟩
  have hal6 : Below w5.heap.size w5 W6 := by rw [hW6]; exact below_alloc (Below.refl _ _) _
  have HB6 := Aside0.mk (below_step HB5.out hal6)
  have RS6 := Aside0.mk (Kd.R_below RS5.out hal6)
  have K26 := Aside0.mk (blk_below K25.out hal6)
  have K66 := Aside0.mk (show W6.heap[w5.heap.size]? = some (.cells #[.slice AS L.length cS, .int .i64 R', .int .i64 W'] 35 (0, 0)) by rw [hW6]; exact blk_new w5 _)
  rw [← hW6]
  clear hal6 hW6 RS5 HB5 K25 RT3 RT4 RJ4 HB3 HB4 K23 K24 K2 HB2
  have p0 : W6.cell? ⟨w.heap.size, 0, none⟩ = some (.slice A l.length c) := (blk_cell K26.out 0).trans rfl
  have p1 : W6.cell? ⟨w.heap.size, 1, none⟩ = some (.int .i64 R) := (blk_cell K26.out 1).trans rfl
  have p2 : W6.cell? ⟨w.heap.size, 2, none⟩ = some (.int .i64 Wt) := (blk_cell K26.out 2).trans rfl
  go_upto_region 11 with (first | (go_at_call 19; refine (laws_toVoting.calls kt A c l R Wt C R Wt _ (Kd.C_below HR.out HB6.out) HC.out HT.out).mono ?_; rintro e w7 ⟨v0, rfl, ho, hb⟩; obtain ⟨AX, cX, rfl⟩ := Kd.R_slice ho; have RX7 := Aside0.mk (Kd.R_lower ho HB6.out.size); have RS7e := Kd.R_elder' (v := .slice AX C.length cX) RS6.out (fun k hk => ((Kd.R_bound ho).1 k hk).2.1) hb; have HB7 := Aside0.mk (below_step HB6.out hb); have RS7 := Aside0.mk RS7e; clear RS7e; have K27 := Aside0.mk (blk_below K26.out hb); have K67 := Aside0.mk (blk_below K66.out hb); clear ho hb))
  clear p0 p1 p2
  obtain ⟨W8, hW8⟩ : ∃ W8, W8 = w7.alloc (.cells #[.slice AX C.length cX, .int .i64 R, .int .i64 Wt] 35) := ⟨_, rfl⟩
  have hal8 : Below w7.heap.size w7 W8 := by rw [hW8]; exact below_alloc (Below.refl _ _) _
  have HB8 := Aside0.mk (below_step HB7.out hal8)
  have RX8 := Aside0.mk (Kd.R_below RX7.out hal8)
  have RS8 := Aside0.mk (Kd.R_below RS7.out hal8)
  have K28 := Aside0.mk (blk_below K27.out hal8)
  have K68 := Aside0.mk (blk_below K67.out hal8)
  have K98 := Aside0.mk (show W8.heap[w7.heap.size]? = some (.cells #[.slice AX C.length cX, .int .i64 R, .int .i64 Wt] 35 (0, 0)) by rw [hW8]; exact blk_new w7 _)
  rw [← hW8]
  clear hal8 hW8 RX7 HB7 RS7 K27 K67
  go_upto_region 12 with (first | (go_at_call 14; refine (laws_toIntS.calls ki A1 c1 s s _ (Kd.C_below HSI.out HB8.out) HC1.out HI.out).mono ?_; rintro e w9 ⟨v0, rfl, ho, hb⟩; obtain ⟨AI, cI, rfl⟩ := Kd.R_slice ho; have RI9 := Aside0.mk (Kd.R_lower (Kd.R_new' (u := .slice AX C.length cX) ho (Kd.R_lt RX8.out)) HB8.out.size); have RX9 := Aside0.mk (Kd.R_below RX8.out hb); have RS9 := Aside0.mk (Kd.R_below RS8.out hb); have HB9 := Aside0.mk (below_step HB8.out hb); have K29 := Aside0.mk (blk_below K28.out hb); have K69 := Aside0.mk (blk_below K68.out hb); have K99 := Aside0.mk (blk_below K98.out hb); clear ho hb; have p0 : w9.cell? ⟨w7.heap.size, 0, none⟩ = some (.slice AX C.length cX) := (blk_cell K99.out 0).trans rfl; have p1 : w9.cell? ⟨w7.heap.size, 1, none⟩ = some (.int .i64 R) := (blk_cell K99.out 1).trans rfl; have p2 : w9.cell? ⟨w7.heap.size, 2, none⟩ = some (.int .i64 Wt) := (blk_cell K99.out 2).trans rfl))
  go_upto_region 13 with (first | (go_at_call 39; refine (impl_WriteText.calls AX cX C R Wt AI cI s t L R' W' b _ (Kd.R_reads' RX9.out).2.2 (Kd.R_reads' RX9.out).2.1 (Kd.R_reads' RI9.out).2.2 (Kd.R_reads' RI9.out).2.1 HP.out).mono ?_; rintro e w10 ⟨v0, rfl, ho, hb⟩; obtain ⟨AG, cG, rfl⟩ := Kd.R_slice ho; have hgb : ∀ k, (Value.slice AG L.length cG).ownBlock = some k → w9.heap.size ≤ k := (fun k hk => ((Kd.R_bound ho).1 k hk).2.1); have RG10 := Aside0.mk (Kd.R_lower (Kd.R_new' (u := .slice AX C.length cX) ho (Kd.R_lt RX9.out)) HB9.out.size); have RS10 := Aside0.mk (Kd.R_elder' RS9.out hgb hb); have RI10 := Aside0.mk (Kd.R_elder' RI9.out hgb hb); have RX10 := Aside0.mk (Kd.R_below RX9.out hb); have HB10 := Aside0.mk (below_step HB9.out hb); have K210 := Aside0.mk (blk_below K29.out hb); have K610 := Aside0.mk (blk_below K69.out hb); have K910 := Aside0.mk (blk_below K99.out hb); clear ho hb hgb))
  clear p0 p1 p2
  obtain ⟨W11, hW11⟩ : ∃ W11, W11 = w10.alloc (.cells #[.slice AG L.length cG, .int .i64 R', .int .i64 W'] 35) := ⟨_, rfl⟩
  have hal : Below w10.heap.size w10 W11 := by rw [hW11]; exact below_alloc (Below.refl _ _) _
  have HST := Aside0.mk (show St w A c l.length R Wt w.heap.size w5.heap.size w7.heap.size w10.heap.size AS AX AI AG cS cX cI cG L.length C.length s.length L.length R' W' R' W' L C L s W11 from
    ⟨below_step HB10.out hal, blk_below K210.out hal, blk_below K610.out hal, blk_below K910.out hal, by rw [hW11]; exact blk_new w10 _,
      Kd.R_below (Kd.R_mono RS10.out (fun k hk => ⟨hk.1.2, hk.2⟩)) hal, Kd.R_below (Kd.R_tight rfl RX10.out) hal, Kd.R_below (Kd.R_mono (Kd.R_tight rfl RG10.out) (fun k hk => ⟨hk, (RG10.out.1 k hk.symm).2⟩)) hal, Kd.R_below (Kd.R_mono RI10.out (fun k hk => ⟨hk.1.2, hk.2⟩)) hal⟩)
  rw [← hW11]
  clear hal hW11 RS10 RX10 RG10 RI10 HB10 K210 K610 K910 RX9 RS9 HB9 K29 K69 K99 RX8 RS8 HB8 K28 K68 K98 RI9
  have g0 : W11.cell? ⟨w10.heap.size, 0, none⟩ = some (.slice AG L.length cG) := (blk_cell HST.out.k11 0).trans rfl
  have g1 : W11.cell? ⟨w10.heap.size, 1, none⟩ = some (.int .i64 R') := (blk_cell HST.out.k11 1).trans rfl
  have g2 : W11.cell? ⟨w10.heap.size, 2, none⟩ = some (.int .i64 W') := (blk_cell HST.out.k11 2).trans rfl
  have q0 : W11.cell? ⟨w5.heap.size, 0, none⟩ = some (.slice AS L.length cS) := (blk_cell HST.out.k6 0).trans rfl
  have q1 : W11.cell? ⟨w5.heap.size, 1, none⟩ = some (.int .i64 R') := (blk_cell HST.out.k6 1).trans rfl
  have q2 : W11.cell? ⟨w5.heap.size, 2, none⟩ = some (.int .i64 W') := (blk_cell HST.out.k6 2).trans rfl
  go_upto_region 15 with (first | (go_at_call 21; refine (laws_eqVoting.calls ke AG cG L R' W' AS cS L R' W' true _ (Kd.R_reads' HST.out.rG).2.2 (Kd.R_reads' HST.out.rG).2.1 (Kd.R_reads' HST.out.rS).2.2 (Kd.R_reads' HST.out.rS).2.1 HEL.out).mono ?_; rintro e w12 ⟨rfl, hb⟩; have HST12 := Aside0.mk (HST.out.below hb); clear hb))
  clear g0 g1 g2 q0 q1 q2
  go_cut [63] (fun s63 wx => s63 = .bool false ∧ Aside0 (St w A c l.length R Wt w.heap.size w5.heap.size w7.heap.size w10.heap.size AS AX AI AG cS cX cI cG L.length C.length s.length L.length R' W' R' W' L C L s wx))
  case first =>
    have q0 : w12.cell? ⟨w7.heap.size, 0, none⟩ = some (.slice AX C.length cX) := (blk_cell HST12.out.k9 0).trans rfl
    have q1 : w12.cell? ⟨w7.heap.size, 1, none⟩ = some (.int .i64 R) := (blk_cell HST12.out.k9 1).trans rfl
    have q2 : w12.cell? ⟨w7.heap.size, 2, none⟩ = some (.int .i64 Wt) := (blk_cell HST12.out.k9 2).trans rfl
    have g0 : w12.cell? ⟨w.heap.size, 0, none⟩ = some (.slice A l.length c) := (blk_cell HST12.out.k2 0).trans rfl
    have g1 : w12.cell? ⟨w.heap.size, 1, none⟩ = some (.int .i64 R) := (blk_cell HST12.out.k2 1).trans rfl
    have g2 : w12.cell? ⟨w.heap.size, 2, none⟩ = some (.int .i64 Wt) := (blk_cell HST12.out.k2 2).trans rfl
    go_region_held3 (fun w' => w'.cell? ⟨w7.heap.size, 0, none⟩ = some (.slice AX C.length cX) ∧ w'.cell? ⟨w7.heap.size, 1, none⟩ = some (.int .i64 R) ∧ w'.cell? ⟨w7.heap.size, 2, none⟩ = some (.int .i64 Wt) ∧ w'.cell? ⟨w.heap.size, 0, none⟩ = some (.slice A l.length c) ∧ w'.cell? ⟨w.heap.size, 1, none⟩ = some (.int .i64 R) ∧ w'.cell? ⟨w.heap.size, 2, none⟩ = some (.int .i64 Wt)) (go_keep) (first | (go_at_call 19; refine (laws_toVoting.calls kt A c l R Wt C R Wt _ (Kd.C_below HR.out (below_drew1 HST12.out.bel)) HC.out HT.out).mono ?_; rintro e w13 ⟨v0, rfl, ho, hb⟩; obtain ⟨AV, cV, rfl⟩ := Kd.R_slice ho; have HST13 := Aside0.mk ((HST12.out.below (below_drew1 (Below.refl _ _))).below hb); have RV := Aside0.mk ho; clear ho hb; have z0 : w13.cell? ⟨w7.heap.size, 0, none⟩ = some (.slice AX C.length cX) := (blk_cell HST13.out.k9 0).trans rfl; have z1 : w13.cell? ⟨w7.heap.size, 1, none⟩ = some (.int .i64 R) := (blk_cell HST13.out.k9 1).trans rfl; have z2 : w13.cell? ⟨w7.heap.size, 2, none⟩ = some (.int .i64 Wt) := (blk_cell HST13.out.k9 2).trans rfl; have y0 : w13.cell? ⟨w.heap.size, 0, none⟩ = some (.slice A l.length c) := (blk_cell HST13.out.k2 0).trans rfl; have y1 : w13.cell? ⟨w.heap.size, 1, none⟩ = some (.int .i64 R) := (blk_cell HST13.out.k2 1).trans rfl; have y2 : w13.cell? ⟨w.heap.size, 2, none⟩ = some (.int .i64 Wt) := (blk_cell HST13.out.k2 2).trans rfl) | (go_at_call 21; refine (laws_eqVoting.calls kc AX cX C R Wt AV cV C R Wt true _ (Kd.R_reads' HST13.out.rX).2.2 (Kd.R_reads' HST13.out.rX).2.1 (Kd.R_reads' RV.out).2.2 (Kd.R_reads' RV.out).2.1 HEC.out).mono ?_; rintro e w14 ⟨rfl, hb⟩; have HST14 := Aside0.mk (HST13.out.below hb); clear hb; have u0 : w14.cell? ⟨w7.heap.size, 0, none⟩ = some (.slice AX C.length cX) := (blk_cell HST14.out.k9 0).trans rfl; have u1 : w14.cell? ⟨w7.heap.size, 1, none⟩ = some (.int .i64 R) := (blk_cell HST14.out.k9 1).trans rfl; have u2 : w14.cell? ⟨w7.heap.size, 2, none⟩ = some (.int .i64 Wt) := (blk_cell HST14.out.k9 2).trans rfl; have t0 : w14.cell? ⟨w.heap.size, 0, none⟩ = some (.slice A l.length c) := (blk_cell HST14.out.k2 0).trans rfl; have t1 : w14.cell? ⟨w.heap.size, 1, none⟩ = some (.int .i64 R) := (blk_cell HST14.out.k2 1).trans rfl; have t2 : w14.cell? ⟨w.heap.size, 2, none⟩ = some (.int .i64 Wt) := (blk_cell HST14.out.k2 2).trans rfl))
    all_goals (go_wp2_with fail; go_meet; exact ⟨by first | rfl | simp, HST14⟩)
  case rest =>
    obtain ⟨rfl, HST14⟩ := hcut
    go_upto_region 20 with (first | (go_at_call 14; refine (laws_toIntS.calls ki A1 c1 s s _ (Kd.C_below HSI.out HST14.out.bel) HC1.out HI.out).mono ?_; rintro e w15 ⟨v0, rfl, ho, hb⟩; obtain ⟨AK, cK, rfl⟩ := Kd.R_slice ho; have HST15 := Aside0.mk (HST14.out.below hb); have RK := Aside0.mk ho; clear ho hb) | (go_at_call 16; refine (laws_eqIntS.calls kei AI cI s AK cK s true _ (Kd.R_reads' HST15.out.rI).2.2 (Kd.R_reads' HST15.out.rI).2.1 (Kd.R_reads' RK.out).2.2 (Kd.R_reads' RK.out).2.1 HEI.out).mono ?_; rintro e w16 ⟨rfl, hd⟩; have HST16 := Aside0.mk (HST15.out.below hd.below); clear hd; have z0 : w16.cell? ⟨w7.heap.size, 0, none⟩ = some (.slice AX C.length cX) := (blk_cell HST16.out.k9 0).trans rfl; have z1 : w16.cell? ⟨w7.heap.size, 1, none⟩ = some (.int .i64 R) := (blk_cell HST16.out.k9 1).trans rfl; have z2 : w16.cell? ⟨w7.heap.size, 2, none⟩ = some (.int .i64 Wt) := (blk_cell HST16.out.k9 2).trans rfl))
    go_upto_region 21 with (first | (go_at_call 27; refine (laws_markVoting.calls kx (fun k => some k = (Value.slice AX C.length cX).ownBlock) (.slice AX C.length cX) C R Wt 1 mx yx w w16 HST16.out.bel HST16.out.rX HMX.out).mono ?_; rintro e w17 ⟨rfl, hR, hB, hK⟩; have HST17 := Aside0.mk (HST16.out.markX hR hB hK); clear hR hB hK))
    clear z0 z1 z2
    go_upto_region 22 with (first | (go_at_call 26; refine (laws_markIntS.calls km (fun k => some k = (Value.slice AI s.length cI).ownBlock) (.slice AI s.length cI) s mx mi yi w w17 HST17.out.bel (Kd.R_tight rfl HST17.out.rI) HMI.out).mono ?_; rintro e w18 ⟨rfl, hR, hB, hK⟩; have HST18 := Aside0.mk (HST17.out.markI hR hB hK); clear hR hB hK; have g0 : w18.cell? ⟨w10.heap.size, 0, none⟩ = some (.slice AG L.length cG) := (blk_cell HST18.out.k11 0).trans rfl; have g1 : w18.cell? ⟨w10.heap.size, 1, none⟩ = some (.int .i64 R') := (blk_cell HST18.out.k11 1).trans rfl; have g2 : w18.cell? ⟨w10.heap.size, 2, none⟩ = some (.int .i64 W') := (blk_cell HST18.out.k11 2).trans rfl; have q0 : w18.cell? ⟨w5.heap.size, 0, none⟩ = some (.slice AS L.length cS) := (blk_cell HST18.out.k6 0).trans rfl; have q1 : w18.cell? ⟨w5.heap.size, 1, none⟩ = some (.int .i64 R') := (blk_cell HST18.out.k6 1).trans rfl; have q2 : w18.cell? ⟨w5.heap.size, 2, none⟩ = some (.int .i64 W') := (blk_cell HST18.out.k6 2).trans rfl))
    go_upto_region 25 with (first | (go_at_call 21; refine (laws_eqVoting.calls ke AG cG L R' W' AS cS L R' W' true _ (Kd.R_reads' HST18.out.rG).2.2 (Kd.R_reads' HST18.out.rG).2.1 (Kd.R_reads' HST18.out.rS).2.2 (Kd.R_reads' HST18.out.rS).2.1 HEL.out).mono ?_; rintro e w19 ⟨rfl, hb⟩; have HST19 := Aside0.mk (HST18.out.below hb); clear hb; have z0 : w19.cell? ⟨w10.heap.size, 0, none⟩ = some (.slice AG L.length cG) := (blk_cell HST19.out.k11 0).trans rfl; have z1 : w19.cell? ⟨w10.heap.size, 1, none⟩ = some (.int .i64 R') := (blk_cell HST19.out.k11 1).trans rfl; have z2 : w19.cell? ⟨w10.heap.size, 2, none⟩ = some (.int .i64 W') := (blk_cell HST19.out.k11 2).trans rfl))
    clear g0 g1 g2 q0 q1 q2
    go_upto_region 26 with (first | (go_at_call 27; refine (laws_markVoting.calls kg (fun k => some k = (Value.slice AG L.length cG).ownBlock) (.slice AG L.length cG) L R' W' 1 mg yg w w19 HST19.out.bel (Kd.R_tight rfl HST19.out.rG) HMG.out).mono ?_; rintro e w20 ⟨rfl, hR, hB, hK⟩; have HST20 := Aside0.mk (HST19.out.markG hR hB hK); clear hR hB hK; have g0 : w20.cell? ⟨w10.heap.size, 0, none⟩ = some (.slice AG L.length cG) := (blk_cell HST20.out.k11 0).trans rfl; have g1 : w20.cell? ⟨w10.heap.size, 1, none⟩ = some (.int .i64 R') := (blk_cell HST20.out.k11 1).trans rfl; have g2 : w20.cell? ⟨w10.heap.size, 2, none⟩ = some (.int .i64 W') := (blk_cell HST20.out.k11 2).trans rfl))
    clear z0 z1 z2
    go_upto_region 32 with (first | (go_at_call 28; refine (held_n HST20.out.rG HHG.out).mono ?_; rintro e w21 ⟨rfl, hb⟩; have HST21 := Aside0.mk (HST20.out.below hb); clear hb; have q0 : w21.cell? ⟨w.heap.size, 0, none⟩ = some (.slice A l.length c) := (blk_cell HST21.out.k2 0).trans rfl; have q1 : w21.cell? ⟨w.heap.size, 1, none⟩ = some (.int .i64 R) := (blk_cell HST21.out.k2 1).trans rfl; have q2 : w21.cell? ⟨w.heap.size, 2, none⟩ = some (.int .i64 Wt) := (blk_cell HST21.out.k2 2).trans rfl))
    clear g0 g1 g2
    go_upto_region 33 with (first | (go_at_call 19; refine (laws_toVoting.calls kt A c l R Wt C R Wt _ (Kd.C_below HR.out HST21.out.bel) HC.out HT.out).mono ?_; rintro e w22 ⟨v0, rfl, ho, hb⟩; obtain ⟨AV, cV, rfl⟩ := Kd.R_slice ho; have HST22 := Aside0.mk (HST21.out.below hb); have RV22 := Aside0.mk ho; clear ho hb) | (go_at_call 14; refine (laws_toIntS.calls ki A1 c1 s s _ (Kd.C_below HSI.out HST22.out.bel) HC1.out HI.out).mono ?_; rintro e w23 ⟨v0, rfl, ho, hb⟩; obtain ⟨AJ, cJ, rfl⟩ := Kd.R_slice ho; have HST23 := Aside0.mk (HST22.out.below hb); have RJ23 := Aside0.mk ho; have RV23 := Aside0.mk (Kd.R_below RV22.out hb); clear ho hb) | (go_at_call 39; refine (impl_WriteText.calls AV cV C R Wt AJ cJ s t L R' W' b _ (Kd.R_reads' RV23.out).2.2 (Kd.R_reads' RV23.out).2.1 (Kd.R_reads' RJ23.out).2.2 (Kd.R_reads' RJ23.out).2.1 HP.out).mono ?_; rintro e w24 ⟨v0, rfl, ho, hb⟩; obtain ⟨AH, cH, rfl⟩ := Kd.R_slice ho; have HST24 := Aside0.mk (HST23.out.below hb); have RH24 := Aside0.mk ho; clear ho hb))
    clear q0 q1 q2
    obtain ⟨W25, hW25⟩ : ∃ W25, W25 = w24.alloc (.cells #[.slice AH L.length cH, .int .i64 R', .int .i64 W'] 35) := ⟨_, rfl⟩
    have hal : Below w24.heap.size w24 W25 := by rw [hW25]; exact below_alloc (Below.refl _ _) _
    have HST25 := Aside0.mk (HST24.out.below hal)
    have RH25 := Aside0.mk (Kd.R_below RH24.out hal)
    have KH := Aside0.mk (show W25.heap[w24.heap.size]? = some (.cells #[.slice AH L.length cH, .int .i64 R', .int .i64 W'] 35 (0, 0)) by rw [hW25]; exact blk_new w24 _)
    rw [← hW25]
    clear hal hW25
    have h0 : W25.cell? ⟨w24.heap.size, 0, none⟩ = some (.slice AH L.length cH) := (blk_cell KH.out 0).trans rfl
    have h1 : W25.cell? ⟨w24.heap.size, 1, none⟩ = some (.int .i64 R') := (blk_cell KH.out 1).trans rfl
    have h2 : W25.cell? ⟨w24.heap.size, 2, none⟩ = some (.int .i64 W') := (blk_cell KH.out 2).trans rfl
    have q0 : W25.cell? ⟨w5.heap.size, 0, none⟩ = some (.slice AS L.length cS) := (blk_cell HST25.out.k6 0).trans rfl
    have q1 : W25.cell? ⟨w5.heap.size, 1, none⟩ = some (.int .i64 R') := (blk_cell HST25.out.k6 1).trans rfl
    have q2 : W25.cell? ⟨w5.heap.size, 2, none⟩ = some (.int .i64 W') := (blk_cell HST25.out.k6 2).trans rfl
    go_upto_region 35 with (first | (go_at_call 21; refine (laws_eqVoting.calls ke AH cH L R' W' AS cS L R' W' true _ (Kd.R_reads' RH25.out).2.2 (Kd.R_reads' RH25.out).2.1 (Kd.R_reads' HST25.out.rS).2.2 (Kd.R_reads' HST25.out.rS).2.1 HEL.out).mono ?_; rintro e w26 ⟨rfl, hb⟩; have HST26 := Aside0.mk (HST25.out.below hb); clear hb; have g0 : w26.cell? ⟨w10.heap.size, 0, none⟩ = some (.slice AG L.length cG) := (blk_cell HST26.out.k11 0).trans rfl; have g1 : w26.cell? ⟨w10.heap.size, 1, none⟩ = some (.int .i64 R') := (blk_cell HST26.out.k11 1).trans rfl; have g2 : w26.cell? ⟨w10.heap.size, 2, none⟩ = some (.int .i64 W') := (blk_cell HST26.out.k11 2).trans rfl))
    clear h0 h1 h2 q0 q1 q2
    go_wp2_with (first | (go_at_call 28; refine (held_n HST26.out.rG HHG.out).mono ?_; rintro e w27 ⟨rfl, hb⟩; have HST27 := Aside0.mk (HST26.out.below hb); clear hb))
    go_ret
    exact ⟨rfl, HST27.out.bel⟩
end Go.Proofs.Ytfbghibgjfegpaa.PWT
