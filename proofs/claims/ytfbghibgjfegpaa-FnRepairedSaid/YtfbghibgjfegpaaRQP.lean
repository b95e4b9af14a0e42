import Derived.Test.YtfbghibgjfegpaaRQD
/- The law of repaired votings: it answers true, for all bytes drawn from. Conditions: both codes' bytes lie between 0 and 255. -/
namespace Go.Proofs.Ytfbghibgjfegpaa.PRQ
open Go.RowKit Go.Proofs.YtfbghibgjfegpaaW.PrintWords Go.Proofs.YtfbghibgjfegpaaW.PrintLast Go.Proofs.YtfbghibgjfegpaaW.PrintMore Go.Proofs.Ytfbghibgjfegpaa.Pure
set_option linter.unusedVariables false
set_option linter.unusedSimpArgs false
/-- A voting in a variable. -/
structure Bx (b : Nat) (A : Option Addr) (c : Nat) (L : List S57) (R Wt : Int) (W : World) : Prop where
  k : W.heap[b]? = some (.cells #[.slice A L.length c, .int .i64 R, .int .i64 Wt] 35 (0, 0))
  r : Kd.C k57 W A L.length L
  h : L.length ≤ c
theorem Bx.below {b : Nat} {A : Option Addr} {c : Nat} {L : List S57} {R Wt : Int} {W W' : World} (h : Bx b A c L R Wt W) (hb : Below W.heap.size W W') : Bx b A c L R Wt W' := ⟨blk_below h.k hb, Kd.C_below h.r hb, h.h⟩
theorem Bx.cells {b : Nat} {A : Option Addr} {c : Nat} {L : List S57} {R Wt : Int} {W : World} (h : Bx b A c L R Wt W) : W.cell? ⟨b, 0, none⟩ = some (.slice A L.length c) ∧ W.cell? ⟨b, 1, none⟩ = some (.int .i64 R) ∧ W.cell? ⟨b, 2, none⟩ = some (.int .i64 Wt) :=
  ⟨(blk_cell h.k 0).trans rfl, (blk_cell h.k 1).trans rfl, (blk_cell h.k 2).trans rfl⟩
theorem Bx.new {W W' : World} {A : Option Addr} {c : Nat} {L : List S57} {R Wt : Int} {base : Nat} (h : Kd.R k57 57 W base (fun _ => True) (.slice A L.length c) L) (e : W' = W.alloc (.cells #[.slice A L.length c, .int .i64 R, .int .i64 Wt] 35)) : Bx W.heap.size A c L R Wt W' := by
  subst e
  exact ⟨blk_new W _, Kd.C_alloc (Kd.R_reads' h).2.2 _, (Kd.R_reads' h).2.1⟩
/-- Numbers that are read. -/
structure Ns (A : Option Addr) (c : Nat) (s : List Int) (W : World) : Prop where
  r : Kd.C (Kd.int .i64) W A s.length s
  h : s.length ≤ c
theorem Ns.below {A : Option Addr} {c : Nat} {s : List Int} {W W' : World} (h : Ns A c s W) (hb : Below W.heap.size W W') : Ns A c s W' := ⟨Kd.C_below h.r hb, h.h⟩
set_option maxRecDepth 100000 in
set_option maxHeartbeats 1000000 in
theorem rep_law (A0 : Option Addr) (c0 : Nat) (code : List Int) (A1 : Option Addr) (c1 : Nat) (more : List Int) (w : World) (hr : Kd.C (Kd.int .u8) w A0 code.length code) (hc : ∀ y ∈ code, 0 ≤ y ∧ y ≤ 255) (hr1 : Kd.C (Kd.int .u8) w A1 more.length more) (hc1 : ∀ y ∈ more, 0 ≤ y ∧ y ≤ 255) (hlen : ¬ 1048576 < wrap64 ((code.length : Int) + (more.length : Int))) :
    Calls Try.prog 9 #[.slice A0 code.length c0, .slice A1 more.length c1] w fun e w' => e = .returned (.bool true) ∧ Below w.heap.size w w' := by
  have HC := Aside0.mk hc
  have HR := Aside0.mk hr
  have HC1 := Aside0.mk hc1
  have HR1 := Aside0.mk hr1
  have d1 : decide (1048576 < wrap64 ((code.length : Int) + (more.length : Int))) = false := decide_eq_false hlen
  clear hr hc hr1 hc1 hlen
  go_enter Try.func9, Try.ntmps9
  go_upto_region 4 with (first | (go_at_call 33; refine (drawRepair_c A0 c0 code w HR.out HC.out).mono ?_; rintro e w2 ⟨A, c, L, R, Wt, Aq, cq, s, rfl, hd⟩; have HD := Aside0.mk hd; clear hd))
  obtain ⟨W3, hW3⟩ : ∃ W3, W3 = w2.alloc (.cells #[.slice A L.length c, .int .i64 R, .int .i64 Wt] 35) := ⟨_, rfl⟩
  have hal : Below w2.heap.size w2 W3 := by rw [hW3]; exact below_alloc (Below.refl _ _) _
  have B3 := Aside0.mk (below_step HD.out.bel hal)
  have V3 := Aside0.mk (Bx.new HD.out.row hW3)
  have S3 := Aside0.mk (show Ns Aq cq s W3 from ⟨Kd.C_below (Kd.R_reads' HD.out.rs).2.2 hal, (Kd.R_reads' HD.out.rs).2.1⟩)
  have HL := Aside0.mk (show (1 ≤ L.length ∧ L.length ≤ 7) ∧ s.length ≤ 8 from ⟨⟨HD.out.l1, HD.out.l7⟩, HD.out.s8⟩)
  rw [← hW3]
  clear hW3 hal HD
  have hI : impl_RepairCopies.f L R Wt s = some (repairV L R Wt s) := rfl
  have hS := specRep_at L R Wt s (by have := HL.out; omega) (by have := HL.out; omega)
  have hlen := repairV_len L R Wt s
  rcases hv : repairV L R Wt s with ⟨LX, RX, WX, nX, bX⟩
  rw [hv] at hI hS hlen
  have HI := Aside0.mk hI
  have HS := Aside0.mk hS
  have hlen' : bX = true → LX.length = L.length := hlen
  have HLX := Aside0.mk hlen'
  have HF := Aside0.mk (fun (e : bX = true) => rep_facts L R Wt s LX RX WX nX (by rw [hv, e]))
  have hX7 := Aside0.mk (show LX.length ≤ 1073741824 from by
    cases hb : bX with
    | true => have := hlen' hb; have := HL.out; omega
    | false =>
      have : LX = [] := by
        unfold repairV at hv
        split at hv
        · simp only [Prod.mk.injEq] at hv; rw [hb] at hv; exact absurd hv.2.2.2.2 (by simp)
        · simp only [Prod.mk.injEq] at hv; exact hv.1.symm
      rw [this]; simp)
  obtain ⟨kx, hSX⟩ := (sameV_ev LX RX WX hX7.out).rounds
  have HSX := Aside0.mk hSX
  clear hI hS hlen hlen' hv hSX
  obtain ⟨p0, p1, p2⟩ := V3.out.cells
  go_upto_region 5 with (first | (go_at_call 34; refine (impl_RepairCopies.calls A c L R Wt Aq cq s LX RX WX nX bX _ V3.out.r V3.out.h S3.out.r S3.out.h HI.out).mono ?_; rintro e w4 ⟨v0, rfl, ho, hb⟩; obtain ⟨AX, cX, rfl⟩ := Kd.R_slice ho; have R4 := Aside0.mk ho; have H4 := Aside0.mk hb; clear ho hb))
  obtain ⟨W5, hW5⟩ : ∃ W5, W5 = w4.alloc (.cells #[.slice AX LX.length cX, .int .i64 RX, .int .i64 WX] 35) := ⟨_, rfl⟩
  have hal : Below w4.heap.size w4 W5 := by rw [hW5]; exact below_alloc (Below.refl _ _) _
  have X5 := Aside0.mk (Bx.new R4.out hW5)
  have B5 := Aside0.mk (below_step (below_step B3.out H4.out) hal)
  have V5 := Aside0.mk ((V3.out.below H4.out).below hal)
  have S5 := Aside0.mk ((S3.out.below H4.out).below hal)
  rw [← hW5]
  clear p0 p1 p2 hW5 hal R4 H4 B3 V3 S3
  obtain ⟨p0, p1, p2⟩ := V5.out.cells
  go_upto_region 6 with (first | (go_at_call 35; refine (spec_RepairCopies.calls A c L R Wt Aq cq s LX RX WX nX bX _ V5.out.r V5.out.h S5.out.r S5.out.h HS.out).mono ?_; rintro e w6 ⟨v0, rfl, ho, hb⟩; obtain ⟨AY, cY, rfl⟩ := Kd.R_slice ho; have R6 := Aside0.mk ho; have H6 := Aside0.mk hb; clear ho hb))
  obtain ⟨W7, hW7⟩ : ∃ W7, W7 = w6.alloc (.cells #[.slice AY LX.length cY, .int .i64 RX, .int .i64 WX] 35) := ⟨_, rfl⟩
  have hal : Below w6.heap.size w6 W7 := by rw [hW7]; exact below_alloc (Below.refl _ _) _
  have Y7 := Aside0.mk (Bx.new R6.out hW7)
  have B7 := Aside0.mk (below_step (below_step B5.out H6.out) hal)
  have V7 := Aside0.mk ((V5.out.below H6.out).below hal)
  have X7 := Aside0.mk ((X5.out.below H6.out).below hal)
  have S7 := Aside0.mk ((S5.out.below H6.out).below hal)
  rw [← hW7]
  clear p0 p1 p2 hW7 hal R6 H6 B5 V5 X5 S5 HS
  obtain ⟨x0, x1, x2⟩ := X7.out.cells
  obtain ⟨y0, y1, y2⟩ := Y7.out.cells
  have bb : (bX != bX) = false := by simp
  go_upto_if 73 with (first | (go_at_call 36; refine (laws_sameVotings.calls kx AX cX LX RX WX AY cY LX RX WX true _ X7.out.r X7.out.h Y7.out.r Y7.out.h HSX.out).mono ?_; rintro e w8 ⟨rfl, hb⟩; have B8 := Aside0.mk (below_step B7.out hb); have V8 := Aside0.mk (V7.out.below hb); have X8 := Aside0.mk (X7.out.below hb); have S8 := Aside0.mk (S7.out.below hb); clear hb))
  clear x0 x1 x2 y0 y1 y2 bb B7 V7 X7 Y7 S7
  go_cut [] (fun wx => Aside0 (Below w.heap.size w wx))
  case first =>
    cases bX with
    | false =>
      go_wp2
      go_meet
      exact B8
    | true =>
      obtain ⟨rfl, rfl, hXL, hg, hgX, hT, hAg, hn, hk⟩ := HF.out rfl
      have HAg := Aside0.mk (show impl_RepairCopies.f LX RX WX s = some (LX, RX, WX, 0, true) from congrArg some hAg)
      have HN1 := Aside0.mk (show impl_NewestOf.f L RX WX = some (vTop L, vWeigh L (vTop L), true) from congrArg some (newest_good L RX WX hg))
      have HN2 := Aside0.mk (show impl_NewestOf.f LX RX WX = some (vTop L, vWeigh LX (vTop L), true) from congrArg some (by rw [newest_good LX RX WX hgX, hT]))
      have HG := Aside0.mk (show impl_GoodVoting.f LX RX WX = some true from congrArg some hgX)
      have HK := Aside0.mk hk
      have dn : decide ((s.length : Int) < nX) = false := decide_eq_false (by omega)
      clear HF hXL hg hgX hT hAg hk hn
      obtain ⟨x0, x1, x2⟩ := X8.out.cells
      go_upto_region 10 with (first | (go_at_call 34; refine (impl_RepairCopies.calls AX cX LX RX WX Aq cq s LX RX WX 0 true _ X8.out.r X8.out.h S8.out.r S8.out.h HAg.out).mono ?_; rintro e w9 ⟨v0, rfl, ho, hb⟩; obtain ⟨AZ, cZ, rfl⟩ := Kd.R_slice ho; have R9 := Aside0.mk ho; have H9 := Aside0.mk hb; clear ho hb))
      obtain ⟨W10, hW10⟩ : ∃ W10, W10 = w9.alloc (.cells #[.slice AZ LX.length cZ, .int .i64 RX, .int .i64 WX] 35) := ⟨_, rfl⟩
      have hal : Below w9.heap.size w9 W10 := by rw [hW10]; exact below_alloc (Below.refl _ _) _
      have Z10 := Aside0.mk (Bx.new R9.out hW10)
      have B10 := Aside0.mk (below_step (below_step B8.out H9.out) hal)
      have V10 := Aside0.mk ((V8.out.below H9.out).below hal)
      have X10 := Aside0.mk ((X8.out.below H9.out).below hal)
      have S10 := Aside0.mk ((S8.out.below H9.out).below hal)
      rw [← hW10]
      clear x0 x1 x2 hW10 hal R9 H9 B8 V8 X8 S8
      obtain ⟨p0, p1, p2⟩ := V10.out.cells
      go_upto_region 11 with (first | (go_at_call 23; refine (impl_NewestOf.calls A c L RX WX (vTop L) (vWeigh L (vTop L)) true _ V10.out.r V10.out.h HN1.out).mono ?_; rintro e w11 ⟨rfl, hb⟩; have B11 := Aside0.mk (below_step B10.out hb); have X11 := Aside0.mk (X10.out.below hb); have Z11 := Aside0.mk (Z10.out.below hb); have S11 := Aside0.mk (S10.out.below hb); clear hb))
      clear p0 p1 p2 B10 V10 X10 Z10 S10
      obtain ⟨x0, x1, x2⟩ := X11.out.cells
      go_upto_region 12 with (first | (go_at_call 23; refine (impl_NewestOf.calls AX cX LX RX WX (vTop L) (vWeigh LX (vTop L)) true _ X11.out.r X11.out.h HN2.out).mono ?_; rintro e w12 ⟨rfl, hb⟩; have B12 := Aside0.mk (below_step B11.out hb); have X12 := Aside0.mk (X11.out.below hb); have Z12 := Aside0.mk (Z11.out.below hb); have S12 := Aside0.mk (S11.out.below hb); clear hb))
      clear x0 x1 x2 B11 X11 Z11 S11
      obtain ⟨x0, x1, x2⟩ := X12.out.cells
      obtain ⟨z0, z1, z2⟩ := Z12.out.cells
      go_upto_region 14 with (first | (go_at_call 36; refine (laws_sameVotings.calls kx AZ cZ LX RX WX AX cX LX RX WX true _ Z12.out.r Z12.out.h X12.out.r X12.out.h HSX.out).mono ?_; rintro e w13 ⟨rfl, hb⟩; have B13 := Aside0.mk (below_step B12.out hb); have X13 := Aside0.mk (X12.out.below hb); have S13 := Aside0.mk (S12.out.below hb); clear hb; have u0 : w13.cell? ⟨w4.heap.size, 0, none⟩ = some (.slice AX LX.length cX) := X13.out.cells.1; have u1 : w13.cell? ⟨w4.heap.size, 1, none⟩ = some (.int .i64 RX) := X13.out.cells.2.1; have u2 : w13.cell? ⟨w4.heap.size, 2, none⟩ = some (.int .i64 WX) := X13.out.cells.2.2) | (go_at_call 20; refine (impl_GoodVoting.calls AX cX LX RX WX true _ X13.out.r X13.out.h HG.out).mono ?_; rintro e w14 ⟨rfl, hb⟩; have B14 := Aside0.mk (below_step B13.out hb); have X14 := Aside0.mk (X13.out.below hb); have S14 := Aside0.mk (S13.out.below hb); clear hb))
      clear x0 x1 x2 z0 z1 z2 u0 u1 u2 B12 X12 Z12 S12 B13 X13 S13
      have q0 : w14.cell? ⟨w4.heap.size, 0, none⟩ = some (.slice AX LX.length cX) := X14.out.cells.1
      go_wp2
      go_loop [23, 131] (fun v23 v131 => ∃ x : Int, 0 ≤ x ∧ x ≤ (s.length : Int) ∧ v131 = .int .i64 x) (fun _ v => (s.length - intOf v).toNat)
      case atStart => exact ⟨0, by omega, by omega, rfl⟩
      case round =>
        obtain ⟨x, h0, hx, rfl⟩ := hrel
        by_cases hlt : x < (s.length : Int)
        · obtain ⟨ad, e1, c1⟩ := Kd.at_int S14.out.r x h0 hlt
          cases e1
          have hx8 : x ≤ 8 := by have := HL.out.2; omega
          obtain ⟨⟨h3, h4⟩, h5⟩ := HK.out _ (rd_mem s x h0 hlt)
          obtain ⟨ad2, e2, d1, d2, d3⟩ := at_T57 X14.out.r (rd s x) h3 h4
          cases e2
          have bq : ((rd_T57 LX (rd s x)).f1 != vTop L) = false := by simp [h5]
          clear h5
          go_wp2
          go_round
          case rel => exact ⟨x + 1, by omega, by omega, rfl⟩
          case measure => simp [intOf]; omega
        · go_wp2
          go_meet
          exact B14
  case rest =>
    go_upto_region 21 with (first | (go_at_call 37; refine (drawNew_c A1 c1 more _ (Kd.C_below HR1.out hcut.out) HC1.out).mono ?_; rintro e w20 ⟨Aw, cw, ws, r, n, rfl, ho, hwl, hwr, hb⟩; have B20 := Aside0.mk (below_step hcut.out hb); have N20 := Aside0.mk (show Ns Aw cw ws w20 from ⟨(Kd.R_reads' ho).2.2, (Kd.R_reads' ho).2.1⟩); have HWL := Aside0.mk hwl; have HWR := Aside0.mk hwr; clear ho hb hwl hwr))
    obtain ⟨ki, hI⟩ := (implNV_ev ws r n (by have := HWL.out; omega)).rounds
    obtain ⟨kj, hJ⟩ := (specNV_ev ws r n (by have := HWL.out; omega)).rounds
    have hNF := new_facts ws r n HWL.out.2 HWR.out
    have hL1 := nvV_len2 ws r n
    rcases hv : nvV ws r n with ⟨L1, R1, W1, b1⟩
    rw [hv] at hI hJ hNF hL1
    have hNF' : b1 = true → tot id ws < r + n ∧ tot id ws < 2 * n ∧ (0 ≤ r ∧ r ≤ 100) ∧ (0 ≤ n ∧ n ≤ 100) := hNF
    have hL1' : L1.length ≤ ws.length := hL1
    obtain ⟨kz, hZ⟩ := (sameV_ev L1 R1 W1 (by have := HWL.out; omega)).rounds
    have HI2 := Aside0.mk hI
    have HJ2 := Aside0.mk hJ
    have HNF := Aside0.mk hNF'
    have HZ := Aside0.mk hZ
    clear hI hJ hNF hNF' hL1 hL1' hv hZ
    go_upto_region 22 with (first | (go_at_call 25; refine (impl_NewVoting.calls ki Aw cw ws r n L1 R1 W1 b1 _ N20.out.r N20.out.h HI2.out).mono ?_; rintro e w21 ⟨v0, rfl, ho, hb⟩; obtain ⟨AU, cU, rfl⟩ := Kd.R_slice ho; have R21 := Aside0.mk ho; have H21 := Aside0.mk hb; clear ho hb))
    obtain ⟨W22, hW22⟩ : ∃ W22, W22 = w21.alloc (.cells #[.slice AU L1.length cU, .int .i64 R1, .int .i64 W1] 35) := ⟨_, rfl⟩
    have hal : Below w21.heap.size w21 W22 := by rw [hW22]; exact below_alloc (Below.refl _ _) _
    have U22 := Aside0.mk (Bx.new R21.out hW22)
    have B22 := Aside0.mk (below_step (below_step B20.out H21.out) hal)
    have N22 := Aside0.mk ((N20.out.below H21.out).below hal)
    rw [← hW22]
    clear hW22 hal R21 H21 B20 N20
    go_upto_region 23 with (first | (go_at_call 24; refine (spec_NewVoting.calls kj Aw cw ws r n L1 R1 W1 b1 _ N22.out.r N22.out.h HJ2.out).mono ?_; rintro e w23 ⟨v0, rfl, ho, hb⟩; obtain ⟨AT, cT, rfl⟩ := Kd.R_slice ho; have R23 := Aside0.mk ho; have H23 := Aside0.mk hb; clear ho hb))
    obtain ⟨W24, hW24⟩ : ∃ W24, W24 = w23.alloc (.cells #[.slice AT L1.length cT, .int .i64 R1, .int .i64 W1] 35) := ⟨_, rfl⟩
    have hal : Below w23.heap.size w23 W24 := by rw [hW24]; exact below_alloc (Below.refl _ _) _
    have T24 := Aside0.mk (Bx.new R23.out hW24)
    have U24 := Aside0.mk ((U22.out.below H23.out).below hal)
    have B24 := Aside0.mk (below_step (below_step B22.out H23.out) hal)
    have N24 := Aside0.mk ((N22.out.below H23.out).below hal)
    rw [← hW24]
    clear hW24 hal R23 H23 B22 N22 U22
    obtain ⟨x0, x1, x2⟩ := U24.out.cells
    obtain ⟨y0, y1, y2⟩ := T24.out.cells
    have bb : (b1 != b1) = false := by simp
    go_upto_region 26 with (first | (go_at_call 36; refine (laws_sameVotings.calls kz AU cU L1 R1 W1 AT cT L1 R1 W1 true _ U24.out.r U24.out.h T24.out.r T24.out.h HZ.out).mono ?_; rintro e w25 ⟨rfl, hb⟩; have B25 := Aside0.mk (below_step B24.out hb); have N25 := Aside0.mk (N24.out.below hb); clear hb))
    clear x0 x1 x2 y0 y1 y2 bb B24 N24 U24 T24
    go_wp2
    go_loop [31, 33, 175] (fun v31 v33 v175 => ∃ x : Int, 0 ≤ x ∧ x ≤ (ws.length : Int) ∧ v175 = .int .i64 x ∧ v31 = .int .i64 (tot id (ws.take x.toNat))) (fun _ _ v => (ws.length - intOf v).toNat)
    case atStart => exact ⟨0, by omega, by omega, rfl, rfl⟩
    case round =>
      obtain ⟨x, h0, hx, rfl, rfl⟩ := hrel
      by_cases hlt : x < (ws.length : Int)
      · obtain ⟨ad, e1, c1⟩ := Kd.at_int N25.out.r x h0 hlt
        cases e1
        have hx8 : x ≤ 8 := by have := HWL.out; omega
        have ht := tot_take ws x h0 hlt
        have ht2 := tot_small2 ws (x + 1).toNat HWL.out.2 HWR.out
        have hw : wrap64 (tot id (ws.take x.toNat) + rd ws x) = tot id (ws.take (x + 1).toNat) := by rw [← ht]; exact wrap_id _ (by omega) (by omega)
        clear ht ht2
        go_wp2
        go_round
        case rel => exact ⟨x + 1, by omega, by omega, rfl, by rw [hw]⟩
        case measure => simp [intOf]; omega
      · have e : ws.take x.toNat = ws := List.take_of_length_le (by omega)
        cases b1 with
        | false =>
          go_wp2
          go_ret
          exact ⟨rfl, B25.out⟩
        | true =>
          obtain ⟨f1, f2, ⟨f3, f4⟩, f5, f6⟩ := HNF.out rfl
          rw [e]
          have g1 : decide (tot id ws < r + n) = true := decide_eq_true f1
          have g2 : decide (tot id ws < 2 * n) = true := decide_eq_true f2
          clear f1 f2
          go_wp2
          go_ret
          exact ⟨rfl, B25.out⟩
set_option maxRecDepth 100000 in
set_option maxHeartbeats 1000000 in
theorem rep_long (A0 : Option Addr) (c0 : Nat) (code : List Int) (A1 : Option Addr) (c1 : Nat) (more : List Int) (w : World) (hlen : 1048576 < wrap64 ((code.length : Int) + (more.length : Int))) :
    Calls Try.prog 9 #[.slice A0 code.length c0, .slice A1 more.length c1] w fun e w' => e = .returned (.bool true) ∧ Below w.heap.size w w' := by
  have d1 : decide (1048576 < wrap64 ((code.length : Int) + (more.length : Int))) = true := decide_eq_true hlen
  clear hlen
  go_enter Try.func9, Try.ntmps9
  go_wp2
  go_ret
  exact ⟨rfl, Below.refl _ _⟩
theorem rep_all (A0 : Option Addr) (c0 : Nat) (code : List Int) (A1 : Option Addr) (c1 : Nat) (more : List Int) (w : World) (hr : Kd.C (Kd.int .u8) w A0 code.length code) (hc : ∀ y ∈ code, 0 ≤ y ∧ y ≤ 255) (hr1 : Kd.C (Kd.int .u8) w A1 more.length more) (hc1 : ∀ y ∈ more, 0 ≤ y ∧ y ≤ 255) :
    Calls Try.prog 9 #[.slice A0 code.length c0, .slice A1 more.length c1] w fun e w' => e = .returned (.bool true) ∧ Below w.heap.size w w' := by
  by_cases h : 1048576 < wrap64 ((code.length : Int) + (more.length : Int))
  · exact rep_long A0 c0 code A1 c1 more w h
  · exact rep_law A0 c0 code A1 c1 more w hr hc hr1 hc1 h
end Go.Proofs.Ytfbghibgjfegpaa.PRQ
