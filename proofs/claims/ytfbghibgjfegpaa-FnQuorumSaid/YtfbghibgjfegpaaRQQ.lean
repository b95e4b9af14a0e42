import Derived.Test.YtfbghibgjfegpaaRQT
import Derived.Test.YtfbghibgjfegpaaPRQx9
/- The law of quorums: it answers true, for all bytes drawn from. Conditions: both codes' bytes lie between 0 and 255. -/
namespace Go.Proofs.Ytfbghibgjfegpaa.PRQ
open Go.RowKit Go.Proofs.YtfbghibgjfegpaaW.PrintWords Go.Proofs.YtfbghibgjfegpaaW.PrintLast Go.Proofs.YtfbghibgjfegpaaW.PrintMore Go.Proofs.Ytfbghibgjfegpaa.Pure
set_option linter.unusedVariables false
set_option linter.unusedSimpArgs false
/-- A voting in a variable. -/
structure Bx (b : Nat) (A : Option Addr) (c : Nat) (L : List S57) (R Wt : Int) (W : World) : Prop where
  k : W.heap[b]? = some (.cells #[.slice A L.length c, .int .i64 R, .int .i64 Wt] 35 (0, 0))
  r : Kd.C k57 W A L.length L
  h : L.length ≤ c
theorem Bx.below {b : Nat} {A : Option Addr} {c : Nat} {L : List S57} {R Wt : Int} {W W' : World} (h : Bx b A c L R Wt W) (hb : Below W.heap.size W W') : Bx b A c L R Wt W' := ⟨blk_below h.k hb, Kd.C_below h.r hb, h.h⟩
theorem Bx.cells {b : Nat} {A : Option Addr} {c : Nat} {L : List S57} {R Wt : Int} {W : World} (h : Bx b A c L R Wt W) : W.cell? ⟨b, 0, none⟩ = some (.slice A L.length c) ∧ W.cell? ⟨b, 1, none⟩ = some (.int .i64 R) ∧ W.cell? ⟨b, 2, none⟩ = some (.int .i64 Wt) :=
  ⟨(blk_cell h.k 0).trans rfl, (blk_cell h.k 1).trans rfl, (blk_cell h.k 2).trans rfl⟩
theorem Bx.new {W W' : World} {A : Option Addr} {c : Nat} {L : List S57} {R Wt : Int} {base : Nat} (h : Kd.R k57 57 W base (fun _ => True) (.slice A L.length c) L) (e : W' = W.alloc (.cells #[.slice A L.length c, .int .i64 R, .int .i64 Wt] 35)) : Bx W.heap.size A c L R Wt W' := by
  subst e
  exact ⟨blk_new W _, Kd.C_alloc (Kd.R_reads' h).2.2 _, (Kd.R_reads' h).2.1⟩
/-- Numbers that are read. -/
structure Ns (A : Option Addr) (c : Nat) (s : List Int) (W : World) : Prop where
  r : Kd.C (Kd.int .i64) W A s.length s
  h : s.length ≤ c
theorem Ns.below {A : Option Addr} {c : Nat} {s : List Int} {W W' : World} (h : Ns A c s W) (hb : Below W.heap.size W W') : Ns A c s W' := ⟨Kd.C_below h.r hb, h.h⟩
theorem Bx.drew {b : Nat} {A : Option Addr} {c : Nat} {L : List S57} {R Wt : Int} {W : World} (h : Bx b A c L R Wt W) : Bx b A c L R Wt W.drew := h.below (below_drew1 (Below.refl _ _))
theorem Ns.drew {A : Option Addr} {c : Nat} {s : List Int} {W : World} (h : Ns A c s W) : Ns A c s W.drew := h.below (below_drew1 (Below.refl _ _))
theorem weigh_n {b : Nat} {A : Option Addr} {c : Nat} {L : List S57} {R Wt : Int} {A1 : Option Addr} {c1 : Nat} {s : List Int} {n : Int} {t : Bool} {w : World} (h : Bx b A c L R Wt w) (hs : Ns A1 c1 s w) (e : weightInV L R Wt s = (n, t)) :
    Calls Try.prog 30 #[.agg #[.slice A L.length c, .int .i64 R, .int .i64 Wt], .slice A1 s.length c1] w fun e w' => e = .returned (.tuple #[.int .i64 n, .bool t]) ∧ Below w.heap.size w w' := by
  have := weightInV_c A c L R Wt A1 c1 s w h.r h.h hs.r
  rw [e] at this
  exact this
theorem read_n {b : Nat} {A : Option Addr} {c : Nat} {L : List S57} {R Wt : Int} {A1 : Option Addr} {c1 : Nat} {s : List Int} {t : ByteArray} {n : Int} {y : Bool} {w : World} (h : Bx b A c L R Wt w) (hs : Ns A1 c1 s w) (e : readV L R Wt s = (t, n, y)) :
    Calls Try.prog 32 #[.agg #[.slice A L.length c, .int .i64 R, .int .i64 Wt], .slice A1 s.length c1] w fun e w' => e = .returned (.tuple #[.string t, .int .i64 n, .bool y]) ∧ Below w.heap.size w w' := by
  have := readV_c A c L R Wt A1 c1 s w h.r h.h hs.r
  rw [e] at this
  exact this
theorem sread_n {b : Nat} {A : Option Addr} {c : Nat} {L : List S57} {R Wt : Int} {A1 : Option Addr} {c1 : Nat} {s : List Int} {t : ByteArray} {n : Int} {y : Bool} {w : World} (h : Bx b A c L R Wt w) (hs : Ns A1 c1 s w) (hl : L.length ≤ 1073741824) (hsl : s.length ≤ 1073741824) (e : readV L R Wt s = (t, n, y)) :
    Calls Try.prog 31 #[.agg #[.slice A L.length c, .int .i64 R, .int .i64 Wt], .slice A1 s.length c1] w fun e w' => e = .returned (.tuple #[.string t, .int .i64 n, .bool y]) ∧ Below w.heap.size w w' := by
  have := sread_c A c L R Wt A1 c1 s w h.r h.h hs.r hs.h hl hsl
  rw [e] at this
  exact this
theorem meet_n {A B C : Option Addr} {ca cb cc : Nat} {a b ws : List Int} {x y : Bool} {w : World} (ha : Ns A ca a w) (hb : Ns B cb b w) (hc : Ns C cc ws w) (e : meetV a b ws.length = (x, y)) :
    Calls Try.prog 15 #[.slice A a.length ca, .slice B b.length cb, .slice C ws.length cc] w fun e w' => e = .returned (.tuple #[.bool x, .bool y]) ∧ Below w.heap.size w w' := by
  have := meetV_c A B C ca cb cc a b ws w ha.r hb.r
  rw [e] at this
  exact this
set_option maxRecDepth 100000 in
set_option maxHeartbeats 1500000 in
theorem quo_law (A0 : Option Addr) (c0 : Nat) (code : List Int) (A1 : Option Addr) (c1 : Nat) (more : List Int) (w : World) (hr : Kd.C (Kd.int .u8) w A0 code.length code) (hc : ∀ y ∈ code, 0 ≤ y ∧ y ≤ 255) (hr1 : Kd.C (Kd.int .u8) w A1 more.length more) (hc1 : ∀ y ∈ more, 0 ≤ y ∧ y ≤ 255) (hlen : ¬ 1048576 < wrap64 ((code.length : Int) + (more.length : Int))) :
    Calls Try.prog 12 #[.slice A0 code.length c0, .slice A1 more.length c1] w fun e w' => e = .returned (.bool true) ∧ Below w.heap.size w w' := by
  have HC := Aside0.mk hc
  have HR := Aside0.mk hr
  have HC1 := Aside0.mk hc1
  have HR1 := Aside0.mk hr1
  have d1 : decide (1048576 < wrap64 ((code.length : Int) + (more.length : Int))) = false := decide_eq_false hlen
  clear hr hc hr1 hc1 hlen
  go_enter Try.func12, Try.ntmps12
  go_upto_region 4 with (first | (go_at_call 40; refine (drawWrite_c A0 c0 code w HR.out HC.out).mono ?_; rintro e w2 ⟨A, c, L, R, Wt, Aq, cq, s, tt, rfl, hd⟩; have HD := Aside0.mk hd; clear hd))
  obtain ⟨W3, hW3⟩ : ∃ W3, W3 = w2.alloc (.cells #[.slice A L.length c, .int .i64 R, .int .i64 Wt] 35) := ⟨_, rfl⟩
  have hal : Below w2.heap.size w2 W3 := by rw [hW3]; exact below_alloc (Below.refl _ _) _
  have B3 := Aside0.mk (below_step HD.out.bel hal)
  have V3 := Aside0.mk (Bx.new HD.out.row hW3)
  have S3 := Aside0.mk (show Ns Aq cq s W3 from ⟨Kd.C_below (Kd.R_reads' HD.out.rs).2.2 hal, (Kd.R_reads' HD.out.rs).2.1⟩)
  have HL := Aside0.mk (show (1 ≤ L.length ∧ L.length ≤ 7) ∧ s.length ≤ 8 from ⟨⟨HD.out.l1, HD.out.l7⟩, HD.out.s8⟩)
  rw [← hW3]
  clear hW3 hal HD
  have hI : impl_WriteText.f L R Wt s tt = some (writeTextV L R Wt s tt) := rfl
  obtain ⟨kS, hS⟩ := (specWrite_ev L R Wt s tt (by have := HL.out; omega) (by have := HL.out; omega)).rounds
  obtain ⟨kg, hG⟩ := (specGood_ev L R Wt (by have := HL.out; omega)).rounds
  have hlen := writeTextV_len L R Wt s tt
  rcases hv : writeTextV L R Wt s tt with ⟨LX, RX, WX, bX⟩
  rw [hv] at hI hS hlen
  have hlen' : bX = true → LX.length = L.length := hlen
  have HI := Aside0.mk hI
  have HS := Aside0.mk hS
  have HG := Aside0.mk hG
  have HLX := Aside0.mk hlen'
  have HF := Aside0.mk (fun (e : bX = true) => wr_facts L R Wt s tt LX RX WX (by rw [hv, e]))
  have hX7 := Aside0.mk (show LX.length ≤ 1073741824 from by
    cases hb : bX with
    | true => have := hlen' hb; have := HL.out; omega
    | false =>
      have : LX = [] := by
        unfold writeTextV at hv
        split at hv
        · simp only [Prod.mk.injEq] at hv; rw [hb] at hv; exact absurd hv.2.2.2 (by simp)
        · simp only [Prod.mk.injEq] at hv; exact hv.1.symm
      rw [this]; simp)
  obtain ⟨kx, hSX⟩ := (sameV_ev LX RX WX hX7.out).rounds
  have HSX := Aside0.mk hSX
  have HGI := Aside0.mk (show impl_GoodVoting.f L R Wt = some (goodV L R Wt) from rfl)
  obtain ⟨gv, hgv⟩ : ∃ gv, gv = goodV L R Wt := ⟨_, rfl⟩
  rw [← hgv] at HG HGI
  have HGV := Aside0.mk hgv
  clear hI hS hG hlen hlen' hv hSX hgv
  obtain ⟨p0, p1, p2⟩ := V3.out.cells
  go_upto_region 5 with (first | (go_at_call 39; refine (impl_WriteText.calls A c L R Wt Aq cq s tt LX RX WX bX _ V3.out.r V3.out.h S3.out.r S3.out.h HI.out).mono ?_; rintro e w4 ⟨v0, rfl, ho, hb⟩; obtain ⟨AX, cX, rfl⟩ := Kd.R_slice ho; have R4 := Aside0.mk ho; have H4 := Aside0.mk hb; clear ho hb))
  obtain ⟨W5, hW5⟩ : ∃ W5, W5 = w4.alloc (.cells #[.slice AX LX.length cX, .int .i64 RX, .int .i64 WX] 35) := ⟨_, rfl⟩
  have hal : Below w4.heap.size w4 W5 := by rw [hW5]; exact below_alloc (Below.refl _ _) _
  have X5 := Aside0.mk (Bx.new R4.out hW5)
  have B5 := Aside0.mk (below_step (below_step B3.out H4.out) hal)
  have V5 := Aside0.mk ((V3.out.below H4.out).below hal)
  have S5 := Aside0.mk ((S3.out.below H4.out).below hal)
  rw [← hW5]
  clear p0 p1 p2 hW5 hal R4 H4 B3 V3 S3
  obtain ⟨p0, p1, p2⟩ := V5.out.cells
  go_upto_region 6 with (first | (go_at_call 38; refine (spec_WriteText.calls kS A c L R Wt Aq cq s tt LX RX WX bX _ V5.out.r V5.out.h S5.out.r S5.out.h HS.out).mono ?_; rintro e w6 ⟨v0, rfl, ho, hb⟩; obtain ⟨AY, cY, rfl⟩ := Kd.R_slice ho; have R6 := Aside0.mk ho; have H6 := Aside0.mk hb; clear ho hb))
  obtain ⟨W7, hW7⟩ : ∃ W7, W7 = w6.alloc (.cells #[.slice AY LX.length cY, .int .i64 RX, .int .i64 WX] 35) := ⟨_, rfl⟩
  have hal : Below w6.heap.size w6 W7 := by rw [hW7]; exact below_alloc (Below.refl _ _) _
  have Y7 := Aside0.mk (Bx.new R6.out hW7)
  have B7 := Aside0.mk (below_step (below_step B5.out H6.out) hal)
  have V7 := Aside0.mk ((V5.out.below H6.out).below hal)
  have X7 := Aside0.mk ((X5.out.below H6.out).below hal)
  have S7 := Aside0.mk ((S5.out.below H6.out).below hal)
  rw [← hW7]
  clear p0 p1 p2 hW7 hal R6 H6 B5 V5 X5 S5 HS
  obtain ⟨x0, x1, x2⟩ := X7.out.cells
  obtain ⟨y0, y1, y2⟩ := Y7.out.cells
  obtain ⟨p0, p1, p2⟩ := V7.out.cells
  have bb : (bX != bX) = false := by simp
  have bg : (gv != gv) = false := by simp
  go_region_held3 (fun w' => w'.cell? ⟨w4.heap.size, 0, none⟩ = some (.slice AX LX.length cX) ∧ w'.cell? ⟨w4.heap.size, 1, none⟩ = some (.int .i64 RX) ∧ w'.cell? ⟨w4.heap.size, 2, none⟩ = some (.int .i64 WX) ∧ w'.cell? ⟨w6.heap.size, 0, none⟩ = some (.slice AY LX.length cY) ∧ w'.cell? ⟨w6.heap.size, 1, none⟩ = some (.int .i64 RX) ∧ w'.cell? ⟨w6.heap.size, 2, none⟩ = some (.int .i64 WX) ∧ w'.cell? ⟨w2.heap.size, 0, none⟩ = some (.slice A L.length c) ∧ w'.cell? ⟨w2.heap.size, 1, none⟩ = some (.int .i64 R) ∧ w'.cell? ⟨w2.heap.size, 2, none⟩ = some (.int .i64 Wt)) (go_keep) (first | (go_at_call 36; refine (laws_sameVotings.calls kx AX cX LX RX WX AY cY LX RX WX true _ (X7.out.drew).r X7.out.h (Y7.out.drew).r Y7.out.h HSX.out).mono ?_; rintro e w8 ⟨rfl, hb⟩; have B8 := Aside0.mk (below_step (below_drew1 B7.out) hb); have V8 := Aside0.mk ((V7.out.drew).below hb); have X8 := Aside0.mk ((X7.out.drew).below hb); have Y8 := Aside0.mk ((Y7.out.drew).below hb); have S8 := Aside0.mk ((S7.out.drew).below hb); clear hb; obtain ⟨x3, x4, x5⟩ := X8.out.cells; obtain ⟨y3, y4, y5⟩ := Y8.out.cells; obtain ⟨p3, p4, p5⟩ := V8.out.cells) | (go_at_call 20; refine (impl_GoodVoting.calls A c L R Wt gv _ V8.out.r V8.out.h HGI.out).mono ?_; rintro e w9 ⟨rfl, hb⟩; have B9 := Aside0.mk (below_step B8.out hb); have V9 := Aside0.mk (V8.out.below hb); have X9 := Aside0.mk (X8.out.below hb); have Y9 := Aside0.mk (Y8.out.below hb); have S9 := Aside0.mk (S8.out.below hb); clear hb; obtain ⟨x6, x7, x8⟩ := X9.out.cells; obtain ⟨y6, y7, y8⟩ := Y9.out.cells; obtain ⟨p6, p7, p8⟩ := V9.out.cells) | (go_at_call 18; refine (spec_GoodVoting.calls kg A c L R Wt gv _ V9.out.r V9.out.h HG.out).mono ?_; rintro e w10 ⟨rfl, hb⟩; have B10 := Aside0.mk (below_step B9.out hb); have V10 := Aside0.mk (V9.out.below hb); have X10 := Aside0.mk (X9.out.below hb); have Y10 := Aside0.mk (Y9.out.below hb); have S10 := Aside0.mk (S9.out.below hb); clear hb; obtain ⟨x9, x10, x11⟩ := X10.out.cells; obtain ⟨y9, y10, y11⟩ := Y10.out.cells; obtain ⟨p9, p10, p11⟩ := V10.out.cells))
  clear x0 x1 x2 y0 y1 y2 p0 p1 p2 x3 x4 x5 y3 y4 y5 p3 p4 p5 x6 x7 x8 y6 y7 y8 p6 p7 p8 x9 x10 x11 y9 y10 y11 p9 p10 p11 bb bg B9 V9 X9 Y9 S9 B8 V8 X8 Y8 S8 B7 V7 X7 Y7 S7 Y10
  go_upto_if 83 with (fail)
  go_cut [] (fun wx => Aside0 (Below w.heap.size w wx))
  case first =>
    cases bX with
    | false =>
      go_wp2
      go_meet
      exact B10
    | true =>
      obtain ⟨rfl, rfl, hXL, hg, hgX, ⟨hT, hm0, hm1⟩, hw, hrs, ho⟩ := HF.out rfl
      obtain ⟨wX, hwX⟩ : ∃ wX, wX = vWeigh LX (vTop LX) := ⟨_, rfl⟩
      have HN1 := Aside0.mk (show impl_NewestOf.f L RX WX = some (vTop L, vWeigh L (vTop L), true) from congrArg some (newest_good L RX WX hg))
      have HN2 := Aside0.mk (show impl_NewestOf.f LX RX WX = some (vTop L + 1, wX, true) from congrArg some (by rw [newest_good LX RX WX hgX, ← hwX, hT]))
      have HG2 := Aside0.mk (show impl_GoodVoting.f LX RX WX = some true from congrArg some hgX)
      have HG3 := Aside0.mk hgX
      have dw : decide (wX < WX) = false := decide_eq_false (by omega)
      rw [hT] at ho
      have HO := Aside0.mk ho
      have HRS := Aside0.mk hrs
      have HXL := Aside0.mk (show 1 ≤ LX.length ∧ LX.length ≤ 7 by rw [hXL]; exact HL.out.1)
      clear HF hXL hg hgX hT hw hrs ho hwX HLX
      obtain ⟨p0, p1, p2⟩ := V10.out.cells
      go_upto_region 10 with (first | (go_at_call 23; refine (impl_NewestOf.calls A c L RX WX (vTop L) (vWeigh L (vTop L)) true _ V10.out.r V10.out.h HN1.out).mono ?_; rintro e w11 ⟨rfl, hb⟩; have B11 := Aside0.mk (below_step B10.out hb); have X11 := Aside0.mk (X10.out.below hb); have S11 := Aside0.mk (S10.out.below hb); clear hb))
      clear p0 p1 p2 B10 V10 X10 S10
      obtain ⟨x0, x1, x2⟩ := X11.out.cells
      go_upto_region 11 with (first | (go_at_call 23; refine (impl_NewestOf.calls AX cX LX RX WX (vTop L + 1) wX true _ X11.out.r X11.out.h HN2.out).mono ?_; rintro e w12 ⟨rfl, hb⟩; have B12 := Aside0.mk (below_step B11.out hb); have X12 := Aside0.mk (X11.out.below hb); have S12 := Aside0.mk (S11.out.below hb); clear hb))
      clear x0 x1 x2 B11 X11 S11
      obtain ⟨x0, x1, x2⟩ := X12.out.cells
      have bm : (vTop L + 1 != vTop L + 1) = false := by simp
      go_upto_region 13 with (first | (go_at_call 20; refine (impl_GoodVoting.calls AX cX LX RX WX true _ X12.out.r X12.out.h HG2.out).mono ?_; rintro e w14 ⟨rfl, hb⟩; have B14 := Aside0.mk (below_step B12.out hb); have X14 := Aside0.mk (X12.out.below hb); have S14 := Aside0.mk (S12.out.below hb); clear hb))
      clear x0 x1 x2 bm B12 X12 S12
      have q0 : w14.cell? ⟨w4.heap.size, 0, none⟩ = some (.slice AX LX.length cX) := X14.out.cells.1
      go_wp2
      clear q0
      go_loopw [18, 19, 122] (fun v18 v19 v122 wr => ∃ (x : Int) (xs : List Int), 0 ≤ x ∧ x ≤ (LX.length : Int) ∧ v122 = .int .i64 x ∧ Aside0 (xs.length ≤ x ∧ risingV xs LX.length = true ∧ ∀ k ∈ xs, k < x) ∧ Aside0 (Kd.R (Kd.int .i64) 3 wr w14.heap.size (fun _ => True) v18 xs) ∧ Aside0 (Below w14.heap.size w14 wr)) (fun _ _ v _ => (LX.length - intOf v).toNat)
      case atStart => exact ⟨0, [], by omega, by omega, rfl, ⟨by simp, rfl, fun k hk => nomatch hk⟩, ⟨Kd.R_nil _ _ _ _ _⟩, ⟨Below.refl _ _⟩⟩
      case round =>
        obtain ⟨x, xs, h0, hx, rfl, HXS, HO18, HBR⟩ := hrel
        by_cases hlt : x < (LX.length : Int)
        · have hx8 : x ≤ 8 := by have := HXL.out; omega
          have HB2 := Aside0.mk (below_step B14.out HBR.out)
          by_cases hm : x < (more.length : Int)
          · have dm : decide (x < (more.length : Int)) = true := decide_eq_true hm
            obtain ⟨ad, e1, cm⟩ := Kd.at_int (Kd.C_below HR1.out HB2.out) x h0 hm
            cases e1
            have hby := HC1.out _ (rd_mem more x h0 hm)
            clear hby
            by_cases hp : (rd more x).tmod 2 = 0
            · have hp1 : ((rd more x).tmod 2 == 0) = true := by simp [hp]
              go_wp2_with (first | ((with_reducible refine gate_builtin (b := .append) (xs := #[.tmp 143, .tmp 145]) rfl ?_); at_builtin; refine Kd.R_append (Kd.int .i64) w14.heap.size rfl (.tmp 143) (.tmp 145) 22 3 (.int .i64 0) 8 rfl Try.underlying22 info3 rfl (by decide) (by omega) u18 xs x [.int .i64 x] (fun _ => True) (fun _ => False) rfl rfl ?aP (fun _ hk => hk.elim) ?aF ?aO (Below.refl _ _) ?aS ?aL ?_; (case aP => exact rfl); (case aF => exact (fun _ _ => trivial)); (case aO => exact (by (with_reducible repeat (first | apply Kd.R_alloc | apply Kd.R_drewN | apply Kd.R_drew)); exact HO18.out)); (case aS => exact HBR.out.size); (case aL => have := HXS.out.1; omega); intro v2 wA ho hb hg hat; have HOA := Aside0.mk ho; have HBA := Aside0.mk (below_weaken HBR.out (Nat.le_refl _) hb); clear ho hb hg hat))
              go_roundw
              case rel => exact ⟨x + 1, xs ++ [x], by omega, by omega, rfl, ⟨up_snoc h0 hlt HXS.out⟩, HOA, HBA⟩
              case measure => simp only [intOf]; omega
            · have hp1 : ((rd more x).tmod 2 == 0) = false := by simp [hp]
              have dn : decide ((more.length : Int) ≤ x) = false := decide_eq_false (by omega)
              go_wp2
              go_roundw
              case rel => exact ⟨x + 1, xs, by omega, by omega, rfl, ⟨up_same HXS.out⟩, HO18, HBR⟩
              case measure => simp only [intOf]; omega
          · have dm : decide (x < (more.length : Int)) = false := decide_eq_false hm
            have dn : decide ((more.length : Int) ≤ x) = true := decide_eq_true (by omega)
            go_wp2_with (first | ((with_reducible refine gate_builtin (b := .append) (xs := #[.tmp 143, .tmp 145]) rfl ?_); at_builtin; refine Kd.R_append (Kd.int .i64) w14.heap.size rfl (.tmp 143) (.tmp 145) 22 3 (.int .i64 0) 8 rfl Try.underlying22 info3 rfl (by decide) (by omega) u18 xs x [.int .i64 x] (fun _ => True) (fun _ => False) rfl rfl ?aP (fun _ hk => hk.elim) ?aF ?aO (Below.refl _ _) ?aS ?aL ?_; (case aP => exact rfl); (case aF => exact (fun _ _ => trivial)); (case aO => exact (by (with_reducible repeat (first | apply Kd.R_alloc | apply Kd.R_drewN | apply Kd.R_drew)); exact HO18.out)); (case aS => exact HBR.out.size); (case aL => have := HXS.out.1; omega); intro v2 wA ho hb hg hat; have HOA := Aside0.mk ho; have HBA := Aside0.mk (below_weaken HBR.out (Nat.le_refl _) hb); clear ho hb hg hat))
            go_roundw
            case rel => exact ⟨x + 1, xs ++ [x], by omega, by omega, rfl, ⟨up_snoc h0 hlt HXS.out⟩, HOA, HBA⟩
            case measure => simp only [intOf]; omega
        · obtain ⟨AO, cO, rfl⟩ := Kd.R_slice HO18.out
          have X15 := Aside0.mk (X14.out.below HBR.out)
          have S15 := Aside0.mk (S14.out.below HBR.out)
          have B15 := Aside0.mk (below_step B14.out HBR.out)
          have O15 := Aside0.mk (show Ns AO cO xs wr from ⟨(Kd.R_reads' HO18.out).2.2, (Kd.R_reads' HO18.out).2.1⟩)
          have HWI := Aside0.mk (show weightInV LX RX WX xs = (vSum LX xs, true) by unfold weightInV; rw [if_pos (someV_of HG3.out HXS.out.2.1)])
          have HQF := Aside0.mk (show vSum LX xs < RX ∧ readV LX RX WX xs = (⟨#[]⟩, 0, false) ∨ ¬ (vSum LX xs < RX) ∧ readV LX RX WX xs = (tt, vTop L + 1, true) by
            by_cases q : vSum LX xs < RX
            · exact .inl ⟨q, by unfold readV; rw [if_neg (fun h => h.2 q)]⟩
            · obtain ⟨e1, e2, _⟩ := HO.out xs HXS.out.2.1 (by omega)
              exact .inr ⟨q, by unfold readV; rw [if_pos ⟨someV_of HG3.out HXS.out.2.1, q⟩, e1, e2]⟩)
          have HMT := Aside0.mk (fun (q : ¬ (vSum LX xs < RX)) => (HO.out xs HXS.out.2.1 (by omega)).2.2)
          have HRX := Aside0.mk HXS.out.2.1
          clear HBR HO18 HXS X14 S14 B14
          obtain ⟨t', n', b', hrd⟩ : ∃ t' n' b', readV LX RX WX xs = (t', n', b') := ⟨_, _, _, rfl⟩
          rw [hrd] at HQF
          have HRD := Aside0.mk hrd
          clear hrd
          obtain ⟨x0, x1, x2⟩ := X15.out.cells
          go_upto_region 21 with (first | (go_at_call 30; refine (weigh_n X15.out O15.out HWI.out).mono ?_; rintro e w16 ⟨rfl, hb⟩; have B16 := Aside0.mk (below_step B15.out hb); have X16 := Aside0.mk (X15.out.below hb); have S16 := Aside0.mk (S15.out.below hb); have O16 := Aside0.mk (O15.out.below hb); clear hb))
          clear x0 x1 x2 B15 X15 S15 O15
          obtain ⟨x0, x1, x2⟩ := X16.out.cells
          go_upto_region 22 with (first | (go_at_call 32; refine (read_n X16.out O16.out HRD.out).mono ?_; rintro e w17 ⟨rfl, hb⟩; have B17 := Aside0.mk (below_step B16.out hb); have X17 := Aside0.mk (X16.out.below hb); have S17 := Aside0.mk (S16.out.below hb); have O17 := Aside0.mk (O16.out.below hb); clear hb))
          clear x0 x1 x2 B16 X16 S16 O16
          have q0 : w17.cell? ⟨w4.heap.size, 0, none⟩ = some (.slice AX LX.length cX) := X17.out.cells.1
          go_wp2
          clear q0
          obtain ⟨wo, rfl⟩ : ∃ wo : World, wo = wr := ⟨_, rfl⟩
          go_loopw [25, 27, 164] (fun v25 v27 v164 wr => ∃ (x : Int) (ys : List Int), 0 ≤ x ∧ x ≤ (LX.length : Int) ∧ v164 = .int .i64 x ∧ Aside0 ((ys.length : Int) = x) ∧ Aside0 (Kd.R (Kd.int .i64) 3 wr w17.heap.size (fun _ => True) v25 ys) ∧ Aside0 (Below w17.heap.size w17 wr)) (fun _ _ v _ => (LX.length - intOf v).toNat)
          case atStart => exact ⟨0, [], by omega, by omega, rfl, ⟨rfl⟩, ⟨Kd.R_nil _ _ _ _ _⟩, ⟨Below.refl _ _⟩⟩
          case round =>
            clear hlt h0 hx
            obtain ⟨x, ys, h0, hx, rfl, HYS, HO25, HB2⟩ := hrel
            by_cases hlt : x < (LX.length : Int)
            · have hx8 : x ≤ 8 := by have := HXL.out; omega
              obtain ⟨ad, e1, c0', c1', c2'⟩ := at_T57 (Kd.C_below X17.out.r HB2.out) x h0 hlt
              cases e1
              go_upto_region 26 with (fail)
              obtain ⟨W26, hW26⟩ : ∃ W26, W26 = wr.alloc (.cells #[.int .i64 (rd_T57 LX x).f0, .int .i64 (rd_T57 LX x).f1, .string (rd_T57 LX x).f2] 57) := ⟨_, rfl⟩
              have H26 := Aside0.mk (show Below w17.heap.size w17 W26 by rw [hW26]; exact below_alloc HB2.out _)
              have O26 := Aside0.mk (show Kd.R (Kd.int .i64) 3 W26 w17.heap.size (fun _ => True) u25 ys by rw [hW26]; exact Kd.R_alloc HO25.out _)
              have k26 : W26.cell? ⟨wr.heap.size, 0, none⟩ = some (.int .i64 (rd_T57 LX x).f0) := by rw [hW26]; exact (blk_cell (blk_new wr (.cells #[.int .i64 (rd_T57 LX x).f0, .int .i64 (rd_T57 LX x).f1, .string (rd_T57 LX x).f2] 57)) 0).trans rfl
              rw [← hW26]
              clear hW26 c0' c1' c2'
              go_wp2_with (first | ((with_reducible refine gate_builtin (b := .append) (xs := #[.tmp 168, .tmp 171]) rfl ?_); at_builtin; refine Kd.R_append (Kd.int .i64) w17.heap.size rfl (.tmp 168) (.tmp 171) 22 3 (.int .i64 0) 8 rfl Try.underlying22 info3 rfl (by decide) (by omega) u25 ys (rd_T57 LX x).f0 [.int .i64 (rd_T57 LX x).f0] (fun _ => True) (fun _ => False) rfl rfl ?aP (fun _ hk => hk.elim) ?aF ?aO (Below.refl _ _) ?aS ?aL ?_; (case aP => exact rfl); (case aF => exact (fun _ _ => trivial)); (case aO => exact (by (with_reducible repeat (first | apply Kd.R_alloc | apply Kd.R_drewN | apply Kd.R_drew)); exact O26.out)); (case aS => exact H26.out.size); (case aL => have := HYS.out; omega); intro v2 wB ho hb hg hat; have HOA := Aside0.mk ho; have HBA := Aside0.mk (below_weaken H26.out (Nat.le_refl _) hb); clear ho hb hg hat))
              go_roundw
              case rel => exact ⟨x + 1, ys ++ [(rd_T57 LX x).f0], by omega, by omega, rfl, ⟨by have := HYS.out; simp; omega⟩, HOA, HBA⟩
              case measure => simp only [intOf]; omega
            · obtain ⟨AZ, cZ, rfl⟩ := Kd.R_slice HO25.out
              have X18 := Aside0.mk (X17.out.below HB2.out)
              have S18 := Aside0.mk (S17.out.below HB2.out)
              have O18 := Aside0.mk (O17.out.below HB2.out)
              have B18 := Aside0.mk (below_step B17.out HB2.out)
              have Z18 := Aside0.mk (show Ns AZ cZ ys wr from ⟨(Kd.R_reads' HO25.out).2.2, (Kd.R_reads' HO25.out).2.1⟩)
              have hyl : ys.length = LX.length := by have := HYS.out; omega
              have HM2 := Aside0.mk (show meetV s xs ys.length = (s.any (fun k => xs.any (k == ·)), true) by unfold meetV; rw [hyl, if_pos ⟨HXL.out.2, HRS.out, HRX.out⟩])
              clear hyl HYS HO25 HB2 X17 S17 O17 B17
              obtain ⟨bm, hbm⟩ : ∃ bm, bm = s.any (fun k => xs.any (k == ·)) := ⟨_, rfl⟩
              rw [← hbm] at HM2 HMT
              have HBM := Aside0.mk hbm
              clear hbm
              go_upto_region 29 with (first | (go_at_call 15; refine (meet_n S18.out O18.out Z18.out HM2.out).mono ?_; rintro e w19 ⟨rfl, hb⟩; have B19 := Aside0.mk (below_step B18.out hb); have X19 := Aside0.mk (X18.out.below hb); clear hb))
              obtain ⟨x0, x1, x2⟩ := X19.out.cells
              rcases HQF.out with ⟨q, hq⟩ | ⟨q, hq⟩
              · simp only [Prod.mk.injEq] at hq
                obtain ⟨rfl, rfl, rfl⟩ := hq
                have dq : decide (RX ≤ vSum LX xs) = false := decide_eq_false (by omega)
                clear q
                go_wp2
                go_meet
                exact B19
              · simp only [Prod.mk.injEq] at hq
                obtain ⟨rfl, rfl, rfl⟩ := hq
                have dq : decide (RX ≤ vSum LX xs) = true := decide_eq_true (by omega)
                obtain rfl : bm = true := HMT.out (by omega)
                have bs : (t'.toList == t'.toList) = true := by simp
                clear q
                go_wp2
                go_meet
                exact B19
  case rest =>
    go_upto_region 32 with (first | (go_at_call 41; refine (drawRead_c A1 c1 more _ (Kd.C_below HR1.out hcut.out) HC1.out).mono ?_; rintro e w20 ⟨AU, cU, LU, RU, WU, Ae, ce, se, rfl, hd⟩; have HDU := Aside0.mk hd; clear hd))
    obtain ⟨W21, hW21⟩ : ∃ W21, W21 = w20.alloc (.cells #[.slice AU LU.length cU, .int .i64 RU, .int .i64 WU] 35) := ⟨_, rfl⟩
    have hal : Below w20.heap.size w20 W21 := by rw [hW21]; exact below_alloc (Below.refl _ _) _
    have B21 := Aside0.mk (below_step (below_step hcut.out HDU.out.bel) hal)
    have U21 := Aside0.mk (Bx.new HDU.out.row hW21)
    have E21 := Aside0.mk (show Ns Ae ce se W21 from ⟨Kd.C_below (Kd.R_reads' HDU.out.rs).2.2 hal, (Kd.R_reads' HDU.out.rs).2.1⟩)
    have HLU := Aside0.mk (show LU.length ≤ 1073741824 ∧ se.length ≤ 1073741824 from ⟨by have := HDU.out.l7; omega, by have := HDU.out.s8; omega⟩)
    rw [← hW21]
    clear hW21 hal HDU
    obtain ⟨x0, x1, x2⟩ := U21.out.cells
    rcases read_facts LU RU WU se with hrd | ⟨hgu, tu, hrd⟩
    · have HRD := Aside0.mk hrd
      clear hrd
      go_upto_region 33 with (first | (go_at_call 32; refine (read_n U21.out E21.out HRD.out).mono ?_; rintro e w22 ⟨rfl, hb⟩; have B22 := Aside0.mk (below_step B21.out hb); have U22 := Aside0.mk (U21.out.below hb); have E22 := Aside0.mk (E21.out.below hb); clear hb))
      clear x0 x1 x2 U21 E21 B21
      obtain ⟨x0, x1, x2⟩ := U22.out.cells
      go_wp2_with (first | (go_at_call 31; refine (sread_n U22.out E22.out HLU.out.1 HLU.out.2 HRD.out).mono ?_; rintro e w23 ⟨rfl, hb⟩; have B23 := Aside0.mk (below_step B22.out hb); clear hb))
      go_ret
      exact ⟨rfl, B23.out⟩
    · have HRD := Aside0.mk hrd
      have HNU := Aside0.mk (show impl_NewestOf.f LU RU WU = some (vTop LU, vWeigh LU (vTop LU), true) from congrArg some (newest_good LU RU WU hgu))
      have bs : (tu.toList == tu.toList) = true := by simp
      clear hrd hgu
      go_upto_region 33 with (first | (go_at_call 32; refine (read_n U21.out E21.out HRD.out).mono ?_; rintro e w22 ⟨rfl, hb⟩; have B22 := Aside0.mk (below_step B21.out hb); have U22 := Aside0.mk (U21.out.below hb); have E22 := Aside0.mk (E21.out.below hb); clear hb))
      clear x0 x1 x2 U21 E21 B21
      obtain ⟨x0, x1, x2⟩ := U22.out.cells
      go_upto_region 34 with (first | (go_at_call 31; refine (sread_n U22.out E22.out HLU.out.1 HLU.out.2 HRD.out).mono ?_; rintro e w23 ⟨rfl, hb⟩; have B23 := Aside0.mk (below_step B22.out hb); have U23 := Aside0.mk (U22.out.below hb); clear hb))
      clear x0 x1 x2 U22 E22 B22
      obtain ⟨x0, x1, x2⟩ := U23.out.cells
      go_wp2_with (first | (go_at_call 23; refine (impl_NewestOf.calls AU cU LU RU WU (vTop LU) (vWeigh LU (vTop LU)) true _ U23.out.r U23.out.h HNU.out).mono ?_; rintro e w24 ⟨rfl, hb⟩; have B24 := Aside0.mk (below_step B23.out hb); clear hb))
      go_ret
      exact ⟨rfl, B24.out⟩
set_option maxRecDepth 100000 in
set_option maxHeartbeats 1000000 in
theorem quo_long (A0 : Option Addr) (c0 : Nat) (code : List Int) (A1 : Option Addr) (c1 : Nat) (more : List Int) (w : World) (hlen : 1048576 < wrap64 ((code.length : Int) + (more.length : Int))) :
    Calls Try.prog 12 #[.slice A0 code.length c0, .slice A1 more.length c1] w fun e w' => e = .returned (.bool true) ∧ Below w.heap.size w w' := by
  have d1 : decide (1048576 < wrap64 ((code.length : Int) + (more.length : Int))) = true := decide_eq_true hlen
  clear hlen
  go_enter Try.func12, Try.ntmps12
  go_wp2
  go_ret
  exact ⟨rfl, Below.refl _ _⟩
theorem quo_all (A0 : Option Addr) (c0 : Nat) (code : List Int) (A1 : Option Addr) (c1 : Nat) (more : List Int) (w : World) (hr : Kd.C (Kd.int .u8) w A0 code.length code) (hc : ∀ y ∈ code, 0 ≤ y ∧ y ≤ 255) (hr1 : Kd.C (Kd.int .u8) w A1 more.length more) (hc1 : ∀ y ∈ more, 0 ≤ y ∧ y ≤ 255) :
    Calls Try.prog 12 #[.slice A0 code.length c0, .slice A1 more.length c1] w fun e w' => e = .returned (.bool true) ∧ Below w.heap.size w w' := by
  by_cases h : 1048576 < wrap64 ((code.length : Int) + (more.length : Int))
  · exact quo_long A0 c0 code A1 c1 more w h
  · exact quo_law A0 c0 code A1 c1 more w hr hc hr1 hc1 h
end Go.Proofs.Ytfbghibgjfegpaa.PRQ
