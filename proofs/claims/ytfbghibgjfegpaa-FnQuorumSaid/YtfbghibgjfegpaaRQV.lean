import Derived.Test.YtfbghibgjfegpaaLibRQ
import Derived.WalkKit
import Derived.Deep.RegionWith
/- The reference's drawn voting: some voting of one to seven copies, its row the call's own. Conditions: the code's bytes lie between 0 and 255. -/
namespace Go.Proofs.Ytfbghibgjfegpaa.PRQ
open Go.RowKit Go.Proofs.YtfbghibgjfegpaaW.PrintWords Go.Proofs.YtfbghibgjfegpaaW.PrintLast Go.Proofs.YtfbghibgjfegpaaW.PrintMore Go.Proofs.Ytfbghibgjfegpaa.Pure
set_option linter.unusedVariables false
set_option linter.unusedSimpArgs false
/-- What the drawing holds: the cursor, the empty result, the voting so far. -/
structure Vo (w0 w : World) (g : Nat) (code : List Int) (b2 b6 : Nat) (A : Option Addr) (c : Nat) (L : List S57) (R Wt : Int) (a sd : Int) (W : World) : Prop where
  cur : IsS90 w0 W g code a sd
  bel : Below w0.heap.size w0 W
  keep : KeepBut w W g none
  z2 : W.heap[b2]? = some (.cells #[.slice none 0 0, .int .i64 0, .int .i64 0] 35 (0, 0))
  k6 : W.heap[b6]? = some (.cells #[.slice A L.length c, .int .i64 R, .int .i64 Wt] 35 (0, 0))
  g2 : w.heap.size ≤ b2
  g6 : w.heap.size ≤ b6
  ne : b2 ≠ b6
  le : w0.heap.size ≤ w.heap.size
  row : Kd.R k57 57 W w.heap.size (fun _ => True) (.slice A L.length c) L
variable {w0 w : World} {g : Nat} {code : List Int} {b2 b6 : Nat} {A : Option Addr} {c : Nat} {L : List S57} {R Wt a sd : Int} {W W' : World}
theorem Vo.below (h : Vo w0 w g code b2 b6 A c L R Wt a sd W) (hb : Below W.heap.size W W') : Vo w0 w g code b2 b6 A c L R Wt a sd W' :=
  ⟨h.cur.below hb, below_step h.bel hb, h.keep.trans (KeepBut.of_below hb g none) (.inl rfl), blk_below h.z2 hb, blk_below h.k6 hb, h.g2, h.g6, h.ne, h.le, Kd.R_below h.row hb⟩
theorem Vo.drew (h : Vo w0 w g code b2 b6 A c L R Wt a sd W) : Vo w0 w g code b2 b6 A c L R Wt a sd W.drew := h.below (below_drew1 (Below.refl _ _))
theorem Vo.alloc (h : Vo w0 w g code b2 b6 A c L R Wt a sd W) (o : Obj) : Vo w0 w g code b2 b6 A c L R Wt a sd (W.alloc o) := h.below (below_alloc (Below.refl _ _) o)
theorem Vo.n2 (h : Vo w0 w g code b2 b6 A c L R Wt a sd W) : b2 ≠ g := (h.cur.ne_blk h.z2 (by decide)).symm
theorem Vo.n6 (h : Vo w0 w g code b2 b6 A c L R Wt a sd W) : b6 ≠ g := (h.cur.ne_blk h.k6 (by decide)).symm
/-- A call of the cursor's. -/
theorem Vo.step {a' sd' : Int} (h : Vo w0 w g code b2 b6 A c L R Wt a sd W) (hi : IsS90 w0 W' g code a' sd') (hb : Below w0.heap.size w0 W') (hk : KeepBut W W' g none) : Vo w0 w g code b2 b6 A c L R Wt a' sd' W' :=
  ⟨hi, hb, h.keep.trans hk (.inl rfl), hk.blk h.z2 h.n2 (by simp), hk.blk h.k6 h.n6 (by simp), h.g2, h.g6, h.ne, h.le, Kd.R_mono (Kd.R_keep (h.cur.apart h.row (by decide)) hk (fun _ hk => hk.2)) (fun _ _ => trivial)⟩
theorem Vo.cells (h : Vo w0 w g code b2 b6 A c L R Wt a sd W) : (W.cell? ⟨b6, 0, none⟩ = some (.slice A L.length c) ∧ W.cell? ⟨b6, 1, none⟩ = some (.int .i64 R) ∧ W.cell? ⟨b6, 2, none⟩ = some (.int .i64 Wt)) ∧ W.frozen? ⟨b6, 0, none⟩ = false ∧ W.frozen? ⟨b6, 1, none⟩ = false ∧ W.frozen? ⟨b6, 2, none⟩ = false :=
  ⟨⟨(blk_cell h.k6 0).trans rfl, (blk_cell h.k6 1).trans rfl, (blk_cell h.k6 2).trans rfl⟩, blk_frozen h.k6 0, blk_frozen h.k6 1, blk_frozen h.k6 2⟩
theorem blk_put3 {w : World} {g : Nat} {x y z : Value} (h : w.heap[g]? = some (.cells #[x, y, z] 35 (0, 0))) (u : Value) (R W : Int) :
    (((w.setCell ⟨g, 0, none⟩ u).setCell ⟨g, 1, none⟩ (.int .i64 R)).setCell ⟨g, 2, none⟩ (.int .i64 W)).heap[g]? = some (.cells #[u, .int .i64 R, .int .i64 W] 35 (0, 0)) := by
  simpa using blk_set (blk_set (blk_set h 0 u) 1 (.int .i64 R)) 2 (.int .i64 W)
/-- Another voting is put into the variable. -/
theorem Vo.put {A' : Option Addr} {c' : Nat} {L' : List S57} {R' Wt' : Int} {base : Nat} (h : Vo w0 w g code b2 b6 A c L R Wt a sd W) (hbase : w.heap.size ≤ base) (hR : Kd.R k57 57 W base (fun _ => True) (.slice A' L'.length c') L') :
    Vo w0 w g code b2 b6 A' c' L' R' Wt' a sd (((W.setCell ⟨b6, 0, none⟩ (.slice A' L'.length c')).setCell ⟨b6, 1, none⟩ (.int .i64 R')).setCell ⟨b6, 2, none⟩ (.int .i64 Wt')) :=
  have h0 : w0.heap.size ≤ b6 := Nat.le_trans h.le h.g6
  have hr := Kd.R_types hR h.k6 (by decide)
  ⟨((h.cur.far h.n6.symm _).far h.n6.symm _).far h.n6.symm _, below_set (below_set (below_set h.bel h0) h0) h0, keep_far (keep_far (keep_far h.keep h.g6 _) h.g6 _) h.g6 _,
    blk_far (blk_far (blk_far h.z2 h.ne _) h.ne _) h.ne _, blk_put3 h.k6 _ _ _, h.g2, h.g6, h.ne, h.le,
    Kd.R_mono (Kd.R_lower (Kd.R_far (Kd.R_far (Kd.R_far hr (fun _ hk => hk.2) _) (fun _ hk => hk.2) _) (fun _ hk => hk.2) _) hbase) (fun _ _ => trivial)⟩
/-- A box of its own is written: all else is kept. -/
theorem Vo.put9 {b9 : Nat} {x y z : Value} (h : Vo w0 w g code b2 b6 A c L R Wt a sd W) (hg : b9 ≠ g) (h2 : b9 ≠ b2) (h6 : b9 ≠ b6) (hw : w.heap.size ≤ b9) (hK : W.heap[b9]? = some (.cells #[x, y, z] 35 (0, 0))) (u v t : Value) :
    Vo w0 w g code b2 b6 A c L R Wt a sd (((W.setCell ⟨b9, 0, none⟩ u).setCell ⟨b9, 1, none⟩ v).setCell ⟨b9, 2, none⟩ t) :=
  have h0 : w0.heap.size ≤ b9 := Nat.le_trans h.le hw
  have hr := Kd.R_types h.row hK (by decide)
  ⟨((h.cur.far hg.symm _).far hg.symm _).far hg.symm _, below_set (below_set (below_set h.bel h0) h0) h0, keep_far (keep_far (keep_far h.keep hw _) hw _) hw _,
    blk_far (blk_far (blk_far h.z2 h2.symm _) h2.symm _) h2.symm _, blk_far (blk_far (blk_far h.k6 h6.symm _) h6.symm _) h6.symm _, h.g2, h.g6, h.ne, h.le,
    Kd.R_mono (Kd.R_far (Kd.R_far (Kd.R_far hr (fun _ hk => hk.2) _) (fun _ hk => hk.2) _) (fun _ hk => hk.2) _) (fun _ _ => trivial)⟩
/-- One copy's version is written in the row. -/
theorem elem57v {e base g n cap : Nat} {w : World} {xs : List S57} {ok : Nat → Prop} (h : Kd.R k57 e w base ok (.slice (some ⟨g, 0, none⟩) n cap) xs) (i : Int) (h0 : 0 ≤ i) (h1 : i < (n : Int)) (v : Int) :
    w.cell? ⟨g, i.toNat * 3, none⟩ = some (.int .i64 (rd_T57 xs i).f0) ∧ w.cell? ⟨g, i.toNat * 3 + 1, none⟩ = some (.int .i64 (rd_T57 xs i).f1) ∧ w.frozen? ⟨g, i.toNat * 3 + 1, none⟩ = false ∧
    Kd.R k57 e (w.setCell ⟨g, i.toNat * 3 + 1, none⟩ (.int .i64 v)) base ok (.slice (some ⟨g, 0, none⟩) n cap) (xs.set i.toNat ⟨(rd_T57 xs i).f0, v, (rd_T57 xs i).f2⟩) := by
  obtain ⟨ce, hcl, hM, hcc, hfr⟩ := Kd.R_elem h z57 i h0 h1
  obtain rfl := k57_openM hM
  refine ⟨hcc 0 _ rfl, hcc 1 _ rfl, hfr 1, ?_⟩
  exact (Kd.R_seg h i h0 h1 (seg := [.int .i64 v]) (j := 1) hcl hcc (show 2 ≤ 3 from by decide) (x' := (⟨(rd_T57 xs i).f0, v, (rd_T57 xs i).f2⟩ : S57)) (k57_mkM _ _ _ (⟨(rd_T57 xs i).f0, v, (rd_T57 xs i).f2⟩ : S57)) (fun _ hk => hk)).1
/-- The first copy's version is written. -/
theorem Vo.vers {go : Nat} (h : Vo w0 w g code b2 b6 (some ⟨go, 0, none⟩) c L R Wt a sd W) (hn : 0 < L.length) (v : Int) :
    Vo w0 w g code b2 b6 (some ⟨go, 0, none⟩) c (L.set (0 : Int).toNat ⟨(rd_T57 L 0).f0, v, (rd_T57 L 0).f2⟩) R Wt a sd (W.setCell ⟨go, (0 : Int).toNat * 3 + 1, none⟩ (.int .i64 v)) :=
  have hr := (elem57v h.row 0 (Int.le_refl 0) (by omega) v).2.2.2
  have hgo : w.heap.size ≤ go := R_ge h.row hn
  have h0 : w0.heap.size ≤ go := Nat.le_trans h.le hgo
  have n6 : b6 ≠ go := by simpa [Value.ownBlock] using Kd.R_ne h.row h.k6 (by decide)
  have n2 : b2 ≠ go := by simpa [Value.ownBlock] using Kd.R_ne h.row h.z2 (by decide)
  have ng : g ≠ go := by simpa [Value.ownBlock] using h.cur.own_ne h.row (by decide)
  ⟨h.cur.far ng _, below_set h.bel h0, keep_far h.keep hgo _, blk_far h.z2 n2 _, by rw [List.length_set]; exact blk_far h.k6 n6 _, h.g2, h.g6, h.ne, h.le, by rw [List.length_set]; exact hr⟩
/-- Another number of read votes. -/
theorem Vo.read (h : Vo w0 w g code b2 b6 A c L R Wt a sd W) (R' : Int) : Vo w0 w g code b2 b6 A c L R' Wt a sd (W.setCell ⟨b6, 1, none⟩ (.int .i64 R')) :=
  have h0 : w0.heap.size ≤ b6 := Nat.le_trans h.le h.g6
  ⟨h.cur.far h.n6.symm _, below_set h.bel h0, keep_far h.keep h.g6 _, blk_far h.z2 h.ne _, by simpa using blk_set h.k6 1 (.int .i64 R'), h.g2, h.g6, h.ne, h.le,
    Kd.R_mono (Kd.R_far (Kd.R_types h.row h.k6 (by decide)) (fun _ hk => hk.2) _) (fun _ _ => trivial)⟩
/-- The voting so far is what comes back. -/
theorem Vo.done (h : Vo w0 w g code b2 b6 A c L R Wt a sd W) (hW : W' = (((W.setCell ⟨b2, 0, none⟩ (.slice A L.length c)).setCell ⟨b2, 1, none⟩ (.int .i64 R)).setCell ⟨b2, 2, none⟩ (.int .i64 Wt))) :
    Kd.R k57 57 W' w.heap.size (fun _ => True) (.slice A L.length c) L ∧ IsS90 w0 W' g code a sd ∧ Below w0.heap.size w0 W' ∧ KeepBut w W' g none := by
  subst hW
  have h0 : w0.heap.size ≤ b2 := Nat.le_trans h.le h.g2
  have hr := Kd.R_types h.row h.z2 (by decide)
  exact ⟨Kd.R_mono (Kd.R_far (Kd.R_far (Kd.R_far hr (fun _ hk => hk.2) _) (fun _ hk => hk.2) _) (fun _ hk => hk.2) _) (fun _ _ => trivial),
    ((h.cur.far h.n2.symm _).far h.n2.symm _).far h.n2.symm _, below_set (below_set (below_set h.bel h0) h0) h0, keep_far (keep_far (keep_far h.keep h.g2 _) h.g2 _) h.g2 _⟩
theorem lit_row {α : Type} (d : Kd α) (W : World) (e : Nat) {xs : List α} {inner : List Value} (hrep : Reps (d.M W W.heap.size (fun _ => True)) d.sz xs inner) (hm : xs.length ≤ 9223372036854775807) :
    d.R e (W.alloc (.cells inner.toArray e)) W.heap.size (fun _ => True) (.slice (some ⟨W.heap.size, 0, none⟩) xs.length xs.length) xs := by
  refine ⟨fun k hk => trivial, inner, ?_, ?_⟩
  · have h2 := World.ownsRow_lit (base := W.heap.size) (e := e) (size := d.sz) W inner.toArray xs.length (Nat.le_refl _) (by simpa [maxLen] using hm) (by simpa using hrep.1)
    simpa using h2
  · refine hrep.imp_ (fun p c hp => d.M_mono (fun k hk => ⟨trivial, fun he => ?_⟩) (Kd.M_below (d.M_bound hp) (below_alloc (Below.refl _ _) _)))
    have h3 : k = W.heap.size := by simpa [Value.ownBlock] using he
    have := hk.2.2.1
    omega
theorem row4 (W : World) : Kd.R Kd.string 9 (W.alloc (.cells #[.string ⟨#[97]⟩, .string ⟨#[98]⟩, .string ⟨#[116, 101, 120, 116]⟩, .string ⟨#[]⟩] 9)) W.heap.size (fun _ => True) (.slice (some ⟨W.heap.size, 0, none⟩) 4 4) [(⟨#[97]⟩ : ByteArray), (⟨#[98]⟩ : ByteArray), (⟨#[116, 101, 120, 116]⟩ : ByteArray), (⟨#[]⟩ : ByteArray)] :=
  lit_row Kd.string W 9 (xs := [(⟨#[97]⟩ : ByteArray), (⟨#[98]⟩ : ByteArray), (⟨#[116, 101, 120, 116]⟩ : ByteArray), (⟨#[]⟩ : ByteArray)]) (inner := [.string ⟨#[97]⟩, .string ⟨#[98]⟩, .string ⟨#[116, 101, 120, 116]⟩, .string ⟨#[]⟩]) (Reps.one (show Kd.M Kd.string _ _ _ (⟨#[97]⟩ : ByteArray) [.string ⟨#[97]⟩] from rfl) (Reps.one (show Kd.M Kd.string _ _ _ (⟨#[98]⟩ : ByteArray) [.string ⟨#[98]⟩] from rfl) (Reps.one (show Kd.M Kd.string _ _ _ (⟨#[116, 101, 120, 116]⟩ : ByteArray) [.string ⟨#[116, 101, 120, 116]⟩] from rfl) (Reps.one (show Kd.M Kd.string _ _ _ (⟨#[]⟩ : ByteArray) [.string ⟨#[]⟩] from rfl) (Reps.none _ _))))) (by simp)
/-- What a drawn voting is. -/
structure RetV (w0 w : World) (g : Nat) (code : List Int) (e : Ending) (w' : World) : Prop where
  out : ∃ (A : Option Addr) (c : Nat) (L : List S57) (R Wt a sd : Int), e = .returned (.agg #[.slice A L.length c, .int .i64 R, .int .i64 Wt]) ∧ Kd.R k57 57 w' w.heap.size (fun _ => True) (.slice A L.length c) L ∧ (1 ≤ L.length ∧ L.length ≤ 7) ∧ IsS90 w0 w' g code a sd ∧ (0 ≤ a ∧ a ≤ 2000) ∧ Below w0.heap.size w0 w' ∧ KeepBut w w' g none
set_option maxRecDepth 100000 in
set_option maxHeartbeats 4000000 in
theorem voting_c (g : Nat) (code : List Int) (a sd : Int) (w0 w : World) (hI : IsS90 w0 w g code a sd) (hB : Below w0.heap.size w0 w) (hc : ∀ y ∈ code, 0 ≤ y ∧ y ≤ 255) (h0 : 0 ≤ a) (ha : a ≤ 1000) :
    Calls Try.prog 72 #[.pointer (some ⟨g, 0, none⟩)] w (RetV w0 w g code) := by
  obtain ⟨ws, a1, s1, hW, hwl, hwr, ha1, ha1'⟩ := weights_at code hc a sd h0 (by omega)
  obtain ⟨kw, hW⟩ := hW.rounds
  obtain ⟨r, n, a2, s2, hV, ha2, ha2'⟩ := votes_at code hc ws (by omega) a1 s1 (by omega) (by omega)
  obtain ⟨kv, hV⟩ := hV.rounds
  obtain ⟨kn, hN⟩ := (specNV_ev ws r n (by omega)).rounds
  have hL1 := nvV_ok ws r n
  rcases hv : nvV ws r n with ⟨L1, R1, W1, b1⟩
  rw [hv] at hN hL1
  obtain ⟨km, hM⟩ := (specNV_ev [1, 1, 1] 2 2 (by decide)).rounds
  rw [nv3] at hM
  obtain ⟨p, a3, s3, hP, hp, ha3, ha3'⟩ := pick_at code hc 6 a2 s2 (by omega) (by omega) (by omega) (by omega)
  have HI := Aside0.mk hI
  have HW := Aside0.mk hW
  have HV := Aside0.mk hV
  have HN := Aside0.mk hN
  have HM := Aside0.mk hM
  have HP := Aside0.mk hP
  have HL1 := Aside0.mk hL1
  have HC := Aside0.mk hc
  have HB := Aside0.mk hB
  clear hI hW hV hN hM hP hL1 hv hc hB
  have hz := HB.out.size
  go_enter Try.func72, Try.ntmps72
  go_upto_region 1 with (fail)
  obtain ⟨W1', hW1⟩ : ∃ W1', W1' = w.alloc (.cells #[.slice none 0 0, .int .i64 0, .int .i64 0] 35) := ⟨_, rfl⟩
  have hal : Below w.heap.size w W1' := by rw [hW1]; exact below_alloc (Below.refl _ _) _
  have I1 := Aside0.mk (HI.out.below hal)
  have B1 := Aside0.mk (below_step HB.out hal)
  have K1 := Aside0.mk (KeepBut.of_below hal g none)
  have Z1 := Aside0.mk (show W1'.heap[w.heap.size]? = some (.cells #[.slice none 0 0, .int .i64 0, .int .i64 0] 35 (0, 0)) by rw [hW1]; exact blk_new w _)
  rw [← hW1]
  clear hal hW1
  go_upto_region 3 with (first | (go_at_call 70; refine (spec_l1Cur_weights.calls kw g code a sd ws a1 s1 w0 _ I1.out B1.out HW.out).mono ?_; rintro e w2 ⟨v0, rfl, ho, hi, hb, hk⟩; obtain ⟨Aw, cw, rfl⟩ := Kd.R_slice ho; have RW := Aside0.mk ho; have I2 := Aside0.mk hi; have B2 := Aside0.mk hb; have K2 := Aside0.mk (K1.out.trans hk (.inl rfl)); have Z2 := Aside0.mk (hk.blk Z1.out (I1.out.ne_blk Z1.out (by decide)).symm (by simp)); clear ho hi hb hk) | (go_at_call 71; refine (spec_l1Cur_votes.calls kv g code a1 s1 Aw cw ws r n a2 s2 w0 _ I2.out B2.out (Kd.R_reads' RW.out).2.2 (Kd.R_reads' RW.out).2.1 (far_slice (I2.out.own_ne RW.out (by decide))) HV.out).mono ?_; rintro e w3 ⟨rfl, hi, hb, hk⟩; have RW3 := Aside0.mk (Kd.R_keep (I2.out.apart RW.out (by decide)) hk (fun _ hk => hk.2)); have I3 := Aside0.mk hi; have B3 := Aside0.mk hb; have K3 := Aside0.mk (K2.out.trans hk (.inl rfl)); have Z3 := Aside0.mk (hk.blk Z2.out (I2.out.ne_blk Z2.out (by decide)).symm (by simp)); clear hi hb hk))
  go_upto_region 4 with (first | (go_at_call 24; refine (spec_NewVoting.calls kn Aw cw ws r n L1 R1 W1 b1 _ (Kd.R_reads' RW3.out).2.2 (Kd.R_reads' RW3.out).2.1 HN.out).mono ?_; rintro e w4 ⟨v0, rfl, ho, hb⟩; obtain ⟨AL, cL, rfl⟩ := Kd.R_slice ho; have RL4 := Aside0.mk (Kd.R_lower ho K3.out.1); have I4 := Aside0.mk (I3.out.below hb); have B4 := Aside0.mk (below_step B3.out hb); have K4 := Aside0.mk (K3.out.trans (KeepBut.of_below hb g none) (.inl rfl)); have Z4 := Aside0.mk (blk_below Z3.out hb); clear ho hb))
  obtain ⟨W5, hW5⟩ : ∃ W5, W5 = w4.alloc (.cells #[.slice AL L1.length cL, .int .i64 R1, .int .i64 W1] 35) := ⟨_, rfl⟩
  have hal : Below w4.heap.size w4 W5 := by rw [hW5]; exact below_alloc (Below.refl _ _) _
  have HVo := Aside0.mk (show Vo w0 w g code w.heap.size w4.heap.size AL cL L1 R1 W1 a2 s2 W5 from
    ⟨I4.out.below hal, below_step B4.out hal, K4.out.trans (KeepBut.of_below hal g none) (.inl rfl), blk_below Z4.out hal, by rw [hW5]; exact blk_new w4 _, Nat.le_refl _, K4.out.1, Nat.ne_of_lt (blk_lt Z4.out), hz, Kd.R_below RL4.out hal⟩)
  rw [← hW5]
  clear hal hW5 I4 B4 K4 Z4 RL4 I3 B3 K3 Z3 RW3 I2 B2 K2 Z2 RW I1 B1 K1 Z1
  go_upto_if 27 with (fail)
  go_cut [] (fun wx => ∃ (A : Option Addr) (c : Nat) (L : List S57) (R Wt : Int), Aside0 (Vo w0 w g code w.heap.size w4.heap.size A c L R Wt a2 s2 wx) ∧ Aside0 (1 ≤ L.length ∧ L.length ≤ 7))
  case first =>
    cases b1 with
    | true =>
      go_wp2
      go_meet
      exact ⟨_, _, _, _, _, HVo, ⟨HL1.out trivial⟩⟩
    | false =>
      go_wp2_with (first | ((with_reducible refine gate_dst (N := 29) rfl ?_); refine Kd.R_lit (Kd.int .i64) _ 3 ?hg (N := 29) ?hd (xs := ([1, 1, 1] : List Int)) (inner := [.int .i64 1, .int .i64 1, .int .i64 1]) (ok := fun _ => True) (okp := fun _ => True) ?hr ?hp (fun _ hk => hk) trivial (Below.refl _ _) (Nat.le_refl _) (by simp) ?_; (case hd => rfl); (case hg => rfl); (case hr => first | (go_simp; done) | (go_simp; rfl)); (case hp => exact (Reps.one (show Kd.M (Kd.int .i64) _ _ _ 1 [.int .i64 1] from rfl) (Reps.one (show Kd.M (Kd.int .i64) _ _ _ 1 [.int .i64 1] from rfl) (Reps.one (show Kd.M (Kd.int .i64) _ _ _ 1 [.int .i64 1] from rfl) (Reps.none _ _))))); intro vB w6 ho hb hg_ hnew_; clear hg_ hnew_; obtain ⟨AB, cB, rfl⟩ := Kd.R_slice ho; have RB := Aside0.mk ho; have HVo6 := Aside0.mk (HVo.out.below hb); clear ho hb) | (go_at_call 24; refine (spec_NewVoting.calls km AB cB [1, 1, 1] 2 2 (nvL [1, 1, 1]) 2 2 true _ (Kd.R_reads' RB.out).2.2 (Kd.R_reads' RB.out).2.1 HM.out).mono ?_; rintro e w7 ⟨v0, rfl, ho, hb⟩; obtain ⟨AN, cN, rfl⟩ := Kd.R_slice ho; have RN := Aside0.mk ho; have HVo7 := Aside0.mk (HVo6.out.below hb); clear ho hb; obtain ⟨⟨z0, z1, z2⟩, y0, y1, y2⟩ := HVo7.out.cells))
      go_meet
      exact ⟨_, _, _, _, _, ⟨HVo7.out.put HVo6.out.keep.1 RN.out⟩, ⟨by decide, by decide⟩⟩
  case rest =>
    obtain ⟨A5, c5, L5, R5, T5, HVo5, HL5⟩ := hcut
    go_wp2_with (first | (go_at_call 83; refine (spec_l1Cur_pick.calls g code a2 s2 6 p a3 s3 w0 _ HVo5.out.cur HVo5.out.bel HP.out).mono ?_; rintro e w8 ⟨rfl, hi, hb, hk⟩; have HVo8 := Aside0.mk (HVo5.out.step hi hb hk); clear hi hb hk))
    clear HVo5 HVo
    go_loopw [8] (fun v8 wr => ∃ (x : Int) (A : Option Addr) (c : Nat) (L : List S57) (R Wt a sd : Int), 0 ≤ x ∧ x ≤ 6 ∧ v8 = .int .i64 x ∧ Aside0 (Vo w0 w g code w.heap.size w4.heap.size A c L R Wt a sd wr) ∧ Aside0 (1 ≤ L.length ∧ L.length ≤ 7) ∧ Aside0 (0 ≤ a ∧ a + 40 * x ≤ 1300)) (fun v _ => (intOf v).toNat)
    case atStart => exact ⟨p, A5, c5, L5, R5, T5, a3, s3, by omega, by omega, rfl, HVo8, HL5, ⟨by omega, by omega⟩⟩
    case round =>
      obtain ⟨x, A, c, L, R, Wt, a4, s4, hx0, hx6, rfl, HVo, HL, HA⟩ := hrel
      clear HVo8 HP HM HN HV HW HL1
      have ha4 := HA.out
      by_cases hx : x > 0
      · have hd : decide (0 < x) = true := decide_eq_true hx
        obtain ⟨b, a5, s5, hO, ha5, ha5'⟩ := one_at code HC.out 3 a4 s4 (by omega) (by omega) (by omega) (by omega)
        have HO := Aside0.mk hO
        clear hO
        obtain ⟨⟨z0, z1, z2⟩, y0, y1, y2⟩ := HVo.out.cells
        go_upto_region 10 with (fail)
        obtain ⟨W9, hW9⟩ : ∃ W9, W9 = wr.alloc (.cells #[.slice A L.length c, .int .i64 R, .int .i64 Wt] 35) := ⟨_, rfl⟩
        have hal : Below wr.heap.size wr W9 := by rw [hW9]; exact below_alloc (Below.refl _ _) _
        have HVo9 := Aside0.mk (HVo.out.below hal)
        have K9 := Aside0.mk (show W9.heap[wr.heap.size]? = some (.cells #[.slice A L.length c, .int .i64 R, .int .i64 Wt] 35 (0, 0)) by rw [hW9]; exact blk_new wr _)
        rw [← hW9]
        have N9 := Aside0.mk (show wr.heap.size ≠ g from (HVo9.out.cur.ne_blk K9.out (by decide)).symm)
        have G9 := Aside0.mk (show w.heap.size ≤ wr.heap.size from HVo.out.keep.1)
        have M9 := Aside0.mk (show wr.heap.size ≠ w4.heap.size from (Nat.ne_of_lt (blk_lt HVo.out.k6)).symm)
        have M2 := Aside0.mk (show wr.heap.size ≠ w.heap.size from (Nat.ne_of_lt (blk_lt HVo.out.z2)).symm)
        clear hal hW9 z0 z1 z2 y0 y1 y2 HVo
        go_upto_if 41 with (first | (go_at_call 84; refine (spec_l1Cur_one.calls g code a4 s4 3 b a5 s5 w0 _ HVo9.out.cur HVo9.out.bel HO.out).mono ?_; rintro e w10 ⟨rfl, hi, hb, hk⟩; have HVo10 := Aside0.mk (HVo9.out.step hi hb hk); have K10 := Aside0.mk (hk.blk K9.out N9.out (by simp)); clear hi hb hk))
        clear HVo9 K9 HO
        obtain ⟨s, a6, s6, hS, hsl, ha6, ha6'⟩ := some_at code HC.out (L.length : Int) (by omega) (by have := HL.out; omega) a5 s5 (by omega) (by omega)
        obtain ⟨ks, hS⟩ := hS.rounds
        have HS := Aside0.mk hS
        have HSL := Aside0.mk (show s.length ≤ 1073741824 by have := HL.out; omega)
        clear hS
        cases b with
        | true =>
          have hR := specRep_at L R Wt s (by have := HL.out; omega) HSL.out
          have hRl := repairV_len L R Wt s
          rcases hv : repairV L R Wt s with ⟨LR, RR, WR, nR, bR⟩
          rw [hv] at hR hRl
          have HR := Aside0.mk hR
          have HRL := Aside0.mk hRl
          clear hR hRl hv
          have q0 : w10.cell? ⟨w4.heap.size, 0, none⟩ = some (.slice A L.length c) := HVo10.out.cells.1.1
          have q1 : w10.cell? ⟨w4.heap.size, 1, none⟩ = some (.int .i64 R) := HVo10.out.cells.1.2.1
          have q2 : w10.cell? ⟨w4.heap.size, 2, none⟩ = some (.int .i64 Wt) := HVo10.out.cells.1.2.2
          have hne9 := M9.out
          have hne9' := M9.out.symm
          go_upto_region 11 with (fail)
          go_region_held3 (fun w' => w'.cell? ⟨w4.heap.size, 0, none⟩ = some (.slice A L.length c) ∧ w'.cell? ⟨w4.heap.size, 1, none⟩ = some (.int .i64 R) ∧ w'.cell? ⟨w4.heap.size, 2, none⟩ = some (.int .i64 Wt)) (go_keep) (first | (go_at_call 73; refine (spec_l1Cur_some.calls ks g code a5 s5 (L.length : Int) s a6 s6 w0 _ HVo10.out.drew.cur HVo10.out.drew.bel HS.out).mono ?_; rintro e w11 ⟨v0, rfl, ho, hi, hb, hk⟩; obtain ⟨Aq, cq, rfl⟩ := Kd.R_slice ho; have RQ := Aside0.mk ho; have HVo11 := Aside0.mk (HVo10.out.drew.step hi hb hk); have K11 := Aside0.mk (hk.blk (blk_drew K10.out) N9.out (by simp)); clear ho hi hb hk; have z0 : w11.cell? ⟨w4.heap.size, 0, none⟩ = some (.slice A L.length c) := HVo11.out.cells.1.1; have z1 : w11.cell? ⟨w4.heap.size, 1, none⟩ = some (.int .i64 R) := HVo11.out.cells.1.2.1; have z2 : w11.cell? ⟨w4.heap.size, 2, none⟩ = some (.int .i64 Wt) := HVo11.out.cells.1.2.2) | (go_at_call 35; refine (spec_RepairCopies.calls A c L R Wt Aq cq s LR RR WR nR bR _ (Kd.R_reads' HVo11.out.row).2.2 (Kd.R_reads' HVo11.out.row).2.1 (Kd.R_reads' RQ.out).2.2 (Kd.R_reads' RQ.out).2.1 HR.out).mono ?_; rintro e w12 ⟨v0, rfl, ho, hb⟩; obtain ⟨AR, cR, rfl⟩ := Kd.R_slice ho; have RR12 := Aside0.mk ho; have SZ := Aside0.mk HVo11.out.keep.1; have HVo12 := Aside0.mk (HVo11.out.below hb); have K12 := Aside0.mk (blk_below K11.out hb); clear ho hb; have u0 : w12.cell? ⟨w4.heap.size, 0, none⟩ = some (.slice A L.length c) := HVo12.out.cells.1.1; have u1 : w12.cell? ⟨w4.heap.size, 1, none⟩ = some (.int .i64 R) := HVo12.out.cells.1.2.1; have u2 : w12.cell? ⟨w4.heap.size, 2, none⟩ = some (.int .i64 Wt) := HVo12.out.cells.1.2.2; have d0 : w12.cell? ⟨wr.heap.size, 0, none⟩ = some (.slice A L.length c) := (blk_cell K12.out 0).trans rfl; have d1 : w12.cell? ⟨wr.heap.size, 1, none⟩ = some (.int .i64 R) := (blk_cell K12.out 1).trans rfl; have d2 : w12.cell? ⟨wr.heap.size, 2, none⟩ = some (.int .i64 Wt) := (blk_cell K12.out 2).trans rfl; have f0 := blk_frozen K12.out 0; have f1 := blk_frozen K12.out 1; have f2 := blk_frozen K12.out 2))
          have hne2 := M2.out
          have hne2' := M2.out.symm
          all_goals clear q0 q1 q2 z0 z1 z2 u0 u1 u2 d0 d1 d2 f0 f1 f2 HVo11 RQ HVo10 K10
          obtain ⟨W13, hW13⟩ : ∃ W13, W13 = (((w12.setCell ⟨wr.heap.size, 0, none⟩ (.slice AR LR.length cR)).setCell ⟨wr.heap.size, 1, none⟩ (.int .i64 RR)).setCell ⟨wr.heap.size, 2, none⟩ (.int .i64 WR)) := ⟨_, rfl⟩
          have HVo13 := Aside0.mk (show Vo w0 w g code w.heap.size w4.heap.size A c L R Wt a6 s6 W13 by rw [hW13]; exact HVo12.out.put9 N9.out M2.out M9.out G9.out K12.out _ _ _)
          have K13 := Aside0.mk (show W13.heap[wr.heap.size]? = some (.cells #[.slice AR LR.length cR, .int .i64 RR, .int .i64 WR] 35 (0, 0)) by rw [hW13]; exact blk_put3 K12.out _ _ _)
          have RR13 := Aside0.mk (show Kd.R k57 57 W13 w11.heap.size (fun _ => True) (.slice AR LR.length cR) LR by rw [hW13]; exact Kd.R_mono (Kd.R_far (Kd.R_far (Kd.R_far (Kd.R_types RR12.out K12.out (by decide)) (fun _ hk => hk.2) _) (fun _ hk => hk.2) _) (fun _ hk => hk.2) _) (fun _ _ => trivial))
          rw [← hW13]
          have GW := Aside0.mk (show w.heap.size ≤ w11.heap.size from SZ.out)
          clear HVo12 K12 RR12 hW13
          have d0 : W13.cell? ⟨wr.heap.size, 0, none⟩ = some (.slice AR LR.length cR) := (blk_cell K13.out 0).trans rfl
          have d1 : W13.cell? ⟨wr.heap.size, 1, none⟩ = some (.int .i64 RR) := (blk_cell K13.out 1).trans rfl
          have d2 : W13.cell? ⟨wr.heap.size, 2, none⟩ = some (.int .i64 WR) := (blk_cell K13.out 2).trans rfl
          obtain ⟨⟨z0, z1, z2⟩, y0, y1, y2⟩ := HVo13.out.cells
          cases bR with
          | true =>
            go_wp2
            go_roundw
            case rel => exact ⟨x - 1, AR, cR, LR, RR, WR, a6, s6, by omega, by omega, rfl, ⟨HVo13.out.put GW.out RR13.out⟩, ⟨by rw [HRL.out rfl]; exact HL.out⟩, ⟨by omega, by have := HL.out; omega⟩⟩
            case measure => simp only [intOf]; omega
          | false =>
            go_wp2
            go_roundw
            case rel => exact ⟨x - 1, A, c, L, R, Wt, a6, s6, by omega, by omega, rfl, HVo13, HL, ⟨by omega, by have := HL.out; omega⟩⟩
            case measure => simp only [intOf]; omega
        | false =>
          obtain ⟨tt, a7, s7, hT, ha7, ha7'⟩ := of_at code HC.out [(⟨#[97]⟩ : ByteArray), (⟨#[98]⟩ : ByteArray), (⟨#[116, 101, 120, 116]⟩ : ByteArray), (⟨#[]⟩ : ByteArray)] a6 s6 (by simp) (by simp) (by omega) (by have := HL.out; omega)
          have HT := Aside0.mk hT
          have hR := specWrite_ev L R Wt s tt (by have := HL.out; omega) HSL.out
          have hRl := writeTextV_len L R Wt s tt
          rcases hv : writeTextV L R Wt s tt with ⟨LR, RR, WR, bR⟩
          rw [hv] at hR hRl
          obtain ⟨kw2, hR⟩ := hR.rounds
          have HR := Aside0.mk hR
          clear hT
          have HRL := Aside0.mk hRl
          clear hR hRl hv
          have q0 : w10.cell? ⟨w4.heap.size, 0, none⟩ = some (.slice A L.length c) := HVo10.out.cells.1.1
          have q1 : w10.cell? ⟨w4.heap.size, 1, none⟩ = some (.int .i64 R) := HVo10.out.cells.1.2.1
          have q2 : w10.cell? ⟨w4.heap.size, 2, none⟩ = some (.int .i64 Wt) := HVo10.out.cells.1.2.2
          have hne9 := M9.out
          have hne9' := M9.out.symm
          go_upto_region 12 with (fail)
          go_region_held3 (fun w' => w'.cell? ⟨w4.heap.size, 0, none⟩ = some (.slice A L.length c) ∧ w'.cell? ⟨w4.heap.size, 1, none⟩ = some (.int .i64 R) ∧ w'.cell? ⟨w4.heap.size, 2, none⟩ = some (.int .i64 Wt)) (go_keep) (first | (go_at_call 73; with_reducible refine (spec_l1Cur_some.calls ks g code a5 s5 (L.length : Int) s a6 s6 w0 w10.drew HVo10.out.drew.cur HVo10.out.drew.bel HS.out).mono ?_; rintro e w11 ⟨v0, rfl, ho, hi, hb, hk⟩; obtain ⟨Aq, cq, rfl⟩ := Kd.R_slice ho; have RQ := Aside0.mk ho; have HVo11 := Aside0.mk (HVo10.out.drew.step hi hb hk); have K11 := Aside0.mk (hk.blk (blk_drew K10.out) N9.out (by simp)); clear ho hi hb hk; have z0 : w11.cell? ⟨w4.heap.size, 0, none⟩ = some (.slice A L.length c) := HVo11.out.cells.1.1; have z1 : w11.cell? ⟨w4.heap.size, 1, none⟩ = some (.int .i64 R) := HVo11.out.cells.1.2.1; have z2 : w11.cell? ⟨w4.heap.size, 2, none⟩ = some (.int .i64 Wt) := HVo11.out.cells.1.2.2) | (go_at_call 73; have RBA := Aside0.mk (row4 w10.drew); have HVoA := Aside0.mk (HVo10.out.drew.alloc (.cells #[.string ⟨#[97]⟩, .string ⟨#[98]⟩, .string ⟨#[116, 101, 120, 116]⟩, .string ⟨#[]⟩] 9)); have KA := Aside0.mk (blk_alloc (blk_drew K10.out) (.cells #[.string ⟨#[97]⟩, .string ⟨#[98]⟩, .string ⟨#[116, 101, 120, 116]⟩, .string ⟨#[]⟩] 9)); refine (spec_l1Cur_some.calls ks g code a5 s5 (L.length : Int) s a6 s6 w0 _ HVoA.out.cur HVoA.out.bel HS.out).mono ?_; rintro e w11 ⟨v0, rfl, ho, hi, hb, hk⟩; obtain ⟨Aq, cq, rfl⟩ := Kd.R_slice ho; have RQ := Aside0.mk ho; have HVo11 := Aside0.mk (HVoA.out.step hi hb hk); have RB11 := Aside0.mk (Kd.R_keep (HVoA.out.cur.apart RBA.out (by decide)) hk (fun _ hk => hk.2)); have K11 := Aside0.mk (hk.blk KA.out N9.out (by simp)); clear ho hi hb hk; have z0 : w11.cell? ⟨w4.heap.size, 0, none⟩ = some (.slice A L.length c) := HVo11.out.cells.1.1; have z1 : w11.cell? ⟨w4.heap.size, 1, none⟩ = some (.int .i64 R) := HVo11.out.cells.1.2.1; have z2 : w11.cell? ⟨w4.heap.size, 2, none⟩ = some (.int .i64 Wt) := HVo11.out.cells.1.2.2) | (go_at_call 38; refine (spec_WriteText.calls kw2 A c L R Wt Aq cq s tt LR RR WR bR _ (Kd.R_reads' HVoC.out.row).2.2 (Kd.R_reads' HVoC.out.row).2.1 (Kd.R_reads' RQC.out).2.2 (Kd.R_reads' RQC.out).2.1 HR.out).mono ?_; rintro e w12 ⟨v0, rfl, ho, hb⟩; obtain ⟨AR, cR, rfl⟩ := Kd.R_slice ho; have RR12 := Aside0.mk ho; have SZ := Aside0.mk HVoC.out.keep.1; have HVo12 := Aside0.mk (HVoC.out.below hb); have K12 := Aside0.mk (blk_below KC.out hb); clear ho hb; have u0 : w12.cell? ⟨w4.heap.size, 0, none⟩ = some (.slice A L.length c) := HVo12.out.cells.1.1; have u1 : w12.cell? ⟨w4.heap.size, 1, none⟩ = some (.int .i64 R) := HVo12.out.cells.1.2.1; have u2 : w12.cell? ⟨w4.heap.size, 2, none⟩ = some (.int .i64 Wt) := HVo12.out.cells.1.2.2; have d0 : w12.cell? ⟨wr.heap.size, 0, none⟩ = some (.slice A L.length c) := (blk_cell K12.out 0).trans rfl; have d1 : w12.cell? ⟨wr.heap.size, 1, none⟩ = some (.int .i64 R) := (blk_cell K12.out 1).trans rfl; have d2 : w12.cell? ⟨wr.heap.size, 2, none⟩ = some (.int .i64 Wt) := (blk_cell K12.out 2).trans rfl; have f0 := blk_frozen K12.out 0; have f1 := blk_frozen K12.out 1; have f2 := blk_frozen K12.out 2) | (go_at_call 74; have RB := RB11; have RQB := RQ; have HVoB := HVo11; have KB := K11; refine (spec_l1Cur_of.calls g code a6 s6 (some ⟨w10.drew.heap.size, 0, none⟩) 4 [(⟨#[97]⟩ : ByteArray), (⟨#[98]⟩ : ByteArray), (⟨#[116, 101, 120, 116]⟩ : ByteArray), (⟨#[]⟩ : ByteArray)] tt a7 s7 w0 _ HVoB.out.cur HVoB.out.bel (Kd.R_reads' RB.out).2.2 (by decide) (far_slice (HVoB.out.cur.own_ne RB.out (by decide))) HT.out).mono ?_; rintro e wC ⟨rfl, hi, hb, hk⟩; have RQC := Aside0.mk (Kd.R_keep (HVoB.out.cur.apart RQB.out (by decide)) hk (fun _ hk => hk.2)); have HVoC := Aside0.mk (HVoB.out.step hi hb hk); have KC := Aside0.mk (hk.blk KB.out N9.out (by simp)); clear hi hb hk; have o0 : wC.cell? ⟨w4.heap.size, 0, none⟩ = some (.slice A L.length c) := HVoC.out.cells.1.1; have o1 : wC.cell? ⟨w4.heap.size, 1, none⟩ = some (.int .i64 R) := HVoC.out.cells.1.2.1; have o2 : wC.cell? ⟨w4.heap.size, 2, none⟩ = some (.int .i64 Wt) := HVoC.out.cells.1.2.2) | (go_at_call 74; have RB := Aside0.mk (row4 w11); have RQB := Aside0.mk (Kd.R_elder' RQ.out (Kd.R_base RB.out) (below_alloc (Below.refl _ _) (.cells #[.string ⟨#[97]⟩, .string ⟨#[98]⟩, .string ⟨#[116, 101, 120, 116]⟩, .string ⟨#[]⟩] 9))); have HVoB := Aside0.mk (HVo11.out.alloc (.cells #[.string ⟨#[97]⟩, .string ⟨#[98]⟩, .string ⟨#[116, 101, 120, 116]⟩, .string ⟨#[]⟩] 9)); have KB := Aside0.mk (blk_alloc K11.out (.cells #[.string ⟨#[97]⟩, .string ⟨#[98]⟩, .string ⟨#[116, 101, 120, 116]⟩, .string ⟨#[]⟩] 9)); refine (spec_l1Cur_of.calls g code a6 s6 (some ⟨w11.heap.size, 0, none⟩) 4 [(⟨#[97]⟩ : ByteArray), (⟨#[98]⟩ : ByteArray), (⟨#[116, 101, 120, 116]⟩ : ByteArray), (⟨#[]⟩ : ByteArray)] tt a7 s7 w0 _ HVoB.out.cur HVoB.out.bel (Kd.R_reads' RB.out).2.2 (by decide) (far_slice (HVoB.out.cur.own_ne RB.out (by decide))) HT.out).mono ?_; rintro e wC ⟨rfl, hi, hb, hk⟩; have RQC := Aside0.mk (Kd.R_keep (HVoB.out.cur.apart RQB.out (by decide)) hk (fun _ hk => hk.2)); have HVoC := Aside0.mk (HVoB.out.step hi hb hk); have KC := Aside0.mk (hk.blk KB.out N9.out (by simp)); clear hi hb hk; have o0 : wC.cell? ⟨w4.heap.size, 0, none⟩ = some (.slice A L.length c) := HVoC.out.cells.1.1; have o1 : wC.cell? ⟨w4.heap.size, 1, none⟩ = some (.int .i64 R) := HVoC.out.cells.1.2.1; have o2 : wC.cell? ⟨w4.heap.size, 2, none⟩ = some (.int .i64 Wt) := HVoC.out.cells.1.2.2))
          all_goals (
            have hne2 := M2.out
            have hne2' := M2.out.symm
            clear o0 o1 o2 HVoB HVoC KB KC K11 RB RQB RQC q0 q1 q2 z0 z1 z2 u0 u1 u2 d0 d1 d2 f0 f1 f2 HVo11 RQ HVo10 K10
            obtain ⟨W13, hW13⟩ : ∃ W13, W13 = (((w12.setCell ⟨wr.heap.size, 0, none⟩ (.slice AR LR.length cR)).setCell ⟨wr.heap.size, 1, none⟩ (.int .i64 RR)).setCell ⟨wr.heap.size, 2, none⟩ (.int .i64 WR)) := ⟨_, rfl⟩
            have HVo13 := Aside0.mk (show Vo w0 w g code w.heap.size w4.heap.size A c L R Wt a7 s7 W13 by rw [hW13]; exact HVo12.out.put9 N9.out M2.out M9.out G9.out K12.out _ _ _)
            have K13 := Aside0.mk (show W13.heap[wr.heap.size]? = some (.cells #[.slice AR LR.length cR, .int .i64 RR, .int .i64 WR] 35 (0, 0)) by rw [hW13]; exact blk_put3 K12.out _ _ _)
            have RR13 := Aside0.mk (show Kd.R k57 57 W13 wC.heap.size (fun _ => True) (.slice AR LR.length cR) LR by rw [hW13]; exact Kd.R_mono (Kd.R_far (Kd.R_far (Kd.R_far (Kd.R_types RR12.out K12.out (by decide)) (fun _ hk => hk.2) _) (fun _ hk => hk.2) _) (fun _ hk => hk.2) _) (fun _ _ => trivial))
            rw [← hW13]
            have GW := Aside0.mk (show w.heap.size ≤ wC.heap.size from SZ.out)
            clear HVo12 K12 RR12 hW13
            have d0 : W13.cell? ⟨wr.heap.size, 0, none⟩ = some (.slice AR LR.length cR) := (blk_cell K13.out 0).trans rfl
            have d1 : W13.cell? ⟨wr.heap.size, 1, none⟩ = some (.int .i64 RR) := (blk_cell K13.out 1).trans rfl
            have d2 : W13.cell? ⟨wr.heap.size, 2, none⟩ = some (.int .i64 WR) := (blk_cell K13.out 2).trans rfl
            obtain ⟨⟨z0, z1, z2⟩, y0, y1, y2⟩ := HVo13.out.cells
            cases bR with
            | true =>
              go_wp2
              go_roundw
              case rel => exact ⟨x - 1, AR, cR, LR, RR, WR, a7, s7, by omega, by omega, rfl, ⟨HVo13.out.put GW.out RR13.out⟩, ⟨by rw [HRL.out rfl]; exact HL.out⟩, ⟨by omega, by have := HL.out; omega⟩⟩
              case measure => simp only [intOf]; omega
            | false =>
              go_wp2
              go_roundw
              case rel => exact ⟨x - 1, A, c, L, R, Wt, a7, s7, by omega, by omega, rfl, HVo13, HL, ⟨by omega, by have := HL.out; omega⟩⟩
              case measure => simp only [intOf]; omega
          )
      · have hd : decide (0 < x) = false := decide_eq_false hx
        obtain ⟨q, a5, s5, hQ, hq, ha5, ha5'⟩ := pick_at code HC.out 40 a4 s4 (by omega) (by omega) (by omega) (by omega)
        have HQ := Aside0.mk hQ
        clear hQ
        go_upto_block 2 with (first | (go_at_call 83; refine (spec_l1Cur_pick.calls g code a4 s4 40 q a5 s5 w0 _ HVo.out.cur HVo.out.bel HQ.out).mono ?_; rintro e w10 ⟨rfl, hi, hb, hk⟩; have HVo10 := Aside0.mk (HVo.out.step hi hb hk); clear hi hb hk))
        clear HVo HQ
        go_cut [] (fun wx => ∃ (A : Option Addr) (c : Nat) (L : List S57) (R Wt a sd : Int), Aside0 (Vo w0 w g code w.heap.size w4.heap.size A c L R Wt a sd wx) ∧ Aside0 (1 ≤ L.length ∧ L.length ≤ 7) ∧ Aside0 (0 ≤ a ∧ a ≤ 2000))
        case first =>
          have HA5 := Aside0.mk (show 0 ≤ a5 ∧ a5 ≤ 1400 by omega)
          by_cases q0 : q = 0
          · have e0 : (q == 0) = true := by simp [q0]
            clear q0
            obtain ⟨v9, a6, s6, hQ9, _, ha6, ha6'⟩ := pick_at code HC.out 9 a5 s5 (by omega) (by omega) (by omega) (by omega)
            have HQ9 := Aside0.mk hQ9
            have hlen := Aside0.mk (show 0 < L.length by have := HL.out; omega)
            obtain ⟨go, cc, eo, gb, gl, cl, HG⟩ := Kd.R_form HVo10.out.row hlen.out
            obtain rfl : A = some ⟨go, 0, none⟩ := by simpa using (Value.slice.inj eo).1
            clear hQ9 HG eo gb gl cl
            have z0 : w10.cell? ⟨w4.heap.size, 0, none⟩ = some (.slice (some ⟨go, 0, none⟩) L.length c) := HVo10.out.cells.1.1
            have n6 : w4.heap.size ≠ go := by simpa [Value.ownBlock] using Kd.R_ne HVo10.out.row HVo10.out.k6 (by decide)
            have n6' : go ≠ w4.heap.size := n6.symm
            have hl0 : (0 : Int) < (L.length : Int) := by have := hlen.out; omega
            have hl1 : 0 < L.length := hlen.out
            have hl3 : L ≠ [] := List.ne_nil_of_length_pos hlen.out
            go_upto_region 17 with (fail)
            go_region_held3 (fun w' => w'.cell? ⟨w4.heap.size, 0, none⟩ = some (.slice (some ⟨go, 0, none⟩) L.length c)) (go_keep) (first | (go_at_call 83; refine (spec_l1Cur_pick.calls g code a5 s5 9 v9 a6 s6 w0 _ HVo10.out.drew.cur HVo10.out.drew.bel HQ9.out).mono ?_; rintro e w11 ⟨rfl, hi, hb, hk⟩; have HVo11 := Aside0.mk (HVo10.out.drew.step hi hb hk); clear hi hb hk; have z1 : w11.cell? ⟨w4.heap.size, 0, none⟩ = some (.slice (some ⟨go, 0, none⟩) L.length c) := HVo11.out.cells.1.1; obtain ⟨_, c1, f1, _⟩ := elem57v HVo11.out.row 0 (Int.le_refl 0) hl0 v9; have c1' : w11.cell? ⟨go, 1, none⟩ = some (.int .i64 (rd_T57 L 0).f1) := (by simpa using c1); have f1' : w11.frozen? ⟨go, 1, none⟩ = false := (by simpa using f1); clear c1 f1))
            all_goals go_wp2
            all_goals go_meet
            all_goals exact ⟨_, _, _, _, _, _, _, ⟨HVo11.out.vers hlen.out v9⟩, ⟨by rw [List.length_set]; exact HL.out⟩, ⟨by have := HA5.out; omega⟩⟩
          · have e0 : (q == 0) = false := by simp [q0]
            by_cases q1 : q = 1
            · have e1 : (q == 1) = true := by simp [q1]
              obtain ⟨v9, a6, s6, hQ9, _, ha6, ha6'⟩ := pick_at code HC.out 4 a5 s5 (by omega) (by omega) (by omega) (by omega)
              have HQ9 := Aside0.mk hQ9
              clear hQ9 q0 q1
              go_wp2_with (first | (go_at_call 83; refine (spec_l1Cur_pick.calls g code a5 s5 4 v9 a6 s6 w0 _ HVo10.out.cur HVo10.out.bel HQ9.out).mono ?_; rintro e w11 ⟨rfl, hi, hb, hk⟩; have HVo11 := Aside0.mk (HVo10.out.step hi hb hk); clear hi hb hk; obtain ⟨⟨z0, z1, z2⟩, y0, y1, y2⟩ := HVo11.out.cells))
              go_meet
              exact ⟨_, _, _, _, _, _, _, ⟨HVo11.out.read v9⟩, HL, ⟨by have := HA5.out; omega⟩⟩
            · have e1 : (q == 1) = false := by simp [q1]
              clear q0 q1
              go_wp2
              go_meet
              exact ⟨_, _, _, _, _, _, _, HVo10, HL, ⟨by have := HA5.out; omega⟩⟩
        case rest =>
          obtain ⟨A, c, L, R, Wt, a7, s7, HVo, HL, HA7⟩ := hcut
          obtain ⟨⟨z0, z1, z2⟩, _, _, _⟩ := HVo.out.cells
          have y0 := blk_frozen HVo.out.z2 0
          have y1 := blk_frozen HVo.out.z2 1
          have y2 := blk_frozen HVo.out.z2 2
          obtain ⟨⟨x0, x1, x2⟩, _, _, _⟩ := boxZ_cells HVo.out.z2
          go_wp2
          refine bodyPost_ret (results_cell_row rfl _ _ w.heap.size 35 #[.slice A L.length c, .int .i64 R, .int .i64 Wt] (0, 0) _ rfl (blk_put3 HVo.out.z2 _ _ _) Try.underlying35 rfl (by kernel_rfl)) rfl ?_
          obtain ⟨r1, r2, r3, r4⟩ := HVo.out.done rfl
          exact ⟨⟨A, c, L, R, Wt, a7, s7, rfl, r1, HL.out, r2, HA7.out, r3, r4⟩⟩
end Go.Proofs.Ytfbghibgjfegpaa.PRQ
