import Derived.Test.YtfbghibgjfegpaaRQV
/- What is drawn for the laws of votings: some voting, some copies, a text. Conditions: the code's bytes lie between 0 and 255. -/
namespace Go.Proofs.Ytfbghibgjfegpaa.PRQ
open Go.RowKit Go.Proofs.YtfbghibgjfegpaaW.PrintWords Go.Proofs.YtfbghibgjfegpaaW.PrintLast Go.Proofs.YtfbghibgjfegpaaW.PrintMore Go.Proofs.Ytfbghibgjfegpaa.Pure
set_option linter.unusedVariables false
set_option linter.unusedSimpArgs false
/-- What is drawn is read: a voting and some numbers. -/
structure Dr (w : World) (A : Option Addr) (c : Nat) (L : List S57) (A1 : Option Addr) (c1 : Nat) (s : List Int) (w' : World) : Prop where
  row : Kd.R k57 57 w' w.heap.size (fun _ => True) (.slice A L.length c) L
  rs : Kd.R (Kd.int .i64) 3 w' w.heap.size (fun _ => True) (.slice A1 s.length c1) s
  l1 : 1 ≤ L.length
  l7 : L.length ≤ 7
  s8 : s.length ≤ 8
  bel : Below w.heap.size w w'
theorem Dr.below {w : World} {A : Option Addr} {c : Nat} {L : List S57} {A1 : Option Addr} {c1 : Nat} {s : List Int} {w' w2 : World} (h : Dr w A c L A1 c1 s w') (hb : Below w'.heap.size w' w2) : Dr w A c L A1 c1 s w2 :=
  ⟨Kd.R_below h.row hb, Kd.R_below h.rs hb, h.l1, h.l7, h.s8, below_step h.bel hb⟩
/-- While it is drawn: the cursor, the empty result, the voting in its variable. -/
structure Vd (w : World) (g : Nat) (code : List Int) (b5 : Nat) (A : Option Addr) (c : Nat) (L : List S57) (R Wt a sd : Int) (W : World) : Prop where
  cur : IsS90 w W g code a sd
  bel : Below w.heap.size w W
  z2 : W.heap[w.heap.size]? = some (.cells #[.slice none 0 0, .int .i64 0, .int .i64 0] 35 (0, 0))
  k5 : W.heap[b5]? = some (.cells #[.slice A L.length c, .int .i64 R, .int .i64 Wt] 35 (0, 0))
  g5 : w.heap.size < b5
  row : Kd.R k57 57 W w.heap.size (fun _ => True) (.slice A L.length c) L
variable {w : World} {g : Nat} {code : List Int} {b5 : Nat} {A : Option Addr} {c : Nat} {L : List S57} {R Wt a sd : Int} {W W' : World}
theorem Vd.below (h : Vd w g code b5 A c L R Wt a sd W) (hb : Below W.heap.size W W') : Vd w g code b5 A c L R Wt a sd W' :=
  ⟨h.cur.below hb, below_step h.bel hb, blk_below h.z2 hb, blk_below h.k5 hb, h.g5, Kd.R_below h.row hb⟩
theorem Vd.drew (h : Vd w g code b5 A c L R Wt a sd W) : Vd w g code b5 A c L R Wt a sd W.drew := h.below (below_drew1 (Below.refl _ _))
theorem Vd.alloc (h : Vd w g code b5 A c L R Wt a sd W) (o : Obj) : Vd w g code b5 A c L R Wt a sd (W.alloc o) := h.below (below_alloc (Below.refl _ _) o)
theorem Vd.step {a' sd' : Int} (h : Vd w g code b5 A c L R Wt a sd W) (hi : IsS90 w W' g code a' sd') (hb : Below w.heap.size w W') (hk : KeepBut W W' g none) : Vd w g code b5 A c L R Wt a' sd' W' :=
  ⟨hi, hb, hk.blk h.z2 (h.cur.ne_blk h.z2 (by decide)).symm (by simp), hk.blk h.k5 (h.cur.ne_blk h.k5 (by decide)).symm (by simp), h.g5, Kd.R_mono (Kd.R_keep (h.cur.apart h.row (by decide)) hk (fun _ hk => hk.2)) (fun _ _ => trivial)⟩
theorem Vd.cells (h : Vd w g code b5 A c L R Wt a sd W) : W.cell? ⟨b5, 0, none⟩ = some (.slice A L.length c) ∧ W.cell? ⟨b5, 1, none⟩ = some (.int .i64 R) ∧ W.cell? ⟨b5, 2, none⟩ = some (.int .i64 Wt) :=
  ⟨(blk_cell h.k5 0).trans rfl, (blk_cell h.k5 1).trans rfl, (blk_cell h.k5 2).trans rfl⟩
theorem Vd.zero (h : Vd w g code b5 A c L R Wt a sd W) : (W.cell? ⟨w.heap.size, 0, none⟩ = some (.slice none 0 0) ∧ W.cell? ⟨w.heap.size, 1, none⟩ = some (.int .i64 0) ∧ W.cell? ⟨w.heap.size, 2, none⟩ = some (.int .i64 0)) ∧ W.frozen? ⟨w.heap.size, 0, none⟩ = false ∧ W.frozen? ⟨w.heap.size, 1, none⟩ = false ∧ W.frozen? ⟨w.heap.size, 2, none⟩ = false := boxZ_cells h.z2
/-- What is drawn comes back: the voting in the result's own. -/
theorem Vd.done {Aq : Option Addr} {cq : Nat} {s : List Int} {base : Nat} (h : Vd w g code b5 A c L R Wt a sd W) (hs : Kd.R (Kd.int .i64) 3 W base (fun _ => True) (.slice Aq s.length cq) s) (h1 : 1 ≤ L.length) (h7 : L.length ≤ 7) (h8 : s.length ≤ 8) (hb : w.heap.size ≤ base) (u v t : Value) :
    Dr w A c L Aq cq s (((W.setCell ⟨w.heap.size, 0, none⟩ u).setCell ⟨w.heap.size, 1, none⟩ v).setCell ⟨w.heap.size, 2, none⟩ t) :=
  have hr := Kd.R_far (Kd.R_far (Kd.R_far (Kd.R_types h.row h.z2 (by decide)) (fun _ hk => hk.2) u) (fun _ hk => hk.2) v) (fun _ hk => hk.2) t
  have hq := Kd.R_far (Kd.R_far (Kd.R_far (Kd.R_types hs h.z2 (by decide)) (fun _ hk => hk.2) u) (fun _ hk => hk.2) v) (fun _ hk => hk.2) t
  ⟨Kd.R_mono hr (fun _ _ => trivial), Kd.R_mono (Kd.R_lower hq hb) (fun _ _ => trivial), h1, h7, h8, below_set (below_set (below_set h.bel (Nat.le_refl _)) (Nat.le_refl _)) (Nat.le_refl _)⟩
/-- The result's own box, made ahead of the call, is written. -/
theorem Dr.put {w W1 : World} {A : Option Addr} {c : Nat} {L : List S57} {A1 : Option Addr} {c1 : Nat} {s : List Int} {w' : World} {g : Nat} {x y z : Value} (h : Dr W1 A c L A1 c1 s w') (h1 : Below w.heap.size w W1) (hz : w'.heap[g]? = some (.cells #[x, y, z] 35 (0, 0))) (hg : w.heap.size ≤ g) (u v t : Value) :
    Dr w A c L A1 c1 s (((w'.setCell ⟨g, 0, none⟩ u).setCell ⟨g, 1, none⟩ v).setCell ⟨g, 2, none⟩ t) :=
  have hr := Kd.R_far (Kd.R_far (Kd.R_far (Kd.R_types h.row hz (by decide)) (fun _ hk => hk.2) u) (fun _ hk => hk.2) v) (fun _ hk => hk.2) t
  have hq := Kd.R_far (Kd.R_far (Kd.R_far (Kd.R_types h.rs hz (by decide)) (fun _ hk => hk.2) u) (fun _ hk => hk.2) v) (fun _ hk => hk.2) t
  ⟨Kd.R_mono (Kd.R_lower hr h1.size) (fun _ _ => trivial), Kd.R_mono (Kd.R_lower hq h1.size) (fun _ _ => trivial), h.l1, h.l7, h.s8, below_set (below_set (below_set (below_step h1 h.bel) hg) hg) hg⟩
structure RetD (w : World) (e : Ending) (w' : World) : Prop where
  out : ∃ (A : Option Addr) (c : Nat) (L : List S57) (R Wt : Int) (A1 : Option Addr) (c1 : Nat) (s : List Int), e = .returned (.tuple #[.agg #[.slice A L.length c, .int .i64 R, .int .i64 Wt], .slice A1 s.length c1]) ∧ Dr w A c L A1 c1 s w'
structure RetT (w : World) (e : Ending) (w' : World) : Prop where
  out : ∃ (A : Option Addr) (c : Nat) (L : List S57) (R Wt : Int) (A1 : Option Addr) (c1 : Nat) (s : List Int) (t : ByteArray), e = .returned (.tuple #[.agg #[.slice A L.length c, .int .i64 R, .int .i64 Wt], .slice A1 s.length c1, .string t]) ∧ Dr w A c L A1 c1 s w'
set_option maxRecDepth 100000 in
set_option maxHeartbeats 800000 in
theorem draw_c (Ac : Option Addr) (cc : Nat) (code : List Int) (w : World) (hr : Kd.C (Kd.int .u8) w Ac code.length code) (hc : ∀ y ∈ code, 0 ≤ y ∧ y ≤ 255) :
    Calls Try.prog 67 #[.slice Ac code.length cc] w (RetD w) := by
  have HC := Aside0.mk hc
  have HR := Aside0.mk hr
  clear hc hr
  go_enter Try.func67, Try.ntmps67
  go_upto_region 2 with (fail)
  obtain ⟨W1, hW1⟩ : ∃ W1, W1 = w.alloc (.cells #[.slice none 0 0, .int .i64 0, .int .i64 0] 35) := ⟨_, rfl⟩
  have hal : Below w.heap.size w W1 := by rw [hW1]; exact below_alloc (Below.refl _ _) _
  have Z1 : W1.heap[w.heap.size]? = some (.cells #[.slice none 0 0, .int .i64 0, .int .i64 0] 35 (0, 0)) := by rw [hW1]; exact blk_new w _
  rw [← hW1]
  obtain ⟨W2, hW2⟩ : ∃ W2, W2 = W1.alloc (.cells #[.slice Ac code.length cc, .int .i64 0, .int .u64 0] 90) := ⟨_, rfl⟩
  have hal2 : Below W1.heap.size W1 W2 := by rw [hW2]; exact below_alloc (Below.refl _ _) _
  have Z2 := Aside0.mk (blk_below Z1 hal2)
  have hz1 : W1.heap.size = w.heap.size + 1 := by rw [hW1]; simp
  have I2 := Aside0.mk (show IsS90 w W2 (w.heap.size + 1) code 0 0 by rw [← hz1, hW2]; exact IsS90.new w W1 Ac cc code 0 0 hal HR.out)
  have B2 := Aside0.mk (below_step hal hal2)
  rw [← hW2]
  clear hz1 hW1 hW2 hal hal2 Z1
  go_upto_region 3 with (first | (go_at_call 72; refine (voting_c (w.heap.size + 1) code 0 0 w W2 I2.out B2.out HC.out (by omega) (by omega)).mono ?_; rintro e w3 ⟨A, c, L, R, Wt, a3, s3, rfl, ho, hL, hi, ha, hb, hk⟩; have RL3 := Aside0.mk (Kd.R_lower ho B2.out.size); have I3 := Aside0.mk hi; have B3 := Aside0.mk hb; have Z3 := Aside0.mk (hk.blk Z2.out (I2.out.ne_blk Z2.out (by decide)).symm (by simp)); have HL := Aside0.mk hL; have HA := Aside0.mk ha; clear ho hi hb hk hL ha))
  obtain ⟨W4, hW4⟩ : ∃ W4, W4 = w3.alloc (.cells #[.slice A L.length c, .int .i64 R, .int .i64 Wt] 35) := ⟨_, rfl⟩
  have hal4 : Below w3.heap.size w3 W4 := by rw [hW4]; exact below_alloc (Below.refl _ _) _
  have HV := Aside0.mk (show Vd w (w.heap.size + 1) code w3.heap.size A c L R Wt a3 s3 W4 from ⟨I3.out.below hal4, below_step B3.out hal4, blk_below Z3.out hal4, by rw [hW4]; exact blk_new w3 _, blk_lt Z3.out, Kd.R_below RL3.out hal4⟩)
  rw [← hW4]
  clear hW4 hal4 RL3 I3 B3 Z3 I2 B2 Z2
  have ha3 := HA.out
  have hL3 := HL.out
  obtain ⟨s, a5, s5, hS, hsl, ha5, ha5'⟩ := some_at code HC.out (L.length : Int) (by omega) (by omega) a3 s3 (by omega) (by omega)
  obtain ⟨ks, hS⟩ := hS.rounds
  have HS := Aside0.mk hS
  clear hS
  have q0 : W4.cell? ⟨w3.heap.size, 0, none⟩ = some (.slice A L.length c) := HV.out.cells.1
  have q1 : W4.cell? ⟨w3.heap.size, 1, none⟩ = some (.int .i64 R) := HV.out.cells.2.1
  have q2 : W4.cell? ⟨w3.heap.size, 2, none⟩ = some (.int .i64 Wt) := HV.out.cells.2.2
  have n5 : w3.heap.size ≠ w.heap.size := Nat.ne_of_gt HV.out.g5
  have n5' : w.heap.size ≠ w3.heap.size := n5.symm
  go_region_held3 (fun w' => w'.cell? ⟨w3.heap.size, 0, none⟩ = some (.slice A L.length c) ∧ w'.cell? ⟨w3.heap.size, 1, none⟩ = some (.int .i64 R) ∧ w'.cell? ⟨w3.heap.size, 2, none⟩ = some (.int .i64 Wt)) (go_keep) (first | (go_at_call 73; refine (spec_l1Cur_some.calls ks (w.heap.size + 1) code a3 s3 (L.length : Int) s a5 s5 w _ HV.out.drew.cur HV.out.drew.bel HS.out).mono ?_; rintro e w5 ⟨v0, rfl, ho, hi, hb, hk⟩; obtain ⟨Aq, cq, rfl⟩ := Kd.R_slice ho; have RQ := Aside0.mk ho; have HV5 := Aside0.mk (HV.out.drew.step hi hb hk); clear ho hi hb hk; have z0 : w5.cell? ⟨w3.heap.size, 0, none⟩ = some (.slice A L.length c) := HV5.out.cells.1; have z1 : w5.cell? ⟨w3.heap.size, 1, none⟩ = some (.int .i64 R) := HV5.out.cells.2.1; have z2 : w5.cell? ⟨w3.heap.size, 2, none⟩ = some (.int .i64 Wt) := HV5.out.cells.2.2; obtain ⟨⟨y0, y1, y2⟩, f0, f1, f2⟩ := HV5.out.zero))
  all_goals clear q0 q1 q2 z0 z1 z2 y0 y1 y2 f0 f1 f2
  all_goals go_wp2
  all_goals refine bodyPost_ret (results_ct rfl _ _ w.heap.size 35 #[.slice A L.length c, .int .i64 R, .int .i64 Wt] (0, 0) _ rfl (blk_put3 HV5.out.z2 _ _ _) Try.underlying35 rfl (by kernel_rfl)) rfl ?_
  all_goals exact ⟨⟨A, c, L, R, Wt, Aq, cq, s, rfl, HV5.out.done RQ.out hL3.1 hL3.2 (by omega) HV.out.bel.size _ _ _⟩⟩
set_option maxRecDepth 100000 in
set_option maxHeartbeats 800000 in
theorem drawRepair_c (Ac : Option Addr) (cc : Nat) (code : List Int) (w : World) (hr : Kd.C (Kd.int .u8) w Ac code.length code) (hc : ∀ y ∈ code, 0 ≤ y ∧ y ≤ 255) :
    Calls Try.prog 33 #[.slice Ac code.length cc] w (RetD w) := by
  have HC := Aside0.mk hc
  have HR := Aside0.mk hr
  clear hc hr
  go_enter Try.func33, Try.ntmps33
  go_upto_region 1 with (fail)
  obtain ⟨W1, hW1⟩ : ∃ W1, W1 = w.alloc (.cells #[.slice none 0 0, .int .i64 0, .int .i64 0] 35) := ⟨_, rfl⟩
  have hal : Below w.heap.size w W1 := by rw [hW1]; exact below_alloc (Below.refl _ _) _
  have Z1 := Aside0.mk (show W1.heap[w.heap.size]? = some (.cells #[.slice none 0 0, .int .i64 0, .int .i64 0] 35 (0, 0)) by rw [hW1]; exact blk_new w _)
  have H1 := Aside0.mk hal
  rw [← hW1]
  clear hW1 hal
  go_wp2_with (first | (go_at_call 67; refine (draw_c Ac cc code W1 (Kd.C_below HR.out H1.out) HC.out).mono ?_; rintro e w2 ⟨A, c, L, R, Wt, Aq, cq, s, rfl, hd⟩; have HD := Aside0.mk hd; have Z2 := Aside0.mk (blk_below Z1.out hd.bel); clear hd; obtain ⟨⟨y0, y1, y2⟩, f0, f1, f2⟩ := boxZ_cells Z2.out))
  refine bodyPost_ret (results_ct rfl _ _ w.heap.size 35 #[.slice A L.length c, .int .i64 R, .int .i64 Wt] (0, 0) _ rfl (blk_put3 Z2.out _ _ _) Try.underlying35 rfl (by kernel_rfl)) rfl ?_
  exact ⟨⟨A, c, L, R, Wt, Aq, cq, s, rfl, HD.out.put H1.out Z2.out (Nat.le_refl _) _ _ _⟩⟩
set_option maxRecDepth 100000 in
set_option maxHeartbeats 800000 in
theorem drawRead_c (Ac : Option Addr) (cc : Nat) (code : List Int) (w : World) (hr : Kd.C (Kd.int .u8) w Ac code.length code) (hc : ∀ y ∈ code, 0 ≤ y ∧ y ≤ 255) :
    Calls Try.prog 41 #[.slice Ac code.length cc] w (RetD w) := by
  have HC := Aside0.mk hc
  have HR := Aside0.mk hr
  clear hc hr
  go_enter Try.func41, Try.ntmps41
  go_upto_region 1 with (fail)
  obtain ⟨W1, hW1⟩ : ∃ W1, W1 = w.alloc (.cells #[.slice none 0 0, .int .i64 0, .int .i64 0] 35) := ⟨_, rfl⟩
  have hal : Below w.heap.size w W1 := by rw [hW1]; exact below_alloc (Below.refl _ _) _
  have Z1 := Aside0.mk (show W1.heap[w.heap.size]? = some (.cells #[.slice none 0 0, .int .i64 0, .int .i64 0] 35 (0, 0)) by rw [hW1]; exact blk_new w _)
  have H1 := Aside0.mk hal
  rw [← hW1]
  clear hW1 hal
  go_wp2_with (first | (go_at_call 67; refine (draw_c Ac cc code W1 (Kd.C_below HR.out H1.out) HC.out).mono ?_; rintro e w2 ⟨A, c, L, R, Wt, Aq, cq, s, rfl, hd⟩; have HD := Aside0.mk hd; have Z2 := Aside0.mk (blk_below Z1.out hd.bel); clear hd; obtain ⟨⟨y0, y1, y2⟩, f0, f1, f2⟩ := boxZ_cells Z2.out))
  refine bodyPost_ret (results_ct rfl _ _ w.heap.size 35 #[.slice A L.length c, .int .i64 R, .int .i64 Wt] (0, 0) _ rfl (blk_put3 Z2.out _ _ _) Try.underlying35 rfl (by kernel_rfl)) rfl ?_
  exact ⟨⟨A, c, L, R, Wt, Aq, cq, s, rfl, HD.out.put H1.out Z2.out (Nat.le_refl _) _ _ _⟩⟩
theorem row3 (W : World) : Kd.R Kd.string 9 (W.alloc (.cells #[.string ⟨#[97]⟩, .string ⟨#[110, 101, 119]⟩, .string ⟨#[49, 50, 51, 52, 53, 54, 55, 56, 57, 48, 49, 50, 51]⟩] 9)) W.heap.size (fun _ => True) (.slice (some ⟨W.heap.size, 0, none⟩) 3 3) [(⟨#[97]⟩ : ByteArray), (⟨#[110, 101, 119]⟩ : ByteArray), (⟨#[49, 50, 51, 52, 53, 54, 55, 56, 57, 48, 49, 50, 51]⟩ : ByteArray)] :=
  lit_row Kd.string W 9 (xs := [(⟨#[97]⟩ : ByteArray), (⟨#[110, 101, 119]⟩ : ByteArray), (⟨#[49, 50, 51, 52, 53, 54, 55, 56, 57, 48, 49, 50, 51]⟩ : ByteArray)]) (inner := [.string ⟨#[97]⟩, .string ⟨#[110, 101, 119]⟩, .string ⟨#[49, 50, 51, 52, 53, 54, 55, 56, 57, 48, 49, 50, 51]⟩]) (Reps.one (show Kd.M Kd.string _ _ _ (⟨#[97]⟩ : ByteArray) [.string ⟨#[97]⟩] from rfl) (Reps.one (show Kd.M Kd.string _ _ _ (⟨#[110, 101, 119]⟩ : ByteArray) [.string ⟨#[110, 101, 119]⟩] from rfl) (Reps.one (show Kd.M Kd.string _ _ _ (⟨#[49, 50, 51, 52, 53, 54, 55, 56, 57, 48, 49, 50, 51]⟩ : ByteArray) [.string ⟨#[49, 50, 51, 52, 53, 54, 55, 56, 57, 48, 49, 50, 51]⟩] from rfl) (Reps.none _ _)))) (by simp)
set_option maxRecDepth 100000 in
set_option maxHeartbeats 800000 in
theorem drawWrite_c (Ac : Option Addr) (cc : Nat) (code : List Int) (w : World) (hr : Kd.C (Kd.int .u8) w Ac code.length code) (hc : ∀ y ∈ code, 0 ≤ y ∧ y ≤ 255) :
    Calls Try.prog 40 #[.slice Ac code.length cc] w (RetT w) := by
  have HC := Aside0.mk hc
  have HR := Aside0.mk hr
  clear hc hr
  go_enter Try.func40, Try.ntmps40
  go_upto_region 2 with (fail)
  obtain ⟨W1, hW1⟩ : ∃ W1, W1 = w.alloc (.cells #[.slice none 0 0, .int .i64 0, .int .i64 0] 35) := ⟨_, rfl⟩
  have hal : Below w.heap.size w W1 := by rw [hW1]; exact below_alloc (Below.refl _ _) _
  have Z1 : W1.heap[w.heap.size]? = some (.cells #[.slice none 0 0, .int .i64 0, .int .i64 0] 35 (0, 0)) := by rw [hW1]; exact blk_new w _
  rw [← hW1]
  obtain ⟨W2, hW2⟩ : ∃ W2, W2 = W1.alloc (.cells #[.slice Ac code.length cc, .int .i64 0, .int .u64 0] 90) := ⟨_, rfl⟩
  have hal2 : Below W1.heap.size W1 W2 := by rw [hW2]; exact below_alloc (Below.refl _ _) _
  have Z2 := Aside0.mk (blk_below Z1 hal2)
  have hz1 : W1.heap.size = w.heap.size + 1 := by rw [hW1]; simp
  have I2 := Aside0.mk (show IsS90 w W2 (w.heap.size + 1) code 0 0 by rw [← hz1, hW2]; exact IsS90.new w W1 Ac cc code 0 0 hal HR.out)
  have B2 := Aside0.mk (below_step hal hal2)
  rw [← hW2]
  clear hz1 hW1 hW2 hal hal2 Z1
  go_upto_region 3 with (first | (go_at_call 72; refine (voting_c (w.heap.size + 1) code 0 0 w W2 I2.out B2.out HC.out (by omega) (by omega)).mono ?_; rintro e w3 ⟨A, c, L, R, Wt, a3, s3, rfl, ho, hL, hi, ha, hb, hk⟩; have RL3 := Aside0.mk (Kd.R_lower ho B2.out.size); have I3 := Aside0.mk hi; have B3 := Aside0.mk hb; have Z3 := Aside0.mk (hk.blk Z2.out (I2.out.ne_blk Z2.out (by decide)).symm (by simp)); have HL := Aside0.mk hL; have HA := Aside0.mk ha; clear ho hi hb hk hL ha))
  obtain ⟨W4, hW4⟩ : ∃ W4, W4 = w3.alloc (.cells #[.slice A L.length c, .int .i64 R, .int .i64 Wt] 35) := ⟨_, rfl⟩
  have hal4 : Below w3.heap.size w3 W4 := by rw [hW4]; exact below_alloc (Below.refl _ _) _
  have HV := Aside0.mk (show Vd w (w.heap.size + 1) code w3.heap.size A c L R Wt a3 s3 W4 from ⟨I3.out.below hal4, below_step B3.out hal4, blk_below Z3.out hal4, by rw [hW4]; exact blk_new w3 _, blk_lt Z3.out, Kd.R_below RL3.out hal4⟩)
  rw [← hW4]
  clear hW4 hal4 RL3 I3 B3 Z3 I2 B2 Z2
  have ha3 := HA.out
  have hL3 := HL.out
  obtain ⟨s, a5, s5, hS, hsl, ha5, ha5'⟩ := some_at code HC.out (L.length : Int) (by omega) (by omega) a3 s3 (by omega) (by omega)
  obtain ⟨ks, hS⟩ := hS.rounds
  have HS := Aside0.mk hS
  clear hS
  have q0 : W4.cell? ⟨w3.heap.size, 0, none⟩ = some (.slice A L.length c) := HV.out.cells.1
  have q1 : W4.cell? ⟨w3.heap.size, 1, none⟩ = some (.int .i64 R) := HV.out.cells.2.1
  have q2 : W4.cell? ⟨w3.heap.size, 2, none⟩ = some (.int .i64 Wt) := HV.out.cells.2.2
  have n5 : w3.heap.size ≠ w.heap.size := Nat.ne_of_gt HV.out.g5
  have n5' : w.heap.size ≠ w3.heap.size := n5.symm
  obtain ⟨tt, a7, s7, hT, ha7, ha7'⟩ := of_at code HC.out [(⟨#[97]⟩ : ByteArray), (⟨#[110, 101, 119]⟩ : ByteArray), (⟨#[49, 50, 51, 52, 53, 54, 55, 56, 57, 48, 49, 50, 51]⟩ : ByteArray)] a5 s5 (by simp) (by simp) (by omega) (by omega)
  have HT := Aside0.mk hT
  clear hT
  go_region_held3 (fun w' => w'.cell? ⟨w3.heap.size, 0, none⟩ = some (.slice A L.length c) ∧ w'.cell? ⟨w3.heap.size, 1, none⟩ = some (.int .i64 R) ∧ w'.cell? ⟨w3.heap.size, 2, none⟩ = some (.int .i64 Wt)) (go_keep) (first | (go_at_call 73; with_reducible refine (spec_l1Cur_some.calls ks (w.heap.size + 1) code a3 s3 (L.length : Int) s a5 s5 w W4.drew HV.out.drew.cur HV.out.drew.bel HS.out).mono ?_; rintro e w5 ⟨v0, rfl, ho, hi, hb, hk⟩; obtain ⟨Aq, cq, rfl⟩ := Kd.R_slice ho; have RQ := Aside0.mk (Kd.R_lower ho HV.out.bel.size); have HV5 := Aside0.mk (HV.out.drew.step hi hb hk); clear ho hi hb hk; have z0 : w5.cell? ⟨w3.heap.size, 0, none⟩ = some (.slice A L.length c) := HV5.out.cells.1; have z1 : w5.cell? ⟨w3.heap.size, 1, none⟩ = some (.int .i64 R) := HV5.out.cells.2.1; have z2 : w5.cell? ⟨w3.heap.size, 2, none⟩ = some (.int .i64 Wt) := HV5.out.cells.2.2) | (go_at_call 73; have RBA := Aside0.mk (row3 W4.drew); have HVA := Aside0.mk (HV.out.drew.alloc (.cells #[.string ⟨#[97]⟩, .string ⟨#[110, 101, 119]⟩, .string ⟨#[49, 50, 51, 52, 53, 54, 55, 56, 57, 48, 49, 50, 51]⟩] 9)); refine (spec_l1Cur_some.calls ks (w.heap.size + 1) code a3 s3 (L.length : Int) s a5 s5 w _ HVA.out.cur HVA.out.bel HS.out).mono ?_; rintro e w5 ⟨v0, rfl, ho, hi, hb, hk⟩; obtain ⟨Aq, cq, rfl⟩ := Kd.R_slice ho; have RQ := Aside0.mk (Kd.R_lower ho HVA.out.bel.size); have HV5 := Aside0.mk (HVA.out.step hi hb hk); have RB5 := Aside0.mk (Kd.R_keep (HVA.out.cur.apart RBA.out (by decide)) hk (fun _ hk => hk.2)); clear ho hi hb hk; have z0 : w5.cell? ⟨w3.heap.size, 0, none⟩ = some (.slice A L.length c) := HV5.out.cells.1; have z1 : w5.cell? ⟨w3.heap.size, 1, none⟩ = some (.int .i64 R) := HV5.out.cells.2.1; have z2 : w5.cell? ⟨w3.heap.size, 2, none⟩ = some (.int .i64 Wt) := HV5.out.cells.2.2) | (go_at_call 74; have RB := RB5; have RQB := RQ; have HVB := HV5; refine (spec_l1Cur_of.calls (w.heap.size + 1) code a5 s5 (some ⟨W4.drew.heap.size, 0, none⟩) 3 [(⟨#[97]⟩ : ByteArray), (⟨#[110, 101, 119]⟩ : ByteArray), (⟨#[49, 50, 51, 52, 53, 54, 55, 56, 57, 48, 49, 50, 51]⟩ : ByteArray)] tt a7 s7 w _ HVB.out.cur HVB.out.bel (Kd.R_reads' RB.out).2.2 (by decide) (far_slice (HVB.out.cur.own_ne RB.out (by decide))) HT.out).mono ?_; rintro e w6 ⟨rfl, hi, hb, hk⟩; have RQ6 := Aside0.mk (Kd.R_mono (Kd.R_keep (HVB.out.cur.apart RQB.out (by decide)) hk (fun _ hk => hk.2)) (fun _ _ => trivial)); have HV6 := Aside0.mk (HVB.out.step hi hb hk); clear hi hb hk; have o0 : w6.cell? ⟨w3.heap.size, 0, none⟩ = some (.slice A L.length c) := HV6.out.cells.1; have o1 : w6.cell? ⟨w3.heap.size, 1, none⟩ = some (.int .i64 R) := HV6.out.cells.2.1; have o2 : w6.cell? ⟨w3.heap.size, 2, none⟩ = some (.int .i64 Wt) := HV6.out.cells.2.2; obtain ⟨⟨y0, y1, y2⟩, f0, f1, f2⟩ := HV6.out.zero) | (go_at_call 74; have RB := Aside0.mk (row3 w5); have RQB := Aside0.mk (Kd.R_below RQ.out (below_alloc (Below.refl _ _) (.cells #[.string ⟨#[97]⟩, .string ⟨#[110, 101, 119]⟩, .string ⟨#[49, 50, 51, 52, 53, 54, 55, 56, 57, 48, 49, 50, 51]⟩] 9))); have HVB := Aside0.mk (HV5.out.alloc (.cells #[.string ⟨#[97]⟩, .string ⟨#[110, 101, 119]⟩, .string ⟨#[49, 50, 51, 52, 53, 54, 55, 56, 57, 48, 49, 50, 51]⟩] 9)); refine (spec_l1Cur_of.calls (w.heap.size + 1) code a5 s5 (some ⟨w5.heap.size, 0, none⟩) 3 [(⟨#[97]⟩ : ByteArray), (⟨#[110, 101, 119]⟩ : ByteArray), (⟨#[49, 50, 51, 52, 53, 54, 55, 56, 57, 48, 49, 50, 51]⟩ : ByteArray)] tt a7 s7 w _ HVB.out.cur HVB.out.bel (Kd.R_reads' RB.out).2.2 (by decide) (far_slice (HVB.out.cur.own_ne RB.out (by decide))) HT.out).mono ?_; rintro e w6 ⟨rfl, hi, hb, hk⟩; have RQ6 := Aside0.mk (Kd.R_mono (Kd.R_keep (HVB.out.cur.apart RQB.out (by decide)) hk (fun _ hk => hk.2)) (fun _ _ => trivial)); have HV6 := Aside0.mk (HVB.out.step hi hb hk); clear hi hb hk; have o0 : w6.cell? ⟨w3.heap.size, 0, none⟩ = some (.slice A L.length c) := HV6.out.cells.1; have o1 : w6.cell? ⟨w3.heap.size, 1, none⟩ = some (.int .i64 R) := HV6.out.cells.2.1; have o2 : w6.cell? ⟨w3.heap.size, 2, none⟩ = some (.int .i64 Wt) := HV6.out.cells.2.2; obtain ⟨⟨y0, y1, y2⟩, f0, f1, f2⟩ := HV6.out.zero))
  all_goals clear q0 q1 q2 z0 z1 z2 o0 o1 o2 y0 y1 y2 f0 f1 f2
  all_goals go_wp2
  all_goals refine bodyPost_ret (results_ctt rfl _ _ w.heap.size 35 #[.slice A L.length c, .int .i64 R, .int .i64 Wt] (0, 0) _ rfl (blk_put3 HV6.out.z2 _ _ _) Try.underlying35 rfl (by kernel_rfl)) rfl ?_
  all_goals exact ⟨⟨A, c, L, R, Wt, Aq, cq, s, tt, rfl, HV6.out.done RQ6.out hL3.1 hL3.2 (by omega) (Nat.le_refl _) _ _ _⟩⟩
structure RetW (w : World) (e : Ending) (w' : World) : Prop where
  out : ∃ (A : Option Addr) (c : Nat) (l : List Int) (r n : Int), e = .returned (.tuple #[.slice A l.length c, .int .i64 r, .int .i64 n]) ∧ Kd.R (Kd.int .i64) 3 w' w.heap.size (fun _ => True) (.slice A l.length c) l ∧ (1 ≤ l.length ∧ l.length ≤ 5) ∧ (∀ y ∈ l, 0 ≤ y ∧ y ≤ 11) ∧ Below w.heap.size w w'
set_option maxRecDepth 100000 in
set_option maxHeartbeats 800000 in
theorem drawNew_c (Ac : Option Addr) (cc : Nat) (code : List Int) (w : World) (hr : Kd.C (Kd.int .u8) w Ac code.length code) (hc : ∀ y ∈ code, 0 ≤ y ∧ y ≤ 255) :
    Calls Try.prog 37 #[.slice Ac code.length cc] w (RetW w) := by
  obtain ⟨ws, a1, s1, hW, hwl, hwr, ha1, ha1'⟩ := weights_at code hc 0 0 (by omega) (by omega)
  obtain ⟨kw, hW⟩ := hW.rounds
  obtain ⟨r, n, a2, s2, hV, ha2, ha2'⟩ := votes_at code hc ws (by omega) a1 s1 (by omega) (by omega)
  obtain ⟨kv, hV⟩ := hV.rounds
  have HR := Aside0.mk hr
  have HW := Aside0.mk hW
  have HV := Aside0.mk hV
  have HWR := Aside0.mk hwr
  clear hc hr hW hV hwr
  go_enter Try.func37, Try.ntmps37
  go_upto_region 2 with (fail)
  obtain ⟨W2, hW2⟩ : ∃ W2, W2 = w.alloc (.cells #[.slice Ac code.length cc, .int .i64 0, .int .u64 0] 90) := ⟨_, rfl⟩
  have hal2 : Below w.heap.size w W2 := by rw [hW2]; exact below_alloc (Below.refl _ _) _
  have I2 := Aside0.mk (show IsS90 w W2 w.heap.size code 0 0 by rw [hW2]; exact IsS90.new w w Ac cc code 0 0 (Below.refl _ _) HR.out)
  have B2 := Aside0.mk hal2
  rw [← hW2]
  clear hW2 hal2
  go_wp2_with (first | (go_at_call 70; refine (spec_l1Cur_weights.calls kw w.heap.size code 0 0 ws a1 s1 w _ I2.out B2.out HW.out).mono ?_; rintro e w3 ⟨v0, rfl, ho, hi, hb, hk⟩; obtain ⟨Aw, cw, rfl⟩ := Kd.R_slice ho; have RW := Aside0.mk (Kd.R_lower ho B2.out.size); have I3 := Aside0.mk hi; have B3 := Aside0.mk hb; clear ho hi hb hk) | (go_at_call 71; refine (spec_l1Cur_votes.calls kv w.heap.size code a1 s1 Aw cw ws r n a2 s2 w _ I3.out B3.out (Kd.R_reads' RW.out).2.2 (Kd.R_reads' RW.out).2.1 (far_slice (I3.out.own_ne RW.out (by decide))) HV.out).mono ?_; rintro e w4 ⟨rfl, hi, hb, hk⟩; have RW4 := Aside0.mk (Kd.R_keep (I3.out.apart RW.out (by decide)) hk (fun _ hk => hk.2)); have B4 := Aside0.mk hb; clear hi hb hk))
  go_ret3
  exact ⟨⟨Aw, cw, ws, r, n, rfl, Kd.R_mono RW4.out (fun _ _ => trivial), hwl, HWR.out, B4.out⟩⟩
end Go.Proofs.Ytfbghibgjfegpaa.PRQ
