import Derived.Test.YtdbfhbnlheankaaGreatDoorCOVIS
import Derived.WalkLawsBesides
/- The reference's put, for a name behind all names: walked. Conditions: a map. -/
namespace Go.Proofs.YtdbfhbnlheankaaGreatDoor.VT
open Go.RowKit Go.Proofs.YtdbfhbnlheankaaGreatDoor.PVG Go.Proofs.YtdbfhbnlheankaaGreatDoorW.PrintWords Go.Proofs.YtdbfhbnlheankaaGreatDoorW.PrintLast Go.Proofs.YtdbfhbnlheankaaGreatDoorW.PrintMore
set_option linter.unusedVariables false
set_option linter.unusedSimpArgs false
theorem V_rows {w : World} {P : Nat → Prop} {base n c : Nat} {A : Option Addr} {ks : List S49} (h : Kd.V k49 49 w base P (.slice A n c) ks) : ReadsRow (fun x cs => Kd.FK k49 w P x cs) 5 w A n ks := by
  obtain ⟨hl, _, hC⟩ := Kd.V_reads' h
  refine ⟨hl.symm, by rw [hl]; exact hC.2.1, fun hn => ?_⟩
  obtain ⟨ad, e, _⟩ := hC.2.2 (by omega)
  subst e
  refine ⟨ad, rfl, fun j p hj => ?_⟩
  have hjl := (List.getElem?_eq_some_iff.1 hj).1
  obtain ⟨cs, hcl, hK, hcc⟩ := Kd.V_get h z49 (j : Int) (by omega) (by omega)
  rw [Int.toNat_natCast] at hK hcc
  rw [List.getD_eq_getElem?_getD, hj] at hK
  exact ⟨cs, hcl, hK, fun i u hu => hcc i u hu⟩
theorem R_put5 {α : Type} {d : Kd α} {e : Nat} {W : World} {base : Nat} {ok : Nat → Prop} {v : Value} {xs : List α} {g : Nat} {a b c f h5 : Value} (h : d.R e W base ok v xs) (hok : ∀ k, ok k → k ≠ g) :
    d.R e (((((W.setCell ⟨g, 0, none⟩ a).setCell ⟨g, 1, none⟩ b).setCell ⟨g, 2, none⟩ c).setCell ⟨g, 3, none⟩ f).setCell ⟨g, 4, none⟩ h5) base ok v xs :=
  Kd.R_far (Kd.R_far (Kd.R_far (Kd.R_far (Kd.R_far h hok _) hok _) hok _) hok _) hok _
set_option maxRecDepth 100000 in
set_option maxHeartbeats 8000000 in
theorem l1Put_c (nu : Int) (tx s : ByteArray) (ns : List ByteArray) (ks : List S49) (x : S49) (A3 A4 B3 B4 : Option Addr) (c3 c4 d3 d4 n : Nat) (P : Nat → Prop) (w : World) (hP : ∀ k, P k → k < w.heap.size)
    (h3 : Kd.string.C w A3 ns.length ns) (h3n : ns.length = n) (h3c : n ≤ c3) (h4 : Kd.V k49 49 w w.heap.size P (.slice A4 n c4) ks) (hn : n ≤ 1073741824)
    (hx3 : Kd.V Kd.string 9 w w.heap.size P (.slice B3 x.f3.length d3) x.f3) (hx4 : Kd.V k49 49 w w.heap.size P (.slice B4 x.f4.length d4) x.f4)
    (hle : ∀ i, i < n → lt (ns.getD i nil_) s = true) :
    Calls Tryz.prog 60 #[.agg #[.int .i64 7, .int .i64 nu, .string tx, .slice A3 n c3, .slice A4 n c4], .string s, .agg #[.int .i64 x.f0, .int .i64 x.f1, .string x.f2, .slice B3 x.f3.length d3, .slice B4 x.f4.length d4]] w fun e w' => ∃ v3 v4, e = .returned (.agg #[.int .i64 7, .int .i64 0, .string ⟨#[]⟩, v3, v4]) ∧ Kd.V Kd.string 9 w' w.heap.size (fun k => P k ∨ w.heap.size ≤ k) v3 (ns ++ [s]) ∧ Kd.V k49 49 w' w.heap.size (fun k => P k ∨ w.heap.size ≤ k) v4 (ks ++ [x]) ∧ Below w.heap.size w w' := by
  obtain ⟨W1, hW1⟩ : ∃ W1, W1 = w.alloc (.cells #[.int .i64 7, .int .i64 nu, .string tx, .slice A3 n c3, .slice A4 n c4] 49) := ⟨_, rfl⟩
  obtain ⟨W2, hW2⟩ : ∃ W2, W2 = W1.alloc (.cells #[.int .i64 x.f0, .int .i64 x.f1, .string x.f2, .slice B3 x.f3.length d3, .slice B4 x.f4.length d4] 49) := ⟨_, rfl⟩
  obtain ⟨W3, hW3⟩ : ∃ W3, W3 = W2.alloc (.cells #[.int .i64 0, .int .i64 0, .string ⟨#[]⟩, .slice none 0 0, .slice none 0 0] 49) := ⟨_, rfl⟩
  obtain ⟨g3, hg3⟩ : ∃ g, g = w.heap.size := ⟨_, rfl⟩
  obtain ⟨g5, hg5⟩ : ∃ g, g = w.heap.size + 1 := ⟨_, rfl⟩
  obtain ⟨g6, hg6⟩ : ∃ g, g = w.heap.size + 1 + 1 := ⟨_, rfl⟩
  have hs1 : W1.heap.size = w.heap.size + 1 := by rw [hW1]; simp
  have hs2 : W2.heap.size = w.heap.size + 1 + 1 := by rw [hW2]; simp [hs1]
  have b1 : Below w.heap.size w W1 := by rw [hW1]; exact below_alloc (Below.refl _ _) _
  have b2 : Below W1.heap.size W1 W2 := by rw [hW2]; exact below_alloc (Below.refl _ _) _
  have b3 : Below W2.heap.size W2 W3 := by rw [hW3]; exact below_alloc (Below.refl _ _) _
  have B0 := Aside0.mk (below_step (below_step b1 b2) b3)
  have K3 := Aside0.mk (blk_below (blk_below (show W1.heap[g3]? = some (.cells #[.int .i64 7, .int .i64 nu, .string tx, .slice A3 n c3, .slice A4 n c4] 49 (0, 0)) by rw [hW1, hg3]; exact blk_new w _) b2) b3)
  have K5 := Aside0.mk (blk_below (show W2.heap[g5]? = some (.cells #[.int .i64 x.f0, .int .i64 x.f1, .string x.f2, .slice B3 x.f3.length d3, .slice B4 x.f4.length d4] 49 (0, 0)) by rw [hW2, hg5, ← hs1]; exact blk_new W1 _) b3)
  have K6 := Aside0.mk (show W3.heap[g6]? = some (.cells #[.int .i64 0, .int .i64 0, .string ⟨#[]⟩, .slice none 0 0, .slice none 0 0] 49 (0, 0)) by rw [hW3, hg6, ← hs2]; exact blk_new W2 _)
  have LO := Aside0.mk (show w.heap.size ≤ g3 ∧ w.heap.size ≤ g6 ∧ g3 < W3.heap.size ∧ g5 < W3.heap.size ∧ g6 < W3.heap.size from ⟨by omega, by omega, blk_lt K3.out, blk_lt K5.out, blk_lt K6.out⟩)
  have NAM := Aside0.mk (show ∀ i, i < n → ∃ ad, A3 = some ad ∧ W3.cell? (ad.add i) = some (.string (ns.getD i nil_)) from fun i hi => by
    obtain ⟨ad, c, e, _, hK, hc⟩ := Kd.C_get (Kd.C_below h3 B0.out) nil_ (i : Int) (by omega) (by omega)
    obtain rfl : c = [.string (ns.getD (i : Int).toNat nil_)] := hK
    have h0 := hc 0 _ rfl
    have e1 : (i : Int).toNat * Kd.string.sz + 0 = i := by show (i : Int).toNat * 1 + 0 = i; omega
    rw [e1, Int.toNat_natCast] at h0
    exact ⟨ad, e, h0⟩)
  have k30 : W3.cell? ⟨g3, 0, none⟩ = some (.int .i64 7) := (blk_cell K3.out 0).trans rfl
  have k33 : W3.cell? ⟨g3, 3, none⟩ = some (.slice A3 n c3) := (blk_cell K3.out 3).trans rfl
  have k34 : W3.cell? ⟨g3, 4, none⟩ = some (.slice A4 n c4) := (blk_cell K3.out 4).trans rfl
  have HR3 := Aside0.mk (show ReadsRow (Kd.string.K w) 1 w A3 n ns from h3n ▸ h3)
  obtain ⟨h4n, h4c, _⟩ := Kd.V_at h4
  have HR4 := Aside0.mk (V_rows h4)
  have HX := Aside0.mk (k49_mkF w P x (Kd.V_at hx3).2.1 (Kd.V_F hx3) (Kd.V_at hx4).2.1 (Kd.V_F hx4))
  have HP := Aside0.mk hP
  have HN := Aside0.mk hn
  have HC := Aside0.mk (And.intro h3c h4c)
  have HL := Aside0.mk (And.intro h3n h4n.symm)
  have HLE := Aside0.mk hle
  clear h3 h3n h3c h4 h4n h4c hn hx3 hx4 hle hP b1 b2 b3
  go_enter Tryz.func60, Tryz.ntmps60
  go_upto_region 1 with fail
  rw [← hW1, ← hW2, ← hW3, ← hg6, ← hg5, ← hg3]
  clear hW1 hW2 hW3 hg3 hg5 hg6 hs1 hs2
  go_wp2
  go_loopg [7] n (fun m v7 W => ∃ i : Nat, v7 = .int .i64 (i : Int) ∧ Aside0 (i + m = n) ∧ W = W3)
  case atStart => exact ⟨0, rfl, ⟨by omega⟩, rfl⟩
  case round =>
    obtain ⟨i, rfl, HI, rfl⟩ := hrel
    cases gk with
    | succ m =>
      have hi : i < n := by have := HI.out; omega
      have hin : decide (i < n) = true := decide_eq_true hi
      have hi2 : (i : Int) < (n : Int) := by omega
      have b1 : (i : Int) ≤ 1073741824 := by have := HI.out; have := HN.out; omega
      obtain ⟨ad, rfl, kc⟩ := NAM.out i hi
      obtain ⟨y, hy⟩ : ∃ y, ns.getD i nil_ = y := ⟨_, rfl⟩
      have hq : Op.bytesLess y.toList s.toList = true := by have := HLE.out i hi; rw [hy] at this; exact this
      rw [hy] at kc
      clear hy
      go_wp2
      go_roundg m
      case rel => exact ⟨i + 1, rfl, ⟨by have := HI.out; omega⟩, rfl⟩
      case measure => omega
    | zero =>
      have hin : decide (i < n) = false := decide_eq_false (by have := HI.out; omega)
      obtain rfl : n = i := by have := HI.out; omega
      go_upto_region 7 with (first | ((with_reducible refine gate_dst (N := 8) rfl ?_); refine box_event ?hg (N := 8) ?hd (cs := #[.int .i64 0, .int .i64 0, .string (⟨#[]⟩ : ByteArray), .slice none 0 0, .slice none 0 0]) (t := 49) ?hr ?_; (case hd => rfl); (case hg => rfl); (case hr => first | (go_simp; done) | (go_simp; rfl)); intro gx hg wx hbox hb; have GX := Aside0.mk hg; have KX := Aside0.mk hbox; have BX := Aside0.mk hb; have z0 : wx.cell? ⟨gx, 0, none⟩ = some (.int .i64 0) := (blk_cell hbox 0).trans rfl; have z1 : wx.cell? ⟨gx, 1, none⟩ = some (.int .i64 0) := (blk_cell hbox 1).trans rfl; have z2 : wx.cell? ⟨gx, 2, none⟩ = some (.string ⟨#[]⟩) := (blk_cell hbox 2).trans rfl; have z3 : wx.cell? ⟨gx, 3, none⟩ = some (.slice none 0 0) := (blk_cell hbox 3).trans rfl; have z4 : wx.cell? ⟨gx, 4, none⟩ = some (.slice none 0 0) := (blk_cell hbox 4).trans rfl; have f0 := blk_frozen hbox 0; have f1 := blk_frozen hbox 1; have f2 := blk_frozen hbox 2; have f3 := blk_frozen hbox 3; have f4 := blk_frozen hbox 4; clear hb hbox hg))
      clear z0 z1 z2 z3 z4 f0 f1 f2 f3 f4 k30 k33 k34 hin
      obtain ⟨w4, hw4⟩ : ∃ W, W = (((((wx.setCell ⟨gx, 0, none⟩ (.int .i64 7)).setCell ⟨gx, 1, none⟩ (.int .i64 0)).setCell ⟨gx, 2, none⟩ (.string ⟨#[]⟩)).setCell ⟨gx, 3, none⟩ (.slice none 0 0)).setCell ⟨gx, 4, none⟩ (.slice none 0 0)) := ⟨_, rfl⟩
      rw [← hw4]
      have S4 : Below wr.heap.size wr w4 := by rw [hw4]; exact below_put5 BX.out (Nat.le_of_eq GX.out.symm)
      obtain ⟨g8, hg8⟩ : ∃ g, g = gx := ⟨_, rfl⟩
      have P7 := Aside0.mk ((show Pt w P g3 g5 g6 gx #[.int .i64 7, .int .i64 nu, .string tx, .slice A3 n c3, .slice A4 n c4] #[.int .i64 x.f0, .int .i64 x.f1, .string x.f2, .slice B3 x.f3.length d3, .slice B4 x.f4.length d4] #[.int .i64 0, .int .i64 0, .string ⟨#[]⟩, .slice none 0 0, .slice none 0 0] (.slice none 0 0) (.slice none 0 0) (.slice none 0 0) [] (.slice none 0 0) [] w4 from ⟨below_step B0.out S4, by have := LO.out; have := GX.out; omega, blk_below K3.out S4, blk_below K5.out S4, blk_below K6.out S4, by rw [hw4]; exact put5 KX.out, Kd.R_nil _ _ _ _ _, Kd.R_nil _ _ _ _ _⟩).move (below_drew1 (Below.refl _ _)))
      rw [← hg8] at P7 ⊢
      clear hw4 hg8 S4
      obtain ⟨i49, hi49, _⟩ := Option.map_eq_some_iff.1 info49
      have hcut := cut_to (P := Tryz.prog) 47 49 .i64 Tryz.underlying47 hi49 A4 n c4 (n : Int) (by omega) (by omega) HC.out.2
      rw [Int.toNat_natCast] at hcut
      refine start_ (n := 9) (S := fun w' => w'.cell? ⟨g8, 4, none⟩ = some (.slice none 0 0) ∧ w'.cell? ⟨g3, 4, none⟩ = some (.slice A4 n c4)) (ds := [8]) #[false, false, false, false, false, false, false, false, false] (by kernel_rfl) rfl rfl ⟨(blk_cell P7.out.k8 4).trans rfl, (blk_cell P7.out.k3 4).trans rfl⟩ (fun hHeld => ?_)
      generalize w4.drew = w4d at P7 hHeld ⊢
      refine pure_ (i := 0) (N := (some 34)) (v := ?_) (a' := ?_) #[true, false, false, false, false, false, false, false, false] rfl rfl (by kernel_rfl) (fun _ _ _ h => h) (Or.inl ⟨by rfl, ?_⟩) ?_ ?_
      rotate_left
      · intro w'
        go_simp
        with_reducible rfl
      rotate_left
      · simp only [Act.put, List.setIfInBounds_toArray, List.set_cons_zero, List.set_cons_succ, i64_w, i32_w]
        rfl
      refine pure_ (i := 2) (N := (some 36)) (v := ?_) (a' := ?_) #[true, false, true, false, false, false, false, false, false] rfl rfl (by kernel_rfl) (fun _ _ _ h => h) (Or.inl ⟨by rfl, ?_⟩) ?_ ?_
      rotate_left
      · intro w'
        go_simp
        with_reducible rfl
      rotate_left
      · simp only [Act.put, List.setIfInBounds_toArray, List.set_cons_zero, List.set_cons_succ, i64_w, i32_w]
        rfl
      refine pure_ (i := 4) (N := (some 38)) (v := ?_) (a' := ?_) #[true, false, true, false, true, false, false, false, false] rfl rfl (by kernel_rfl) (fun _ _ _ h => h) (Or.inl ⟨by rfl, ?_⟩) ?_ ?_
      rotate_left
      · intro w'
        go_simp
        with_reducible rfl
      rotate_left
      · simp only [Act.put, List.setIfInBounds_toArray, List.set_cons_zero, List.set_cons_succ, i64_w, i32_w]
        rfl
      refine take_ (i := 1) (N := (some 35)) (v := ?_) (a' := ?_) #[true, true, true, false, true, false, false, false, false] rfl rfl (by kernel_rfl) (fun _ _ _ h => h) (Or.inl ⟨by rfl, ?_⟩) hHeld ?_ ?_
      rotate_left
      · rintro w' ⟨s0, s1⟩
        go_simp
        with_reducible rfl
      rotate_left
      · simp only [Act.put, List.setIfInBounds_toArray, List.set_cons_zero, List.set_cons_succ, i64_w, i32_w]
        rfl
      refine take_ (i := 3) (N := (some 37)) (v := ?_) (a' := ?_) #[true, true, true, true, true, false, false, false, false] rfl rfl (by kernel_rfl) (fun _ _ _ h => h) (Or.inl ⟨by rfl, ?_⟩) hHeld ?_ ?_
      rotate_left
      · rintro w' ⟨s0, s1⟩
        go_simp
        with_reducible rfl
      rotate_left
      · simp only [Act.put, List.setIfInBounds_toArray, List.set_cons_zero, List.set_cons_succ, i64_w, i32_w]
        rfl
      refine one_ (i := 5) (N := (some 39)) #[true, true, true, true, true, true, false, false, false] rfl rfl (by kernel_rfl) (by decide) (fun K hK => ?_)
      refine value_ (w1 := ?_) (v := ?_) (by rfl) rfl ?_ ?_
      rotate_left 2
      · go_simp
        constructor
        · rfl
        · rfl
      refine hK.out _ _ ⟨hHeld.1, hHeld.2⟩ (fun hHeld => ?_)
      clear hK K
      refine norm_ (a' := ?_) ?_ ?_
      rotate_left
      · show Act.put _ (some 39) _ = _
        simp only [Act.put, List.setIfInBounds_toArray, List.set_cons_zero, List.set_cons_succ, i64_w, i32_w]
        rfl
      refine one_ (i := 6) (N := (some 40)) #[true, true, true, true, true, true, true, false, false] rfl rfl (by kernel_rfl) (by decide) (fun K hK => ?_)
      refine Kd.R_append_rows_step (kfx w P) (Rr := (fun x cs => Kd.FK k49 w P x cs)) (w0 := w) w.heap.size (by rfl) (.tmp 35) (.tmp 39) 47 49 (.agg #[(.int .i64 0), (.int .i64 0), (.string ⟨#[]⟩), (.slice none 0 0), (.slice none 0 0)]) 80 rfl Tryz.underlying47 info49 rfl (show 0 < 5 by decide) (by omega) (.slice none 0 0) ([] : List S49) ks A4 n c4 (fun k => g8 < k) (fun _ => False) rfl rfl ?aO ?aR ?aK (fun _ h => h.elim) ?aF ?aB ?aS ?aL ?_
      (case aO => exact P7.out.r4)
      (case aR => exact (HR4.out.imp_ P7.out.bel (fun _ _ h => h)))
      (case aK => exact fun _ _ h => h)
      (case aF => exact fun k hk => by have := P7.out.lt; omega)
      (case aB => exact P7.out.bel)
      (case aS => exact P7.out.bel.size)
      (case aL => have := HN.out; simp; omega)
      intro vq wuq ho hb hg hat
      obtain ⟨Au, cu, eq⟩ := Kd.R_slice ho
      obtain ⟨nu, hnq⟩ : ∃ n, n = (([] : List S49) ++ ks).length := ⟨_, rfl⟩
      rw [← hnq] at eq
      subst eq
      have Qua := Aside0.mk (P7.out.kid ho hb hg)
      have Nu := Aside0.mk hnq
      clear ho hb hg hat hnq
      refine hK.out _ _ ⟨(blk_cell Qua.out.k8 4).trans rfl, (blk_cell Qua.out.k3 4).trans rfl⟩ (fun hHeld => ?_)
      clear hK K
      refine norm_ (a' := ?_) ?_ ?_
      rotate_left
      · show Act.put _ (some 40) _ = _
        simp only [Act.put, List.setIfInBounds_toArray, List.set_cons_zero, List.set_cons_succ, i64_w, i32_w]
        rfl
      refine pure_ (i := 7) (N := (some 41)) (v := ?_) (a' := ?_) #[true, true, true, true, true, true, true, true, false] rfl rfl (by kernel_rfl) (fun _ _ _ h => h) (Or.inl ⟨by rfl, ?_⟩) ?_ ?_
      rotate_left
      · intro w'
        go_simp
        with_reducible rfl
      rotate_left
      · simp only [Act.put, List.setIfInBounds_toArray, List.set_cons_zero, List.set_cons_succ, i64_w, i32_w]
        rfl
      refine last_ (i := 8) (N := none) #[true, true, true, true, true, true, true, true, true] rfl rfl (by kernel_rfl) (by decide) (fun K hK => ?_)
      have hs := (blk_cell Qua.out.k8 4).trans rfl
      have hfs := blk_frozen Qua.out.k8 4
      refine skip_ (w1 := ?_) (by rfl) rfl ?_ ?_
      rotate_left
      · go_simp
        rfl
      refine hK.out _ _ ?_
      clear hK K hs hfs hHeld
      have qb := Qua.out.set4 (.slice Au nu cu)
      obtain ⟨wuz, hwz⟩ : ∃ W, W = wuq.setCell ⟨g8, 4, none⟩ (.slice Au nu cu) := ⟨_, rfl⟩
      rw [← hwz] at qb ⊢
      have Qu := Aside0.mk qb
      clear qb hwz
      refine done_ (by kernel_rfl) ?_
      clear hcut
      have t84 : wuz.cell? ⟨g8, 4, none⟩ = some (.slice Au nu cu) := (blk_cell Qu.out.k8 4).trans rfl
      have t50 : wuz.cell? ⟨g5, 0, none⟩ = some (.int .i64 x.f0) := (blk_cell Qu.out.k5 0).trans rfl
      have t51 : wuz.cell? ⟨g5, 1, none⟩ = some (.int .i64 x.f1) := (blk_cell Qu.out.k5 1).trans rfl
      have t52 : wuz.cell? ⟨g5, 2, none⟩ = some (.string x.f2) := (blk_cell Qu.out.k5 2).trans rfl
      have t53 : wuz.cell? ⟨g5, 3, none⟩ = some (.slice B3 x.f3.length d3) := (blk_cell Qu.out.k5 3).trans rfl
      have t54 : wuz.cell? ⟨g5, 4, none⟩ = some (.slice B4 x.f4.length d4) := (blk_cell Qu.out.k5 4).trans rfl
      go_upto_region 9 with (first | ((with_reducible refine gate_builtin (b := .append) (xs := #[.tmp 43, .tmp 45]) rfl ?_); at_builtin; refine Kd.R_append (kfx w P) (w0 := w) w.heap.size rfl (.tmp 43) (.tmp 45) 47 49 (.agg #[(.int .i64 0), (.int .i64 0), (.string ⟨#[]⟩), (.slice none 0 0), (.slice none 0 0)]) 80 rfl Tryz.underlying47 info49 rfl (show 0 < 5 by decide) (by omega) (.slice Au nu cu) ([] ++ ks) x [.int .i64 x.f0, .int .i64 x.f1, .string x.f2, .slice B3 x.f3.length d3, .slice B4 x.f4.length d4] (fun k => g8 < k) (fun _ => False) rfl rfl ?aP (fun _ hk => hk.elim) ?aF ?aO ?aB ?aS ?aL ?_; (case aP => exact HX.out); (case aF => exact fun k hk => by have := Qu.out.lt; omega); (case aO => exact Qu.out.r4); (case aB => exact Qu.out.bel); (case aS => exact Qu.out.bel.size); (case aL => have := HN.out; have := HL.out; simp; omega); intro vq wvq ho hb hg hat; obtain ⟨Av, cv, eq⟩ := Kd.R_slice ho; obtain ⟨nv, hnq⟩ : ∃ n, n = (([] ++ ks) ++ [x]).length := ⟨_, rfl⟩; rw [← hnq] at eq; subst eq; have Qva := Aside0.mk (Qu.out.kid ho hb hg); have Nv := Aside0.mk hnq; have hs : wvq.cell? ⟨g8, 4, none⟩ = some (.slice Au nu cu) := (blk_cell Qva.out.k8 4).trans rfl; have hfs := blk_frozen Qva.out.k8 4; clear ho hb hg hat hnq))
      obtain ⟨wvz, hwz⟩ : ∃ W, W = wvq.setCell ⟨g8, 4, none⟩ (.slice Av nv cv) := ⟨_, rfl⟩
      rw [← hwz]
      have Qv := Aside0.mk (show Pt w P g3 g5 g6 g8 _ _ _ _ _ _ _ _ _ wvz from by rw [hwz]; exact Qva.out.set4 (.slice Av nv cv))
      clear hwz hs hfs
      clear t84 t50 t51 t52 t53 t54
      have Px := Aside0.mk (Qv.out.move (below_drew1 (Below.refl _ _)))
      obtain ⟨ii, hii, hsz⟩ := Option.map_eq_some_iff.1 info49
      obtain ⟨E1, e1, hcut⟩ : ∃ (E : Option Addr) (e : Nat), ∀ W : World, (Instr.slice 47 (.slice A4 n c4) (some (.int .i64 (n : Int))) none none).run Tryz.prog W = .ok (.slice E 0 e) W := ⟨_, _, fun W => by have h := cut_from (P := Tryz.prog) 47 49 .i64 Tryz.underlying47 hii 5 (by simp only [Prod.mk.injEq] at hsz; exact hsz.2.1) A4 n c4 (n : Int) (by omega) (by omega) W; rw [Int.toNat_natCast, Nat.sub_self] at h; exact h⟩
      refine start_ (n := 9) (S := fun w' => w'.cell? ⟨g8, 4, none⟩ = some (.slice Av nv cv) ∧ w'.cell? ⟨g3, 4, none⟩ = some (.slice A4 n c4)) (ds := [8]) #[false, false, false, false, false, false, false, false, false] (by kernel_rfl) rfl rfl ⟨(blk_cell Px.out.k8 4).trans rfl, (blk_cell Px.out.k3 4).trans rfl⟩ (fun hHeld => ?_)
      generalize wvz.drew = wxd at Px hHeld ⊢
      refine pure_ (i := 0) (N := (some 48)) (v := ?_) (a' := ?_) #[true, false, false, false, false, false, false, false, false] rfl rfl (by kernel_rfl) (fun _ _ _ h => h) (Or.inl ⟨by rfl, ?_⟩) ?_ ?_
      rotate_left
      · intro w'
        go_simp
        with_reducible rfl
      rotate_left
      · simp only [Act.put, List.setIfInBounds_toArray, List.set_cons_zero, List.set_cons_succ, i64_w, i32_w]
        rfl
      refine pure_ (i := 2) (N := (some 50)) (v := ?_) (a' := ?_) #[true, false, true, false, false, false, false, false, false] rfl rfl (by kernel_rfl) (fun _ _ _ h => h) (Or.inl ⟨by rfl, ?_⟩) ?_ ?_
      rotate_left
      · intro w'
        go_simp
        with_reducible rfl
      rotate_left
      · simp only [Act.put, List.setIfInBounds_toArray, List.set_cons_zero, List.set_cons_succ, i64_w, i32_w]
        rfl
      refine pure_ (i := 4) (N := (some 52)) (v := ?_) (a' := ?_) #[true, false, true, false, true, false, false, false, false] rfl rfl (by kernel_rfl) (fun _ _ _ h => h) (Or.inl ⟨by rfl, ?_⟩) ?_ ?_
      rotate_left
      · intro w'
        go_simp
        with_reducible rfl
      rotate_left
      · simp only [Act.put, List.setIfInBounds_toArray, List.set_cons_zero, List.set_cons_succ, i64_w, i32_w]
        rfl
      refine take_ (i := 1) (N := (some 49)) (v := ?_) (a' := ?_) #[true, true, true, false, true, false, false, false, false] rfl rfl (by kernel_rfl) (fun _ _ _ h => h) (Or.inl ⟨by rfl, ?_⟩) hHeld ?_ ?_
      rotate_left
      · rintro w' ⟨s0, s1⟩
        go_simp
        with_reducible rfl
      rotate_left
      · simp only [Act.put, List.setIfInBounds_toArray, List.set_cons_zero, List.set_cons_succ, i64_w, i32_w]
        rfl
      refine take_ (i := 3) (N := (some 51)) (v := ?_) (a' := ?_) #[true, true, true, true, true, false, false, false, false] rfl rfl (by kernel_rfl) (fun _ _ _ h => h) (Or.inl ⟨by rfl, ?_⟩) hHeld ?_ ?_
      rotate_left
      · rintro w' ⟨s0, s1⟩
        go_simp
        with_reducible rfl
      rotate_left
      · simp only [Act.put, List.setIfInBounds_toArray, List.set_cons_zero, List.set_cons_succ, i64_w, i32_w]
        rfl
      refine one_ (i := 5) (N := (some 53)) #[true, true, true, true, true, true, false, false, false] rfl rfl (by kernel_rfl) (by decide) (fun K hK => ?_)
      refine value_ (w1 := ?_) (v := ?_) (by rfl) rfl ?_ ?_
      rotate_left 2
      · go_simp
        constructor
        · rfl
        · rfl
      refine hK.out _ _ ⟨hHeld.1, hHeld.2⟩ (fun hHeld => ?_)
      clear hK K
      refine norm_ (a' := ?_) ?_ ?_
      rotate_left
      · show Act.put _ (some 53) _ = _
        simp only [Act.put, List.setIfInBounds_toArray, List.set_cons_zero, List.set_cons_succ, i64_w, i32_w]
        rfl
      refine one_ (i := 6) (N := (some 54)) #[true, true, true, true, true, true, true, false, false] rfl rfl (by kernel_rfl) (by decide) (fun K hK => ?_)
      refine Kd.R_append_rows_step (kfx w P) (Rr := (fun x cs => Kd.FK k49 w P x cs)) (w0 := w) w.heap.size (by rfl) (.tmp 49) (.tmp 53) 47 49 (.agg #[(.int .i64 0), (.int .i64 0), (.string ⟨#[]⟩), (.slice none 0 0), (.slice none 0 0)]) 80 rfl Tryz.underlying47 info49 rfl (show 0 < 5 by decide) (by omega) (.slice Av nv cv) ([] ++ ks ++ [x]) [] E1 0 e1 (fun k => g8 < k) (fun _ => False) rfl rfl ?aO ?aR ?aK (fun _ h => h.elim) ?aF ?aB ?aS ?aL ?_
      (case aO => exact Px.out.r4)
      (case aR => exact ⟨rfl, by omega, fun h => absurd h (by omega)⟩)
      (case aK => exact fun _ _ h => h)
      (case aF => exact fun k hk => by have := Px.out.lt; omega)
      (case aB => exact Px.out.bel)
      (case aS => exact Px.out.bel.size)
      (case aL => have := HN.out; have := HL.out; simp; omega)
      intro vq wxq ho hb hg hat
      obtain ⟨Ax, cx, eq⟩ := Kd.R_slice ho
      obtain ⟨nx, hnq⟩ : ∃ n, n = (([] ++ ks ++ [x]) ++ []).length := ⟨_, rfl⟩
      rw [← hnq] at eq
      subst eq
      have Qxa := Aside0.mk (Px.out.kid ho hb hg)
      have Nx := Aside0.mk hnq
      clear ho hb hg hat hnq
      refine hK.out _ _ ⟨(blk_cell Qxa.out.k8 4).trans rfl, (blk_cell Qxa.out.k3 4).trans rfl⟩ (fun hHeld => ?_)
      clear hK K
      refine norm_ (a' := ?_) ?_ ?_
      rotate_left
      · show Act.put _ (some 54) _ = _
        simp only [Act.put, List.setIfInBounds_toArray, List.set_cons_zero, List.set_cons_succ, i64_w, i32_w]
        rfl
      refine pure_ (i := 7) (N := (some 55)) (v := ?_) (a' := ?_) #[true, true, true, true, true, true, true, true, false] rfl rfl (by kernel_rfl) (fun _ _ _ h => h) (Or.inl ⟨by rfl, ?_⟩) ?_ ?_
      rotate_left
      · intro w'
        go_simp
        with_reducible rfl
      rotate_left
      · simp only [Act.put, List.setIfInBounds_toArray, List.set_cons_zero, List.set_cons_succ, i64_w, i32_w]
        rfl
      refine last_ (i := 8) (N := none) #[true, true, true, true, true, true, true, true, true] rfl rfl (by kernel_rfl) (by decide) (fun K hK => ?_)
      have hs := (blk_cell Qxa.out.k8 4).trans rfl
      have hfs := blk_frozen Qxa.out.k8 4
      refine skip_ (w1 := ?_) (by rfl) rfl ?_ ?_
      rotate_left
      · go_simp
        rfl
      refine hK.out _ _ ?_
      clear hK K hs hfs hHeld
      have qb := Qxa.out.set4 (.slice Ax nx cx)
      obtain ⟨wxz, hwz⟩ : ∃ W, W = wxq.setCell ⟨g8, 4, none⟩ (.slice Ax nx cx) := ⟨_, rfl⟩
      rw [← hwz] at qb ⊢
      have Qx := Aside0.mk qb
      clear qb hwz
      refine done_ (by kernel_rfl) ?_
      clear hcut
      have t30 : wxz.cell? ⟨g3, 0, none⟩ = some (.int .i64 7) := (blk_cell Qx.out.k3 0).trans rfl
      go_upto_region 11 with fail
      clear t30
      have Py := Aside0.mk (Qx.out.move (below_drew1 (Below.refl _ _)))
      obtain ⟨ii, hii, _⟩ := Option.map_eq_some_iff.1 info9
      have hcut := cut_to (P := Tryz.prog) 35 9 .i64 Tryz.underlying35 hii A3 n c3 (n : Int) (by omega) (by omega) HC.out.1
      rw [Int.toNat_natCast] at hcut
      refine start_ (n := 9) (S := fun w' => w'.cell? ⟨g8, 3, none⟩ = some (.slice none 0 0) ∧ w'.cell? ⟨g3, 3, none⟩ = some (.slice A3 n c3)) (ds := [8]) #[false, false, false, false, false, false, false, false, false] (by kernel_rfl) rfl rfl ⟨(blk_cell Py.out.k8 3).trans rfl, (blk_cell Py.out.k3 3).trans rfl⟩ (fun hHeld => ?_)
      generalize wxz.drew = wyd at Py hHeld ⊢
      refine pure_ (i := 0) (N := (some 59)) (v := ?_) (a' := ?_) #[true, false, false, false, false, false, false, false, false] rfl rfl (by kernel_rfl) (fun _ _ _ h => h) (Or.inl ⟨by rfl, ?_⟩) ?_ ?_
      rotate_left
      · intro w'
        go_simp
        with_reducible rfl
      rotate_left
      · simp only [Act.put, List.setIfInBounds_toArray, List.set_cons_zero, List.set_cons_succ, i64_w, i32_w]
        rfl
      refine pure_ (i := 2) (N := (some 61)) (v := ?_) (a' := ?_) #[true, false, true, false, false, false, false, false, false] rfl rfl (by kernel_rfl) (fun _ _ _ h => h) (Or.inl ⟨by rfl, ?_⟩) ?_ ?_
      rotate_left
      · intro w'
        go_simp
        with_reducible rfl
      rotate_left
      · simp only [Act.put, List.setIfInBounds_toArray, List.set_cons_zero, List.set_cons_succ, i64_w, i32_w]
        rfl
      refine pure_ (i := 4) (N := (some 63)) (v := ?_) (a' := ?_) #[true, false, true, false, true, false, false, false, false] rfl rfl (by kernel_rfl) (fun _ _ _ h => h) (Or.inl ⟨by rfl, ?_⟩) ?_ ?_
      rotate_left
      · intro w'
        go_simp
        with_reducible rfl
      rotate_left
      · simp only [Act.put, List.setIfInBounds_toArray, List.set_cons_zero, List.set_cons_succ, i64_w, i32_w]
        rfl
      refine take_ (i := 1) (N := (some 60)) (v := ?_) (a' := ?_) #[true, true, true, false, true, false, false, false, false] rfl rfl (by kernel_rfl) (fun _ _ _ h => h) (Or.inl ⟨by rfl, ?_⟩) hHeld ?_ ?_
      rotate_left
      · rintro w' ⟨s0, s1⟩
        go_simp
        with_reducible rfl
      rotate_left
      · simp only [Act.put, List.setIfInBounds_toArray, List.set_cons_zero, List.set_cons_succ, i64_w, i32_w]
        rfl
      refine take_ (i := 3) (N := (some 62)) (v := ?_) (a' := ?_) #[true, true, true, true, true, false, false, false, false] rfl rfl (by kernel_rfl) (fun _ _ _ h => h) (Or.inl ⟨by rfl, ?_⟩) hHeld ?_ ?_
      rotate_left
      · rintro w' ⟨s0, s1⟩
        go_simp
        with_reducible rfl
      rotate_left
      · simp only [Act.put, List.setIfInBounds_toArray, List.set_cons_zero, List.set_cons_succ, i64_w, i32_w]
        rfl
      refine one_ (i := 5) (N := (some 64)) #[true, true, true, true, true, true, false, false, false] rfl rfl (by kernel_rfl) (by decide) (fun K hK => ?_)
      refine value_ (w1 := ?_) (v := ?_) (by rfl) rfl ?_ ?_
      rotate_left 2
      · go_simp
        constructor
        · rfl
        · rfl
      refine hK.out _ _ ⟨hHeld.1, hHeld.2⟩ (fun hHeld => ?_)
      clear hK K
      refine norm_ (a' := ?_) ?_ ?_
      rotate_left
      · show Act.put _ (some 64) _ = _
        simp only [Act.put, List.setIfInBounds_toArray, List.set_cons_zero, List.set_cons_succ, i64_w, i32_w]
        rfl
      refine one_ (i := 6) (N := (some 65)) #[true, true, true, true, true, true, true, false, false] rfl rfl (by kernel_rfl) (by decide) (fun K hK => ?_)
      refine Kd.R_append_rows_step Kd.string (Rr := Kd.string.K w) (w0 := w) w.heap.size (by rfl) (.tmp 60) (.tmp 64) 35 9 (.string ⟨#[]⟩) 16 rfl Tryz.underlying35 info9 rfl (show 0 < 1 by decide) (by omega) (.slice none 0 0) ([] : List ByteArray) ns A3 n c3 (fun k => g8 < k) (fun _ => False) rfl rfl ?aO ?aR ?aK (fun _ h => h.elim) ?aF ?aB ?aS ?aL ?_
      (case aO => exact Py.out.r3)
      (case aR => exact (HR3.out.imp_ Py.out.bel (fun _ _ h => h)))
      (case aK => exact fun _ _ h => h)
      (case aF => exact fun k hk => by have := Py.out.lt; omega)
      (case aB => exact Py.out.bel)
      (case aS => exact Py.out.bel.size)
      (case aL => have := HN.out; have := HL.out; simp; omega)
      intro vq wyq ho hb hg hat
      obtain ⟨Ay, cy, eq⟩ := Kd.R_slice ho
      obtain ⟨ny, hnq⟩ : ∃ n, n = (([] : List ByteArray) ++ ns).length := ⟨_, rfl⟩
      rw [← hnq] at eq
      subst eq
      have Qya := Aside0.mk (Py.out.name ho hb hg)
      have Ny := Aside0.mk hnq
      clear ho hb hg hat hnq
      refine hK.out _ _ ⟨(blk_cell Qya.out.k8 3).trans rfl, (blk_cell Qya.out.k3 3).trans rfl⟩ (fun hHeld => ?_)
      clear hK K
      refine norm_ (a' := ?_) ?_ ?_
      rotate_left
      · show Act.put _ (some 65) _ = _
        simp only [Act.put, List.setIfInBounds_toArray, List.set_cons_zero, List.set_cons_succ, i64_w, i32_w]
        rfl
      refine pure_ (i := 7) (N := (some 66)) (v := ?_) (a' := ?_) #[true, true, true, true, true, true, true, true, false] rfl rfl (by kernel_rfl) (fun _ _ _ h => h) (Or.inl ⟨by rfl, ?_⟩) ?_ ?_
      rotate_left
      · intro w'
        go_simp
        with_reducible rfl
      rotate_left
      · simp only [Act.put, List.setIfInBounds_toArray, List.set_cons_zero, List.set_cons_succ, i64_w, i32_w]
        rfl
      refine last_ (i := 8) (N := none) #[true, true, true, true, true, true, true, true, true] rfl rfl (by kernel_rfl) (by decide) (fun K hK => ?_)
      have hs := (blk_cell Qya.out.k8 3).trans rfl
      have hfs := blk_frozen Qya.out.k8 3
      refine skip_ (w1 := ?_) (by rfl) rfl ?_ ?_
      rotate_left
      · go_simp
        rfl
      refine hK.out _ _ ?_
      clear hK K hs hfs hHeld
      have qb := Qya.out.set3 (.slice Ay ny cy)
      obtain ⟨wyz, hwz⟩ : ∃ W, W = wyq.setCell ⟨g8, 3, none⟩ (.slice Ay ny cy) := ⟨_, rfl⟩
      rw [← hwz] at qb ⊢
      have Qy := Aside0.mk qb
      clear qb hwz
      refine done_ (by kernel_rfl) ?_
      clear hcut
      have t83 : wyz.cell? ⟨g8, 3, none⟩ = some (.slice Ay ny cy) := (blk_cell Qy.out.k8 3).trans rfl
      go_upto_region 13 with (first | ((with_reducible refine gate_builtin (b := .append) (xs := #[.tmp 68, .tmp 70]) rfl ?_); at_builtin; refine Kd.R_append Kd.string (w0 := w) w.heap.size rfl (.tmp 68) (.tmp 70) 35 9 (.string ⟨#[]⟩) 16 rfl Tryz.underlying35 info9 rfl (show 0 < 1 by decide) (by omega) (.slice Ay ny cy) ([] ++ ns) s [.string s] (fun k => g8 < k) (fun _ => False) rfl rfl ?aP (fun _ hk => hk.elim) ?aF ?aO ?aB ?aS ?aL ?_; (case aP => exact rfl); (case aF => exact fun k hk => by have := Qy.out.lt; omega); (case aO => exact Qy.out.r3); (case aB => exact Qy.out.bel); (case aS => exact Qy.out.bel.size); (case aL => have := HN.out; have := HL.out; simp; omega); intro vq wzq ho hb hg hat; obtain ⟨Az, cz, eq⟩ := Kd.R_slice ho; obtain ⟨nz, hnq⟩ : ∃ n, n = (([] ++ ns) ++ [s]).length := ⟨_, rfl⟩; rw [← hnq] at eq; subst eq; have Qza := Aside0.mk (Qy.out.name ho hb hg); have Nz := Aside0.mk hnq; have hs : wzq.cell? ⟨g8, 3, none⟩ = some (.slice Ay ny cy) := (blk_cell Qza.out.k8 3).trans rfl; have hfs := blk_frozen Qza.out.k8 3; clear ho hb hg hat hnq))
      obtain ⟨wzz, hwz⟩ : ∃ W, W = wzq.setCell ⟨g8, 3, none⟩ (.slice Az nz cz) := ⟨_, rfl⟩
      rw [← hwz]
      have Qz := Aside0.mk (show Pt w P g3 g5 g6 g8 _ _ _ _ _ _ _ _ _ wzz from by rw [hwz]; exact Qza.out.set3 (.slice Az nz cz))
      clear hwz hs hfs
      clear t83
      have Pt := Aside0.mk (Qz.out.move (below_drew1 (Below.refl _ _)))
      obtain ⟨ii, hii, hsz⟩ := Option.map_eq_some_iff.1 info9
      obtain ⟨E2, e2, hcut⟩ : ∃ (E : Option Addr) (e : Nat), ∀ W : World, (Instr.slice 35 (.slice A3 n c3) (some (.int .i64 (n : Int))) none none).run Tryz.prog W = .ok (.slice E 0 e) W := ⟨_, _, fun W => by have h := cut_from (P := Tryz.prog) 35 9 .i64 Tryz.underlying35 hii 1 (by simp only [Prod.mk.injEq] at hsz; exact hsz.2.1) A3 n c3 (n : Int) (by omega) (by omega) W; rw [Int.toNat_natCast, Nat.sub_self] at h; exact h⟩
      refine start_ (n := 9) (S := fun w' => w'.cell? ⟨g8, 3, none⟩ = some (.slice Az nz cz) ∧ w'.cell? ⟨g3, 3, none⟩ = some (.slice A3 n c3)) (ds := [8]) #[false, false, false, false, false, false, false, false, false] (by kernel_rfl) rfl rfl ⟨(blk_cell Pt.out.k8 3).trans rfl, (blk_cell Pt.out.k3 3).trans rfl⟩ (fun hHeld => ?_)
      generalize wzz.drew = wtd at Pt hHeld ⊢
      refine pure_ (i := 0) (N := (some 73)) (v := ?_) (a' := ?_) #[true, false, false, false, false, false, false, false, false] rfl rfl (by kernel_rfl) (fun _ _ _ h => h) (Or.inl ⟨by rfl, ?_⟩) ?_ ?_
      rotate_left
      · intro w'
        go_simp
        with_reducible rfl
      rotate_left
      · simp only [Act.put, List.setIfInBounds_toArray, List.set_cons_zero, List.set_cons_succ, i64_w, i32_w]
        rfl
      refine pure_ (i := 2) (N := (some 75)) (v := ?_) (a' := ?_) #[true, false, true, false, false, false, false, false, false] rfl rfl (by kernel_rfl) (fun _ _ _ h => h) (Or.inl ⟨by rfl, ?_⟩) ?_ ?_
      rotate_left
      · intro w'
        go_simp
        with_reducible rfl
      rotate_left
      · simp only [Act.put, List.setIfInBounds_toArray, List.set_cons_zero, List.set_cons_succ, i64_w, i32_w]
        rfl
      refine pure_ (i := 4) (N := (some 77)) (v := ?_) (a' := ?_) #[true, false, true, false, true, false, false, false, false] rfl rfl (by kernel_rfl) (fun _ _ _ h => h) (Or.inl ⟨by rfl, ?_⟩) ?_ ?_
      rotate_left
      · intro w'
        go_simp
        with_reducible rfl
      rotate_left
      · simp only [Act.put, List.setIfInBounds_toArray, List.set_cons_zero, List.set_cons_succ, i64_w, i32_w]
        rfl
      refine take_ (i := 1) (N := (some 74)) (v := ?_) (a' := ?_) #[true, true, true, false, true, false, false, false, false] rfl rfl (by kernel_rfl) (fun _ _ _ h => h) (Or.inl ⟨by rfl, ?_⟩) hHeld ?_ ?_
      rotate_left
      · rintro w' ⟨s0, s1⟩
        go_simp
        with_reducible rfl
      rotate_left
      · simp only [Act.put, List.setIfInBounds_toArray, List.set_cons_zero, List.set_cons_succ, i64_w, i32_w]
        rfl
      refine take_ (i := 3) (N := (some 76)) (v := ?_) (a' := ?_) #[true, true, true, true, true, false, false, false, false] rfl rfl (by kernel_rfl) (fun _ _ _ h => h) (Or.inl ⟨by rfl, ?_⟩) hHeld ?_ ?_
      rotate_left
      · rintro w' ⟨s0, s1⟩
        go_simp
        with_reducible rfl
      rotate_left
      · simp only [Act.put, List.setIfInBounds_toArray, List.set_cons_zero, List.set_cons_succ, i64_w, i32_w]
        rfl
      refine one_ (i := 5) (N := (some 78)) #[true, true, true, true, true, true, false, false, false] rfl rfl (by kernel_rfl) (by decide) (fun K hK => ?_)
      refine value_ (w1 := ?_) (v := ?_) (by rfl) rfl ?_ ?_
      rotate_left 2
      · go_simp
        constructor
        · rfl
        · rfl
      refine hK.out _ _ ⟨hHeld.1, hHeld.2⟩ (fun hHeld => ?_)
      clear hK K
      refine norm_ (a' := ?_) ?_ ?_
      rotate_left
      · show Act.put _ (some 78) _ = _
        simp only [Act.put, List.setIfInBounds_toArray, List.set_cons_zero, List.set_cons_succ, i64_w, i32_w]
        rfl
      refine one_ (i := 6) (N := (some 79)) #[true, true, true, true, true, true, true, false, false] rfl rfl (by kernel_rfl) (by decide) (fun K hK => ?_)
      refine Kd.R_append_rows_step Kd.string (Rr := Kd.string.K w) (w0 := w) w.heap.size (by rfl) (.tmp 74) (.tmp 78) 35 9 (.string ⟨#[]⟩) 16 rfl Tryz.underlying35 info9 rfl (show 0 < 1 by decide) (by omega) (.slice Az nz cz) ([] ++ ns ++ [s]) [] E2 0 e2 (fun k => g8 < k) (fun _ => False) rfl rfl ?aO ?aR ?aK (fun _ h => h.elim) ?aF ?aB ?aS ?aL ?_
      (case aO => exact Pt.out.r3)
      (case aR => exact ⟨rfl, by omega, fun h => absurd h (by omega)⟩)
      (case aK => exact fun _ _ h => h)
      (case aF => exact fun k hk => by have := Pt.out.lt; omega)
      (case aB => exact Pt.out.bel)
      (case aS => exact Pt.out.bel.size)
      (case aL => have := HN.out; have := HL.out; simp; omega)
      intro vq wtq ho hb hg hat
      obtain ⟨At, ct, eq⟩ := Kd.R_slice ho
      obtain ⟨nt, hnq⟩ : ∃ n, n = (([] ++ ns ++ [s]) ++ []).length := ⟨_, rfl⟩
      rw [← hnq] at eq
      subst eq
      have Qta := Aside0.mk (Pt.out.name ho hb hg)
      have Nt := Aside0.mk hnq
      clear ho hb hg hat hnq
      refine hK.out _ _ ⟨(blk_cell Qta.out.k8 3).trans rfl, (blk_cell Qta.out.k3 3).trans rfl⟩ (fun hHeld => ?_)
      clear hK K
      refine norm_ (a' := ?_) ?_ ?_
      rotate_left
      · show Act.put _ (some 79) _ = _
        simp only [Act.put, List.setIfInBounds_toArray, List.set_cons_zero, List.set_cons_succ, i64_w, i32_w]
        rfl
      refine pure_ (i := 7) (N := (some 80)) (v := ?_) (a' := ?_) #[true, true, true, true, true, true, true, true, false] rfl rfl (by kernel_rfl) (fun _ _ _ h => h) (Or.inl ⟨by rfl, ?_⟩) ?_ ?_
      rotate_left
      · intro w'
        go_simp
        with_reducible rfl
      rotate_left
      · simp only [Act.put, List.setIfInBounds_toArray, List.set_cons_zero, List.set_cons_succ, i64_w, i32_w]
        rfl
      refine last_ (i := 8) (N := none) #[true, true, true, true, true, true, true, true, true] rfl rfl (by kernel_rfl) (by decide) (fun K hK => ?_)
      have hs := (blk_cell Qta.out.k8 3).trans rfl
      have hfs := blk_frozen Qta.out.k8 3
      refine skip_ (w1 := ?_) (by rfl) rfl ?_ ?_
      rotate_left
      · go_simp
        rfl
      refine hK.out _ _ ?_
      clear hK K hs hfs hHeld
      have qb := Qta.out.set3 (.slice At nt ct)
      obtain ⟨wtz, hwz⟩ : ∃ W, W = wtq.setCell ⟨g8, 3, none⟩ (.slice At nt ct) := ⟨_, rfl⟩
      rw [← hwz] at qb ⊢
      have Qt := Aside0.mk qb
      clear qb hwz
      refine done_ (by kernel_rfl) ?_
      clear hcut
      have e3 : nt = (ns ++ [s]).length := by rw [Nt.out]; simp
      have e4 : nx = (ks ++ [x]).length := by rw [Nx.out]; simp
      have E34 := Aside0.mk (And.intro e3 e4)
      clear e3 e4
      have q0 : wtz.cell? ⟨g8, 0, none⟩ = some (.int .i64 7) := (blk_cell Qt.out.k8 0).trans rfl
      have q1 : wtz.cell? ⟨g8, 1, none⟩ = some (.int .i64 0) := (blk_cell Qt.out.k8 1).trans rfl
      have q2 : wtz.cell? ⟨g8, 2, none⟩ = some (.string ⟨#[]⟩) := (blk_cell Qt.out.k8 2).trans rfl
      have q3 : wtz.cell? ⟨g8, 3, none⟩ = some (.slice At nt ct) := (blk_cell Qt.out.k8 3).trans rfl
      have q4 : wtz.cell? ⟨g8, 4, none⟩ = some (.slice Ax nx cx) := (blk_cell Qt.out.k8 4).trans rfl
      have z0 : wtz.cell? ⟨g6, 0, none⟩ = some (.int .i64 0) := (blk_cell Qt.out.k6 0).trans rfl
      have z1 : wtz.cell? ⟨g6, 1, none⟩ = some (.int .i64 0) := (blk_cell Qt.out.k6 1).trans rfl
      have z2 : wtz.cell? ⟨g6, 2, none⟩ = some (.string ⟨#[]⟩) := (blk_cell Qt.out.k6 2).trans rfl
      have z3 : wtz.cell? ⟨g6, 3, none⟩ = some (.slice none 0 0) := (blk_cell Qt.out.k6 3).trans rfl
      have z4 : wtz.cell? ⟨g6, 4, none⟩ = some (.slice none 0 0) := (blk_cell Qt.out.k6 4).trans rfl
      have f0 := blk_frozen Qt.out.k6 0
      have f1 := blk_frozen Qt.out.k6 1
      have f2 := blk_frozen Qt.out.k6 2
      have f3 := blk_frozen Qt.out.k6 3
      have f4 := blk_frozen Qt.out.k6 4
      go_wp2
      refine bodyPost_ret (results_cell_row rfl _ _ g6 49 _ (0, 0) _ rfl (put5 Qt.out.k6) Tryz.underlying49 rfl (by kernel_rfl)) rfl ?_
      have lo := Qt.out.lo
      have hB := below_put5 (a := .int .i64 7) (b := .int .i64 0) (c := .string ⟨#[]⟩) (d := .slice At nt ct) (e := .slice Ax nx cx) Qt.out.bel lo.2.1
      have r3 := R_put5 (g := g6) (a := .int .i64 7) (b := .int .i64 0) (c := .string ⟨#[]⟩) (f := .slice At nt ct) (h5 := .slice Ax nx cx) Qt.out.r3 (fun k hk => by omega)
      have r4 := R_put5 (g := g6) (a := .int .i64 7) (b := .int .i64 0) (c := .string ⟨#[]⟩) (f := .slice At nt ct) (h5 := .slice Ax nx cx) Qt.out.r4 (fun k hk => by omega)
      simp only [List.nil_append, List.append_nil] at r3 r4
      exact ⟨.slice At nt ct, .slice Ax nx cx, rfl, Kd.V_mono (Kd.R_V r3) (fun k hk => .inr (by omega)), Kd.V_mono (kfx_V HP.out hB r4) (fun k hk => hk.elim .inl (fun h => .inr (by omega))), hB⟩
end Go.Proofs.YtdbfhbnlheankaaGreatDoor.VT
