import Derived.Test.YtdbfhbnlheankaaGreatDoorCOVQE
import Derived.Test.YtdbfhbnlheankaaGreatDoorCOPVGx0
/- clean, walked: maps. Conditions: right trees. -/
namespace Go.Proofs.YtdbfhbnlheankaaGreatDoor.VT
open Go.RowKit Go.Proofs.YtdbfhbnlheankaaGreatDoor.PVG Go.Proofs.YtdbfhbnlheankaaGreatDoorW.PrintWords Go.Proofs.YtdbfhbnlheankaaGreatDoorW.PrintLast Go.Proofs.YtdbfhbnlheankaaGreatDoorW.PrintMore
set_option linter.unusedVariables false
set_option linter.unusedSimpArgs false
theorem Cl.whole {w W : World} {F : Nat → Prop} {o : Nat} {v3 v4 : Value} {ms : List ByteArray} {ps : List Nat} {cs : List Tr} (h : Cl w F o v3 v4 v3 ms v4 ps cs W) : InV W (fun k => F k ∨ w.heap.size ≤ k) (.mk 7 0 nil_ ms cs) o := by
  obtain ⟨A3, c3, rfl⟩ := Kd.R_slice h.r3
  obtain ⟨A4, c4, rfl⟩ := Kd.R_slice h.r4
  obtain ⟨_, l3, g3⟩ := Kd.R_reads' h.r3
  obtain ⟨_, l4, g4⟩ := Kd.R_reads' h.r4
  have hob := h.ob
  rw [h.len] at hob l4
  have q3 : ∀ i (hi : i < ms.length), ∃ ad, A3 = some ad ∧ W.cell? (ad.add i) = some (.string ms[i]) := fun i hi => by
    obtain ⟨ad, c, e, _, hK, hc⟩ := Kd.C_get g3 nil_ (i : Int) (by omega) (by omega)
    obtain rfl : c = [.string (ms.getD (i : Int).toNat nil_)] := hK
    have h0 := hc 0 _ rfl
    have e1 : (i : Int).toNat * Kd.string.sz + 0 = i := by show (i : Int).toNat * 1 + 0 = i; omega
    rw [e1, List.getD_eq_getElem?_getD, Int.toNat_natCast, List.getElem?_eq_getElem hi] at h0
    exact ⟨ad, e, h0⟩
  have q4 : ∀ i, i < cs.length → ∃ ad, A4 = some ad ∧ W.cell? (ad.add i) = some (.pointer (some ⟨ps.getD i 0, 0, none⟩)) := fun i hi => by
    obtain ⟨ad, c, e, _, hK, hc⟩ := Kd.C_get g4 0 (i : Int) (by omega) (by rw [h.len]; omega)
    obtain rfl : c = [.pointer (some ⟨ps.getD (i : Int).toNat 0, 0, none⟩)] := hK
    have h0 := hc 0 _ rfl
    have e1 : (i : Int).toNat * kQ.sz + 0 = i := by show (i : Int).toNat * 1 + 0 = i; omega
    rw [e1, Int.toNat_natCast] at h0
    exact ⟨ad, e, h0⟩
  have b3 : ∀ k, (Value.slice A3 ms.length c3).ownBlock = some k → w.heap.size ≤ k := fun k e => ((Kd.R_bound h.r3).1 k e).2.1
  have b4 : ∀ k, (Value.slice A4 ps.length c4).ownBlock = some k → w.heap.size ≤ k := fun k e => ((Kd.R_bound h.r4).1 k e).2.1
  refine .mk (fun i => ps.getD i 0) (.inr h.ge) hob l3 ⟨g3.2.1, fun h0 => ?_, q3⟩ l4 ⟨by rw [← h.len]; exact g4.2.1, fun h0 => ?_, q4⟩ (fun i hi => ?_)
  · obtain ⟨ad, e, _⟩ := q3 0 h0
    exact ⟨ad, e, .inr (b3 _ (by rw [e]; rfl))⟩
  · obtain ⟨ad, e, _⟩ := q4 0 h0
    exact ⟨ad, e, .inr (b4 _ (by rw [e]; rfl))⟩
  · have hi2 : i < ps.length := by rw [h.len]; exact hi
    have := (h.kids i hi hi2).mono (G := fun k => F k ∨ w.heap.size ≤ k) (fun k hk => hk.1)
    rw [List.getD_eq_getElem?_getD, List.getElem?_eq_getElem hi2]
    exact this
set_option maxRecDepth 100000 in
set_option maxHeartbeats 8000000 in
theorem clean_map (nu : Int) (tx : ByteArray) (ns : List ByteArray) (ks : List Tr) (ih : ∀ t, t ∈ ks → ClCall t) : ClCall (.mk 7 nu tx ns ks) := by
  intro w g F hv hF hf hn
  have hfit := fit1 hf
  have hlen : ns.length = ks.length := hfit.hlen rfl
  cases hv with
  | @mk _ _ _ _ _ _ A3 c3 A4 c4 ptr hFg hg l3 g3 l4 g4 hk =>
  have IH := Aside0.mk ih
  have FLT := Aside0.mk hF
  have FITS := Aside0.mk hfit.hks
  have HN := Aside0.mk hn
  have HLEN := Aside0.mk hlen
  have NAM := Aside0.mk (show ∀ i (h : i < ns.length), ∃ ad, A3 = some ad ∧ w.cell? (ad.add i) = some (.string ns[i]) from g3.2.2)
  have PTR := Aside0.mk (show ∀ i, i < ks.length → ∃ ad, A4 = some ad ∧ w.cell? (ad.add i) = some (.pointer (some ⟨ptr i, 0, none⟩)) from g4.2.2)
  have KIDS := Aside0.mk (show ∀ i (h : i < ks.length), InV w F ks[i] (ptr i) from hk)
  have GB := Aside0.mk hg
  have b8 : ks.length ≤ 1073741824 := by have := cnt_ge_len ks; simp only [cnt] at hn; omega
  have B8 := Aside0.mk b8
  have LT4 := Aside0.mk l4
  have k0 : w.cell? ⟨g, 0, none⟩ = some (.int .i64 7) := (blk_cell hg 0).trans rfl
  have RES := Aside0.mk (show cleanT (.mk 7 nu tx ns ks) = .mk 7 0 nil_ (cleanN ks ns) (cleanK ks) by rw [cleanT, if_pos rfl])
  obtain ⟨o, ho⟩ : ∃ o, o = w.heap.size := ⟨_, rfl⟩
  obtain ⟨W1, hW1⟩ : ∃ W1, W1 = w.alloc (.cells #[.int .i64 7, .int .i64 0, .string nil_, .slice none 0 0, .slice none 0 0] 92) := ⟨_, rfl⟩
  have hb1 : Below w.heap.size w W1 := by rw [hW1]; exact below_alloc (Below.refl _ _) _
  have C0 := Aside0.mk (show Cl w F o (.slice none 0 0) (.slice none 0 0) (.slice none 0 0) [] (.slice none 0 0) [] [] W1 from
    ⟨hb1, by rw [ho]; exact Nat.le_refl _, by rw [hW1, ho]; exact blk_new w _, Kd.R_nil _ _ _ _ _, Kd.R_nil _ _ _ _ _, rfl, fun j h => by simp at h⟩)
  have k4 : W1.cell? ⟨g, 4, none⟩ = some (.slice A4 ks.length c4) := (hb1.cell (blk_lt hg)).trans ((blk_cell hg 4).trans rfl)
  clear ih hF hf hn hfit hlen g3 g4 hk hFg hg l3 l4 b8 hb1
  go_enter Tryz.func36, Tryz.ntmps36
  go_upto_region 4 with fail
  rw [show (#[.int .i64 7, .int .i64 0, .string ⟨#[]⟩, .slice none 0 0, .slice none 0 0] : Array Value) = #[.int .i64 7, .int .i64 0, .string nil_, .slice none 0 0, .slice none 0 0] from rfl, ← hW1, ← ho]
  clear hW1 ho
  go_wp2
  go_loopg [19] ks.length (fun m v19 W => ∃ (i : Nat) (v3 v4 : Value) (ps : List Nat), v19 = .int .i64 (i : Int) ∧ Aside0 (i + m = ks.length) ∧ Aside0 (Cl w F o v3 v4 v3 (cleanN (ks.take i) ns) v4 ps (cleanK (ks.take i)) W))
  case atStart => exact ⟨0, _, _, _, rfl, ⟨by omega⟩, C0⟩
  case round =>
    obtain ⟨i, v3, v4, ps, rfl, HM, S0⟩ := hrel
    clear k0 k4 C0
    cases gk with
    | zero =>
      have hlt : decide (i < ks.length) = false := decide_eq_false (by have := HM.out; omega)
      have HI := Aside0.mk (show ks.take i = ks from List.take_of_length_le (by have := HM.out; omega))
      have S9 := S0.out
      rw [HI.out] at S9
      have S9 := Aside0.mk S9
      clear S0
      go_wp2
      go_ret
      exact ⟨o, rfl, by rw [RES.out]; exact S9.out.whole, S9.out.bel⟩
    | succ m =>
      have hi : i < ks.length := by have := HM.out; omega
      have hni : i < ns.length := by rw [HLEN.out]; exact hi
      obtain ⟨ad, rfl, kc⟩ := PTR.out i hi
      have kc : wr.cell? (ad.add i) = some (.pointer (some ⟨ptr i, 0, none⟩)) := (S0.out.bel.cell (World.block_lt_of_cell? w _ kc)).trans kc
      have KID := Aside0.mk (show ∀ W, Below w.heap.size w W → InV W F ks[i] (ptr i) from fun W hb => (KIDS.out i hi).move (fun k hk => hb.block k (FLT.out k hk)))
      obtain ⟨_, _, _, _, hka⟩ := (KID.out wr S0.out.bel).is.at_
      have kk : wr.cell? ⟨ptr i, 0, none⟩ = some (.int .i64 ks[i].kd) := hka.cells.1
      clear hka
      have HIm := Aside0.mk (List.getElem_mem hi)
      have b1 : (i : Int) ≤ 1073741824 := by have := B8.out; omega
      by_cases h1 : ks[i].kd = 1
      · have h1b : (ks[i].kd != 1) = false := by simpa using h1
        have E1 := Aside0.mk (cleanK_step hi)
        have E2 := Aside0.mk (cleanN_step hi hni)
        have E3 := Aside0.mk h1
        clear h1
        go_wp2
        go_roundg m
        case rel => exact ⟨i + 1, v3, v4, ps, by go_num, ⟨by have := HM.out; omega⟩, ⟨by rw [E1.out, E2.out, if_pos E3.out, if_pos E3.out]; exact S0.out⟩⟩
        case measure => omega
      · have h1b : (ks[i].kd != 1) = true := by simpa using h1
        have E1 := Aside0.mk (cleanK_step hi)
        have E2 := Aside0.mk (cleanN_step hi hni)
        have E3 := Aside0.mk h1
        obtain ⟨ad3, rfl, kn⟩ := NAM.out i hni
        have HELD := Aside0.mk (show ∀ (v3' : Value) (ms' : List ByteArray) (v4' : Value) (ps' : List Nat) (cs' : List Tr) (w' : World), Cl w F o v3 v4 v3' ms' v4' ps' cs' w' → w'.cell? ⟨o, 3, none⟩ = some v3 ∧ w'.cell? ⟨o, 4, none⟩ = some v4 ∧ w'.cell? ⟨g, 3, none⟩ = some (.slice (some ad3) ns.length c3) ∧ w'.cell? (ad3.add i) = some (.string ns[i]) from fun _ _ _ _ _ w' hc => ⟨hc.cells.1, hc.cells.2.1, (hc.bel.cell (blk_lt GB.out)).trans ((blk_cell GB.out 3).trans rfl), (hc.bel.cell (World.block_lt_of_cell? w _ kn)).trans kn⟩)
        have S0d := Aside0.mk (S0.out.move (below_drew1 (Below.refl _ _)))
        have FK := Aside0.mk (show fit ks[i] = true from (fitL_iff ks).1 FITS.out _ HIm.out)
        have CK := Aside0.mk (show cnt ks[i] ≤ 1073741824 by have := cntL_mem (List.getElem_mem hi); have := HN.out; simp only [cnt] at this; omega)
        have LM := Aside0.mk (show (cleanN (ks.take i) ns).length ≤ 1073741824 from Nat.le_trans (cleanN_le _ _) (by rw [List.length_take]; omega))
        have LP := Aside0.mk (show ps.length ≤ 1073741824 by rw [S0.out.len]; exact Nat.le_trans (cleanK_len _).1 (by rw [List.length_take]; omega))
        obtain ⟨p, hp⟩ : ∃ p, p = ptr i := ⟨_, rfl⟩
        rw [← hp] at KID kc kk
        clear h1 kn hp
        go_upto_region 8 with fail
        clear kc kk
        refine start_ (n := 29) (S := fun w' => w'.cell? ⟨o, 3, none⟩ = some v3 ∧ w'.cell? ⟨o, 4, none⟩ = some v4 ∧ w'.cell? ⟨g, 3, none⟩ = some (.slice (some ad3) ns.length c3) ∧ w'.cell? (ad3.add i) = some (.string ns[i])) (ds := [25, 28]) #[false, false, false, false, false, false, false, false, false, false, false, false, false, false, false, false, false, false, false, false, false, false, false, false, false, false, false, false, false] (by kernel_rfl) rfl rfl (HELD.out _ _ _ _ _ _ S0d.out) (fun hHeld => ?_)
        generalize wr.drew = w1 at S0d hHeld ⊢
        have S1 := S0d
        refine pure_ (i := 0) (N := (some 29)) (v := ?_) (a' := ?_) #[true, false, false, false, false, false, false, false, false, false, false, false, false, false, false, false, false, false, false, false, false, false, false, false, false, false, false, false, false] rfl rfl (by kernel_rfl) (fun _ _ _ h => h) (Or.inl ⟨by rfl, ?_⟩) ?_ ?_
        rotate_left
        · intro w'
          go_simp
          with_reducible rfl
        rotate_left
        · simp only [Act.put, List.setIfInBounds_toArray, List.set_cons_zero, List.set_cons_succ, i64_w, i32_w]
          rfl
        refine pure_ (i := 1) (N := (some 30)) (v := ?_) (a' := ?_) #[true, true, false, false, false, false, false, false, false, false, false, false, false, false, false, false, false, false, false, false, false, false, false, false, false, false, false, false, false] rfl rfl (by kernel_rfl) (fun _ _ _ h => h) (Or.inl ⟨by rfl, ?_⟩) ?_ ?_
        rotate_left
        · intro w'
          go_simp
          with_reducible rfl
        rotate_left
        · simp only [Act.put, List.setIfInBounds_toArray, List.set_cons_zero, List.set_cons_succ, i64_w, i32_w]
          rfl
        refine pure_ (i := 2) (N := (some 31)) (v := ?_) (a' := ?_) #[true, true, true, false, false, false, false, false, false, false, false, false, false, false, false, false, false, false, false, false, false, false, false, false, false, false, false, false, false] rfl rfl (by kernel_rfl) (fun _ _ _ h => h) (Or.inl ⟨by rfl, ?_⟩) ?_ ?_
        rotate_left
        · intro w'
          go_simp
          with_reducible rfl
        rotate_left
        · simp only [Act.put, List.setIfInBounds_toArray, List.set_cons_zero, List.set_cons_succ, i64_w, i32_w]
          rfl
        refine pure_ (i := 3) (N := (some 32)) (v := ?_) (a' := ?_) #[true, true, true, true, false, false, false, false, false, false, false, false, false, false, false, false, false, false, false, false, false, false, false, false, false, false, false, false, false] rfl rfl (by kernel_rfl) (fun _ _ _ h => h) (Or.inl ⟨by rfl, ?_⟩) ?_ ?_
        rotate_left
        · intro w'
          go_simp
          with_reducible rfl
        rotate_left
        · simp only [Act.put, List.setIfInBounds_toArray, List.set_cons_zero, List.set_cons_succ, i64_w, i32_w]
          rfl
        refine pure_ (i := 4) (N := (some 33)) (v := ?_) (a' := ?_) #[true, true, true, true, true, false, false, false, false, false, false, false, false, false, false, false, false, false, false, false, false, false, false, false, false, false, false, false, false] rfl rfl (by kernel_rfl) (fun _ _ _ h => h) (Or.inl ⟨by rfl, ?_⟩) ?_ ?_
        rotate_left
        · intro w'
          go_simp
          with_reducible rfl
        rotate_left
        · simp only [Act.put, List.setIfInBounds_toArray, List.set_cons_zero, List.set_cons_succ, i64_w, i32_w]
          rfl
        refine pure_ (i := 6) (N := (some 35)) (v := ?_) (a' := ?_) #[true, true, true, true, true, false, true, false, false, false, false, false, false, false, false, false, false, false, false, false, false, false, false, false, false, false, false, false, false] rfl rfl (by kernel_rfl) (fun _ _ _ h => h) (Or.inl ⟨by rfl, ?_⟩) ?_ ?_
        rotate_left
        · intro w'
          go_simp
          with_reducible rfl
        rotate_left
        · simp only [Act.put, List.setIfInBounds_toArray, List.set_cons_zero, List.set_cons_succ, i64_w, i32_w]
          rfl
        refine pure_ (i := 7) (N := (some 36)) (v := ?_) (a' := ?_) #[true, true, true, true, true, false, true, true, false, false, false, false, false, false, false, false, false, false, false, false, false, false, false, false, false, false, false, false, false] rfl rfl (by kernel_rfl) (fun _ _ _ h => h) (Or.inl ⟨by rfl, ?_⟩) ?_ ?_
        rotate_left
        · intro w'
          go_simp
          with_reducible rfl
        rotate_left
        · simp only [Act.put, List.setIfInBounds_toArray, List.set_cons_zero, List.set_cons_succ, i64_w, i32_w]
          rfl
        refine pure_ (i := 8) (N := (some 37)) (v := ?_) (a' := ?_) #[true, true, true, true, true, false, true, true, true, false, false, false, false, false, false, false, false, false, false, false, false, false, false, false, false, false, false, false, false] rfl rfl (by kernel_rfl) (fun _ _ _ h => h) (Or.inl ⟨by rfl, ?_⟩) ?_ ?_
        rotate_left
        · intro w'
          go_simp
          with_reducible rfl
        rotate_left
        · simp only [Act.put, List.setIfInBounds_toArray, List.set_cons_zero, List.set_cons_succ, i64_w, i32_w]
          rfl
        refine pure_ (i := 10) (N := (some 39)) (v := ?_) (a' := ?_) #[true, true, true, true, true, false, true, true, true, false, true, false, false, false, false, false, false, false, false, false, false, false, false, false, false, false, false, false, false] rfl rfl (by kernel_rfl) (fun _ _ _ h => h) (Or.inl ⟨by rfl, ?_⟩) ?_ ?_
        rotate_left
        · intro w'
          go_simp
          with_reducible rfl
        rotate_left
        · simp only [Act.put, List.setIfInBounds_toArray, List.set_cons_zero, List.set_cons_succ, i64_w, i32_w]
          rfl
        refine pure_ (i := 15) (N := (some 44)) (v := ?_) (a' := ?_) #[true, true, true, true, true, false, true, true, true, false, true, false, false, false, false, true, false, false, false, false, false, false, false, false, false, false, false, false, false] rfl rfl (by kernel_rfl) (fun _ _ _ h => h) (Or.inl ⟨by rfl, ?_⟩) ?_ ?_
        rotate_left
        · intro w'
          go_simp
          with_reducible rfl
        rotate_left
        · simp only [Act.put, List.setIfInBounds_toArray, List.set_cons_zero, List.set_cons_succ, i64_w, i32_w]
          rfl
        refine pure_ (i := 16) (N := (some 45)) (v := ?_) (a' := ?_) #[true, true, true, true, true, false, true, true, true, false, true, false, false, false, false, true, true, false, false, false, false, false, false, false, false, false, false, false, false] rfl rfl (by kernel_rfl) (fun _ _ _ h => h) (Or.inl ⟨by rfl, ?_⟩) ?_ ?_
        rotate_left
        · intro w'
          go_simp
          with_reducible rfl
        rotate_left
        · simp only [Act.put, List.setIfInBounds_toArray, List.set_cons_zero, List.set_cons_succ, i64_w, i32_w]
          rfl
        refine pure_ (i := 17) (N := (some 46)) (v := ?_) (a' := ?_) #[true, true, true, true, true, false, true, true, true, false, true, false, false, false, false, true, true, true, false, false, false, false, false, false, false, false, false, false, false] rfl rfl (by kernel_rfl) (fun _ _ _ h => h) (Or.inl ⟨by rfl, ?_⟩) ?_ ?_
        rotate_left
        · intro w'
          go_simp
          with_reducible rfl
        rotate_left
        · simp only [Act.put, List.setIfInBounds_toArray, List.set_cons_zero, List.set_cons_succ, i64_w, i32_w]
          rfl
        refine pure_ (i := 19) (N := (some 48)) (v := ?_) (a' := ?_) #[true, true, true, true, true, false, true, true, true, false, true, false, false, false, false, true, true, true, false, true, false, false, false, false, false, false, false, false, false] rfl rfl (by kernel_rfl) (fun _ _ _ h => h) (Or.inl ⟨by rfl, ?_⟩) ?_ ?_
        rotate_left
        · intro w'
          go_simp
          with_reducible rfl
        rotate_left
        · simp only [Act.put, List.setIfInBounds_toArray, List.set_cons_zero, List.set_cons_succ, i64_w, i32_w]
          rfl
        refine take_ (i := 5) (N := (some 34)) (v := ?_) (a' := ?_) #[true, true, true, true, true, true, true, true, true, false, true, false, false, false, false, true, true, true, false, true, false, false, false, false, false, false, false, false, false] rfl rfl (by kernel_rfl) (fun _ _ _ h => h) (Or.inl ⟨by rfl, ?_⟩) hHeld ?_ ?_
        rotate_left
        · rintro w' ⟨s0, s1, s2, s3⟩
          go_simp
          with_reducible rfl
        rotate_left
        · simp only [Act.put, List.setIfInBounds_toArray, List.set_cons_zero, List.set_cons_succ, i64_w, i32_w]
          rfl
        refine take_ (i := 9) (N := (some 38)) (v := ?_) (a' := ?_) #[true, true, true, true, true, true, true, true, true, true, true, false, false, false, false, true, true, true, false, true, false, false, false, false, false, false, false, false, false] rfl rfl (by kernel_rfl) (fun _ _ _ h => h) (Or.inl ⟨by rfl, ?_⟩) hHeld ?_ ?_
        rotate_left
        · rintro w' ⟨s0, s1, s2, s3⟩
          go_simp
          with_reducible rfl
        rotate_left
        · simp only [Act.put, List.setIfInBounds_toArray, List.set_cons_zero, List.set_cons_succ, i64_w, i32_w]
          rfl
        refine pure_ (i := 11) (N := (some 40)) (v := ?_) (a' := ?_) #[true, true, true, true, true, true, true, true, true, true, true, true, false, false, false, true, true, true, false, true, false, false, false, false, false, false, false, false, false] rfl rfl (by kernel_rfl) (fun _ _ _ h => h) (Or.inl ⟨by rfl, ?_⟩) ?_ ?_
        rotate_left
        · intro w'
          go_simp
          with_reducible rfl
        rotate_left
        · simp only [Act.put, List.setIfInBounds_toArray, List.set_cons_zero, List.set_cons_succ, i64_w, i32_w]
          rfl
        refine take_ (i := 12) (N := (some 41)) (v := ?_) (a' := ?_) #[true, true, true, true, true, true, true, true, true, true, true, true, true, false, false, true, true, true, false, true, false, false, false, false, false, false, false, false, false] rfl rfl (by kernel_rfl) (fun _ _ _ h => h) (Or.inl ⟨by rfl, ?_⟩) hHeld ?_ ?_
        rotate_left
        · rintro w' ⟨s0, s1, s2, s3⟩
          go_simp
          with_reducible rfl
        rotate_left
        · simp only [Act.put, List.setIfInBounds_toArray, List.set_cons_zero, List.set_cons_succ, i64_w, i32_w]
          rfl
        refine take_ (i := 18) (N := (some 47)) (v := ?_) (a' := ?_) #[true, true, true, true, true, true, true, true, true, true, true, true, true, false, false, true, true, true, true, true, false, false, false, false, false, false, false, false, false] rfl rfl (by kernel_rfl) (fun _ _ _ h => h) (Or.inl ⟨by rfl, ?_⟩) hHeld ?_ ?_
        rotate_left
        · rintro w' ⟨s0, s1, s2, s3⟩
          go_simp
          with_reducible rfl
        rotate_left
        · simp only [Act.put, List.setIfInBounds_toArray, List.set_cons_zero, List.set_cons_succ, i64_w, i32_w]
          rfl
        refine one_ (i := 13) (N := (some 42)) #[true, true, true, true, true, true, true, true, true, true, true, true, true, true, false, true, true, true, true, true, false, false, false, false, false, false, false, false, false] rfl rfl (by kernel_rfl) (by decide) (fun K hK => ?_)
        refine value_ (w1 := ?_) (v := ?_) (by rfl) rfl ?_ ?_
        rotate_left 2
        · go_simp
          constructor
          · rfl
          · rfl
        refine hK.out _ _ (HELD.out _ _ _ _ _ _ (S1.out.move (below_alloc (Below.refl _ _) _))) (fun hHeld => ?_)
        clear hK K
        refine norm_ (a' := ?_) ?_ ?_
        rotate_left
        · show Act.put _ (some 42) _ = _
          simp only [Act.put, List.setIfInBounds_toArray, List.set_cons_zero, List.set_cons_succ, i64_w, i32_w]
          rfl
        refine one_ (i := 14) (N := (some 43)) #[true, true, true, true, true, true, true, true, true, true, true, true, true, true, true, true, true, true, true, true, false, false, false, false, false, false, false, false, false] rfl rfl (by kernel_rfl) (by decide) (fun K hK => ?_)
        refine Kd.R_append_step Kd.string (w0 := w) w.heap.size (by rfl) (.tmp 34) (.tmp 42) 35 9 (.string ⟨#[]⟩) 16 rfl Tryz.underlying35 info9 rfl (by decide) (by omega) v3 (cleanN (ks.take i) ns) (ns[i]) [.string ns[i]] (fun _ => True) (fun _ => False) rfl rfl ?aP (fun _ hk => hk.elim) ?aF ?aO ?aB ?aS ?aL ?_
        (case aP => exact rfl)
        (case aF => exact fun _ _ => trivial)
        (case aO => exact S1.out.r3)
        (case aB => exact S1.out.bel)
        (case aS => exact S1.out.bel.size)
        (case aL => have := LM.out; omega)
        intro v3q w2 ho hb hg hat
        obtain ⟨A3q, c3q, e3⟩ := Kd.R_slice ho
        obtain ⟨n3, hn3⟩ : ∃ n, n = (cleanN (ks.take i) ns ++ [ns[i]]).length := ⟨_, rfl⟩
        rw [← hn3] at e3
        subst e3
        clear hn3
        have S2 := Aside0.mk (S1.out.name ho hb hg hat)
        clear ho hb hg hat
        refine hK.out _ _ (HELD.out _ _ _ _ _ _ S2.out) (fun hHeld => ?_)
        clear hK K
        refine norm_ (a' := ?_) ?_ ?_
        rotate_left
        · show Act.put _ (some 43) _ = _
          simp only [Act.put, List.setIfInBounds_toArray, List.set_cons_zero, List.set_cons_succ, i64_w, i32_w]
          rfl
        refine one_ (i := 20) (N := (some 49)) #[true, true, true, true, true, true, true, true, true, true, true, true, true, true, true, true, true, true, true, true, true, false, false, false, false, false, false, false, false] rfl rfl (by kernel_rfl) (by decide) (fun K hK => ?_)
        refine goes_ Tryz.func36 (by kernel_rfl) rfl #[.pointer (some ⟨p, 0, none⟩)] (by rfl) rfl rfl (by (try simp only [List.map_toArray, List.map_cons, List.map_nil]); first | done | rfl) ?_
        with_reducible refine ((IH.out ks[i] HIm.out).go _ p F (KID.out _ S2.out.bel) (fun k hk => Nat.lt_of_lt_of_le (FLT.out k hk) S2.out.bel.size) FK.out CK.out).mono ?_
        rintro e w3 ⟨g3, rfl, hi3, hb⟩
        refine ⟨_, rfl, ?_⟩
        have G3 := Aside0.mk (S2.out.fresh FLT.out hb hi3)
        have S3 := Aside0.mk (S2.out.move hb)
        clear hi3 hb
        refine hK.out _ _ (HELD.out _ _ _ _ _ _ S3.out) (fun hHeld => ?_)
        clear hK K
        refine norm_ (a' := ?_) ?_ ?_
        rotate_left
        · show Act.put _ (some 49) _ = _
          simp only [Act.put, List.setIfInBounds_toArray, List.set_cons_zero, List.set_cons_succ, i64_w, i32_w]
          rfl
        refine one_ (i := 21) (N := (some 50)) #[true, true, true, true, true, true, true, true, true, true, true, true, true, true, true, true, true, true, true, true, true, true, false, false, false, false, false, false, false] rfl rfl (by kernel_rfl) (by decide) (fun K hK => ?_)
        refine value_ (w1 := ?_) (v := ?_) (by rfl) rfl ?_ ?_
        rotate_left 2
        · go_simp
          constructor
          · rfl
          · rfl
        refine hK.out _ _ (HELD.out _ _ _ _ _ _ (S3.out.move (below_alloc (Below.refl _ _) _))) (fun hHeld => ?_)
        clear hK K
        refine norm_ (a' := ?_) ?_ ?_
        rotate_left
        · show Act.put _ (some 50) _ = _
          simp only [Act.put, List.setIfInBounds_toArray, List.set_cons_zero, List.set_cons_succ, i64_w, i32_w]
          rfl
        refine one_ (i := 22) (N := (some 51)) #[true, true, true, true, true, true, true, true, true, true, true, true, true, true, true, true, true, true, true, true, true, true, true, false, false, false, false, false, false] rfl rfl (by kernel_rfl) (by decide) (fun K hK => ?_)
        refine Kd.R_append_step kQ (w0 := w) w.heap.size (by rfl) (.tmp 47) (.tmp 50) 90 53 (.pointer none) 8 rfl Tryz.underlying90 info53 rfl (by decide) (by omega) v4 ps g3 [.pointer (some ⟨g3, 0, none⟩)] (fun _ => True) (fun _ => False) rfl rfl ?aP (fun _ hk => hk.elim) ?aF ?aO ?aB ?aS ?aL ?_
        (case aP => exact rfl)
        (case aF => exact fun _ _ => trivial)
        (case aO => exact S3.out.r4)
        (case aB => exact S3.out.bel)
        (case aS => exact S3.out.bel.size)
        (case aL => have := LP.out; omega)
        intro v4q w4 ho hb hg hat
        obtain ⟨A4q, c4q, e4⟩ := Kd.R_slice ho
        obtain ⟨n4, hn4⟩ : ∃ n, n = (ps ++ [g3]).length := ⟨_, rfl⟩
        rw [← hn4] at e4
        subst e4
        clear hn4
        have S4 := Aside0.mk (S3.out.kid G3.out ho hb hg hat)
        clear ho hb hg hat
        refine hK.out _ _ (HELD.out _ _ _ _ _ _ S4.out) (fun hHeld => ?_)
        clear hK K
        refine norm_ (a' := ?_) ?_ ?_
        rotate_left
        · show Act.put _ (some 51) _ = _
          simp only [Act.put, List.setIfInBounds_toArray, List.set_cons_zero, List.set_cons_succ, i64_w, i32_w]
          rfl
        refine pure_ (i := 23) (N := (some 52)) (v := ?_) (a' := ?_) #[true, true, true, true, true, true, true, true, true, true, true, true, true, true, true, true, true, true, true, true, true, true, true, true, false, false, false, false, false] rfl rfl (by kernel_rfl) (fun _ _ _ h => h) (Or.inl ⟨by rfl, ?_⟩) ?_ ?_
        rotate_left
        · intro w'
          go_simp
          with_reducible rfl
        rotate_left
        · simp only [Act.put, List.setIfInBounds_toArray, List.set_cons_zero, List.set_cons_succ, i64_w, i32_w]
          rfl
        refine pure_ (i := 24) (N := (some 53)) (v := ?_) (a' := ?_) #[true, true, true, true, true, true, true, true, true, true, true, true, true, true, true, true, true, true, true, true, true, true, true, true, true, false, false, false, false] rfl rfl (by kernel_rfl) (fun _ _ _ h => h) (Or.inl ⟨by rfl, ?_⟩) ?_ ?_
        rotate_left
        · intro w'
          go_simp
          with_reducible rfl
        rotate_left
        · simp only [Act.put, List.setIfInBounds_toArray, List.set_cons_zero, List.set_cons_succ, i64_w, i32_w]
          rfl
        refine last_ (i := 25) (N := none) #[true, true, true, true, true, true, true, true, true, true, true, true, true, true, true, true, true, true, true, true, true, true, true, true, true, true, false, false, false] rfl rfl (by kernel_rfl) (by decide) (fun K hK => ?_)
        obtain ⟨hs, _, hfs, _⟩ := S4.out.cells
        refine skip_ (w1 := ?_) (by rfl) rfl ?_ ?_
        rotate_left
        · go_simp
          rfl
        refine hK.out _ _ ?_
        clear hK K hs hfs hHeld
        have S5' := S4.out.set3 (.slice A3q n3 c3q)
        obtain ⟨w5, hw5⟩ : ∃ w5, w5 = w4.setCell ⟨o, 3, none⟩ (.slice A3q n3 c3q) := ⟨_, rfl⟩
        rw [← hw5] at S5' ⊢
        have S5 := Aside0.mk S5'
        clear S5' hw5
        refine pure_ (i := 26) (N := (some 54)) (v := ?_) (a' := ?_) #[true, true, true, true, true, true, true, true, true, true, true, true, true, true, true, true, true, true, true, true, true, true, true, true, true, true, true, false, false] rfl rfl (by kernel_rfl) (fun _ _ _ h => h) (Or.inl ⟨by rfl, ?_⟩) ?_ ?_
        rotate_left
        · intro w'
          go_simp
          with_reducible rfl
        rotate_left
        · simp only [Act.put, List.setIfInBounds_toArray, List.set_cons_zero, List.set_cons_succ, i64_w, i32_w]
          rfl
        refine pure_ (i := 27) (N := (some 55)) (v := ?_) (a' := ?_) #[true, true, true, true, true, true, true, true, true, true, true, true, true, true, true, true, true, true, true, true, true, true, true, true, true, true, true, true, false] rfl rfl (by kernel_rfl) (fun _ _ _ h => h) (Or.inl ⟨by rfl, ?_⟩) ?_ ?_
        rotate_left
        · intro w'
          go_simp
          with_reducible rfl
        rotate_left
        · simp only [Act.put, List.setIfInBounds_toArray, List.set_cons_zero, List.set_cons_succ, i64_w, i32_w]
          rfl
        refine last_ (i := 28) (N := none) #[true, true, true, true, true, true, true, true, true, true, true, true, true, true, true, true, true, true, true, true, true, true, true, true, true, true, true, true, true] rfl rfl (by kernel_rfl) (by decide) (fun K hK => ?_)
        obtain ⟨_, hs, _, hfs⟩ := S5.out.cells
        refine skip_ (w1 := ?_) (by rfl) rfl ?_ ?_
        rotate_left
        · go_simp
          rfl
        refine hK.out _ _ ?_
        clear hK K hs hfs
        have S6' := S5.out.set4 (.slice A4q n4 c4q)
        obtain ⟨w6, hw6⟩ : ∃ w6, w6 = w5.setCell ⟨o, 4, none⟩ (.slice A4q n4 c4q) := ⟨_, rfl⟩
        rw [← hw6] at S6' ⊢
        have S6 := Aside0.mk S6'
        clear S6' hw6
        refine done_ (by kernel_rfl) ?_
        go_wp2
        go_roundg m
        case rel => exact ⟨i + 1, _, _, ps ++ [g3], by go_num, ⟨by have := HM.out; omega⟩, ⟨by rw [E1.out, E2.out, if_neg E3.out, if_neg E3.out]; exact S6.out⟩⟩
        case measure => omega
theorem clean_c : ∀ t, ClCall t := by
  intro t
  refine Tr.ind (P := ClCall) ?_ t
  intro kd nu tx ns ks ih
  by_cases h7 : kd = 7
  · subst h7; exact clean_map nu tx ns ks ih
  · exact clean_leaf kd nu tx ns ks h7
end Go.Proofs.YtdbfhbnlheankaaGreatDoor.VT
