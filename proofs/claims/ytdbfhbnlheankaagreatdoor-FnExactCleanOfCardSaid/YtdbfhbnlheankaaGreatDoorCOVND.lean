import Derived.Test.YtdbfhbnlheankaaGreatDoorCOVWB
import Derived.Test.YtdbfhbnlheankaaGreatDoorCOPVGx0
/- The nodes of a tree, put behind others: the program's nodes and value, walked. Conditions: right trees. -/
namespace Go.Proofs.YtdbfhbnlheankaaGreatDoor.VT
open Go.RowKit Go.Proofs.YtdbfhbnlheankaaGreatDoor.PVG Go.Proofs.YtdbfhbnlheankaaGreatDoorW.PrintWords Go.Proofs.YtdbfhbnlheankaaGreatDoorW.PrintLast Go.Proofs.YtdbfhbnlheankaaGreatDoorW.PrintMore
set_option linter.unusedVariables false
set_option linter.unusedSimpArgs false
theorem flatL_take {ks : List Tr} {m : Bool} {ns : List ByteArray} {self k i : Nat} (h : i < ks.length) : flatL (ks.take (i + 1)) m ns self k = flatL (ks.take i) m ns self k ++ flat ks[i] (if m then (ns.drop i).headD nil_ else nil_) self (k + cntL (ks.take i)) := by
  rw [List.take_succ_eq_append_getElem h, flatL_append, flatL, flatL, List.append_nil, List.length_take, Nat.min_eq_left (by omega)]
def NdCall (t : Tr) : Prop := ∀ (w0 w : World) (g : Nat) (v : Value) (l : List S82) (nm : ByteArray) (up : Int), IsV w0 g t → fit t = true → Below w0.heap.size w0 w → Kd.R k82 82 w w0.heap.size (fun _ => True) v l → l.length + cnt t ≤ 1073741824 →
  Calls Tryz.prog 81 #[.pointer (some ⟨g, 0, none⟩), v, .string nm, .int .i64 up] w fun e w' => ∃ v', e = .returned v' ∧ Kd.R k82 82 w' w0.heap.size (fun _ => True) v' (l ++ flat t nm up l.length) ∧ Below w0.heap.size w0 w'
theorem NdCall.go {t : Tr} (h : NdCall t) (w0 w : World) (g : Nat) (v : Value) (l : List S82) (nm : ByteArray) (up : Int) (h1 : IsV w0 g t) (h2 : fit t = true) (h3 : Below w0.heap.size w0 w) (h4 : Kd.R k82 82 w w0.heap.size (fun _ => True) v l) (h5 : l.length + cnt t ≤ 1073741824) :
  Calls Tryz.prog 81 #[.pointer (some ⟨g, 0, none⟩), v, .string nm, .int .i64 up] w fun e w' => ∃ v', e = .returned v' ∧ Kd.R k82 82 w' w0.heap.size (fun _ => True) v' (l ++ flat t nm up l.length) ∧ Below w0.heap.size w0 w' := h w0 w g v l nm up h1 h2 h3 h4 h5
set_option maxRecDepth 100000 in
set_option maxHeartbeats 8000000 in
theorem nodes_c (t : Tr) : NdCall t := by
  refine Tr.ind (P := NdCall) ?_ t
  intro kd nu tx ns ks ih w0 w g v l nm up hv hf hb0 hr hn
  obtain ⟨A, c, rfl⟩ := Kd.R_slice hr
  obtain ⟨A3, c3, A4, c4, ha⟩ := hv.at_
  have hfit := fit1 hf
  have HA := Aside0.mk ha
  have HLEN := Aside0.mk hfit.hlen
  have FITS := Aside0.mk ((fitL_iff ks).1 hfit.hks)
  have IH := Aside0.mk ih
  have HN := Aside0.mk hn
  have HR := Aside0.mk hr
  have HB0 := Aside0.mk hb0
  have CL := Aside0.mk (show ∀ W, Below w0.heap.size w0 W → W.cell? ⟨g, 0, none⟩ = some (.int .i64 kd) ∧ W.cell? ⟨g, 1, none⟩ = some (.int .i64 nu) ∧ W.cell? ⟨g, 2, none⟩ = some (.string tx) ∧ W.cell? ⟨g, 3, none⟩ = some (.slice A3 ns.length c3) ∧ W.cell? ⟨g, 4, none⟩ = some (.slice A4 ks.length c4) from
    fun W hb => by
      obtain ⟨k0, k1, k2, k3, k4⟩ := ha.cells
      exact ⟨(hb.cell ha.lt).trans k0, (hb.cell ha.lt).trans k1, (hb.cell ha.lt).trans k2, (hb.cell ha.lt).trans k3, (hb.cell ha.lt).trans k4⟩)
  have HELD := Aside0.mk (show ∀ w' : World, Below w0.heap.size w0 w' → w'.cell? ⟨g, 0, none⟩ = some (.int .i64 kd) ∧ w'.cell? ⟨g, 1, none⟩ = some (.int .i64 nu) ∧ w'.cell? ⟨g, 2, none⟩ = some (.string tx) from fun w' hb => ⟨(CL.out w' hb).1, (CL.out w' hb).2.1, (CL.out w' hb).2.2.1⟩)
  have NAM := Aside0.mk (show ∀ i (h : i < ns.length), ∃ ad, A3 = some ad ∧ ∀ W, Below w0.heap.size w0 W → W.cell? (ad.add i) = some (.string ns[i]) from fun i h => by
    obtain ⟨ad, e, hc⟩ := ha.name i h
    exact ⟨ad, e, fun W hb => (hb.cell (World.block_lt_of_cell? w0 _ hc)).trans hc⟩)
  have hl : l.length ≤ 1073741824 := by omega
  clear ha hf hn hr hb0 hfit hv ih
  go_enter Tryz.func81, Tryz.ntmps81
  go_upto_region 2 with fail
  clear hl
  refine start_ (n := 19) (S := fun w' => w'.cell? ⟨g, 0, none⟩ = some (.int .i64 kd) ∧ w'.cell? ⟨g, 1, none⟩ = some (.int .i64 nu) ∧ w'.cell? ⟨g, 2, none⟩ = some (.string tx)) (ds := []) #[false, false, false, false, false, false, false, false, false, false, false, false, false, false, false, false, false, false, false] (by kernel_rfl) rfl rfl (HELD.out _ (below_drew1 HB0.out)) (fun hHeld => ?_)
  have R1 := Aside0.mk (Kd.R_drew HR.out)
  have B1 := Aside0.mk (below_drew1 HB0.out)
  generalize w.drew = w1 at R1 B1 hHeld ⊢
  refine pure_ (i := 0) (N := (some 15)) (v := ?_) (a' := ?_) #[true, false, false, false, false, false, false, false, false, false, false, false, false, false, false, false, false, false, false] rfl rfl (by kernel_rfl) (fun _ _ _ h => h) (Or.inl ⟨by rfl, ?_⟩) ?_ ?_
  rotate_left
  · intro w'
    go_simp
    with_reducible rfl
  rotate_left
  · simp only [Act.put, List.setIfInBounds_toArray, List.set_cons_zero, List.set_cons_succ, i64_w, i32_w]
    rfl
  refine pure_ (i := 1) (N := (some 16)) (v := ?_) (a' := ?_) #[true, true, false, false, false, false, false, false, false, false, false, false, false, false, false, false, false, false, false] rfl rfl (by kernel_rfl) (fun _ _ _ h => h) (Or.inl ⟨by rfl, ?_⟩) ?_ ?_
  rotate_left
  · intro w'
    go_simp
    with_reducible rfl
  rotate_left
  · simp only [Act.put, List.setIfInBounds_toArray, List.set_cons_zero, List.set_cons_succ, i64_w, i32_w]
    rfl
  refine pure_ (i := 2) (N := (some 17)) (v := ?_) (a' := ?_) #[true, true, true, false, false, false, false, false, false, false, false, false, false, false, false, false, false, false, false] rfl rfl (by kernel_rfl) (fun _ _ _ h => h) (Or.inl ⟨by rfl, ?_⟩) ?_ ?_
  rotate_left
  · intro w'
    go_simp
    with_reducible rfl
  rotate_left
  · simp only [Act.put, List.setIfInBounds_toArray, List.set_cons_zero, List.set_cons_succ, i64_w, i32_w]
    rfl
  refine pure_ (i := 3) (N := (some 18)) (v := ?_) (a' := ?_) #[true, true, true, true, false, false, false, false, false, false, false, false, false, false, false, false, false, false, false] rfl rfl (by kernel_rfl) (fun _ _ _ h => h) (Or.inl ⟨by rfl, ?_⟩) ?_ ?_
  rotate_left
  · intro w'
    go_simp
    with_reducible rfl
  rotate_left
  · simp only [Act.put, List.setIfInBounds_toArray, List.set_cons_zero, List.set_cons_succ, i64_w, i32_w]
    rfl
  refine pure_ (i := 5) (N := (some 20)) (v := ?_) (a' := ?_) #[true, true, true, true, false, true, false, false, false, false, false, false, false, false, false, false, false, false, false] rfl rfl (by kernel_rfl) (fun _ _ _ h => h) (Or.inl ⟨by rfl, ?_⟩) ?_ ?_
  rotate_left
  · intro w'
    go_simp
    with_reducible rfl
  rotate_left
  · simp only [Act.put, List.setIfInBounds_toArray, List.set_cons_zero, List.set_cons_succ, i64_w, i32_w]
    rfl
  refine pure_ (i := 6) (N := (some 21)) (v := ?_) (a' := ?_) #[true, true, true, true, false, true, true, false, false, false, false, false, false, false, false, false, false, false, false] rfl rfl (by kernel_rfl) (fun _ _ _ h => h) (Or.inl ⟨by rfl, ?_⟩) ?_ ?_
  rotate_left
  · intro w'
    go_simp
    with_reducible rfl
  rotate_left
  · simp only [Act.put, List.setIfInBounds_toArray, List.set_cons_zero, List.set_cons_succ, i64_w, i32_w]
    rfl
  refine pure_ (i := 7) (N := (some 22)) (v := ?_) (a' := ?_) #[true, true, true, true, false, true, true, true, false, false, false, false, false, false, false, false, false, false, false] rfl rfl (by kernel_rfl) (fun _ _ _ h => h) (Or.inl ⟨by rfl, ?_⟩) ?_ ?_
  rotate_left
  · intro w'
    go_simp
    with_reducible rfl
  rotate_left
  · simp only [Act.put, List.setIfInBounds_toArray, List.set_cons_zero, List.set_cons_succ, i64_w, i32_w]
    rfl
  refine pure_ (i := 9) (N := (some 24)) (v := ?_) (a' := ?_) #[true, true, true, true, false, true, true, true, false, true, false, false, false, false, false, false, false, false, false] rfl rfl (by kernel_rfl) (fun _ _ _ h => h) (Or.inl ⟨by rfl, ?_⟩) ?_ ?_
  rotate_left
  · intro w'
    go_simp
    with_reducible rfl
  rotate_left
  · simp only [Act.put, List.setIfInBounds_toArray, List.set_cons_zero, List.set_cons_succ, i64_w, i32_w]
    rfl
  refine pure_ (i := 10) (N := (some 25)) (v := ?_) (a' := ?_) #[true, true, true, true, false, true, true, true, false, true, true, false, false, false, false, false, false, false, false] rfl rfl (by kernel_rfl) (fun _ _ _ h => h) (Or.inl ⟨by rfl, ?_⟩) ?_ ?_
  rotate_left
  · intro w'
    go_simp
    with_reducible rfl
  rotate_left
  · simp only [Act.put, List.setIfInBounds_toArray, List.set_cons_zero, List.set_cons_succ, i64_w, i32_w]
    rfl
  refine pure_ (i := 11) (N := (some 26)) (v := ?_) (a' := ?_) #[true, true, true, true, false, true, true, true, false, true, true, true, false, false, false, false, false, false, false] rfl rfl (by kernel_rfl) (fun _ _ _ h => h) (Or.inl ⟨by rfl, ?_⟩) ?_ ?_
  rotate_left
  · intro w'
    go_simp
    with_reducible rfl
  rotate_left
  · simp only [Act.put, List.setIfInBounds_toArray, List.set_cons_zero, List.set_cons_succ, i64_w, i32_w]
    rfl
  refine pure_ (i := 13) (N := (some 28)) (v := ?_) (a' := ?_) #[true, true, true, true, false, true, true, true, false, true, true, true, false, true, false, false, false, false, false] rfl rfl (by kernel_rfl) (fun _ _ _ h => h) (Or.inl ⟨by rfl, ?_⟩) ?_ ?_
  rotate_left
  · intro w'
    go_simp
    with_reducible rfl
  rotate_left
  · simp only [Act.put, List.setIfInBounds_toArray, List.set_cons_zero, List.set_cons_succ, i64_w, i32_w]
    rfl
  refine pure_ (i := 14) (N := (some 29)) (v := ?_) (a' := ?_) #[true, true, true, true, false, true, true, true, false, true, true, true, false, true, true, false, false, false, false] rfl rfl (by kernel_rfl) (fun _ _ _ h => h) (Or.inl ⟨by rfl, ?_⟩) ?_ ?_
  rotate_left
  · intro w'
    go_simp
    with_reducible rfl
  rotate_left
  · simp only [Act.put, List.setIfInBounds_toArray, List.set_cons_zero, List.set_cons_succ, i64_w, i32_w]
    rfl
  refine take_ (i := 4) (N := (some 19)) (v := ?_) (a' := ?_) #[true, true, true, true, true, true, true, true, false, true, true, true, false, true, true, false, false, false, false] rfl rfl (by kernel_rfl) (fun _ _ _ h => h) (Or.inl ⟨by rfl, ?_⟩) hHeld ?_ ?_
  rotate_left
  · rintro w' ⟨s0, s1, s2⟩
    go_simp
    with_reducible rfl
  rotate_left
  · simp only [Act.put, List.setIfInBounds_toArray, List.set_cons_zero, List.set_cons_succ, i64_w, i32_w]
    rfl
  refine take_ (i := 8) (N := (some 23)) (v := ?_) (a' := ?_) #[true, true, true, true, true, true, true, true, true, true, true, true, false, true, true, false, false, false, false] rfl rfl (by kernel_rfl) (fun _ _ _ h => h) (Or.inl ⟨by rfl, ?_⟩) hHeld ?_ ?_
  rotate_left
  · rintro w' ⟨s0, s1, s2⟩
    go_simp
    with_reducible rfl
  rotate_left
  · simp only [Act.put, List.setIfInBounds_toArray, List.set_cons_zero, List.set_cons_succ, i64_w, i32_w]
    rfl
  refine take_ (i := 12) (N := (some 27)) (v := ?_) (a' := ?_) #[true, true, true, true, true, true, true, true, true, true, true, true, true, true, true, false, false, false, false] rfl rfl (by kernel_rfl) (fun _ _ _ h => h) (Or.inl ⟨by rfl, ?_⟩) hHeld ?_ ?_
  rotate_left
  · rintro w' ⟨s0, s1, s2⟩
    go_simp
    with_reducible rfl
  rotate_left
  · simp only [Act.put, List.setIfInBounds_toArray, List.set_cons_zero, List.set_cons_succ, i64_w, i32_w]
    rfl
  refine pure_ (i := 15) (N := (some 30)) (v := ?_) (a' := ?_) #[true, true, true, true, true, true, true, true, true, true, true, true, true, true, true, true, false, false, false] rfl rfl (by kernel_rfl) (fun _ _ _ h => h) (Or.inl ⟨by rfl, ?_⟩) ?_ ?_
  rotate_left
  · intro w'
    go_simp
    with_reducible rfl
  rotate_left
  · simp only [Act.put, List.setIfInBounds_toArray, List.set_cons_zero, List.set_cons_succ, i64_w, i32_w]
    rfl
  refine one_ (i := 16) (N := (some 31)) #[true, true, true, true, true, true, true, true, true, true, true, true, true, true, true, true, true, false, false] rfl rfl (by kernel_rfl) (by decide) (fun K hK => ?_)
  refine value_ (w1 := ?_) (v := ?_) (by rfl) rfl ?_ ?_
  rotate_left 2
  · go_simp
    constructor
    · rfl
    · rfl
  refine hK.out _ _ (HELD.out _ (below_step B1.out (below_alloc (Below.refl _ _) _))) (fun hHeld => ?_)
  clear hK K
  refine norm_ (a' := ?_) ?_ ?_
  rotate_left
  · show Act.put _ (some 31) _ = _
    simp only [Act.put, List.setIfInBounds_toArray, List.set_cons_zero, List.set_cons_succ, i64_w, i32_w]
    rfl
  refine one_ (i := 17) (N := (some 32)) #[true, true, true, true, true, true, true, true, true, true, true, true, true, true, true, true, true, true, false] rfl rfl (by kernel_rfl) (by decide) (fun K hK => ?_)
  refine Kd.R_append_step k82 (w0 := w0) w0.heap.size (by rfl) (.tmp 15) (.tmp 31) 26 82 (.agg #[(.int .i64 0), (.int .i64 0), (.string ⟨#[]⟩), (.string ⟨#[]⟩), (.int .i64 0)]) 56 rfl Tryz.underlying26 info82 rfl (by decide) (by omega) (.slice A l.length c) l ⟨kd, nu, tx, nm, up⟩ [.int .i64 kd, .int .i64 nu, .string tx, .string nm, .int .i64 up] (fun _ => True) (fun _ => False) rfl rfl ?aP (fun _ hk => hk.elim) ?aF ?aO ?aB ?aS ?aL ?_
  (case aP => exact k82_mkM _ _ _ (⟨kd, nu, tx, nm, up⟩ : S82))
  (case aF => exact fun _ _ => trivial)
  (case aO => exact R1.out)
  (case aB => exact B1.out)
  (case aS => exact B1.out.size)
  (case aL => have := HN.out; have := cnt_pos (.mk kd nu tx ns ks); omega)
  intro v2 w2 ho hb _ _
  have R2 := Aside0.mk ho
  have B2 := Aside0.mk hb
  clear ho hb
  refine hK.out _ _ (HELD.out _ B2.out) (fun hHeld => ?_)
  clear hK K
  refine norm_ (a' := ?_) ?_ ?_
  rotate_left
  · show Act.put _ (some 32) _ = _
    simp only [Act.put, List.setIfInBounds_toArray, List.set_cons_zero, List.set_cons_succ, i64_w, i32_w]
    rfl
  refine pure_ (i := 18) (N := (some 1)) (v := ?_) (a' := ?_) #[true, true, true, true, true, true, true, true, true, true, true, true, true, true, true, true, true, true, true] rfl rfl (by kernel_rfl) (fun _ _ _ h => h) (Or.inl ⟨by rfl, ?_⟩) ?_ ?_
  rotate_left
  · intro w'
    go_simp
    with_reducible rfl
  rotate_left
  · simp only [Act.put, List.setIfInBounds_toArray, List.set_cons_zero, List.set_cons_succ, i64_w, i32_w]
    rfl
  refine done_ (by kernel_rfl) ?_
  obtain ⟨l2, hl2⟩ : ∃ l2, l2 = l ++ [(⟨kd, nu, tx, nm, up⟩ : S82)] := ⟨_, rfl⟩
  have HL2 := Aside0.mk (show l2.length = l.length + 1 by rw [hl2]; simp)
  have EL2 := Aside0.mk (show ∀ x : List S82, l2 ++ x = l ++ (⟨kd, nu, tx, nm, up⟩ : S82) :: x by intro x; rw [hl2]; simp)
  have R3 := R2.out
  rw [← hl2] at R3
  have R3 := Aside0.mk R3
  clear R2 hl2 hHeld
  obtain ⟨_, _, _, _, k4⟩ := CL.out w2 B2.out
  obtain ⟨A2, c2, rfl⟩ := Kd.R_slice R3.out
  go_wp2
  clear k4
  go_loopg [1, 38] ks.length (fun m v1 v38 W => ∃ i : Nat, v38 = .int .i64 (i : Int) ∧ Aside0 (i + m = ks.length) ∧ Aside0 (Kd.R k82 82 W w0.heap.size (fun _ => True) v1 (l2 ++ flatL (ks.take i) (kd == 7) ns l.length (l.length + 1))) ∧ Aside0 (Below w0.heap.size w0 W))
  case atStart => exact ⟨0, rfl, ⟨by omega⟩, ⟨by simp [flatL]; exact R3.out⟩, B2⟩
  case round =>
    obtain ⟨i, rfl, HM, HRR, HB⟩ := hrel
    cases gk with
    | zero =>
      have hlt : decide (i < ks.length) = false := decide_eq_false (by have := HM.out; omega)
      have R9 := HRR.out
      rw [show ks.take i = ks from List.take_of_length_le (by have := HM.out; omega), EL2.out] at R9
      have R9 := Aside0.mk R9
      clear HRR
      go_wp2
      go_ret
      exact ⟨_, rfl, by rw [flat]; exact R9.out, HB.out⟩
    | succ m =>
      have hi : i < ks.length := by have := HM.out; omega
      obtain ⟨lr, hlr⟩ : ∃ lr, lr = l2 ++ flatL (ks.take i) (kd == 7) ns l.length (l.length + 1) := ⟨_, rfl⟩
      have HLR := Aside0.mk hlr
      have HR5 := HRR.out
      rw [← hlr] at HR5
      have HR5 := Aside0.mk HR5
      clear HRR hlr
      obtain ⟨A5, c5, rfl⟩ := Kd.R_slice HR5.out
      obtain ⟨ad, p, rfl, kc, _⟩ := HA.out.kid' HB.out i hi
      have KV := Aside0.mk (show ∀ h : i < ks.length, IsV w0 p ks[i] from fun h => by
        obtain ⟨ad2, p2, e2, kc2, kv2⟩ := HA.out.kid i hi
        obtain rfl := Option.some.inj e2
        have := (HB.out.cell (World.block_lt_of_cell? w0 _ kc2)).trans kc2
        rw [kc] at this
        cases this
        exact kv2)
      have HIm := Aside0.mk (List.getElem_mem hi)
      have HS := Aside0.mk (flatL_take (m := kd == 7) (ns := ns) (self := l.length) (k := l.length + 1) hi)
      have HC := Aside0.mk (show lr.length + cnt ks[i] ≤ 1073741824 ∧ lr.length = l.length + 1 + cntL (ks.take i) by
        rw [HLR.out]
        have h1 := cntL_take_le ks (i + 1)
        have h2 := cntL_take ks i hi
        have h3 := HN.out
        have h4 := HL2.out
        simp only [cnt] at h3
        rw [List.length_append, flatL_len]
        omega)
      have b4 : (i : Int) ≤ 1073741824 := by have := cnt_ge_len ks; have := HN.out; simp only [cnt] at this; omega
      have b5 : (l.length : Int) ≤ 1073741824 := by have := HN.out; omega
      obtain ⟨k0, _, _, k3, _⟩ := CL.out wr HB.out
      by_cases h7 : kd = 7
      · have hni : i < ns.length := by rw [HLEN.out h7]; exact hi
        obtain ⟨ad3, rfl, kn⟩ := NAM.out i hni
        have kn := kn wr HB.out
        have h7b : (kd == 7) = true := by simpa using h7
        have HNM := Aside0.mk (show (if (kd == 7) = true then (ns.drop i).headD nil_ else nil_) = ns[i] by rw [if_pos h7b, List.headD_eq_head?_getD, List.head?_drop, List.getElem?_eq_getElem hni]; rfl)
        clear h7
        go_wp2_with (first | (go_at_call 81; (with_reducible refine ((IH.out ks[i] HIm.out).go w0 _ p _ _ ns[i] (l.length : Int) (KV.out hi) (FITS.out _ HIm.out) HB.out HR5.out HC.out.1).mono ?_); rintro e w5 ⟨v5, rfl, ho, hb⟩; have R5 := Aside0.mk ho; have B5 := Aside0.mk hb; clear ho hb))
        go_roundg m
        case rel => exact ⟨i + 1, by go_num, ⟨by have := HM.out; omega⟩, ⟨by rw [HS.out, HNM.out, ← List.append_assoc, ← HC.out.2, ← HLR.out]; exact R5.out⟩, B5⟩
        case measure => omega
      · have h7b : (kd == 7) = false := by simpa using h7
        have HNM := Aside0.mk (show (if (kd == 7) = true then (ns.drop i).headD nil_ else nil_) = nil_ by rw [if_neg (by rw [h7b]; simp)])
        clear h7 k3
        go_wp2_with (first | (go_at_call 81; (with_reducible refine ((IH.out ks[i] HIm.out).go w0 _ p _ _ (⟨#[]⟩ : ByteArray) (l.length : Int) (KV.out hi) (FITS.out _ HIm.out) HB.out HR5.out HC.out.1).mono ?_); rintro e w5 ⟨v5, rfl, ho, hb⟩; have R5 := Aside0.mk ho; have B5 := Aside0.mk hb; clear ho hb))
        go_roundg m
        case rel => exact ⟨i + 1, by go_num, ⟨by have := HM.out; omega⟩, ⟨by rw [HS.out, HNM.out, ← List.append_assoc, ← HC.out.2, ← HLR.out]; exact R5.out⟩, B5⟩
        case measure => omega
set_option maxRecDepth 100000 in
set_option maxHeartbeats 4000000 in
/-- A tree as a value. -/
theorem value_c (t : Tr) (w : World) (g : Nat) (hv : IsV w g t) (hf : fit t = true) (hn : cnt t ≤ 1073741824) :
    Calls Tryz.prog 52 #[.pointer (some ⟨g, 0, none⟩)] w fun e w' => ∃ v', e = .returned (.agg #[v']) ∧ Kd.R k82 82 w' w.heap.size (fun _ => True) v' (flat t nil_ (-1) 0) ∧ Below w.heap.size w w' := by
  obtain ⟨W1, hW1⟩ : ∃ W1, W1 = w.alloc (.cells #[.slice none 0 0] 28) := ⟨_, rfl⟩
  obtain ⟨g0, hg0⟩ : ∃ g, g = w.heap.size := ⟨_, rfl⟩
  have HB1 := Aside0.mk (show Below w.heap.size w W1 by rw [hW1]; exact below_alloc (Below.refl _ _) _)
  have K1 := Aside0.mk (show W1.heap[g0]? = some (.cells #[.slice none 0 0] 28 (0, 0)) by rw [hW1, hg0]; exact blk_new w _)
  have GE := Aside0.mk (show w.heap.size ≤ g0 by rw [hg0]; exact Nat.le_refl _)
  have ND := Aside0.mk ((nodes_c t).go W1 W1 g (.slice none 0 0) [] (⟨#[]⟩ : ByteArray) (-1) (hv.below HB1.out) hf (Below.refl _ _) (Kd.R_nil _ _ _ _ _) (by simpa using hn))
  clear hv hf hn
  go_enter Tryz.func52, Tryz.ntmps52
  go_upto_region 1 with fail
  rw [← hW1, ← hg0]
  clear hW1 hg0
  go_wp2_with (first | (go_at_call 81; (with_reducible refine ND.out.mono ?_); rintro e w2 ⟨v2, rfl, ho, hb⟩; obtain ⟨A2, c2, rfl⟩ := Kd.R_slice ho; obtain ⟨n2, hn2⟩ : ∃ n, n = (([] : List S82) ++ flat t (⟨#[]⟩ : ByteArray) (-1) ([] : List S82).length).length := ⟨_, rfl⟩; rw [← hn2] at ho ⊢; have R2 := Aside0.mk ho; have B2 := Aside0.mk hb; have K2 := blk_below K1.out hb; have p0 : w2.cell? ⟨g0, 0, none⟩ = some (.slice none 0 0) := (blk_cell K2 0).trans rfl; have fz : w2.frozen? ⟨g0, 0, none⟩ = false := blk_frozen K2 0; have KK := Aside0.mk K2; clear ho hb K2 hn2))
  refine bodyPost_ret (results_cell_row rfl _ _ g0 28 #[.slice A2 n2 c2] (0, 0) _ rfl (by simpa using blk_set KK.out 0 (.slice A2 n2 c2)) Tryz.underlying28 rfl (by kernel_rfl)) rfl ?_
  refine ⟨_, rfl, ?_, below_set (below_step HB1.out B2.out) GE.out⟩
  exact Kd.R_lower (Kd.R_mono (Kd.R_far (Kd.R_types R2.out KK.out (by decide)) (fun k hk => hk.2) _) (fun _ _ => trivial)) HB1.out.size
end Go.Proofs.YtdbfhbnlheankaaGreatDoor.VT
