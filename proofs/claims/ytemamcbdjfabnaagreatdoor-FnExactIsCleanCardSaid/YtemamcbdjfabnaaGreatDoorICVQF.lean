import Derived.Test.YtemamcbdjfabnaaGreatDoorICVQB
/- clean, walked: what is no map. Conditions: none. -/
namespace Go.Proofs.YtemamcbdjfabnaaGreatDoor.VT
open Go.RowKit Go.Proofs.YtemamcbdjfabnaaGreatDoor.PVG Go.Proofs.YtemamcbdjfabnaaGreatDoorW.PrintWords Go.Proofs.YtemamcbdjfabnaaGreatDoorW.PrintLast Go.Proofs.YtemamcbdjfabnaaGreatDoorW.PrintMore
set_option linter.unusedVariables false
set_option linter.unusedSimpArgs false
set_option maxRecDepth 100000 in
set_option maxHeartbeats 4000000 in
theorem clean_leaf (kd nu : Int) (tx : ByteArray) (ns : List ByteArray) (ks : List Tr) (h7 : kd ≠ 7) : ClCall (.mk kd nu tx ns ks) := by
  intro w g F hv hF hf hn
  obtain ⟨A3, c3, A4, c4, ha⟩ := hv.is.at_
  obtain ⟨k0, _⟩ := ha.cells
  simp only [Tr.kd] at k0
  have b7 : (kd != 7) = true := by simpa using h7
  have HV := Aside0.mk (show InV w (fun k => F k ∨ w.heap.size ≤ k) (cleanT (.mk kd nu tx ns ks)) g by rw [cleanT, if_neg h7]; exact hv.mono fun k hk => .inl hk)
  clear ha hv hF hf hn h7
  go_enter Tryz.func61, Tryz.ntmps61
  go_wp2
  go_ret
  exact ⟨g, rfl, HV.out, Below.refl _ _⟩
end Go.Proofs.YtemamcbdjfabnaaGreatDoor.VT
/- clean, walked: what stands in memory while a map is cleaned. Conditions: none. -/
namespace Go.Proofs.YtemamcbdjfabnaaGreatDoor.VT
open Go.RowKit Go.Proofs.YtemamcbdjfabnaaGreatDoor.PVG Go.Proofs.YtemamcbdjfabnaaGreatDoorW.PrintWords Go.Proofs.YtemamcbdjfabnaaGreatDoorW.PrintLast Go.Proofs.YtemamcbdjfabnaaGreatDoorW.PrintMore
set_option linter.unusedVariables false
set_option linter.unusedSimpArgs false
theorem ClCall.go {t : Tr} (h : ClCall t) (w : World) (g : Nat) (F : Nat → Prop) (h1 : InV w F t g) (h2 : ∀ k, F k → k < w.heap.size) (h3 : fit t = true) (h4 : cnt t ≤ 1073741824) :
  Calls Tryz.prog 61 #[.pointer (some ⟨g, 0, none⟩)] w fun e w' => ∃ g', e = .returned (.pointer (some ⟨g', 0, none⟩)) ∧ InV w' (fun k => F k ∨ w.heap.size ≤ k) (cleanT t) g' ∧ Below w.heap.size w w' := h w g F h1 h2 h3 h4
/-- A pointer to a struct, as it stands. -/
def kQ : Kd Nat := Kd.scalar (fun p => Value.pointer (some ⟨p, 0, none⟩)) (fun _ => rfl)
theorem cleanK_app : ∀ (a b : List Tr), cleanK (a ++ b) = cleanK a ++ cleanK b
  | [], b => by simp [cleanK]
  | t :: ts, b => by
    rw [List.cons_append, cleanK, cleanK, cleanK_app ts b]
    by_cases h : t.kd = 1
    · rw [if_pos h, if_pos h]
    · rw [if_neg h, if_neg h]; rfl
theorem cleanN_app : ∀ (a b : List Tr) (ns : List ByteArray), cleanN (a ++ b) ns = cleanN a ns ++ cleanN b (ns.drop a.length)
  | [], b, ns => by simp [cleanN]
  | t :: ts, b, ns => by
    have hd : (ns.tail).drop ts.length = ns.drop (ts.length + 1) := by rw [← List.drop_one, List.drop_drop]; congr 1; omega
    rw [List.cons_append, cleanN, cleanN, cleanN_app ts b, hd, List.length_cons]
    by_cases h : t.kd = 1
    · rw [if_pos h, if_pos h]
    · rw [if_neg h, if_neg h]; rfl
theorem cleanN_le : ∀ (a : List Tr) (ns : List ByteArray), (cleanN a ns).length ≤ a.length
  | [], ns => by simp [cleanN]
  | t :: ts, ns => by
    have := cleanN_le ts ns.tail
    rw [cleanN]
    by_cases h : t.kd = 1
    · rw [if_pos h]; simp; omega
    · rw [if_neg h]; simp; omega
theorem cleanK_step {ks : List Tr} {i : Nat} (h : i < ks.length) : cleanK (ks.take (i + 1)) = if ks[i].kd = 1 then cleanK (ks.take i) else cleanK (ks.take i) ++ [cleanT ks[i]] := by
  rw [List.take_succ_eq_append_getElem h, cleanK_app, cleanK, cleanK]
  by_cases h1 : ks[i].kd = 1
  · rw [if_pos h1, if_pos h1, List.append_nil]
  · rw [if_neg h1, if_neg h1]
theorem cleanN_step {ks : List Tr} {ns : List ByteArray} {i : Nat} (h : i < ks.length) (h2 : i < ns.length) : cleanN (ks.take (i + 1)) ns = if ks[i].kd = 1 then cleanN (ks.take i) ns else cleanN (ks.take i) ns ++ [ns[i]] := by
  rw [List.take_succ_eq_append_getElem h, cleanN_app, cleanN, cleanN]
  have e : (ns.drop (ks.take i).length).headD nil_ = ns[i] := by
    rw [List.length_take, Nat.min_eq_left (by omega), List.headD_eq_head?_getD, List.head?_drop, List.getElem?_eq_getElem h2]
    rfl
  by_cases h1 : ks[i].kd = 1
  · rw [if_pos h1, if_pos h1, List.append_nil]
  · rw [if_neg h1, if_neg h1, e]
theorem NamesIn.bound {w : World} {F : Nat → Prop} {A : Option Addr} {ns : List ByteArray} (h : NamesIn w F A ns) : NamesIn w (fun k => F k ∧ k < w.heap.size) A ns := by
  refine ⟨h.1, fun h0 => ?_, h.2.2⟩
  obtain ⟨ad, e, hF⟩ := h.2.1 h0
  obtain ⟨ad', e', hc⟩ := h.2.2 0 h0
  rw [e] at e'
  obtain rfl := Option.some.inj e'
  exact ⟨ad, e, hF, by have := World.block_lt_of_cell? w (ad.add 0) hc; rwa [add_block] at this⟩
theorem PtrsIn.bound {w : World} {F : Nat → Prop} {A : Option Addr} {n : Nat} {ps : Nat → Nat} (h : PtrsIn w F A n ps) : PtrsIn w (fun k => F k ∧ k < w.heap.size) A n ps := by
  refine ⟨h.1, fun h0 => ?_, h.2.2⟩
  obtain ⟨ad, e, hF⟩ := h.2.1 h0
  obtain ⟨ad', e', hc⟩ := h.2.2 0 h0
  rw [e] at e'
  obtain rfl := Option.some.inj e'
  exact ⟨ad, e, hF, by have := World.block_lt_of_cell? w (ad.add 0) hc; rwa [add_block] at this⟩
theorem InV.bound {w : World} {F : Nat → Prop} {t : Tr} {g : Nat} (h : InV w F t g) : InV w (fun k => F k ∧ k < w.heap.size) t g := by
  induction h with
  | mk ps hF hg l3 g3 l4 g4 hk ih => exact .mk ps ⟨hF, blk_lt hg⟩ hg l3 g3.bound l4 g4.bound ih
/-- What stands in memory: the struct o that is made (its rows as they are stored: u3, u4), the row of names, the row of pointers, the parts that are done. -/
structure Cl (w : World) (F : Nat → Prop) (o : Nat) (u3 u4 v3 : Value) (ms : List ByteArray) (v4 : Value) (ps : List Nat) (cs : List Tr) (W : World) : Prop where
  bel : Below w.heap.size w W
  ge : w.heap.size ≤ o
  ob : W.heap[o]? = some (.cells #[.int .i64 7, .int .i64 0, .string nil_, u3, u4] 59 (0, 0))
  r3 : Kd.R Kd.string 9 W w.heap.size (fun _ => True) v3 ms
  r4 : Kd.R kQ 55 W w.heap.size (fun _ => True) v4 ps
  len : ps.length = cs.length
  kids : ∀ j (h : j < cs.length) (h2 : j < ps.length), InV W (fun k => (F k ∨ w.heap.size ≤ k) ∧ k ≠ o ∧ some k ≠ v3.ownBlock ∧ some k ≠ v4.ownBlock ∧ k < W.heap.size) cs[j] ps[j]
section
variable {w W W' : World} {F : Nat → Prop} {o : Nat} {u3 u4 v3 v4 : Value} {ms : List ByteArray} {ps : List Nat} {cs : List Tr}
theorem Cl.move (h : Cl w F o u3 u4 v3 ms v4 ps cs W) (hb : Below W.heap.size W W') : Cl w F o u3 u4 v3 ms v4 ps cs W' :=
  ⟨below_step h.bel hb, h.ge, blk_below h.ob hb, Kd.R_below h.r3 hb, Kd.R_below h.r4 hb, h.len, fun j a b =>
    ((h.kids j a b).move (fun k hk => hb.block k hk.2.2.2.2)).mono (fun k hk => ⟨hk.1, hk.2.1, hk.2.2.1, hk.2.2.2.1, Nat.lt_of_lt_of_le hk.2.2.2.2 hb.size⟩)⟩
theorem Cl.lt (h : Cl w F o u3 u4 v3 ms v4 ps cs W) : o < W.heap.size := blk_lt h.ob
/-- The names have grown. -/
theorem Cl.name (h : Cl w F o u3 u4 v3 ms v4 ps cs W) {v3' : Value} {ms' : List ByteArray} (hr : Kd.R Kd.string 9 W' w.heap.size (fun _ => True) v3' ms') (hb : Below w.heap.size w W') (hg : W.grownBy W' v3.ownBlock) (hat : v3'.ownBlock = v3.ownBlock ∨ ∃ b, v3'.ownBlock = some b ∧ W.heap.size ≤ b) :
    Cl w F o u3 u4 v3' ms' v4 ps cs W' := by
  refine ⟨hb, h.ge, blk_grown h.ob hg (Kd.R_ne h.r3 h.ob (by decide)), hr, ?_, h.len, fun j a b => ?_⟩
  · exact Kd.R_over h.r4 h.r3 (by decide) hg
  · refine ((h.kids j a b).move (fun k hk => hg.block k hk.2.2.2.2 hk.2.2.1)).mono (fun k hk => ⟨hk.1, hk.2.1, ?_, hk.2.2.2.1, Nat.lt_of_lt_of_le hk.2.2.2.2 hg.size⟩)
    rcases hat with e | ⟨b2, e, hb2⟩
    · rw [e]; exact hk.2.2.1
    · rw [e]; intro e2; cases e2; have := hk.2.2.2.2; omega
/-- A part is appended: t behind p, which was made (or read) behind the struct and the rows. -/
theorem Cl.kid (h : Cl w F o u3 u4 v3 ms v4 ps cs W) {v4' : Value} {p : Nat} {t : Tr} (hp : InV W (fun k => (F k ∨ w.heap.size ≤ k) ∧ k ≠ o ∧ some k ≠ v3.ownBlock ∧ some k ≠ v4.ownBlock ∧ k < W.heap.size) t p) (hr : Kd.R kQ 55 W' w.heap.size (fun _ => True) v4' (ps ++ [p])) (hb : Below w.heap.size w W') (hg : W.grownBy W' v4.ownBlock) (hat : v4'.ownBlock = v4.ownBlock ∨ ∃ b, v4'.ownBlock = some b ∧ W.heap.size ≤ b) :
    Cl w F o u3 u4 v3 ms v4' (ps ++ [p]) (cs ++ [t]) W' := by
  have mv : ∀ {s : Tr} {q : Nat}, InV W (fun k => (F k ∨ w.heap.size ≤ k) ∧ k ≠ o ∧ some k ≠ v3.ownBlock ∧ some k ≠ v4.ownBlock ∧ k < W.heap.size) s q → InV W' (fun k => (F k ∨ w.heap.size ≤ k) ∧ k ≠ o ∧ some k ≠ v3.ownBlock ∧ some k ≠ v4'.ownBlock ∧ k < W'.heap.size) s q := by
    intro s q hi
    refine (hi.move (fun k hk => hg.block k hk.2.2.2.2 hk.2.2.2.1)).mono (fun k hk => ⟨hk.1, hk.2.1, hk.2.2.1, ?_, Nat.lt_of_lt_of_le hk.2.2.2.2 hg.size⟩)
    rcases hat with e | ⟨b2, e, hb2⟩
    · rw [e]; exact hk.2.2.2.1
    · rw [e]; intro e2; cases e2; have := hk.2.2.2.2; omega
  refine ⟨hb, h.ge, blk_grown h.ob hg (Kd.R_ne h.r4 h.ob (by decide)), Kd.R_over h.r3 h.r4 (by decide) hg, hr, by simp [h.len], fun j a b => ?_⟩
  by_cases hj : j < cs.length
  · rw [List.getElem_append_left hj, List.getElem_append_left (by rw [h.len]; exact hj)]
    exact mv (h.kids j hj (by rw [h.len]; exact hj))
  · have : j = cs.length := by simp at a; omega
    subst this
    rw [List.getElem_append_right (by omega), List.getElem_append_right (by rw [h.len]; exact Nat.le_refl _)]
    simp only [h.len, Nat.sub_self, List.getElem_cons_zero]
    exact mv hp
theorem Cl.set3 (h : Cl w F o u3 u4 v3 ms v4 ps cs W) (x : Value) : Cl w F o x u4 v3 ms v4 ps cs (W.setCell ⟨o, 3, none⟩ x) := by
  refine ⟨below_set h.bel h.ge, h.ge, ?_, Kd.R_mono (Kd.R_far (Kd.R_types h.r3 h.ob (by decide)) (fun k hk => hk.2) x) (fun _ _ => trivial), Kd.R_mono (Kd.R_far (Kd.R_types h.r4 h.ob (by decide)) (fun k hk => hk.2) x) (fun _ _ => trivial), h.len, fun j a b => ?_⟩
  · have := blk_set h.ob 3 x
    simpa using this
  · exact ((h.kids j a b).move (fun k hk => Below.heap_setCell W ⟨o, 3, none⟩ x k hk.2.1)).mono (fun k hk => ⟨hk.1, hk.2.1, hk.2.2.1, hk.2.2.2.1, by simpa using hk.2.2.2.2⟩)
theorem Cl.set4 (h : Cl w F o u3 u4 v3 ms v4 ps cs W) (x : Value) : Cl w F o u3 x v3 ms v4 ps cs (W.setCell ⟨o, 4, none⟩ x) := by
  refine ⟨below_set h.bel h.ge, h.ge, ?_, Kd.R_mono (Kd.R_far (Kd.R_types h.r3 h.ob (by decide)) (fun k hk => hk.2) x) (fun _ _ => trivial), Kd.R_mono (Kd.R_far (Kd.R_types h.r4 h.ob (by decide)) (fun k hk => hk.2) x) (fun _ _ => trivial), h.len, fun j a b => ?_⟩
  · have := blk_set h.ob 4 x
    simpa using this
  · exact ((h.kids j a b).move (fun k hk => Below.heap_setCell W ⟨o, 4, none⟩ x k hk.2.1)).mono (fun k hk => ⟨hk.1, hk.2.1, hk.2.2.1, hk.2.2.2.1, by simpa using hk.2.2.2.2⟩)
/-- The cells that a round reads. -/
theorem Cl.cells (h : Cl w F o u3 u4 v3 ms v4 ps cs W) : W.cell? ⟨o, 3, none⟩ = some u3 ∧ W.cell? ⟨o, 4, none⟩ = some u4 ∧ W.frozen? ⟨o, 3, none⟩ = false ∧ W.frozen? ⟨o, 4, none⟩ = false :=
  ⟨(blk_cell h.ob 3).trans rfl, (blk_cell h.ob 4).trans rfl, blk_frozen h.ob 3, blk_frozen h.ob 4⟩
/-- A part that was made behind W. -/
theorem Cl.fresh (h : Cl w F o u3 u4 v3 ms v4 ps cs W) (hF : ∀ k, F k → k < w.heap.size) {W2 : World} (hb : Below W.heap.size W W2) {t : Tr} {p : Nat} (hi : InV W2 (fun k => F k ∨ W.heap.size ≤ k) t p) :
    InV W2 (fun k => (F k ∨ w.heap.size ≤ k) ∧ k ≠ o ∧ some k ≠ v3.ownBlock ∧ some k ≠ v4.ownBlock ∧ k < W2.heap.size) t p := by
  have h3 : ∀ k, v3.ownBlock = some k → w.heap.size ≤ k ∧ k < W.heap.size := fun k e => ⟨(Kd.R_bound h.r3).1 k e |>.2.1, Kd.R_lt h.r3 k e⟩
  have h4 : ∀ k, v4.ownBlock = some k → w.heap.size ≤ k ∧ k < W.heap.size := fun k e => ⟨(Kd.R_bound h.r4).1 k e |>.2.1, Kd.R_lt h.r4 k e⟩
  refine hi.bound.mono (fun k hk => ?_)
  have ho := h.lt
  have hge := h.ge
  have hs := h.bel.size
  rcases hk.1 with hk1 | hk1
  · have := hF k hk1
    exact ⟨.inl hk1, by omega, fun e => by have := h3 k e.symm; omega, fun e => by have := h4 k e.symm; omega, hk.2⟩
  · exact ⟨.inr (by omega), by omega, fun e => by have := h3 k e.symm; omega, fun e => by have := h4 k e.symm; omega, hk.2⟩
end
end Go.Proofs.YtemamcbdjfabnaaGreatDoor.VT
/- clean, walked: maps. Conditions: right trees. -/
namespace Go.Proofs.YtemamcbdjfabnaaGreatDoor.VT
open Go.RowKit Go.Proofs.YtemamcbdjfabnaaGreatDoor.PVG Go.Proofs.YtemamcbdjfabnaaGreatDoorW.PrintWords Go.Proofs.YtemamcbdjfabnaaGreatDoorW.PrintLast Go.Proofs.YtemamcbdjfabnaaGreatDoorW.PrintMore
set_option linter.unusedVariables false
set_option linter.unusedSimpArgs false
theorem Cl.whole {w W : World} {F : Nat → Prop} {o : Nat} {v3 v4 : Value} {ms : List ByteArray} {ps : List Nat} {cs : List Tr} (h : Cl w F o v3 v4 v3 ms v4 ps cs W) : InV W (fun k => F k ∨ w.heap.size ≤ k) (.mk 7 0 nil_ ms cs) o := by
  obtain ⟨A3, c3, rfl⟩ := Kd.R_slice h.r3
  obtain ⟨A4, c4, rfl⟩ := Kd.R_slice h.r4
  obtain ⟨_, l3, g3⟩ := Kd.R_reads' h.r3
  obtain ⟨_, l4, g4⟩ := Kd.R_reads' h.r4
  have hob := h.ob
  rw [h.len] at hob l4
  have q3 : ∀ i (hi : i < ms.length), ∃ ad, A3 = some ad ∧ W.cell? (ad.add i) = some (.string ms[i]) := fun i hi => by
    obtain ⟨ad, c, e, _, hK, hc⟩ := Kd.C_get g3 nil_ (i : Int) (by omega) (by omega)
    obtain rfl : c = [.string (ms.getD (i : Int).toNat nil_)] := hK
    have h0 := hc 0 _ rfl
    have e1 : (i : Int).toNat * Kd.string.sz + 0 = i := by show (i : Int).toNat * 1 + 0 = i; omega
    rw [e1, List.getD_eq_getElem?_getD, Int.toNat_natCast, List.getElem?_eq_getElem hi] at h0
    exact ⟨ad, e, h0⟩
  have q4 : ∀ i, i < cs.length → ∃ ad, A4 = some ad ∧ W.cell? (ad.add i) = some (.pointer (some ⟨ps.getD i 0, 0, none⟩)) := fun i hi => by
    obtain ⟨ad, c, e, _, hK, hc⟩ := Kd.C_get g4 0 (i : Int) (by omega) (by rw [h.len]; omega)
    obtain rfl : c = [.pointer (some ⟨ps.getD (i : Int).toNat 0, 0, none⟩)] := hK
    have h0 := hc 0 _ rfl
    have e1 : (i : Int).toNat * kQ.sz + 0 = i := by show (i : Int).toNat * 1 + 0 = i; omega
    rw [e1, Int.toNat_natCast] at h0
    exact ⟨ad, e, h0⟩
  have b3 : ∀ k, (Value.slice A3 ms.length c3).ownBlock = some k → w.heap.size ≤ k := fun k e => ((Kd.R_bound h.r3).1 k e).2.1
  have b4 : ∀ k, (Value.slice A4 ps.length c4).ownBlock = some k → w.heap.size ≤ k := fun k e => ((Kd.R_bound h.r4).1 k e).2.1
  refine .mk (fun i => ps.getD i 0) (.inr h.ge) hob l3 ⟨g3.2.1, fun h0 => ?_, q3⟩ l4 ⟨by rw [← h.len]; exact g4.2.1, fun h0 => ?_, q4⟩ (fun i hi => ?_)
  · obtain ⟨ad, e, _⟩ := q3 0 h0
    exact ⟨ad, e, .inr (b3 _ (by rw [e]; rfl))⟩
  · obtain ⟨ad, e, _⟩ := q4 0 h0
    exact ⟨ad, e, .inr (b4 _ (by rw [e]; rfl))⟩
  · have hi2 : i < ps.length := by rw [h.len]; exact hi
    have := (h.kids i hi hi2).mono (G := fun k => F k ∨ w.heap.size ≤ k) (fun k hk => hk.1)
    rw [List.getD_eq_getElem?_getD, List.getElem?_eq_getElem hi2]
    exact this
set_option maxRecDepth 100000 in
set_option maxHeartbeats 8000000 in
theorem clean_map (nu : Int) (tx : ByteArray) (ns : List ByteArray) (ks : List Tr) (ih : ∀ t, t ∈ ks → ClCall t) : ClCall (.mk 7 nu tx ns ks) := by
  intro w g F hv hF hf hn
  have hfit := fit1 hf
  have hlen : ns.length = ks.length := hfit.hlen rfl
  cases hv with
  | @mk _ _ _ _ _ _ A3 c3 A4 c4 ptr hFg hg l3 g3 l4 g4 hk =>
  have IH := Aside0.mk ih
  have FLT := Aside0.mk hF
  have FITS := Aside0.mk hfit.hks
  have HN := Aside0.mk hn
  have HLEN := Aside0.mk hlen
  have NAM := Aside0.mk (show ∀ i (h : i < ns.length), ∃ ad, A3 = some ad ∧ w.cell? (ad.add i) = some (.string ns[i]) from g3.2.2)
  have PTR := Aside0.mk (show ∀ i, i < ks.length → ∃ ad, A4 = some ad ∧ w.cell? (ad.add i) = some (.pointer (some ⟨ptr i, 0, none⟩)) from g4.2.2)
  have KIDS := Aside0.mk (show ∀ i (h : i < ks.length), InV w F ks[i] (ptr i) from hk)
  have GB := Aside0.mk hg
  have b8 : ks.length ≤ 1073741824 := by have := cnt_ge_len ks; simp only [cnt] at hn; omega
  have B8 := Aside0.mk b8
  have LT4 := Aside0.mk l4
  have k0 : w.cell? ⟨g, 0, none⟩ = some (.int .i64 7) := (blk_cell hg 0).trans rfl
  have RES := Aside0.mk (show cleanT (.mk 7 nu tx ns ks) = .mk 7 0 nil_ (cleanN ks ns) (cleanK ks) by rw [cleanT, if_pos rfl])
  obtain ⟨o, ho⟩ : ∃ o, o = w.heap.size := ⟨_, rfl⟩
  obtain ⟨W1, hW1⟩ : ∃ W1, W1 = w.alloc (.cells #[.int .i64 7, .int .i64 0, .string nil_, .slice none 0 0, .slice none 0 0] 59) := ⟨_, rfl⟩
  have hb1 : Below w.heap.size w W1 := by rw [hW1]; exact below_alloc (Below.refl _ _) _
  have C0 := Aside0.mk (show Cl w F o (.slice none 0 0) (.slice none 0 0) (.slice none 0 0) [] (.slice none 0 0) [] [] W1 from
    ⟨hb1, by rw [ho]; exact Nat.le_refl _, by rw [hW1, ho]; exact blk_new w _, Kd.R_nil _ _ _ _ _, Kd.R_nil _ _ _ _ _, rfl, fun j h => by simp at h⟩)
  have k4 : W1.cell? ⟨g, 4, none⟩ = some (.slice A4 ks.length c4) := (hb1.cell (blk_lt hg)).trans ((blk_cell hg 4).trans rfl)
  clear ih hF hf hn hfit hlen g3 g4 hk hFg hg l3 l4 b8 hb1
  go_enter Tryz.func61, Tryz.ntmps61
  go_upto_region 4 with fail
  rw [show (#[.int .i64 7, .int .i64 0, .string ⟨#[]⟩, .slice none 0 0, .slice none 0 0] : Array Value) = #[.int .i64 7, .int .i64 0, .string nil_, .slice none 0 0, .slice none 0 0] from rfl, ← hW1, ← ho]
  clear hW1 ho
  go_wp2
  go_loopg [19] ks.length (fun m v19 W => ∃ (i : Nat) (v3 v4 : Value) (ps : List Nat), v19 = .int .i64 (i : Int) ∧ Aside0 (i + m = ks.length) ∧ Aside0 (Cl w F o v3 v4 v3 (cleanN (ks.take i) ns) v4 ps (cleanK (ks.take i)) W))
  case atStart => exact ⟨0, _, _, _, rfl, ⟨by omega⟩, C0⟩
  case round =>
    obtain ⟨i, v3, v4, ps, rfl, HM, S0⟩ := hrel
    clear k0 k4 C0
    cases gk with
    | zero =>
      have hlt : decide (i < ks.length) = false := decide_eq_false (by have := HM.out; omega)
      have HI := Aside0.mk (show ks.take i = ks from List.take_of_length_le (by have := HM.out; omega))
      have S9 := S0.out
      rw [HI.out] at S9
      have S9 := Aside0.mk S9
      clear S0
      go_wp2
      go_ret
      exact ⟨o, rfl, by rw [RES.out]; exact S9.out.whole, S9.out.bel⟩
    | succ m =>
      have hi : i < ks.length := by have := HM.out; omega
      have hni : i < ns.length := by rw [HLEN.out]; exact hi
      obtain ⟨ad, rfl, kc⟩ := PTR.out i hi
      have kc : wr.cell? (ad.add i) = some (.pointer (some ⟨ptr i, 0, none⟩)) := (S0.out.bel.cell (World.block_lt_of_cell? w _ kc)).trans kc
      have KID := Aside0.mk (show ∀ W, Below w.heap.size w W → InV W F ks[i] (ptr i) from fun W hb => (KIDS.out i hi).move (fun k hk => hb.block k (FLT.out k hk)))
      obtain ⟨_, _, _, _, hka⟩ := (KID.out wr S0.out.bel).is.at_
      have kk : wr.cell? ⟨ptr i, 0, none⟩ = some (.int .i64 ks[i].kd) := hka.cells.1
      clear hka
      have HIm := Aside0.mk (List.getElem_mem hi)
      have b1 : (i : Int) ≤ 1073741824 := by have := B8.out; omega
      by_cases h1 : ks[i].kd = 1
      · have h1b : (ks[i].kd != 1) = false := by simpa using h1
        have E1 := Aside0.mk (cleanK_step hi)
        have E2 := Aside0.mk (cleanN_step hi hni)
        have E3 := Aside0.mk h1
        clear h1
        go_wp2
        go_roundg m
        case rel => exact ⟨i + 1, v3, v4, ps, by go_num, ⟨by have := HM.out; omega⟩, ⟨by rw [E1.out, E2.out, if_pos E3.out, if_pos E3.out]; exact S0.out⟩⟩
        case measure => omega
      · have h1b : (ks[i].kd != 1) = true := by simpa using h1
        have E1 := Aside0.mk (cleanK_step hi)
        have E2 := Aside0.mk (cleanN_step hi hni)
        have E3 := Aside0.mk h1
        obtain ⟨ad3, rfl, kn⟩ := NAM.out i hni
        have HELD := Aside0.mk (show ∀ (v3' : Value) (ms' : List ByteArray) (v4' : Value) (ps' : List Nat) (cs' : List Tr) (w' : World), Cl w F o v3 v4 v3' ms' v4' ps' cs' w' → w'.cell? ⟨o, 3, none⟩ = some v3 ∧ w'.cell? ⟨o, 4, none⟩ = some v4 ∧ w'.cell? ⟨g, 3, none⟩ = some (.slice (some ad3) ns.length c3) ∧ w'.cell? (ad3.add i) = some (.string ns[i]) from fun _ _ _ _ _ w' hc => ⟨hc.cells.1, hc.cells.2.1, (hc.bel.cell (blk_lt GB.out)).trans ((blk_cell GB.out 3).trans rfl), (hc.bel.cell (World.block_lt_of_cell? w _ kn)).trans kn⟩)
        have S0d := Aside0.mk (S0.out.move (below_drew1 (Below.refl _ _)))
        have FK := Aside0.mk (show fit ks[i] = true from (fitL_iff ks).1 FITS.out _ HIm.out)
        have CK := Aside0.mk (show cnt ks[i] ≤ 1073741824 by have := cntL_mem (List.getElem_mem hi); have := HN.out; simp only [cnt] at this; omega)
        have LM := Aside0.mk (show (cleanN (ks.take i) ns).length ≤ 1073741824 from Nat.le_trans (cleanN_le _ _) (by rw [List.length_take]; omega))
        have LP := Aside0.mk (show ps.length ≤ 1073741824 by rw [S0.out.len]; exact Nat.le_trans (cleanK_len _).1 (by rw [List.length_take]; omega))
        obtain ⟨p, hp⟩ : ∃ p, p = ptr i := ⟨_, rfl⟩
        rw [← hp] at KID kc kk
        clear h1 kn hp
        go_upto_region 8 with fail
        clear kc kk
        refine start_ (n := 29) (S := fun w' => w'.cell? ⟨o, 3, none⟩ = some v3 ∧ w'.cell? ⟨o, 4, none⟩ = some v4 ∧ w'.cell? ⟨g, 3, none⟩ = some (.slice (some ad3) ns.length c3) ∧ w'.cell? (ad3.add i) = some (.string ns[i])) (ds := [25, 28]) #[false, false, false, false, false, false, false, false, false, false, false, false, false, false, false, false, false, false, false, false, false, false, false, false, false, false, false, false, false] (by kernel_rfl) rfl rfl (HELD.out _ _ _ _ _ _ S0d.out) (fun hHeld => ?_)
        generalize wr.drew = w1 at S0d hHeld ⊢
        have S1 := S0d
        refine pure_ (i := 0) (N := (some 29)) (v := ?_) (a' := ?_) #[true, false, false, false, false, false, false, false, false, false, false, false, false, false, false, false, false, false, false, false, false, false, false, false, false, false, false, false, false] rfl rfl (by kernel_rfl) (fun _ _ _ h => h) (Or.inl ⟨by rfl, ?_⟩) ?_ ?_
        rotate_left
        · intro w'
          go_simp
          with_reducible rfl
        rotate_left
        · simp only [Act.put, List.setIfInBounds_toArray, List.set_cons_zero, List.set_cons_succ, i64_w, i32_w]
          rfl
        refine pure_ (i := 1) (N := (some 30)) (v := ?_) (a' := ?_) #[true, true, false, false, false, false, false, false, false, false, false, false, false, false, false, false, false, false, false, false, false, false, false, false, false, false, false, false, false] rfl rfl (by kernel_rfl) (fun _ _ _ h => h) (Or.inl ⟨by rfl, ?_⟩) ?_ ?_
        rotate_left
        · intro w'
          go_simp
          with_reducible rfl
        rotate_left
        · simp only [Act.put, List.setIfInBounds_toArray, List.set_cons_zero, List.set_cons_succ, i64_w, i32_w]
          rfl
        refine pure_ (i := 2) (N := (some 31)) (v := ?_) (a' := ?_) #[true, true, true, false, false, false, false, false, false, false, false, false, false, false, false, false, false, false, false, false, false, false, false, false, false, false, false, false, false] rfl rfl (by kernel_rfl) (fun _ _ _ h => h) (Or.inl ⟨by rfl, ?_⟩) ?_ ?_
        rotate_left
        · intro w'
          go_simp
          with_reducible rfl
        rotate_left
        · simp only [Act.put, List.setIfInBounds_toArray, List.set_cons_zero, List.set_cons_succ, i64_w, i32_w]
          rfl
        refine pure_ (i := 3) (N := (some 32)) (v := ?_) (a' := ?_) #[true, true, true, true, false, false, false, false, false, false, false, false, false, false, false, false, false, false, false, false, false, false, false, false, false, false, false, false, false] rfl rfl (by kernel_rfl) (fun _ _ _ h => h) (Or.inl ⟨by rfl, ?_⟩) ?_ ?_
        rotate_left
        · intro w'
          go_simp
          with_reducible rfl
        rotate_left
        · simp only [Act.put, List.setIfInBounds_toArray, List.set_cons_zero, List.set_cons_succ, i64_w, i32_w]
          rfl
        refine pure_ (i := 4) (N := (some 33)) (v := ?_) (a' := ?_) #[true, true, true, true, true, false, false, false, false, false, false, false, false, false, false, false, false, false, false, false, false, false, false, false, false, false, false, false, false] rfl rfl (by kernel_rfl) (fun _ _ _ h => h) (Or.inl ⟨by rfl, ?_⟩) ?_ ?_
        rotate_left
        · intro w'
          go_simp
          with_reducible rfl
        rotate_left
        · simp only [Act.put, List.setIfInBounds_toArray, List.set_cons_zero, List.set_cons_succ, i64_w, i32_w]
          rfl
        refine pure_ (i := 6) (N := (some 35)) (v := ?_) (a' := ?_) #[true, true, true, true, true, false, true, false, false, false, false, false, false, false, false, false, false, false, false, false, false, false, false, false, false, false, false, false, false] rfl rfl (by kernel_rfl) (fun _ _ _ h => h) (Or.inl ⟨by rfl, ?_⟩) ?_ ?_
        rotate_left
        · intro w'
          go_simp
          with_reducible rfl
        rotate_left
        · simp only [Act.put, List.setIfInBounds_toArray, List.set_cons_zero, List.set_cons_succ, i64_w, i32_w]
          rfl
        refine pure_ (i := 7) (N := (some 36)) (v := ?_) (a' := ?_) #[true, true, true, true, true, false, true, true, false, false, false, false, false, false, false, false, false, false, false, false, false, false, false, false, false, false, false, false, false] rfl rfl (by kernel_rfl) (fun _ _ _ h => h) (Or.inl ⟨by rfl, ?_⟩) ?_ ?_
        rotate_left
        · intro w'
          go_simp
          with_reducible rfl
        rotate_left
        · simp only [Act.put, List.setIfInBounds_toArray, List.set_cons_zero, List.set_cons_succ, i64_w, i32_w]
          rfl
        refine pure_ (i := 8) (N := (some 37)) (v := ?_) (a' := ?_) #[true, true, true, true, true, false, true, true, true, false, false, false, false, false, false, false, false, false, false, false, false, false, false, false, false, false, false, false, false] rfl rfl (by kernel_rfl) (fun _ _ _ h => h) (Or.inl ⟨by rfl, ?_⟩) ?_ ?_
        rotate_left
        · intro w'
          go_simp
          with_reducible rfl
        rotate_left
        · simp only [Act.put, List.setIfInBounds_toArray, List.set_cons_zero, List.set_cons_succ, i64_w, i32_w]
          rfl
        refine pure_ (i := 10) (N := (some 39)) (v := ?_) (a' := ?_) #[true, true, true, true, true, false, true, true, true, false, true, false, false, false, false, false, false, false, false, false, false, false, false, false, false, false, false, false, false] rfl rfl (by kernel_rfl) (fun _ _ _ h => h) (Or.inl ⟨by rfl, ?_⟩) ?_ ?_
        rotate_left
        · intro w'
          go_simp
          with_reducible rfl
        rotate_left
        · simp only [Act.put, List.setIfInBounds_toArray, List.set_cons_zero, List.set_cons_succ, i64_w, i32_w]
          rfl
        refine pure_ (i := 15) (N := (some 44)) (v := ?_) (a' := ?_) #[true, true, true, true, true, false, true, true, true, false, true, false, false, false, false, true, false, false, false, false, false, false, false, false, false, false, false, false, false] rfl rfl (by kernel_rfl) (fun _ _ _ h => h) (Or.inl ⟨by rfl, ?_⟩) ?_ ?_
        rotate_left
        · intro w'
          go_simp
          with_reducible rfl
        rotate_left
        · simp only [Act.put, List.setIfInBounds_toArray, List.set_cons_zero, List.set_cons_succ, i64_w, i32_w]
          rfl
        refine pure_ (i := 16) (N := (some 45)) (v := ?_) (a' := ?_) #[true, true, true, true, true, false, true, true, true, false, true, false, false, false, false, true, true, false, false, false, false, false, false, false, false, false, false, false, false] rfl rfl (by kernel_rfl) (fun _ _ _ h => h) (Or.inl ⟨by rfl, ?_⟩) ?_ ?_
        rotate_left
        · intro w'
          go_simp
          with_reducible rfl
        rotate_left
        · simp only [Act.put, List.setIfInBounds_toArray, List.set_cons_zero, List.set_cons_succ, i64_w, i32_w]
          rfl
        refine pure_ (i := 17) (N := (some 46)) (v := ?_) (a' := ?_) #[true, true, true, true, true, false, true, true, true, false, true, false, false, false, false, true, true, true, false, false, false, false, false, false, false, false, false, false, false] rfl rfl (by kernel_rfl) (fun _ _ _ h => h) (Or.inl ⟨by rfl, ?_⟩) ?_ ?_
        rotate_left
        · intro w'
          go_simp
          with_reducible rfl
        rotate_left
        · simp only [Act.put, List.setIfInBounds_toArray, List.set_cons_zero, List.set_cons_succ, i64_w, i32_w]
          rfl
        refine pure_ (i := 19) (N := (some 48)) (v := ?_) (a' := ?_) #[true, true, true, true, true, false, true, true, true, false, true, false, false, false, false, true, true, true, false, true, false, false, false, false, false, false, false, false, false] rfl rfl (by kernel_rfl) (fun _ _ _ h => h) (Or.inl ⟨by rfl, ?_⟩) ?_ ?_
        rotate_left
        · intro w'
          go_simp
          with_reducible rfl
        rotate_left
        · simp only [Act.put, List.setIfInBounds_toArray, List.set_cons_zero, List.set_cons_succ, i64_w, i32_w]
          rfl
        refine take_ (i := 5) (N := (some 34)) (v := ?_) (a' := ?_) #[true, true, true, true, true, true, true, true, true, false, true, false, false, false, false, true, true, true, false, true, false, false, false, false, false, false, false, false, false] rfl rfl (by kernel_rfl) (fun _ _ _ h => h) (Or.inl ⟨by rfl, ?_⟩) hHeld ?_ ?_
        rotate_left
        · rintro w' ⟨s0, s1, s2, s3⟩
          go_simp
          with_reducible rfl
        rotate_left
        · simp only [Act.put, List.setIfInBounds_toArray, List.set_cons_zero, List.set_cons_succ, i64_w, i32_w]
          rfl
        refine take_ (i := 9) (N := (some 38)) (v := ?_) (a' := ?_) #[true, true, true, true, true, true, true, true, true, true, true, false, false, false, false, true, true, true, false, true, false, false, false, false, false, false, false, false, false] rfl rfl (by kernel_rfl) (fun _ _ _ h => h) (Or.inl ⟨by rfl, ?_⟩) hHeld ?_ ?_
        rotate_left
        · rintro w' ⟨s0, s1, s2, s3⟩
          go_simp
          with_reducible rfl
        rotate_left
        · simp only [Act.put, List.setIfInBounds_toArray, List.set_cons_zero, List.set_cons_succ, i64_w, i32_w]
          rfl
        refine pure_ (i := 11) (N := (some 40)) (v := ?_) (a' := ?_) #[true, true, true, true, true, true, true, true, true, true, true, true, false, false, false, true, true, true, false, true, false, false, false, false, false, false, false, false, false] rfl rfl (by kernel_rfl) (fun _ _ _ h => h) (Or.inl ⟨by rfl, ?_⟩) ?_ ?_
        rotate_left
        · intro w'
          go_simp
          with_reducible rfl
        rotate_left
        · simp only [Act.put, List.setIfInBounds_toArray, List.set_cons_zero, List.set_cons_succ, i64_w, i32_w]
          rfl
        refine take_ (i := 12) (N := (some 41)) (v := ?_) (a' := ?_) #[true, true, true, true, true, true, true, true, true, true, true, true, true, false, false, true, true, true, false, true, false, false, false, false, false, false, false, false, false] rfl rfl (by kernel_rfl) (fun _ _ _ h => h) (Or.inl ⟨by rfl, ?_⟩) hHeld ?_ ?_
        rotate_left
        · rintro w' ⟨s0, s1, s2, s3⟩
          go_simp
          with_reducible rfl
        rotate_left
        · simp only [Act.put, List.setIfInBounds_toArray, List.set_cons_zero, List.set_cons_succ, i64_w, i32_w]
          rfl
        refine take_ (i := 18) (N := (some 47)) (v := ?_) (a' := ?_) #[true, true, true, true, true, true, true, true, true, true, true, true, true, false, false, true, true, true, true, true, false, false, false, false, false, false, false, false, false] rfl rfl (by kernel_rfl) (fun _ _ _ h => h) (Or.inl ⟨by rfl, ?_⟩) hHeld ?_ ?_
        rotate_left
        · rintro w' ⟨s0, s1, s2, s3⟩
          go_simp
          with_reducible rfl
        rotate_left
        · simp only [Act.put, List.setIfInBounds_toArray, List.set_cons_zero, List.set_cons_succ, i64_w, i32_w]
          rfl
        refine one_ (i := 13) (N := (some 42)) #[true, true, true, true, true, true, true, true, true, true, true, true, true, true, false, true, true, true, true, true, false, false, false, false, false, false, false, false, false] rfl rfl (by kernel_rfl) (by decide) (fun K hK => ?_)
        refine value_ (w1 := ?_) (v := ?_) (by rfl) rfl ?_ ?_
        rotate_left 2
        · go_simp
          constructor
          · rfl
          · rfl
        refine hK.out _ _ (HELD.out _ _ _ _ _ _ (S1.out.move (below_alloc (Below.refl _ _) _))) (fun hHeld => ?_)
        clear hK K
        refine norm_ (a' := ?_) ?_ ?_
        rotate_left
        · show Act.put _ (some 42) _ = _
          simp only [Act.put, List.setIfInBounds_toArray, List.set_cons_zero, List.set_cons_succ, i64_w, i32_w]
          rfl
        refine one_ (i := 14) (N := (some 43)) #[true, true, true, true, true, true, true, true, true, true, true, true, true, true, true, true, true, true, true, true, false, false, false, false, false, false, false, false, false] rfl rfl (by kernel_rfl) (by decide) (fun K hK => ?_)
        refine Kd.R_append_step Kd.string (w0 := w) w.heap.size (by rfl) (.tmp 34) (.tmp 42) 56 9 (.string ⟨#[]⟩) 16 rfl Tryz.underlying56 info9 rfl (by decide) (by omega) v3 (cleanN (ks.take i) ns) (ns[i]) [.string ns[i]] (fun _ => True) (fun _ => False) rfl rfl ?aP (fun _ hk => hk.elim) ?aF ?aO ?aB ?aS ?aL ?_
        (case aP => exact rfl)
        (case aF => exact fun _ _ => trivial)
        (case aO => exact S1.out.r3)
        (case aB => exact S1.out.bel)
        (case aS => exact S1.out.bel.size)
        (case aL => have := LM.out; omega)
        intro v3q w2 ho hb hg hat
        obtain ⟨A3q, c3q, e3⟩ := Kd.R_slice ho
        obtain ⟨n3, hn3⟩ : ∃ n, n = (cleanN (ks.take i) ns ++ [ns[i]]).length := ⟨_, rfl⟩
        rw [← hn3] at e3
        subst e3
        clear hn3
        have S2 := Aside0.mk (S1.out.name ho hb hg hat)
        clear ho hb hg hat
        refine hK.out _ _ (HELD.out _ _ _ _ _ _ S2.out) (fun hHeld => ?_)
        clear hK K
        refine norm_ (a' := ?_) ?_ ?_
        rotate_left
        · show Act.put _ (some 43) _ = _
          simp only [Act.put, List.setIfInBounds_toArray, List.set_cons_zero, List.set_cons_succ, i64_w, i32_w]
          rfl
        refine one_ (i := 20) (N := (some 49)) #[true, true, true, true, true, true, true, true, true, true, true, true, true, true, true, true, true, true, true, true, true, false, false, false, false, false, false, false, false] rfl rfl (by kernel_rfl) (by decide) (fun K hK => ?_)
        refine goes_ Tryz.func61 (by kernel_rfl) rfl #[.pointer (some ⟨p, 0, none⟩)] (by rfl) rfl rfl (by (try simp only [List.map_toArray, List.map_cons, List.map_nil]); first | done | rfl) ?_
        with_reducible refine ((IH.out ks[i] HIm.out).go _ p F (KID.out _ S2.out.bel) (fun k hk => Nat.lt_of_lt_of_le (FLT.out k hk) S2.out.bel.size) FK.out CK.out).mono ?_
        rintro e w3 ⟨g3, rfl, hi3, hb⟩
        refine ⟨_, rfl, ?_⟩
        have G3 := Aside0.mk (S2.out.fresh FLT.out hb hi3)
        have S3 := Aside0.mk (S2.out.move hb)
        clear hi3 hb
        refine hK.out _ _ (HELD.out _ _ _ _ _ _ S3.out) (fun hHeld => ?_)
        clear hK K
        refine norm_ (a' := ?_) ?_ ?_
        rotate_left
        · show Act.put _ (some 49) _ = _
          simp only [Act.put, List.setIfInBounds_toArray, List.set_cons_zero, List.set_cons_succ, i64_w, i32_w]
          rfl
        refine one_ (i := 21) (N := (some 50)) #[true, true, true, true, true, true, true, true, true, true, true, true, true, true, true, true, true, true, true, true, true, true, false, false, false, false, false, false, false] rfl rfl (by kernel_rfl) (by decide) (fun K hK => ?_)
        refine value_ (w1 := ?_) (v := ?_) (by rfl) rfl ?_ ?_
        rotate_left 2
        · go_simp
          constructor
          · rfl
          · rfl
        refine hK.out _ _ (HELD.out _ _ _ _ _ _ (S3.out.move (below_alloc (Below.refl _ _) _))) (fun hHeld => ?_)
        clear hK K
        refine norm_ (a' := ?_) ?_ ?_
        rotate_left
        · show Act.put _ (some 50) _ = _
          simp only [Act.put, List.setIfInBounds_toArray, List.set_cons_zero, List.set_cons_succ, i64_w, i32_w]
          rfl
        refine one_ (i := 22) (N := (some 51)) #[true, true, true, true, true, true, true, true, true, true, true, true, true, true, true, true, true, true, true, true, true, true, true, false, false, false, false, false, false] rfl rfl (by kernel_rfl) (by decide) (fun K hK => ?_)
        refine Kd.R_append_step kQ (w0 := w) w.heap.size (by rfl) (.tmp 47) (.tmp 50) 57 55 (.pointer none) 8 rfl Tryz.underlying57 info55 rfl (by decide) (by omega) v4 ps g3 [.pointer (some ⟨g3, 0, none⟩)] (fun _ => True) (fun _ => False) rfl rfl ?aP (fun _ hk => hk.elim) ?aF ?aO ?aB ?aS ?aL ?_
        (case aP => exact rfl)
        (case aF => exact fun _ _ => trivial)
        (case aO => exact S3.out.r4)
        (case aB => exact S3.out.bel)
        (case aS => exact S3.out.bel.size)
        (case aL => have := LP.out; omega)
        intro v4q w4 ho hb hg hat
        obtain ⟨A4q, c4q, e4⟩ := Kd.R_slice ho
        obtain ⟨n4, hn4⟩ : ∃ n, n = (ps ++ [g3]).length := ⟨_, rfl⟩
        rw [← hn4] at e4
        subst e4
        clear hn4
        have S4 := Aside0.mk (S3.out.kid G3.out ho hb hg hat)
        clear ho hb hg hat
        refine hK.out _ _ (HELD.out _ _ _ _ _ _ S4.out) (fun hHeld => ?_)
        clear hK K
        refine norm_ (a' := ?_) ?_ ?_
        rotate_left
        · show Act.put _ (some 51) _ = _
          simp only [Act.put, List.setIfInBounds_toArray, List.set_cons_zero, List.set_cons_succ, i64_w, i32_w]
          rfl
        refine pure_ (i := 23) (N := (some 52)) (v := ?_) (a' := ?_) #[true, true, true, true, true, true, true, true, true, true, true, true, true, true, true, true, true, true, true, true, true, true, true, true, false, false, false, false, false] rfl rfl (by kernel_rfl) (fun _ _ _ h => h) (Or.inl ⟨by rfl, ?_⟩) ?_ ?_
        rotate_left
        · intro w'
          go_simp
          with_reducible rfl
        rotate_left
        · simp only [Act.put, List.setIfInBounds_toArray, List.set_cons_zero, List.set_cons_succ, i64_w, i32_w]
          rfl
        refine pure_ (i := 24) (N := (some 53)) (v := ?_) (a' := ?_) #[true, true, true, true, true, true, true, true, true, true, true, true, true, true, true, true, true, true, true, true, true, true, true, true, true, false, false, false, false] rfl rfl (by kernel_rfl) (fun _ _ _ h => h) (Or.inl ⟨by rfl, ?_⟩) ?_ ?_
        rotate_left
        · intro w'
          go_simp
          with_reducible rfl
        rotate_left
        · simp only [Act.put, List.setIfInBounds_toArray, List.set_cons_zero, List.set_cons_succ, i64_w, i32_w]
          rfl
        refine last_ (i := 25) (N := none) #[true, true, true, true, true, true, true, true, true, true, true, true, true, true, true, true, true, true, true, true, true, true, true, true, true, true, false, false, false] rfl rfl (by kernel_rfl) (by decide) (fun K hK => ?_)
        obtain ⟨hs, _, hfs, _⟩ := S4.out.cells
        refine skip_ (w1 := ?_) (by rfl) rfl ?_ ?_
        rotate_left
        · go_simp
          rfl
        refine hK.out _ _ ?_
        clear hK K hs hfs hHeld
        have S5' := S4.out.set3 (.slice A3q n3 c3q)
        obtain ⟨w5, hw5⟩ : ∃ w5, w5 = w4.setCell ⟨o, 3, none⟩ (.slice A3q n3 c3q) := ⟨_, rfl⟩
        rw [← hw5] at S5' ⊢
        have S5 := Aside0.mk S5'
        clear S5' hw5
        refine pure_ (i := 26) (N := (some 54)) (v := ?_) (a' := ?_) #[true, true, true, true, true, true, true, true, true, true, true, true, true, true, true, true, true, true, true, true, true, true, true, true, true, true, true, false, false] rfl rfl (by kernel_rfl) (fun _ _ _ h => h) (Or.inl ⟨by rfl, ?_⟩) ?_ ?_
        rotate_left
        · intro w'
          go_simp
          with_reducible rfl
        rotate_left
        · simp only [Act.put, List.setIfInBounds_toArray, List.set_cons_zero, List.set_cons_succ, i64_w, i32_w]
          rfl
        refine pure_ (i := 27) (N := (some 55)) (v := ?_) (a' := ?_) #[true, true, true, true, true, true, true, true, true, true, true, true, true, true, true, true, true, true, true, true, true, true, true, true, true, true, true, true, false] rfl rfl (by kernel_rfl) (fun _ _ _ h => h) (Or.inl ⟨by rfl, ?_⟩) ?_ ?_
        rotate_left
        · intro w'
          go_simp
          with_reducible rfl
        rotate_left
        · simp only [Act.put, List.setIfInBounds_toArray, List.set_cons_zero, List.set_cons_succ, i64_w, i32_w]
          rfl
        refine last_ (i := 28) (N := none) #[true, true, true, true, true, true, true, true, true, true, true, true, true, true, true, true, true, true, true, true, true, true, true, true, true, true, true, true, true] rfl rfl (by kernel_rfl) (by decide) (fun K hK => ?_)
        obtain ⟨_, hs, _, hfs⟩ := S5.out.cells
        refine skip_ (w1 := ?_) (by rfl) rfl ?_ ?_
        rotate_left
        · go_simp
          rfl
        refine hK.out _ _ ?_
        clear hK K hs hfs
        have S6' := S5.out.set4 (.slice A4q n4 c4q)
        obtain ⟨w6, hw6⟩ : ∃ w6, w6 = w5.setCell ⟨o, 4, none⟩ (.slice A4q n4 c4q) := ⟨_, rfl⟩
        rw [← hw6] at S6' ⊢
        have S6 := Aside0.mk S6'
        clear S6' hw6
        refine done_ (by kernel_rfl) ?_
        go_wp2
        go_roundg m
        case rel => exact ⟨i + 1, _, _, ps ++ [g3], by go_num, ⟨by have := HM.out; omega⟩, ⟨by rw [E1.out, E2.out, if_neg E3.out, if_neg E3.out]; exact S6.out⟩⟩
        case measure => omega
theorem clean_c : ∀ t, ClCall t := by
  intro t
  refine Tr.ind (P := ClCall) ?_ t
  intro kd nu tx ns ks ih
  by_cases h7 : kd = 7
  · subst h7; exact clean_map nu tx ns ks ih
  · exact clean_leaf kd nu tx ns ks h7
end Go.Proofs.YtemamcbdjfabnaaGreatDoor.VT
