import Derived.Test.YtdbfhbnlheankaaGreatDoorCOVQC
import Derived.Test.YtdbfhbnlheankaaGreatDoorCOPVGx0
/- clean, walked: what stands in memory while a map is cleaned. Conditions: none. -/
namespace Go.Proofs.YtdbfhbnlheankaaGreatDoor.VT
open Go.RowKit Go.Proofs.YtdbfhbnlheankaaGreatDoor.PVG Go.Proofs.YtdbfhbnlheankaaGreatDoorW.PrintWords Go.Proofs.YtdbfhbnlheankaaGreatDoorW.PrintLast Go.Proofs.YtdbfhbnlheankaaGreatDoorW.PrintMore
set_option linter.unusedVariables false
set_option linter.unusedSimpArgs false
theorem ClCall.go {t : Tr} (h : ClCall t) (w : World) (g : Nat) (F : Nat → Prop) (h1 : InV w F t g) (h2 : ∀ k, F k → k < w.heap.size) (h3 : fit t = true) (h4 : cnt t ≤ 1073741824) :
  Calls Tryz.prog 36 #[.pointer (some ⟨g, 0, none⟩)] w fun e w' => ∃ g', e = .returned (.pointer (some ⟨g', 0, none⟩)) ∧ InV w' (fun k => F k ∨ w.heap.size ≤ k) (cleanT t) g' ∧ Below w.heap.size w w' := h w g F h1 h2 h3 h4
/-- A pointer to a struct, as it stands. -/
def kQ : Kd Nat := Kd.scalar (fun p => Value.pointer (some ⟨p, 0, none⟩)) (fun _ => rfl)
theorem cleanK_app : ∀ (a b : List Tr), cleanK (a ++ b) = cleanK a ++ cleanK b
  | [], b => by simp [cleanK]
  | t :: ts, b => by
    rw [List.cons_append, cleanK, cleanK, cleanK_app ts b]
    by_cases h : t.kd = 1
    · rw [if_pos h, if_pos h]
    · rw [if_neg h, if_neg h]; rfl
theorem cleanN_app : ∀ (a b : List Tr) (ns : List ByteArray), cleanN (a ++ b) ns = cleanN a ns ++ cleanN b (ns.drop a.length)
  | [], b, ns => by simp [cleanN]
  | t :: ts, b, ns => by
    have hd : (ns.tail).drop ts.length = ns.drop (ts.length + 1) := by rw [← List.drop_one, List.drop_drop]; congr 1; omega
    rw [List.cons_append, cleanN, cleanN, cleanN_app ts b, hd, List.length_cons]
    by_cases h : t.kd = 1
    · rw [if_pos h, if_pos h]
    · rw [if_neg h, if_neg h]; rfl
theorem cleanN_le : ∀ (a : List Tr) (ns : List ByteArray), (cleanN a ns).length ≤ a.length
  | [], ns => by simp [cleanN]
  | t :: ts, ns => by
    have := cleanN_le ts ns.tail
    rw [cleanN]
    by_cases h : t.kd = 1
    · rw [if_pos h]; simp; omega
    · rw [if_neg h]; simp; omega
theorem cleanK_step {ks : List Tr} {i : Nat} (h : i < ks.length) : cleanK (ks.take (i + 1)) = if ks[i].kd = 1 then cleanK (ks.take i) else cleanK (ks.take i) ++ [cleanT ks[i]] := by
  rw [List.take_succ_eq_append_getElem h, cleanK_app, cleanK, cleanK]
  by_cases h1 : ks[i].kd = 1
  · rw [if_pos h1, if_pos h1, List.append_nil]
  · rw [if_neg h1, if_neg h1]
theorem cleanN_step {ks : List Tr} {ns : List ByteArray} {i : Nat} (h : i < ks.length) (h2 : i < ns.length) : cleanN (ks.take (i + 1)) ns = if ks[i].kd = 1 then cleanN (ks.take i) ns else cleanN (ks.take i) ns ++ [ns[i]] := by
  rw [List.take_succ_eq_append_getElem h, cleanN_app, cleanN, cleanN]
  have e : (ns.drop (ks.take i).length).headD nil_ = ns[i] := by
    rw [List.length_take, Nat.min_eq_left (by omega), List.headD_eq_head?_getD, List.head?_drop, List.getElem?_eq_getElem h2]
    rfl
  by_cases h1 : ks[i].kd = 1
  · rw [if_pos h1, if_pos h1, List.append_nil]
  · rw [if_neg h1, if_neg h1, e]
theorem NamesIn.bound {w : World} {F : Nat → Prop} {A : Option Addr} {ns : List ByteArray} (h : NamesIn w F A ns) : NamesIn w (fun k => F k ∧ k < w.heap.size) A ns := by
  refine ⟨h.1, fun h0 => ?_, h.2.2⟩
  obtain ⟨ad, e, hF⟩ := h.2.1 h0
  obtain ⟨ad', e', hc⟩ := h.2.2 0 h0
  rw [e] at e'
  obtain rfl := Option.some.inj e'
  exact ⟨ad, e, hF, by have := World.block_lt_of_cell? w (ad.add 0) hc; rwa [add_block] at this⟩
theorem PtrsIn.bound {w : World} {F : Nat → Prop} {A : Option Addr} {n : Nat} {ps : Nat → Nat} (h : PtrsIn w F A n ps) : PtrsIn w (fun k => F k ∧ k < w.heap.size) A n ps := by
  refine ⟨h.1, fun h0 => ?_, h.2.2⟩
  obtain ⟨ad, e, hF⟩ := h.2.1 h0
  obtain ⟨ad', e', hc⟩ := h.2.2 0 h0
  rw [e] at e'
  obtain rfl := Option.some.inj e'
  exact ⟨ad, e, hF, by have := World.block_lt_of_cell? w (ad.add 0) hc; rwa [add_block] at this⟩
theorem InV.bound {w : World} {F : Nat → Prop} {t : Tr} {g : Nat} (h : InV w F t g) : InV w (fun k => F k ∧ k < w.heap.size) t g := by
  induction h with
  | mk ps hF hg l3 g3 l4 g4 hk ih => exact .mk ps ⟨hF, blk_lt hg⟩ hg l3 g3.bound l4 g4.bound ih
/-- What stands in memory: the struct o that is made (its rows as they are stored: u3, u4), the row of names, the row of pointers, the parts that are done. -/
structure Cl (w : World) (F : Nat → Prop) (o : Nat) (u3 u4 v3 : Value) (ms : List ByteArray) (v4 : Value) (ps : List Nat) (cs : List Tr) (W : World) : Prop where
  bel : Below w.heap.size w W
  ge : w.heap.size ≤ o
  ob : W.heap[o]? = some (.cells #[.int .i64 7, .int .i64 0, .string nil_, u3, u4] 92 (0, 0))
  r3 : Kd.R Kd.string 9 W w.heap.size (fun _ => True) v3 ms
  r4 : Kd.R kQ 53 W w.heap.size (fun _ => True) v4 ps
  len : ps.length = cs.length
  kids : ∀ j (h : j < cs.length) (h2 : j < ps.length), InV W (fun k => (F k ∨ w.heap.size ≤ k) ∧ k ≠ o ∧ some k ≠ v3.ownBlock ∧ some k ≠ v4.ownBlock ∧ k < W.heap.size) cs[j] ps[j]
section
variable {w W W' : World} {F : Nat → Prop} {o : Nat} {u3 u4 v3 v4 : Value} {ms : List ByteArray} {ps : List Nat} {cs : List Tr}
theorem Cl.move (h : Cl w F o u3 u4 v3 ms v4 ps cs W) (hb : Below W.heap.size W W') : Cl w F o u3 u4 v3 ms v4 ps cs W' :=
  ⟨below_step h.bel hb, h.ge, blk_below h.ob hb, Kd.R_below h.r3 hb, Kd.R_below h.r4 hb, h.len, fun j a b =>
    ((h.kids j a b).move (fun k hk => hb.block k hk.2.2.2.2)).mono (fun k hk => ⟨hk.1, hk.2.1, hk.2.2.1, hk.2.2.2.1, Nat.lt_of_lt_of_le hk.2.2.2.2 hb.size⟩)⟩
theorem Cl.lt (h : Cl w F o u3 u4 v3 ms v4 ps cs W) : o < W.heap.size := blk_lt h.ob
/-- The names have grown. -/
theorem Cl.name (h : Cl w F o u3 u4 v3 ms v4 ps cs W) {v3' : Value} {ms' : List ByteArray} (hr : Kd.R Kd.string 9 W' w.heap.size (fun _ => True) v3' ms') (hb : Below w.heap.size w W') (hg : W.grownBy W' v3.ownBlock) (hat : v3'.ownBlock = v3.ownBlock ∨ ∃ b, v3'.ownBlock = some b ∧ W.heap.size ≤ b) :
    Cl w F o u3 u4 v3' ms' v4 ps cs W' := by
  refine ⟨hb, h.ge, blk_grown h.ob hg (Kd.R_ne h.r3 h.ob (by decide)), hr, ?_, h.len, fun j a b => ?_⟩
  · exact Kd.R_over h.r4 h.r3 (by decide) hg
  · refine ((h.kids j a b).move (fun k hk => hg.block k hk.2.2.2.2 hk.2.2.1)).mono (fun k hk => ⟨hk.1, hk.2.1, ?_, hk.2.2.2.1, Nat.lt_of_lt_of_le hk.2.2.2.2 hg.size⟩)
    rcases hat with e | ⟨b2, e, hb2⟩
    · rw [e]; exact hk.2.2.1
    · rw [e]; intro e2; cases e2; have := hk.2.2.2.2; omega
/-- A part is appended: t behind p, which was made (or read) behind the struct and the rows. -/
theorem Cl.kid (h : Cl w F o u3 u4 v3 ms v4 ps cs W) {v4' : Value} {p : Nat} {t : Tr} (hp : InV W (fun k => (F k ∨ w.heap.size ≤ k) ∧ k ≠ o ∧ some k ≠ v3.ownBlock ∧ some k ≠ v4.ownBlock ∧ k < W.heap.size) t p) (hr : Kd.R kQ 53 W' w.heap.size (fun _ => True) v4' (ps ++ [p])) (hb : Below w.heap.size w W') (hg : W.grownBy W' v4.ownBlock) (hat : v4'.ownBlock = v4.ownBlock ∨ ∃ b, v4'.ownBlock = some b ∧ W.heap.size ≤ b) :
    Cl w F o u3 u4 v3 ms v4' (ps ++ [p]) (cs ++ [t]) W' := by
  have mv : ∀ {s : Tr} {q : Nat}, InV W (fun k => (F k ∨ w.heap.size ≤ k) ∧ k ≠ o ∧ some k ≠ v3.ownBlock ∧ some k ≠ v4.ownBlock ∧ k < W.heap.size) s q → InV W' (fun k => (F k ∨ w.heap.size ≤ k) ∧ k ≠ o ∧ some k ≠ v3.ownBlock ∧ some k ≠ v4'.ownBlock ∧ k < W'.heap.size) s q := by
    intro s q hi
    refine (hi.move (fun k hk => hg.block k hk.2.2.2.2 hk.2.2.2.1)).mono (fun k hk => ⟨hk.1, hk.2.1, hk.2.2.1, ?_, Nat.lt_of_lt_of_le hk.2.2.2.2 hg.size⟩)
    rcases hat with e | ⟨b2, e, hb2⟩
    · rw [e]; exact hk.2.2.2.1
    · rw [e]; intro e2; cases e2; have := hk.2.2.2.2; omega
  refine ⟨hb, h.ge, blk_grown h.ob hg (Kd.R_ne h.r4 h.ob (by decide)), Kd.R_over h.r3 h.r4 (by decide) hg, hr, by simp [h.len], fun j a b => ?_⟩
  by_cases hj : j < cs.length
  · rw [List.getElem_append_left hj, List.getElem_append_left (by rw [h.len]; exact hj)]
    exact mv (h.kids j hj (by rw [h.len]; exact hj))
  · have : j = cs.length := by simp at a; omega
    subst this
    rw [List.getElem_append_right (by omega), List.getElem_append_right (by rw [h.len]; exact Nat.le_refl _)]
    simp only [h.len, Nat.sub_self, List.getElem_cons_zero]
    exact mv hp
theorem Cl.set3 (h : Cl w F o u3 u4 v3 ms v4 ps cs W) (x : Value) : Cl w F o x u4 v3 ms v4 ps cs (W.setCell ⟨o, 3, none⟩ x) := by
  refine ⟨below_set h.bel h.ge, h.ge, ?_, Kd.R_mono (Kd.R_far (Kd.R_types h.r3 h.ob (by decide)) (fun k hk => hk.2) x) (fun _ _ => trivial), Kd.R_mono (Kd.R_far (Kd.R_types h.r4 h.ob (by decide)) (fun k hk => hk.2) x) (fun _ _ => trivial), h.len, fun j a b => ?_⟩
  · have := blk_set h.ob 3 x
    simpa using this
  · exact ((h.kids j a b).move (fun k hk => Below.heap_setCell W ⟨o, 3, none⟩ x k hk.2.1)).mono (fun k hk => ⟨hk.1, hk.2.1, hk.2.2.1, hk.2.2.2.1, by simpa using hk.2.2.2.2⟩)
theorem Cl.set4 (h : Cl w F o u3 u4 v3 ms v4 ps cs W) (x : Value) : Cl w F o u3 x v3 ms v4 ps cs (W.setCell ⟨o, 4, none⟩ x) := by
  refine ⟨below_set h.bel h.ge, h.ge, ?_, Kd.R_mono (Kd.R_far (Kd.R_types h.r3 h.ob (by decide)) (fun k hk => hk.2) x) (fun _ _ => trivial), Kd.R_mono (Kd.R_far (Kd.R_types h.r4 h.ob (by decide)) (fun k hk => hk.2) x) (fun _ _ => trivial), h.len, fun j a b => ?_⟩
  · have := blk_set h.ob 4 x
    simpa using this
  · exact ((h.kids j a b).move (fun k hk => Below.heap_setCell W ⟨o, 4, none⟩ x k hk.2.1)).mono (fun k hk => ⟨hk.1, hk.2.1, hk.2.2.1, hk.2.2.2.1, by simpa using hk.2.2.2.2⟩)
/-- The cells that a round reads. -/
theorem Cl.cells (h : Cl w F o u3 u4 v3 ms v4 ps cs W) : W.cell? ⟨o, 3, none⟩ = some u3 ∧ W.cell? ⟨o, 4, none⟩ = some u4 ∧ W.frozen? ⟨o, 3, none⟩ = false ∧ W.frozen? ⟨o, 4, none⟩ = false :=
  ⟨(blk_cell h.ob 3).trans rfl, (blk_cell h.ob 4).trans rfl, blk_frozen h.ob 3, blk_frozen h.ob 4⟩
/-- A part that was made behind W. -/
theorem Cl.fresh (h : Cl w F o u3 u4 v3 ms v4 ps cs W) (hF : ∀ k, F k → k < w.heap.size) {W2 : World} (hb : Below W.heap.size W W2) {t : Tr} {p : Nat} (hi : InV W2 (fun k => F k ∨ W.heap.size ≤ k) t p) :
    InV W2 (fun k => (F k ∨ w.heap.size ≤ k) ∧ k ≠ o ∧ some k ≠ v3.ownBlock ∧ some k ≠ v4.ownBlock ∧ k < W2.heap.size) t p := by
  have h3 : ∀ k, v3.ownBlock = some k → w.heap.size ≤ k ∧ k < W.heap.size := fun k e => ⟨(Kd.R_bound h.r3).1 k e |>.2.1, Kd.R_lt h.r3 k e⟩
  have h4 : ∀ k, v4.ownBlock = some k → w.heap.size ≤ k ∧ k < W.heap.size := fun k e => ⟨(Kd.R_bound h.r4).1 k e |>.2.1, Kd.R_lt h.r4 k e⟩
  refine hi.bound.mono (fun k hk => ?_)
  have ho := h.lt
  have hge := h.ge
  have hs := h.bel.size
  rcases hk.1 with hk1 | hk1
  · have := hF k hk1
    exact ⟨.inl hk1, by omega, fun e => by have := h3 k e.symm; omega, fun e => by have := h4 k e.symm; omega, hk.2⟩
  · exact ⟨.inr (by omega), by omega, fun e => by have := h3 k e.symm; omega, fun e => by have := h4 k e.symm; omega, hk.2⟩
end
end Go.Proofs.YtdbfhbnlheankaaGreatDoor.VT
