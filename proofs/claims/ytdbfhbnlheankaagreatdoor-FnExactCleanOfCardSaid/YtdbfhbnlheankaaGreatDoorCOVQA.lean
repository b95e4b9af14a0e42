import Derived.Test.YtdbfhbnlheankaaGreatDoorCOVPB
import Derived.Test.YtdbfhbnlheankaaGreatDoorCOPVGx0
/- A tree that is read, within a set of blocks. Conditions: none. -/
namespace Go.Proofs.YtdbfhbnlheankaaGreatDoor.VT
open Go.RowKit Go.Proofs.YtdbfhbnlheankaaGreatDoor.PVG Go.Proofs.YtdbfhbnlheankaaGreatDoorW.PrintWords Go.Proofs.YtdbfhbnlheankaaGreatDoorW.PrintLast Go.Proofs.YtdbfhbnlheankaaGreatDoorW.PrintMore
set_option linter.unusedVariables false
set_option linter.unusedSimpArgs false
/-- A row of names within a set of blocks. -/
def NamesIn (w : World) (F : Nat → Prop) (A : Option Addr) (ns : List ByteArray) : Prop := ns.length ≤ maxLen ∧ (0 < ns.length → ∃ ad, A = some ad ∧ F ad.block) ∧ ∀ i (h : i < ns.length), ∃ ad, A = some ad ∧ w.cell? (ad.add i) = some (.string ns[i])
/-- A row of pointers within a set of blocks. -/
def PtrsIn (w : World) (F : Nat → Prop) (A : Option Addr) (n : Nat) (ps : Nat → Nat) : Prop := n ≤ maxLen ∧ (0 < n → ∃ ad, A = some ad ∧ F ad.block) ∧ ∀ i, i < n → ∃ ad, A = some ad ∧ w.cell? (ad.add i) = some (.pointer (some ⟨ps i, 0, none⟩))
inductive InV (w : World) (F : Nat → Prop) : Tr → Nat → Prop where
  | mk {kd nu : Int} {tx : ByteArray} {ns : List ByteArray} {ks : List Tr} {g : Nat} {A3 : Option Addr} {c3 : Nat} {A4 : Option Addr} {c4 : Nat} (ps : Nat → Nat)
      (hF : F g) (hg : w.heap[g]? = some (.cells #[.int .i64 kd, .int .i64 nu, .string tx, .slice A3 ns.length c3, .slice A4 ks.length c4] 92 (0, 0)))
      (l3 : ns.length ≤ c3) (g3 : NamesIn w F A3 ns) (l4 : ks.length ≤ c4) (g4 : PtrsIn w F A4 ks.length ps)
      (hk : ∀ i (h : i < ks.length), InV w F ks[i] (ps i)) : InV w F (.mk kd nu tx ns ks) g
theorem cell_same {w w' : World} {a : Addr} (h : w'.heap[a.block]? = w.heap[a.block]?) : w'.cell? a = w.cell? a := by
  unfold World.cell?
  rw [h]
theorem add_block (a : Addr) (n : Nat) : (a.add n).block = a.block := by unfold Addr.add; split <;> rfl
theorem NamesIn.move {w w' : World} {F : Nat → Prop} {A : Option Addr} {ns : List ByteArray} (h : NamesIn w F A ns) (hm : ∀ k, F k → w'.heap[k]? = w.heap[k]?) : NamesIn w' F A ns := by
  refine ⟨h.1, h.2.1, fun i hi => ?_⟩
  obtain ⟨ad, e, hc⟩ := h.2.2 i hi
  obtain ⟨ad', e', hF⟩ := h.2.1 (by omega)
  rw [e] at e'
  obtain rfl := Option.some.inj e'
  exact ⟨ad, e, (cell_same (a := ad.add i) (by rw [add_block]; exact hm _ hF)).trans hc⟩
theorem PtrsIn.move {w w' : World} {F : Nat → Prop} {A : Option Addr} {n : Nat} {ps : Nat → Nat} (h : PtrsIn w F A n ps) (hm : ∀ k, F k → w'.heap[k]? = w.heap[k]?) : PtrsIn w' F A n ps := by
  refine ⟨h.1, h.2.1, fun i hi => ?_⟩
  obtain ⟨ad, e, hc⟩ := h.2.2 i hi
  obtain ⟨ad', e', hF⟩ := h.2.1 (by omega)
  rw [e] at e'
  obtain rfl := Option.some.inj e'
  exact ⟨ad, e, (cell_same (a := ad.add i) (by rw [add_block]; exact hm _ hF)).trans hc⟩
theorem InV.move {w w' : World} {F : Nat → Prop} {t : Tr} {g : Nat} (h : InV w F t g) (hm : ∀ k, F k → w'.heap[k]? = w.heap[k]?) : InV w' F t g := by
  induction h with
  | mk ps hF hg l3 g3 l4 g4 hk ih => exact .mk ps hF ((hm _ hF).trans hg) l3 (g3.move hm) l4 (g4.move hm) ih
theorem InV.mono {w : World} {F G : Nat → Prop} {t : Tr} {g : Nat} (h : InV w F t g) (hm : ∀ k, F k → G k) : InV w G t g := by
  induction h with
  | mk ps hF hg l3 g3 l4 g4 hk ih => exact .mk ps (hm _ hF) hg l3 ⟨g3.1, fun h0 => let ⟨ad, e, f⟩ := g3.2.1 h0; ⟨ad, e, hm _ f⟩, g3.2.2⟩ l4 ⟨g4.1, fun h0 => let ⟨ad, e, f⟩ := g4.2.1 h0; ⟨ad, e, hm _ f⟩, g4.2.2⟩ ih
theorem InV.is {w : World} {F : Nat → Prop} {t : Tr} {g : Nat} (h : InV w F t g) : IsV w g t := by
  induction h with
  | @mk kd nu tx ns ks g A3 c3 A4 c4 ps hF hg l3 g3 l4 g4 hk ih =>
    refine kP_mk w _ hg l3 ⟨rfl, g3.1, fun h0 => ?_⟩ l4 ⟨rfl, g4.1, fun h0 => ?_⟩
    · obtain ⟨ad, e, _⟩ := g3.2.1 h0
      refine ⟨ad, e, fun i x hx => ⟨[.string x], rfl, rfl, fun j u hu => ?_⟩⟩
      obtain ⟨hi, rfl⟩ := List.getElem?_eq_some_iff.1 hx
      obtain ⟨ad', e', hc⟩ := g3.2.2 i hi
      rw [e] at e'
      obtain rfl := Option.some.inj e'
      cases j with
      | zero =>
        simp at hu
        subst hu
        have : i * Kd.string.sz + 0 = i := by show i * 1 + 0 = i; omega
        rw [this]; exact hc
      | succ j => simp at hu
    · obtain ⟨ad, e, _⟩ := g4.2.1 h0
      refine ⟨ad, e, fun i x hx => ?_⟩
      obtain ⟨hi, rfl⟩ := List.getElem?_eq_some_iff.1 hx
      obtain ⟨ad', e', hc⟩ := g4.2.2 i hi
      rw [e] at e'
      obtain rfl := Option.some.inj e'
      refine ⟨[.pointer (some ⟨ps i, 0, none⟩)], rfl, ih i hi, fun j u hu => ?_⟩
      cases j with
      | zero =>
        simp at hu
        subst hu
        have : i * kP.sz + 0 = i := by show i * 1 + 0 = i; omega
        rw [this]; exact hc
      | succ j => simp at hu
/-- What is read lies in memory. -/
theorem IsV.in_ : ∀ (t : Tr) {w : World} {g : Nat}, IsV w g t → InV w (fun k => k < w.heap.size) t g := by
  intro t
  refine Tr.ind (P := fun t => ∀ {w : World} {g : Nat}, IsV w g t → InV w (fun k => k < w.heap.size) t g) ?_ t
  intro kd nu tx ns ks ih w g hv
  obtain ⟨A3, c3, A4, c4, ha⟩ := hv.at_
  have hkid : ∀ i (h : i < ks.length), ∃ p, (∃ ad, A4 = some ad ∧ w.cell? (ad.add i) = some (.pointer (some ⟨p, 0, none⟩))) ∧ IsV w p ks[i] := fun i h => by
    obtain ⟨ad, p, e, hc, hi⟩ := ha.kid i h
    exact ⟨p, ⟨ad, e, hc⟩, hi⟩
  have hnam : ∀ i (h : i < ns.length), ∃ ad, A3 = some ad ∧ w.cell? (ad.add i) = some (.string ns[i]) := fun i h => ha.name i h
  refine .mk (fun i => if h : i < ks.length then Classical.choose (hkid i h) else 0) ha.lt ha.hg ha.l3 ⟨ha.g3.2.1, fun h0 => ?_, hnam⟩ ha.l4 ⟨ha.g4.2.1, fun h0 => ?_, fun i h => ?_⟩ (fun i h => ?_)
  · obtain ⟨ad, e, hc⟩ := hnam 0 h0
    exact ⟨ad, e, World.block_lt_of_cell? w (ad.add 0) hc⟩
  · obtain ⟨p, ⟨ad, e, hc⟩, _⟩ := hkid 0 h0
    exact ⟨ad, e, World.block_lt_of_cell? w (ad.add 0) hc⟩
  · simp only [dif_pos h]
    exact (Classical.choose_spec (hkid i h)).1
  · simp only [dif_pos h]
    exact ih _ (List.getElem_mem h) (Classical.choose_spec (hkid i h)).2
end Go.Proofs.YtdbfhbnlheankaaGreatDoor.VT
