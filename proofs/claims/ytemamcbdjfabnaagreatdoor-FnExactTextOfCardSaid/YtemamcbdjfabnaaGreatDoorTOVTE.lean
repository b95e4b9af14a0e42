import Derived.Test.YtemamcbdjfabnaaGreatDoorTOVTQ
import Derived.Test.YtemamcbdjfabnaaGreatDoorTOPVGx4
/- The reference's list of parts, its texts: what the printed functions answer on the nodes of a right tree. Conditions: none. -/
namespace Go.Proofs.YtemamcbdjfabnaaGreatDoor.VT
open Go.RowKit Go.Proofs.YtemamcbdjfabnaaGreatDoor.PVG Go.Proofs.YtemamcbdjfabnaaGreatDoorW.PrintWords
set_option linter.unusedVariables false
set_option linter.unusedSimpArgs false
/-- What stands behind a part points elsewhere. -/
def Out (l : List S54) (k e : Nat) : Prop := ∀ j, e ≤ j → j < l.length → (nd l j).f4 < (k : Int) ∨ (e : Int) ≤ (nd l j).f4
def starts : List Tr → Nat → List Nat
  | [], _ => []
  | t :: ts, e => e :: starts ts (e + cnt t)
theorem cnt_ge_len (ts : List Tr) : ts.length ≤ cntL ts := by
  induction ts with
  | nil => simp
  | cons t ts ih => have := cnt_pos t; simp [cntL]; omega
/-- The parts of k among the nodes of its parts. -/
theorem filter_kids {l : List S54} {m : Bool} : ∀ (ts : List Tr) (ns : List ByteArray) (k e : Nat), k < e → At l e (flatL ts m ns k e) → (List.range' e (cntL ts)).filter (fun j => decide ((nd l j).f4 = (k : Int))) = starts ts e
  | [], _, _, _, _, _ => by simp [cntL, starts]
  | t :: ts, ns, k, e, hke, hat => by
    rw [flatL, At.app, flat_len] at hat
    have hp := cnt_pos t
    have ih := filter_kids ts ns.tail k (e + cnt t) (by omega) hat.2
    rw [cntL, ← List.range'_append_1, List.filter_append, ih, starts]
    have : (List.range' e (cnt t)).filter (fun j => decide ((nd l j).f4 = (k : Int))) = [e] := by
      obtain ⟨c, hc⟩ : ∃ c, cnt t = c + 1 := ⟨cnt t - 1, by omega⟩
      rw [hc, List.range'_succ, List.filter_cons, if_pos (by rw [nd_flat hat.1]; simp)]
      congr 1
      rw [List.filter_eq_nil_iff]
      intro j hj
      rw [List.mem_range'_1] at hj
      have := nd_ups hat.1 j (by omega) (by omega)
      simp
      omega
    rw [this]
    rfl
theorem filter_out {l : List S54} {k e m : Nat} (ho : Out l k e) (hke : k < e) (hm : e + m = l.length) : (List.range' e m).filter (fun j => decide ((nd l j).f4 = (k : Int))) = [] := by
  rw [List.filter_eq_nil_iff]
  intro j hj
  rw [List.mem_range'_1] at hj
  have := ho j (by omega) (by omega)
  simp
  omega
theorem kids_go {l : List S54} {u : Int} : ∀ (m i : Nat) (acc : List Int) (f : Nat), i + m = l.length → acc.length + m < 17592186044416 → l.length < 4611686018427387904 → m < f →
    spec_l1Kids.l0 f u acc i l = some (acc ++ ((List.range' i m).filter (fun j => decide ((nd l j).f4 = u))).map (fun (j : Nat) => (j : Int)))
  | 0, i, acc, f, h1, h2, h3, hf => by
    obtain ⟨f, rfl⟩ : ∃ g, f = g + 1 := ⟨f - 1, by omega⟩
    rw [spec_l1Kids.l0, if_neg (by omega)]
    simp
  | m + 1, i, acc, f, h1, h2, h3, hf => by
    obtain ⟨f, rfl⟩ : ∃ g, f = g + 1 := ⟨f - 1, by omega⟩
    have hw : wrap64 ((i : Int) + 1) = ((i + 1 : Nat) : Int) := by unfold wrap64; omega
    rw [spec_l1Kids.l0, if_pos (by omega), if_pos (by omega), hw]
    have hr : rd_T54 l (i : Int) = nd l i := rfl
    rw [hr, List.range'_succ, List.filter_cons]
    by_cases h : (nd l i).f4 = u
    · rw [if_pos h, if_pos (by omega), kids_go m (i + 1) (acc ++ [(i : Int)]) f (by omega) (by simp; omega) h3 (by omega)]
      simp [h]
    · rw [if_neg h, kids_go m (i + 1) acc f (by omega) (by omega) h3 (by omega)]
      simp [h]
/-- A right part's place among the nodes. -/
structure Pl (l : List S54) (k : Nat) (t : Tr) (nm : ByteArray) (up : Int) : Prop where
  at_ : At l k (flat t nm up k)
  out : Out l k (k + cnt t)
  wf_ : wf t = true
  len : l.length ≤ 80
theorem Pl.lt {l : List S54} {k : Nat} {t : Tr} {nm : ByteArray} {up : Int} (h : Pl l k t nm up) : k + cnt t ≤ l.length := by
  have := h.at_.le (by rw [flat_len]; exact cnt_pos t)
  rwa [flat_len] at this
theorem Pl.kids {l : List S54} {k : Nat} {t : Tr} {nm : ByteArray} {up : Int} (h : Pl l k t nm up) : ∀ f, 100 ≤ f → spec_l1Kids.f f l k = some ((starts t.ks (k + 1)).map fun (j : Nat) => (j : Int)) := by
  intro f hf
  have hlt := h.lt
  have hp := cnt_pos t
  have hlen := h.len
  have hw : wrap64 ((k : Int) + 1) = ((k + 1 : Nat) : Int) := by unfold wrap64; omega
  unfold spec_l1Kids.f
  rw [hw, kids_go (l.length - (k + 1)) (k + 1) [] f (by omega) (by simp; omega) (by omega) (by omega)]
  have hat := h.at_
  have hout := h.out
  cases t with
  | mk kd nu tx ns ks =>
    rw [flat, At.cons] at hat
    simp only [cnt] at hlt hout
    have e : l.length - (k + 1) = cntL ks + (l.length - (k + 1 + cntL ks)) := by omega
    rw [e, ← List.range'_append_1, List.filter_append, filter_kids ks ns k (k + 1) (by omega) hat.2, filter_out (by rw [Nat.add_assoc]; exact hout) (by omega) (by omega)]
    simp [Tr.ks]
theorem Pl.root {t : Tr} (h : wf t = true) (hc : cnt t ≤ 80) : Pl (flat t nil_ (-1) 0) 0 t nil_ (-1) :=
  ⟨At.self _, fun j h1 h2 => by rw [flat_len] at h2; omega, h, by rw [flat_len]; exact hc⟩
end Go.Proofs.YtemamcbdjfabnaaGreatDoor.VT
