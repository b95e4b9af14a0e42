import Derived.Test.YtdbfhbnlheankaaGreatDoorCOVTH
import Derived.Test.YtdbfhbnlheankaaGreatDoorCOPVGx0
import Derived.Test.YtdbfhbnlheankaaGreatDoorCOPVGx1
import Derived.Test.YtdbfhbnlheankaaGreatDoorCOPVGx2
import Derived.Test.YtdbfhbnlheankaaGreatDoorCOVQA
import Derived.Test.YtdbfhbnlheankaaGreatDoorCOVCL
import Derived.Test.YtdbfhbnlheankaaGreatDoorCOPVGx6
/- What the laws' own helpers answer: the weight, the turning, the same. Conditions: texts of no more than the longest. -/
namespace Go.Proofs.YtdbfhbnlheankaaGreatDoor.VT
open Go.RowKit Go.Proofs.YtdbfhbnlheankaaGreatDoor.PVG Go.Proofs.YtdbfhbnlheankaaGreatDoorW.PrintWords
set_option linter.unusedVariables false
set_option linter.unusedSimpArgs false
def tov (l : List S79) : List S82 := l.map fun x => ⟨x.f0, x.f1, x.f2, x.f3, x.f4⟩
theorem tov_len (l : List S79) : (tov l).length = l.length := by simp [tov]
theorem rd79 {l : List S79} {i : Nat} (h : i < l.length) : rd_T79 l (i : Int) = l[i] := by
  unfold rd_T79
  rw [Int.toNat_natCast, List.getD_eq_getElem?_getD, List.getElem?_eq_getElem h]
  rfl
/-- Rows that the laws' helpers can take. -/
def Fits (l : List S79) : Prop := l.length ≤ maxLen ∧ ∀ x, x ∈ l → x.f2.size ≤ maxLen ∧ x.f3.size ≤ maxLen
theorem szNode_f {c d : ByteArray} {n : Int} (a b e : Int) (hn : 0 ≤ n ∧ n ≤ 1048576) (hc : c.size ≤ maxLen) (hd : d.size ≤ maxLen) :
    laws_szNode.f a b c d e n = some (if n - c.size < 0 then -1 else if n - c.size - d.size < 0 then -1 else n - c.size - d.size) := by
  unfold maxLen at hc hd
  have w1 : wrap64 (n - (c.size : Int)) = n - c.size := by unfold wrap64; omega
  unfold laws_szNode.f
  rw [w1]
  by_cases h1 : n - (c.size : Int) < 0
  · rw [if_pos h1, if_pos h1]
  · have w2 : wrap64 (n - (c.size : Int) - (d.size : Int)) = n - c.size - d.size := by unfold wrap64; omega
    rw [if_neg h1, if_neg h1, w2]
    by_cases h2 : n - (c.size : Int) - (d.size : Int) < 0
    · rw [if_pos h2, if_pos h2]
    · rw [if_neg h2, if_neg h2]
theorem sz_go {l : List S79} (hl : Fits l) : ∀ (m i : Nat) (n : Int), i + m = l.length → 0 ≤ n ∧ n ≤ 1048576 → ∃ r, Ev (fun f => laws_szNodeS.l0 f l n (i : Int)) r ∧ r ≤ n ∧ (0 ≤ r → ∀ j (h : j < l.length), i ≤ j → l[j].f2.size ≤ 1048576 ∧ l[j].f3.size ≤ 1048576) := by
  intro m
  induction m with
  | zero =>
    intro i n hi hn
    refine ⟨n, Ev.step (f := fun _ => some n) (fun f => ?_) (Ev.now _), by omega, fun _ j h1 h2 => by omega⟩
    rw [laws_szNodeS.l0, if_neg (by omega)]
  | succ m ih =>
    intro i n hi hn
    have hil : i < l.length := by omega
    obtain ⟨hL, hx⟩ := hl
    obtain ⟨hc, hd⟩ := hx _ (List.getElem_mem hil)
    have hs := szNode_f l[i].f0 l[i].f1 l[i].f4 hn hc hd
    have hw : wrap64 ((i : Int) + 1) = ((i + 1 : Nat) : Int) := by unfold maxLen at hL; unfold wrap64; omega
    by_cases h1 : n - (l[i].f2.size : Int) < 0
    · rw [if_pos h1] at hs
      refine ⟨-1, Ev.step (f := fun _ => some (-1)) (fun f => ?_) (Ev.now _), by omega, fun h => by omega⟩
      rw [laws_szNodeS.l0, if_pos (by omega), if_pos (by omega), rd79 hil, hs]
      rfl
    · rw [if_neg h1] at hs
      by_cases h2 : n - (l[i].f2.size : Int) - (l[i].f3.size : Int) < 0
      · rw [if_pos h2] at hs
        refine ⟨-1, Ev.step (f := fun _ => some (-1)) (fun f => ?_) (Ev.now _), by omega, fun h => by omega⟩
        rw [laws_szNodeS.l0, if_pos (by omega), if_pos (by omega), rd79 hil, hs]
        rfl
      · rw [if_neg h2] at hs
        obtain ⟨r, e1, e2, e3⟩ := ih (i + 1) (n - (l[i].f2.size : Int) - (l[i].f3.size : Int)) (by omega) (by omega)
        refine ⟨r, Ev.step (fun f => ?_) e1, by omega, fun hr j hj hij => ?_⟩
        · rw [laws_szNodeS.l0, if_pos (by omega), if_pos (by omega), rd79 hil, hs]
          show (if _ then _ else _) = _
          rw [if_neg h2, hw]
        · by_cases hji : j = i
          · subst hji; constructor <;> omega
          · exact e3 hr j hj (by omega)
theorem sz_ev {l : List S79} (hl : Fits l) : ∃ r, Ev (fun f => laws_szValue.f f l 1048576) r ∧ (0 ≤ r → Small (tov l) ∧ l.length ≤ 1048576) := by
  have hL := hl.1
  have hw : wrap64 (1048576 - (l.length : Int)) = 1048576 - l.length := by unfold maxLen at hL; unfold wrap64; omega
  by_cases h1 : 1048576 - (l.length : Int) < 0
  · refine ⟨-1, Ev.congr (f := fun _ => some (-1)) (fun f => ?_) (Ev.now _), fun h => by omega⟩
    unfold laws_szValue.f laws_szNodeS.f
    rw [hw, if_pos h1]
    rfl
  · obtain ⟨r, e1, e2, e3⟩ := sz_go hl l.length 0 (1048576 - l.length) (by omega) (by omega)
    refine ⟨if r < 0 then -1 else r, Ev.congr (f := fun f => (laws_szNodeS.l0 f l (1048576 - l.length) 0).bind fun t114 => if t114 < 0 then some (-1) else some t114) (fun f => ?_) (Ev.bind e1 ?_), fun hr => ?_⟩
    · unfold laws_szValue.f laws_szNodeS.f
      rw [hw, if_neg h1]
    · by_cases hr : r < 0
      · simp only [if_pos hr]; exact Ev.now _
      · simp only [if_neg hr]; exact Ev.now _
    · have hr0 : 0 ≤ r := by
        by_cases hh : r < 0
        · rw [if_pos hh] at hr; omega
        · omega
      refine ⟨⟨by rw [tov_len]; omega, fun x hx => ?_⟩, by omega⟩
      obtain ⟨y, hy, rfl⟩ := List.mem_map.1 hx
      obtain ⟨j, hj, rfl⟩ := List.getElem_of_mem hy
      obtain ⟨g1, g2⟩ := e3 hr0 j hj (by omega)
      exact ⟨by show l[j].f2.size ≤ _; omega, by show l[j].f3.size ≤ _; omega⟩
theorem to_go {l : List S79} (hl : l.length ≤ 1048576) : ∀ (m i : Nat), i + m = l.length → Ev (fun f => laws_toNodeS.l0 f l (tov (l.take i) ++ List.replicate m z82) (i : Int)) (tov l) := by
  intro m
  induction m with
  | zero =>
    intro i hi
    refine Ev.step (f := fun _ => some (tov l)) (fun f => ?_) (Ev.now _)
    rw [laws_toNodeS.l0, if_neg (by omega)]
    rw [List.take_of_length_le (by omega)]
    simp
  | succ m ih =>
    intro i hi
    have hil : i < l.length := by omega
    have hw : wrap64 ((i : Int) + 1) = ((i + 1 : Nat) : Int) := by unfold wrap64; omega
    refine Ev.step (fun f => ?_) (ih (i + 1) (by omega))
    rw [laws_toNodeS.l0, if_pos (by omega), if_pos (by omega), rd79 hil]
    show (if _ then _ else _) = _
    rw [if_pos (by simp [tov]; omega), hw]
    congr 1
    have hlen : (tov (l.take i)).length = i := by simp [tov]; omega
    rw [Int.toNat_natCast, List.set_append_right _ _ (by omega), hlen, Nat.sub_self, List.replicate_succ, List.set_cons_zero]
    have ht : tov (l.take (i + 1)) = tov (l.take i) ++ [⟨l[i].f0, l[i].f1, l[i].f2, l[i].f3, l[i].f4⟩] := by
      rw [List.take_succ_eq_append_getElem hil]
      simp only [tov, List.map_append, List.map_cons, List.map_nil]
    rw [ht, List.append_assoc]
    rfl
theorem to_ev {l : List S79} (hl : l.length ≤ 1048576) : Ev (fun f => laws_toValue.f f l) (tov l) := by
  refine Ev.congr (f := fun f => (laws_toNodeS.l0 f l (tov (l.take 0) ++ List.replicate l.length z82) (0 : Nat)).bind fun t => some t) (fun f => ?_) (Ev.bind (to_go hl l.length 0 (by omega)) (Ev.now _))
  unfold laws_toValue.f laws_toNodeS.f
  rw [if_pos (by omega), Int.toNat_natCast, if_pos (by omega)]
  simp [tov]
theorem eq_go {l : List S82} (hl : l.length ≤ 1048576) : ∀ (m i : Nat), i + m = l.length → Ev (fun f => laws_eqNodeS.l0 f l l (i : Int)) true := by
  intro m
  induction m with
  | zero =>
    intro i hi
    refine Ev.step (f := fun _ => some true) (fun f => ?_) (Ev.now _)
    rw [laws_eqNodeS.l0, if_neg (by omega)]
  | succ m ih =>
    intro i hi
    have hw : wrap64 ((i : Int) + 1) = ((i + 1 : Nat) : Int) := by unfold wrap64; omega
    refine Ev.step (fun f => ?_) (ih (i + 1) (by omega))
    rw [laws_eqNodeS.l0, if_pos (by omega), if_pos (by omega), if_pos (by omega), hw]
    unfold laws_eqNode.f
    simp
theorem eq_ev {l : List S82} (hl : l.length ≤ 1048576) : Ev (fun f => laws_eqValue.f f l l) true := by
  refine Ev.congr (f := fun f => (laws_eqNodeS.l0 f l l (0 : Nat)).bind fun t109 => if t109 = true then some true else some false) (fun f => ?_) (Ev.bind (eq_go hl l.length 0 (by omega)) (by simp only [if_true]; exact Ev.now _))
  unfold laws_eqValue.f laws_eqNodeS.f
  rw [if_pos rfl]
  rfl
end Go.Proofs.YtdbfhbnlheankaaGreatDoor.VT
/- Whether two trees are the same; IsClean over what cleaning answers. Conditions: right trees. -/
namespace Go.Proofs.YtdbfhbnlheankaaGreatDoor.VT
open Go.RowKit Go.Proofs.YtdbfhbnlheankaaGreatDoor.PVG Go.Proofs.YtdbfhbnlheankaaGreatDoorW.PrintWords Go.Proofs.YtdbfhbnlheankaaGreatDoorW.PrintLast Go.Proofs.YtdbfhbnlheankaaGreatDoorW.PrintMore
set_option linter.unusedVariables false
set_option linter.unusedSimpArgs false
/-- What the walk of clean is to show. -/
def ClCall (t : Tr) : Prop := ∀ (w : World) (g : Nat) (F : Nat → Prop), InV w F t g → (∀ k, F k → k < w.heap.size) → fit t = true → cnt t ≤ 1073741824 →
  Calls Tryz.prog 36 #[.pointer (some ⟨g, 0, none⟩)] w fun e w' => ∃ g', e = .returned (.pointer (some ⟨g', 0, none⟩)) ∧ InV w' (fun k => F k ∨ w.heap.size ≤ k) (cleanT t) g' ∧ Below w.heap.size w w'
mutual
theorem clean_fit : ∀ t : Tr, fit t = true → fit (cleanT t) = true ∧ cnt (cleanT t) ≤ cnt t
  | .mk kd nu tx ns ks, h => by
    rw [cleanT]
    by_cases h7 : kd = 7
    · rw [if_pos h7]
      have hf := fit1 h
      obtain ⟨g1, g2, g3, g4⟩ := cleanK_fit ks ns hf.hks hf.hns (by rw [hf.hlen h7])
      refine ⟨?_, by simp only [cnt]; omega⟩
      rw [fit]
      have e1 : prt nil_ = true := by decide
      simp only [Bool.and_eq_true, Bool.or_eq_true]
      exact ⟨⟨⟨⟨⟨by decide, by decide⟩, e1⟩, by rw [List.all_eq_true]; exact g3⟩, .inr (by simpa using g4)⟩, g1⟩
    · rw [if_neg h7]
      exact ⟨h, Nat.le_refl _⟩
theorem cleanK_fit : ∀ (ks : List Tr) (ns : List ByteArray), fitL ks = true → (∀ s, s ∈ ns → prt s = true) → ns.length = ks.length → fitL (cleanK ks) = true ∧ cntL (cleanK ks) ≤ cntL ks ∧ (∀ s, s ∈ cleanN ks ns → prt s = true) ∧ (cleanN ks ns).length = (cleanK ks).length
  | [], ns, _, _, _ => by simp [cleanK, cleanN, fitL, cntL]
  | t :: ts, [], _, _, h => by simp at h
  | t :: ts, a :: r, h, hn, hl => by
    rw [fitL, Bool.and_eq_true] at h
    obtain ⟨g1, g2⟩ := clean_fit t h.1
    obtain ⟨k1, k2, k3, k4⟩ := cleanK_fit ts r h.2 (fun s hs => hn s (List.mem_cons_of_mem _ hs)) (by simpa using hl)
    rw [cleanK, cleanN, List.tail_cons, List.headD_cons]
    by_cases h1 : t.kd = 1
    · rw [if_pos h1, if_pos h1]
      exact ⟨k1, by simp only [cntL]; omega, k3, k4⟩
    · rw [if_neg h1, if_neg h1]
      refine ⟨by rw [fitL, g1, k1]; rfl, by simp only [cntL]; omega, fun s hs => ?_, by simp [k4]⟩
      rcases List.mem_cons.1 hs with rfl | hs
      · exact hn _ (List.mem_cons_self ..)
      · exact k3 s hs
end
end Go.Proofs.YtdbfhbnlheankaaGreatDoor.VT
/- clean, walked: what is no map. Conditions: none. -/
namespace Go.Proofs.YtdbfhbnlheankaaGreatDoor.VT
open Go.RowKit Go.Proofs.YtdbfhbnlheankaaGreatDoor.PVG Go.Proofs.YtdbfhbnlheankaaGreatDoorW.PrintWords Go.Proofs.YtdbfhbnlheankaaGreatDoorW.PrintLast Go.Proofs.YtdbfhbnlheankaaGreatDoorW.PrintMore
set_option linter.unusedVariables false
set_option linter.unusedSimpArgs false
set_option maxRecDepth 100000 in
set_option maxHeartbeats 4000000 in
theorem clean_leaf (kd nu : Int) (tx : ByteArray) (ns : List ByteArray) (ks : List Tr) (h7 : kd ≠ 7) : ClCall (.mk kd nu tx ns ks) := by
  intro w g F hv hF hf hn
  obtain ⟨A3, c3, A4, c4, ha⟩ := hv.is.at_
  obtain ⟨k0, _⟩ := ha.cells
  simp only [Tr.kd] at k0
  have b7 : (kd != 7) = true := by simpa using h7
  have HV := Aside0.mk (show InV w (fun k => F k ∨ w.heap.size ≤ k) (cleanT (.mk kd nu tx ns ks)) g by rw [cleanT, if_neg h7]; exact hv.mono fun k hk => .inl hk)
  clear ha hv hF hf hn h7
  go_enter Tryz.func36, Tryz.ntmps36
  go_wp2
  go_ret
  exact ⟨g, rfl, HV.out, Below.refl _ _⟩
end Go.Proofs.YtdbfhbnlheankaaGreatDoor.VT
