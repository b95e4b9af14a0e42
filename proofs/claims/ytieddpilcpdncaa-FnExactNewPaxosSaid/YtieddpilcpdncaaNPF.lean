import Derived.Test.YtieddpilcpdncaaNPE
/- NewPaxos, the plain side: what the functions compute answers as the law says. Conditions: none. -/
namespace Go.Proofs.Ytieddpilcpdncaa.PNP
open Go.RowKit Go.Proofs.YtieddpilcpdncaaW.PrintWords Go.Proofs.YtieddpilcpdncaaW.PrintLast Go.Proofs.YtieddpilcpdncaaW.PrintMore
set_option linter.unusedVariables false
set_option linter.unusedSimpArgs false
theorem wrap_id (x : Int) (h0 : -9223372036854775808 ≤ x) (h1 : x ≤ 9223372036854775807) : wrap64 x = x := by
  unfold wrap64; omega
theorem rd103_set (x : List S103) (i : Int) (j : Int) (v : S103) (h0 : 0 ≤ i) (h1 : i < (x.length : Int)) (j0 : 0 ≤ j) : rd_T103 (x.set i.toNat v) j = if j = i then v else rd_T103 x j := by
  unfold rd_T103
  rw [List.getD_eq_getElem?_getD, List.getD_eq_getElem?_getD, List.getElem?_set]
  by_cases e : j = i
  · subst e; simp [show j.toNat < x.length by omega]
  · rw [if_neg (by omega), if_neg e]
theorem markText_l (d : Nat) : ∀ (n : Int) (t : ByteArray), 0 ≤ n → n ≤ 1000000000000 → n < 10 ^ d → t.size + d ≤ 1000 → ∃ r, Ev (fun k => laws_markText.l0 k n t) r := by
  induction d with
  | zero =>
    intro n t h0 hb h1 h2
    exact ⟨_, Ev.step (fun k => by simp only [laws_markText.l0]; rw [if_neg (by omega), if_pos (by omega)]) (Ev.now _)⟩
  | succ d ih =>
    intro n t h0 hb h1 h2
    by_cases hp : n > 0
    · have hdv : Int.tdiv n 10 = n / 10 := Int.tdiv_eq_ediv_of_nonneg h0
      have hlt : n / 10 < 10 ^ d := by
        rw [Int.pow_succ] at h1
        omega
      have hs : ∀ z : Int, (strOfNums [z]).size = 1 := fun z => strOfNums_size [z]
      obtain ⟨r, e⟩ := ih (n / 10) (strOfNums [(wrap64 (48 + (Int.tmod n 10))) % 256] ++ t) (by omega) (by omega) hlt (by rw [ByteArray.size_append, hs]; omega)
      exact ⟨r, Ev.step (fun k => by simp only [laws_markText.l0, Option.bind_some]; rw [if_pos hp, if_pos (by rw [hs]; omega), hdv, wrap_id (n / 10) (by omega) (by omega)]) e⟩
    · exact ⟨_, Ev.step (fun k => by simp only [laws_markText.l0]; rw [if_neg hp, if_pos (by omega)]) (Ev.now _)⟩
theorem markText_ev (n : Int) (h0 : 0 ≤ n) (hb : n ≤ 100000000000) : ∃ r, Ev (fun k => laws_markText.f k n) r := by
  by_cases hp : n ≤ 0
  · exact ⟨_, Ev.congr (fun k => by unfold laws_markText.f; rw [if_pos hp]) (Ev.now _)⟩
  · obtain ⟨r, e⟩ := markText_l 12 n ⟨#[]⟩ h0 (by omega) (by omega) (by simp [ByteArray.size])
    exact ⟨r, Ev.congr (fun k => by unfold laws_markText.f; rw [if_neg hp]) e⟩
open Classical in
noncomputable def mT (n : Int) : ByteArray := if h : ∃ r, Ev (fun k => laws_markText.f k n) r then h.choose else ⟨#[]⟩
theorem mT_ev (n : Int) (h0 : 0 ≤ n) (hb : n ≤ 100000000000) : Ev (fun k => laws_markText.f k n) (mT n) := by
  unfold mT
  rw [dif_pos (markText_ev n h0 hb)]
  exact (markText_ev n h0 hb).choose_spec
noncomputable def mkd (i : Int) : S103 := ⟨1 + 3 * i, 2 + 3 * i, mT (3 + 3 * i)⟩
theorem markVoterS_l (n : Nat) (hn : n ≤ 1073741824) (d : Nat) : ∀ (x : List S103) (i : Int), x.length = n → 0 ≤ i → i ≤ (n : Int) → (n : Int) - i = d → (∀ j : Int, 0 ≤ j → j < i → rd_T103 x j = mkd j) →
    ∃ y, y.length = n ∧ (∀ j : Int, 0 ≤ j → j < n → rd_T103 y j = mkd j) ∧ Ev (fun k => laws_markVoterS.l0 k x (1 + 3 * i) i) (1 + 3 * (n : Int), y) := by
  induction d with
  | zero =>
    intro x i hx h0 hi hd hj
    obtain rfl : i = (n : Int) := by omega
    exact ⟨x, hx, hj, Ev.step (f := fun _ => some (1 + 3 * (n : Int), x)) (fun k => by simp only [laws_markVoterS.l0]; rw [if_neg (by omega)]) (Ev.now _)⟩
  | succ d ih =>
    intro x i hx h0 hi hd hj
    have hlt : i < (x.length : Int) := by omega
    obtain ⟨y, hy, hy2, e⟩ := ih (x.set i.toNat (mkd i)) (i + 1) (by simpa using hx) (by omega) (by omega) (by omega) (fun j j0 j1 => by
      rw [rd103_set x i j _ h0 hlt j0]
      by_cases e : j = i
      · rw [if_pos e, e]
      · rw [if_neg e]; exact hj j j0 (by omega))
    refine ⟨y, hy, hy2, ?_⟩
    have w1 : wrap64 (1 + 3 * i + 1) = 2 + 3 * i := by rw [wrap_id _ (by omega) (by omega)]; omega
    have w2 : wrap64 (2 + 3 * i + 1) = 3 + 3 * i := by rw [wrap_id _ (by omega) (by omega)]; omega
    have w3 : wrap64 (3 + 3 * i + 1) = 1 + 3 * (i + 1) := by rw [wrap_id _ (by omega) (by omega)]; omega
    refine Ev.step (f := fun k => (laws_markText.f k (3 + 3 * i)).bind fun t280 => (laws_markVoterS.l0 k (x.set i.toNat ⟨1 + 3 * i, 2 + 3 * i, t280⟩) (1 + 3 * (i + 1)) (i + 1))) (fun k => ?_) (Ev.bind (mT_ev _ (by omega) (by omega)) e)
    simp only [laws_markVoterS.l0, Option.bind_some, w1, w2, w3]
    rw [if_pos hlt, if_pos h0, wrap_id (i + 1) (by omega) (by omega)]
    simp [rd103_set, h0, hlt]
theorem heldVoterS_l (x : List S103) (hn : x.length ≤ 1073741824) (hx : ∀ j : Int, 0 ≤ j → j < x.length → rd_T103 x j = mkd j) (d : Nat) : ∀ i : Int, 0 ≤ i → i ≤ (x.length : Int) → (x.length : Int) - i = d →
    Ev (fun k => laws_heldVoterS.l0 k x (1 + 3 * i) i) (1 + 3 * (x.length : Int)) := by
  induction d with
  | zero =>
    intro i h0 hi hd
    obtain rfl : i = (x.length : Int) := by omega
    exact Ev.step (f := fun _ => some (1 + 3 * (x.length : Int))) (fun k => by simp only [laws_heldVoterS.l0]; rw [if_neg (by omega)]) (Ev.now _)
  | succ d ih =>
    intro i h0 hi hd
    have hlt : i < (x.length : Int) := by omega
    have hm := hx i h0 hlt
    have w1 : wrap64 (1 + 3 * i + 1) = 2 + 3 * i := by rw [wrap_id _ (by omega) (by omega)]; omega
    have w2 : wrap64 (2 + 3 * i + 1) = 3 + 3 * i := by rw [wrap_id _ (by omega) (by omega)]; omega
    have w3 : wrap64 (3 + 3 * i + 1) = 1 + 3 * (i + 1) := by rw [wrap_id _ (by omega) (by omega)]; omega
    refine Ev.step (f := fun k => (laws_markText.f k (3 + 3 * i)).bind fun t => if (mT (3 + 3 * i)).toList = t.toList then laws_heldVoterS.l0 k x (1 + 3 * (i + 1)) (i + 1) else some (-1)) (fun k => ?_)
      (Ev.bind (mT_ev _ (by omega) (by omega)) (Ev.congr (fun k => if_pos rfl) (ih (i + 1) (by omega) (by omega) (by omega))))
    simp only [laws_heldVoterS.l0, w1, w2, w3, hm, mkd]
    rw [if_pos hlt, if_pos h0, if_pos True.intro, if_pos True.intro, wrap_id (i + 1) (by omega) (by omega)]
theorem markT_all : ∀ z, 0 ≤ z → z ≤ 10000 → ∃ k, laws_markText.f k z = some (mT z) := fun z h0 h1 => (mT_ev z h0 (by omega)).rounds
theorem eqVoterS_l (l : List S103) (hn : l.length ≤ 1073741824) (d : Nat) : ∀ i : Int, 0 ≤ i → i ≤ (l.length : Int) → (l.length : Int) - i = d → Ev (fun k => laws_eqVoterS.l0 k l l i) true := by
  induction d with
  | zero => intro i h0 hi hd; exact Ev.step (f := fun _ => some true) (fun k => by simp only [laws_eqVoterS.l0]; rw [if_neg (by omega)]) (Ev.now _)
  | succ d ih =>
    intro i h0 hi hd
    refine Ev.step (fun k => ?_) (ih (i + 1) (by omega) (by omega) (by omega))
    simp only [laws_eqVoterS.l0, laws_eqVoter.f]
    rw [if_pos (by omega), if_pos h0, if_pos (by omega), wrap_id (i + 1) (by omega) (by omega)]
    simp
theorem eqIntS_nil : Ev (fun k => laws_eqIntS.f k [] []) true := Ev.congr (fun k => by unfold laws_eqIntS.f; rw [if_pos rfl]) (Ev.step (f := fun _ => some true) (fun k => by simp [laws_eqIntS.l0]) (Ev.now _))
theorem eqAsker_ev (x : S107) (h : x.f3 = []) : Ev (fun k => laws_eqAsker.f k x.f0 x.f1 x.f2 x.f3 x.f4 x.f5 x.f6 x.f0 x.f1 x.f2 x.f3 x.f4 x.f5 x.f6) true := by
  unfold laws_eqAsker.f
  rw [h]
  refine Ev.congr (fun k => if_pos rfl) (Ev.congr (fun k => if_pos rfl) (Ev.congr (fun k => if_pos rfl) (Ev.bind eqIntS_nil (Ev.congr (fun k => if_pos rfl) (Ev.congr (fun k => if_pos rfl) (Ev.congr (fun k => if_pos rfl) ?_))))))
  exact ⟨0, fun _ _ => by simp⟩
theorem eqAskerS_l (l : List S107) (hn : l.length ≤ 1073741824) (h3 : ∀ j : Int, 0 ≤ j → j < l.length → (rd_T107 l j).f3 = []) (d : Nat) : ∀ i : Int, 0 ≤ i → i ≤ (l.length : Int) → (l.length : Int) - i = d → Ev (fun k => laws_eqAskerS.l0 k l l i) true := by
  induction d with
  | zero => intro i h0 hi hd; exact Ev.step (f := fun _ => some true) (fun k => by simp only [laws_eqAskerS.l0]; rw [if_neg (by omega)]) (Ev.now _)
  | succ d ih =>
    intro i h0 hi hd
    refine Ev.step (fun k => by simp only [laws_eqAskerS.l0]; rw [if_pos (by omega), if_pos h0, if_pos (by omega), wrap_id (i + 1) (by omega) (by omega)]) (Ev.bind (eqAsker_ev (rd_T107 l i) (h3 i h0 (by omega))) (Ev.congr (fun k => if_pos rfl) (ih (i + 1) (by omega) (by omega) (by omega))))
theorem eqPaxos_ev (l0 : List S103) (l1 : List S107) (h0 : l0.length ≤ 1073741824) (h1 : l1.length ≤ 1073741824) (h3 : ∀ j : Int, 0 ≤ j → j < l1.length → (rd_T107 l1 j).f3 = []) : Ev (fun k => laws_eqPaxos.f k l0 l1 [] [] l0 l1 [] []) true := by
  unfold laws_eqPaxos.f
  refine Ev.bind (a := true) (Ev.congr (fun k => by unfold laws_eqVoterS.f; rw [if_pos rfl]) (eqVoterS_l l0 h0 l0.length 0 (by omega) (by omega) (by omega))) (Ev.congr (fun k => if_pos rfl) ?_)
  refine Ev.bind (a := true) (Ev.congr (fun k => by unfold laws_eqAskerS.f; rw [if_pos rfl]) (eqAskerS_l l1 h1 h3 l1.length 0 (by omega) (by omega) (by omega))) (Ev.congr (fun k => if_pos rfl) ?_)
  refine Ev.bind (a := true) (Ev.congr (fun k => by unfold laws_eqNoteS.f; rw [if_pos rfl]) (Ev.step (f := fun _ => some true) (fun k => by simp [laws_eqNoteS.l0]) (Ev.now _))) (Ev.congr (fun k => if_pos rfl) ?_)
  exact Ev.bind (a := true) (Ev.congr (fun k => by unfold laws_eqVoteS.f; rw [if_pos rfl]) (Ev.step (f := fun _ => some true) (fun k => by simp [laws_eqVoteS.l0]) (Ev.now _))) (Ev.congr (fun k => if_pos rfl) (Ev.now _))
theorem mark_held (l : List S103) (hn : l.length ≤ 100) : ∃ (m : Nat) (y : List S103), m ≤ 1000 ∧ Ev (fun k => laws_markVoterS.f k l 1) ((m : Int), y) ∧ Ev (fun k => laws_heldVoterS.f k y 1) (m : Int) := by
  obtain ⟨y, hy, hy2, e⟩ := markVoterS_l l.length (by omega) l.length l 0 rfl (by omega) (by omega) (by omega) (fun j h0 h1 => by omega)
  have h := heldVoterS_l y (by omega) (by rw [hy]; exact hy2) y.length 0 (by omega) (by omega) (by omega)
  rw [hy] at h
  refine ⟨1 + 3 * l.length, y, by omega, ?_, ?_⟩
  · unfold laws_markVoterS.f
    simpa using e
  · unfold laws_heldVoterS.f
    simpa using h
/-- What NewPaxos makes, the program's and the reference's. -/
theorem new_both (a b : Int) : ∃ (l0 : List S103) (l1 : List S107) (bb : Bool), l0.length ≤ 100 ∧ l1.length ≤ 100 ∧ (∀ x ∈ l1, x.f3 = []) ∧ spec_NewPaxos.f a b = some (l0, l1, [], [], bb) ∧ impl_NewPaxos.f a b = some (l0, l1, [], [], bb) := by
  have hi : ∀ n lo hi : Int, impl_within.f n lo hi = some (decide (lo ≤ n ∧ n ≤ hi)) := by
    intro n lo hi
    unfold impl_within.f
    by_cases h : n ≥ lo
    · rw [if_pos h]; simp [show lo ≤ n from h]
    · rw [if_neg h]; simp [show ¬ lo ≤ n from h]
  have hs : ∀ n lo hi : Int, spec_l1In.f n lo hi = some (decide (lo ≤ n ∧ n ≤ hi)) := by
    intro n lo hi
    unfold spec_l1In.f
    by_cases h : n ≥ lo
    · rw [if_pos h]; simp [show lo ≤ n from h]
    · rw [if_neg h]; simp [show ¬ lo ≤ n from h]
  unfold spec_NewPaxos.f impl_NewPaxos.f
  rw [hs, hs, hi, hi]
  simp only [Option.bind_some]
  by_cases ha : 1 ≤ a ∧ a ≤ 5
  · by_cases hb : 1 ≤ b ∧ b ≤ 3
    · refine ⟨List.replicate a.toNat z103, List.replicate b.toNat z107, true, by simp; omega, by simp; omega, fun x hx => ?_, ?_, ?_⟩
      · rw [(List.mem_replicate.1 hx).2]; rfl
      · rw [if_pos (by simp [ha]), if_pos (by simp [hb]), if_pos (by omega), if_pos (by omega), if_pos (by omega), if_pos (by omega)]
      · rw [if_pos (by simp [ha]), if_pos (by simp [hb]), if_pos (by omega), if_pos (by omega), if_pos (by omega), if_pos (by omega)]
    · refine ⟨[], [], false, by simp, by simp, by simp, ?_, ?_⟩
      · rw [if_pos (by simp [ha]), if_neg (by simpa using hb)]
      · rw [if_pos (by simp [ha]), if_neg (by simpa using hb)]
  · refine ⟨[], [], false, by simp, by simp, by simp, ?_, ?_⟩
    · rw [if_neg (by simpa using ha)]
    · rw [if_neg (by simpa using ha)]
theorem law_all (a b : Int) (w : World) : Calls Try.prog 3 #[.int .i64 a, .int .i64 b] w fun e w' => e = .returned (.bool true) ∧ Below w.heap.size w w' := by
  obtain ⟨l0, l1, bb, n0, n1, h3, hS, hI⟩ := new_both a b
  obtain ⟨m, y, hm, hM, hH⟩ := mark_held l0 n0
  obtain ⟨kv, hv⟩ := hM.rounds
  obtain ⟨kh, hh⟩ := hH.rounds
  obtain ⟨ke, he⟩ := (eqPaxos_ev l0 l1 (by omega) (by omega) (fun j h0 h1 => h3 _ (by
    unfold rd_T107
    rw [List.getD_eq_getElem?_getD, List.getElem?_eq_getElem (by omega)]
    exact List.getElem_mem _))).rounds
  exact law_c mT markT_all a b l0 y l1 bb hS hI m kv kh ke hv hh hm (by omega) h3 he w
end Go.Proofs.Ytieddpilcpdncaa.PNP
