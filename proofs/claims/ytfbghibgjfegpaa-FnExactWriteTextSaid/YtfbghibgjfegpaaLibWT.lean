import Derived.Test.YtfbghibgjfegpaaWTN
/- Plain laws on the printed functions. Conditions: lists of at most 2^30. -/
namespace Go.Proofs.Ytfbghibgjfegpaa.Pure
open Go.RowKit Go.Proofs.Ytfbghibgjfegpaa.PWT Go.Proofs.YtfbghibgjfegpaaW.PrintWords Go.Proofs.YtfbghibgjfegpaaW.PrintLast
set_option linter.unusedVariables false
theorem wrap_id (x : Int) (h0 : -9223372036854775808 ≤ x) (h1 : x ≤ 9223372036854775807) : wrap64 x = x := by
  unfold wrap64; omega
theorem l1In_eq (a b c : Int) : spec_l1In.f a b c = some (inB a b c) := by
  unfold spec_l1In.f inB
  by_cases h : a ≥ b
  · rw [if_pos h]; simp [show b ≤ a from h]
  · rw [if_neg h]; simp [show ¬ b ≤ a from h]
theorem some_l (l : List Int) (n : Int) (hn : l.length ≤ 1073741824) (n0 : 0 ≤ n) (n1 : n ≤ 1073741824) : ∀ (k : Nat) (i b : Int), 0 ≤ i → i ≤ (l.length : Int) → (l.length - i).toNat < k → (i = 0 ∧ b = -1 ∨ 0 < i ∧ b = rd l (i - 1) ∧ 0 ≤ b) →
    spec_l14Some.l0 k l n l (l.length : Int) i = some (risingFrom n b (l.drop i.toNat)) := by
  intro k
  induction k with
  | zero => intro i b h0 hi hk; omega
  | succ k ih =>
    intro i b h0 hi hk hb
    simp only [spec_l14Some.l0]
    by_cases hlt : i < (l.length : Int)
    · rw [if_pos hlt, if_pos h0, if_pos hlt, l1In_eq, wrap_id (n - 1) (by omega) (by omega), drop_rd l i h0 hlt]
      simp only [Option.bind_some, risingFrom]
      by_cases q : inB (rd l i) 0 (n - 1) = true
      · rw [if_pos q]
        have q' : 0 ≤ rd l i ∧ rd l i ≤ n - 1 := by unfold inB at q; simpa using q
        have step : spec_l14Some.l0 k l n l (l.length : Int) (wrap64 (i + 1)) = some (risingFrom n (rd l i) (l.drop (i + 1).toNat)) := by
          rw [wrap_id (i + 1) (by omega) (by omega)]
          exact ih (i + 1) (rd l i) (by omega) (by omega) (by omega) (.inr ⟨by omega, by rw [show i + 1 - 1 = i by omega], q'.1⟩)
        rcases hb with ⟨rfl, rfl⟩ | ⟨hp, rfl, hb0⟩
        · rw [if_neg (by omega), step]
          simp only [show (-1 : Int) + 1 = 0 by omega, q, Bool.true_and]
        · rw [if_pos hp, wrap_id (i - 1) (by omega) (by omega), if_pos (by omega), if_pos (by omega)]
          by_cases r : rd l (i - 1) ≥ rd l i
          · rw [if_pos r]
            have : inB (rd l i) (rd l (i - 1) + 1) (n - 1) = false := by unfold inB; simp; omega
            rw [this]; rfl
          · rw [if_neg r, step]
            have : inB (rd l i) (rd l (i - 1) + 1) (n - 1) = true := by unfold inB; simp; omega
            rw [this]; rfl
      · rw [if_neg q]
        have q' : ¬ (0 ≤ rd l i ∧ rd l i ≤ n - 1) := by unfold inB at q; simpa using q
        have : inB (rd l i) (b + 1) (n - 1) = false := by
          unfold inB
          simp
          rcases hb with ⟨_, rfl⟩ | ⟨_, _, hb0⟩ <;> omega
        rw [this]; rfl
    · rw [if_neg hlt, List.drop_eq_nil_of_le (by omega)]; rfl
theorem some_eq (l : List Int) (n : Int) (hn : l.length ≤ 1073741824) (n0 : 0 ≤ n) (n1 : n ≤ 1073741824) (k : Nat) (hk : l.length < k) : spec_l14Some.f k l n = some (risingV l n) :=
  some_l l n hn n0 n1 k 0 (-1) (by omega) (by omega) (by omega) (.inl ⟨rfl, rfl⟩)
theorem some_ev (l : List Int) (n : Int) (hn : l.length ≤ 1073741824) (n0 : 0 ≤ n) (n1 : n ≤ 1073741824) : Ev (fun k => spec_l14Some.f k l n) (risingV l n) := ⟨l.length + 1, fun k hk => some_eq l n hn n0 n1 k (by omega)⟩
theorem drop57 (l : List S57) (i : Int) (h0 : 0 ≤ i) (h : i < (l.length : Int)) : l.drop i.toNat = rd_T57 l i :: l.drop (i + 1).toNat := by
  rw [show (i + 1).toNat = i.toNat + 1 by omega, List.drop_eq_getElem_cons (by omega)]
  simp [rd_T57, List.getD_eq_getElem?_getD, show i.toNat < l.length by omega]
theorem all_l (l : List S57) (R W : Int) (hn : l.length ≤ 1073741824) (d : Nat) : ∀ (i t : Int), 0 ≤ i → i ≤ (l.length : Int) → (l.length : Int) - i = d →
    Ev (fun k => spec_l14All.l0 k t l (l.length : Int) i) ((l.drop i.toNat).foldl (fun t x => wrap64 (t + x.f0)) t) := by
  induction d with
  | zero =>
    intro i t h0 hi hd
    rw [List.drop_eq_nil_of_le (by omega)]
    exact Ev.step (fun k => by simp only [spec_l14All.l0]; rw [if_neg (by omega)]; rfl) (Ev.now _)
  | succ d ih =>
    intro i t h0 hi hd
    rw [drop57 l i h0 (by omega), List.foldl_cons]
    exact Ev.step (fun k => by simp only [spec_l14All.l0]; rw [if_pos (by omega), if_pos h0, if_pos (by omega), wrap_id (i + 1) (by omega) (by omega)]) (ih (i + 1) _ (by omega) (by omega) (by omega))
theorem all_ev (l : List S57) (R W : Int) (hn : l.length ≤ 1073741824) : Ev (fun k => spec_l14All.f k l R W) (l.foldl (fun t x => wrap64 (t + x.f0)) 0) := by
  have := all_l l R W hn l.length 0 0 (by omega) (by omega) (by omega)
  simpa [spec_l14All.f] using this
def mostV (l : List S57) (m : Int) : Int := l.foldl (fun m x => if x.f1 > m then x.f1 else m) m
theorem newest1_l (l : List S57) (m : Int) (hn : l.length ≤ 1073741824) (d : Nat) : ∀ (i t : Int), 0 ≤ i → i ≤ (l.length : Int) → (l.length : Int) - i = d →
    Ev (fun k => spec_l14Newest.l1 k m t l (l.length : Int) i) (m, (l.drop i.toNat).foldl (fun t x => if x.f1 = m then wrap64 (t + x.f0) else t) t) := by
  induction d with
  | zero =>
    intro i t h0 hi hd
    rw [List.drop_eq_nil_of_le (by omega)]
    exact Ev.step (fun k => by simp only [spec_l14Newest.l1]; rw [if_neg (by omega)]; rfl) (Ev.now _)
  | succ d ih =>
    intro i t h0 hi hd
    rw [drop57 l i h0 (by omega), List.foldl_cons]
    by_cases e : (rd_T57 l i).f1 = m
    · rw [if_pos e]
      exact Ev.step (fun k => by simp only [spec_l14Newest.l1]; rw [if_pos (by omega), if_pos h0, if_pos (by omega), if_pos e, wrap_id (i + 1) (by omega) (by omega)]) (ih (i + 1) _ (by omega) (by omega) (by omega))
    · rw [if_neg e]
      exact Ev.step (fun k => by simp only [spec_l14Newest.l1]; rw [if_pos (by omega), if_pos h0, if_pos (by omega), if_neg e, wrap_id (i + 1) (by omega) (by omega)]) (ih (i + 1) _ (by omega) (by omega) (by omega))
theorem newest0_l (l : List S57) (R W : Int) (hn : l.length ≤ 1073741824) (d : Nat) : ∀ (i m : Int), 0 ≤ i → i ≤ (l.length : Int) → (l.length : Int) - i = d →
    Ev (fun k => spec_l14Newest.l0 k m l (l.length : Int) i l R W) (mostV (l.drop i.toNat) m, vWeigh l (mostV (l.drop i.toNat) m)) := by
  induction d with
  | zero =>
    intro i m h0 hi hd
    rw [List.drop_eq_nil_of_le (by omega)]
    have := newest1_l l m hn l.length 0 0 (by omega) (by omega) (by omega)
    refine Ev.step (fun k => by simp only [spec_l14Newest.l0]; rw [if_neg (by omega)]) (by simpa [mostV, vWeigh] using this)
  | succ d ih =>
    intro i m h0 hi hd
    rw [drop57 l i h0 (by omega)]
    have e1 : mostV (rd_T57 l i :: l.drop (i + 1).toNat) m = mostV (l.drop (i + 1).toNat) (if (rd_T57 l i).f1 > m then (rd_T57 l i).f1 else m) := by simp [mostV]
    rw [e1]
    by_cases e : (rd_T57 l i).f1 > m
    · rw [if_pos e]
      exact Ev.step (fun k => by simp only [spec_l14Newest.l0]; rw [if_pos (by omega), if_pos h0, if_pos (by omega), if_pos e, wrap_id (i + 1) (by omega) (by omega)]) (ih (i + 1) _ (by omega) (by omega) (by omega))
    · rw [if_neg e]
      exact Ev.step (fun k => by simp only [spec_l14Newest.l0]; rw [if_pos (by omega), if_pos h0, if_pos (by omega), if_neg e, wrap_id (i + 1) (by omega) (by omega)]) (ih (i + 1) _ (by omega) (by omega) (by omega))
theorem newest_ev (l : List S57) (R W : Int) (hn : l.length ≤ 1073741824) : Ev (fun k => spec_l14Newest.f k l R W) (mostV l 0, vWeigh l (mostV l 0)) := by
  have := newest0_l l R W hn l.length 0 0 (by omega) (by omega) (by omega)
  simpa [spec_l14Newest.f] using this
def okF (x : S57) : Bool := inB x.f0 1 10 && inB x.f1 0 1000000 && !decide ((x.f2.size : Int) > 12)
theorem cpP_ok (x : S57) : cpP x = !okF x := by
  unfold cpP impl_GoodVoting_1.f impl_copyOK.f okF
  rw [inB_some, inB_some]
  by_cases h3 : (x.f2.size : Int) > 12
  · cases h1 : inB x.f0 1 10 <;> cases h2 : inB x.f1 0 1000000 <;> simp [h3] <;> omega
  · cases h1 : inB x.f0 1 10 <;> cases h2 : inB x.f1 0 1000000 <;> simp [h3] <;> omega
theorem any_ok (l : List S57) : l.any cpP = !l.all okF := by
  induction l with
  | nil => rfl
  | cons x l ih => rw [List.any_cons, List.all_cons, ih, cpP_ok, Bool.not_and]
def sumA (l : List S57) : Int := l.foldl (fun t x => wrap64 (t + x.f0)) 0
def tailV (l : List S57) (R W : Int) : Bool :=
  inB l.length 1 7 && inB R 1 (sumA l) && inB W 1 (sumA l) && !decide (wrap64 (R + W) ≤ sumA l) && !decide (wrap64 (2 * W) ≤ sumA l) && decide (vWeigh l (mostV l 0) ≥ W)
def goodLoop (l : List S57) : Nat → Int → Bool
  | 0, _ => true
  | d + 1, i => okF (rd_T57 l i) && !((l.take i.toNat).any (vClash (rd_T57 l i))) && goodLoop l d (i + 1)
theorem good_tail (l : List S57) (R W : Int) (hn : l.length ≤ 1073741824) (i : Int) (hi : ¬ i < (l.length : Int)) : Ev (fun k => spec_GoodVoting.l0 k l (l.length : Int) i l R W) (tailV l R W) := by
  obtain ⟨K1, hA⟩ := all_ev l R W hn
  obtain ⟨K2, hB⟩ := newest_ev l R W hn
  refine ⟨K1 + K2 + 1, fun k hk => ?_⟩
  obtain ⟨k, rfl⟩ : ∃ m, k = m + 1 := ⟨k - 1, by omega⟩
  simp only [spec_GoodVoting.l0]
  have hA' : spec_l14All.f k l R W = some (sumA l) := hA k (by omega)
  have hB' : spec_l14Newest.f k l R W = some (mostV l 0, vWeigh l (mostV l 0)) := hB k (by omega)
  rw [if_neg hi, l1In_eq, hA', hB']
  simp only [Option.bind_some, l1In_eq]
  unfold tailV
  cases q1 : inB (l.length : Int) 1 7 with
  | false => simp
  | true =>
    cases q2 : inB R 1 (sumA l) with
    | false => simp
    | true =>
      cases q3 : inB W 1 (sumA l) with
      | false => simp
      | true =>
        by_cases q4 : wrap64 (R + W) ≤ sumA l
        · simp [q4]
        · by_cases q5 : wrap64 (2 * W) ≤ sumA l
          · simp [q4, q5]
          · simp [q4, q5]
theorem good_in (l y : List S57) (R W : Int) (i : Int) (a : S57) (hn : y.length ≤ 1073741824) (d : Nat) : ∀ (j : Int) (r : Bool), 0 ≤ j → j ≤ (y.length : Int) → (y.length : Int) - j = d →
    ((y.drop j.toNat).any (vClash a) = true → r = false) → ((y.drop j.toNat).any (vClash a) = false → Ev (fun k => spec_GoodVoting.l0 k l (l.length : Int) (wrap64 (i + 1)) l R W) r) →
    Ev (fun k => spec_GoodVoting.l1 k l (l.length : Int) i y (y.length : Int) j l R W a.f0 a.f1 a.f2) r := by
  induction d with
  | zero =>
    intro j r h0 hj hd h1 h2
    exact Ev.step (fun k => by simp only [spec_GoodVoting.l1]; rw [if_neg (by omega)]) (h2 (by rw [List.drop_eq_nil_of_le (by omega)]; rfl))
  | succ d ih =>
    intro j r h0 hj hd h1 h2
    rw [drop57 y j h0 (by omega), List.any_cons] at h1 h2
    by_cases e1 : (rd_T57 y j).f1 = a.f1
    · by_cases e2 : (rd_T57 y j).f2.toList = a.f2.toList
      · have hc : vClash a (rd_T57 y j) = false := by simp [vClash, e2]
        rw [hc, Bool.false_or] at h1 h2
        exact Ev.step (fun k => by simp only [spec_GoodVoting.l1]; rw [if_pos (by omega), if_pos h0, if_pos (by omega), if_pos e1, if_pos e2, wrap_id (j + 1) (by omega) (by omega)]) (ih (j + 1) r (by omega) (by omega) (by omega) h1 h2)
      · have hc : vClash a (rd_T57 y j) = true := by
          have : ¬ (a.f2.toList = (rd_T57 y j).f2.toList) := fun h => e2 h.symm
          simp [vClash, e1, this]
        rw [hc] at h1
        obtain rfl := h1 (by simp)
        exact Ev.step (fun k => by simp only [spec_GoodVoting.l1]; rw [if_pos (by omega), if_pos h0, if_pos (by omega), if_pos e1, if_neg e2] <;> first | done | rfl) (Ev.now _)
    · have hc : vClash a (rd_T57 y j) = false := by
        have : ¬ (a.f1 = (rd_T57 y j).f1) := fun h => e1 h.symm
        simp [vClash, this]
      rw [hc, Bool.false_or] at h1 h2
      exact Ev.step (fun k => by simp only [spec_GoodVoting.l1]; rw [if_pos (by omega), if_pos h0, if_pos (by omega), if_neg e1, wrap_id (j + 1) (by omega) (by omega)]) (ih (j + 1) r (by omega) (by omega) (by omega) h1 h2)
theorem good_l (l : List S57) (R W : Int) (hn : l.length ≤ 1073741824) (d : Nat) : ∀ (i : Int), 0 ≤ i → i ≤ (l.length : Int) → (l.length : Int) - i = d →
    Ev (fun k => spec_GoodVoting.l0 k l (l.length : Int) i l R W) (goodLoop l d i && tailV l R W) := by
  induction d with
  | zero => intro i h0 hi hd; simpa [goodLoop] using good_tail l R W hn i (by omega)
  | succ d ih =>
    intro i h0 hi hd
    have hlt : i < (l.length : Int) := by omega
    have bad : ∀ r, r = false → Ev (fun k => spec_GoodVoting.j1 k i l (l.length : Int) i true l R W (rd_T57 l i).f0 (rd_T57 l i).f1 (rd_T57 l i).f2) r := by
      rintro r rfl
      exact Ev.step (fun k => by simp only [spec_GoodVoting.j1]; first | rw [if_pos True.intro] | rw [if_pos rfl]) (Ev.now _)
    have st : ∀ r b, (b = true → r = false) → (b = false → Ev (fun k => spec_GoodVoting.l1 k l (l.length : Int) i (l.take i.toNat) ((l.take i.toNat).length : Int) 0 l R W (rd_T57 l i).f0 (rd_T57 l i).f1 (rd_T57 l i).f2) r) →
        Ev (fun k => spec_GoodVoting.j1 k i l (l.length : Int) i b l R W (rd_T57 l i).f0 (rd_T57 l i).f1 (rd_T57 l i).f2) r := by
      intro r b h1 h2
      cases b with
      | true => exact bad r (h1 rfl)
      | false => exact Ev.step (fun k => by simp only [spec_GoodVoting.j1]; rw [if_neg (by simp), if_pos h0, if_pos (by omega)]; rfl) (h2 rfl)
    have hin := good_in l (l.take i.toNat) R W i (rd_T57 l i) (by rw [List.length_take]; omega) (l.take i.toNat).length 0 (goodLoop l (d + 1) i && tailV l R W) (by omega) (by omega) (by omega)
    have key : ∀ b, b = decide (((rd_T57 l i).f2.size : Int) > 12) → inB (rd_T57 l i).f0 1 10 = true → inB (rd_T57 l i).f1 0 1000000 = true → Ev (fun k => spec_GoodVoting.j1 k i l (l.length : Int) i b l R W (rd_T57 l i).f0 (rd_T57 l i).f1 (rd_T57 l i).f2) (goodLoop l (d + 1) i && tailV l R W) := by
      intro b hb q1 q2
      refine st _ b (fun hbt => ?_) (fun hbf => hin (fun hc => ?_) (fun hc => ?_))
      · simp [goodLoop, okF, ← hb, hbt]
      · rw [show ((0 : Int).toNat) = 0 from rfl, List.drop_zero] at hc
        simp [goodLoop, hc]
      · rw [show ((0 : Int).toNat) = 0 from rfl, List.drop_zero] at hc
        have := ih (i + 1) (by omega) (by omega) (by omega)
        rw [wrap_id (i + 1) (by omega) (by omega)]
        have e : (goodLoop l (d + 1) i && tailV l R W) = (goodLoop l d (i + 1) && tailV l R W) := by
          have ho : okF (rd_T57 l i) = true := by unfold okF; rw [q1, q2, ← hb, hbf]; rfl
          simp only [goodLoop, hc, ho]
          simp
        rw [e]
        exact this
    cases q1 : inB (rd_T57 l i).f0 1 10 with
    | false =>
      exact Ev.step (fun k => by simp only [spec_GoodVoting.l0]; rw [if_pos hlt, if_pos h0, if_pos hlt, l1In_eq, q1]; simp only [Option.bind_some]; rw [if_neg (by simp)]) (bad _ (by simp [goodLoop, okF, q1]))
    | true =>
      cases q2 : inB (rd_T57 l i).f1 0 1000000 with
      | false =>
        exact Ev.step (fun k => by simp only [spec_GoodVoting.l0]; rw [if_pos hlt, if_pos h0, if_pos hlt, l1In_eq, l1In_eq, q1, q2]; simp only [Option.bind_some]; first | rw [if_pos True.intro, if_neg (by simp)] | rw [if_pos rfl, if_neg (by simp)]) (bad _ (by simp [goodLoop, okF, q2]))
      | true =>
        exact Ev.step (fun k => by simp only [spec_GoodVoting.l0]; rw [if_pos hlt, if_pos h0, if_pos hlt, l1In_eq, l1In_eq, q1, q2]; simp only [Option.bind_some]; first | rw [if_pos True.intro, if_pos True.intro] | rw [if_pos rfl, if_pos rfl]) (key _ rfl q1 q2)
theorem goodLoop_eq (l : List S57) (d : Nat) : ∀ i : Int, 0 ≤ i → (l.length : Int) - i = d → (goodLoop l d i = true ↔ (∀ j : Nat, i ≤ (j : Int) → j < l.length → okF (rd_T57 l (j : Int)) = true ∧ (l.take j).any (vClash (rd_T57 l (j : Int))) = false)) := by
  induction d with
  | zero => intro i h0 hd; simp only [goodLoop, true_iff]; intro j h1 h2; omega
  | succ d ih =>
    intro i h0 hd
    simp only [goodLoop, Bool.and_eq_true, Bool.not_eq_true']
    rw [ih (i + 1) (by omega) (by omega)]
    constructor
    · rintro ⟨⟨h1, h2⟩, h3⟩ j hj hl
      by_cases e : (j : Int) = i
      · subst e
        simpa using And.intro h1 h2
      · exact h3 j (by omega) hl
    · intro h
      refine ⟨?_, fun j hj hl => h j (by omega) hl⟩
      have := h i.toNat (by omega) (by omega)
      rw [show ((i.toNat : Nat) : Int) = i by omega] at this
      exact this
theorem list_all (l : List S57) : (vAll l.length).map (rd_T57 l) = l := by
  apply List.ext_getElem (by simp [vAll])
  intro i h1 h2
  simp [vAll, rd_T57, List.getD_eq_getElem?_getD, h2]
theorem vTot_eq (l : List S57) : vTot l = sumA l := by
  unfold vTot vSum sumA
  have := List.foldl_map (f := rd_T57 l) (g := fun (t : Int) (x : S57) => wrap64 (t + x.f0)) (l := vAll l.length) (init := 0)
  rw [list_all] at this
  exact this.symm
theorem best_f1 (l : List S57) : ∀ b : S57, (l.foldl (fun b x => if x.f1 > b.f1 then x else b) b).f1 = mostV l b.f1 := by
  induction l with
  | nil => intro b; rfl
  | cons x l ih =>
    intro b
    rw [List.foldl_cons, ih]
    simp only [mostV, List.foldl_cons]
    by_cases e : x.f1 > b.f1
    · rw [if_pos e, if_pos e]
    · rw [if_neg e, if_neg e]
theorem vTop_eq (l : List S57) : vTop l = mostV l (-1) := by
  unfold vTop vBest
  have := List.foldl_map (f := rd_T57 l) (g := fun (b x : S57) => if x.f1 > b.f1 then x else b) (l := vAll l.length) (init := ⟨0, -1, ⟨#[]⟩⟩)
  rw [list_all] at this
  rw [← this, best_f1]
theorem most_ge (l : List S57) : ∀ m : Int, m ≤ mostV l m ∧ ∀ x ∈ l, x.f1 ≤ mostV l m := by
  induction l with
  | nil => intro m; simp [mostV]
  | cons x l ih =>
    intro m
    have e : mostV (x :: l) m = mostV l (if x.f1 > m then x.f1 else m) := by simp [mostV]
    rw [e]
    obtain ⟨h1, h2⟩ := ih (if x.f1 > m then x.f1 else m)
    have h3 : m ≤ (if x.f1 > m then x.f1 else m) ∧ x.f1 ≤ (if x.f1 > m then x.f1 else m) := by split <;> omega
    refine ⟨by omega, fun y hy => ?_⟩
    rcases List.mem_cons.1 hy with rfl | hy
    · omega
    · exact h2 y hy
theorem most_start (l : List S57) (hl : l ≠ []) (h : ∀ x ∈ l, 0 ≤ x.f1) : mostV l (-1) = mostV l 0 := by
  cases l with
  | nil => exact absurd rfl hl
  | cons x l =>
    have h0 := h x List.mem_cons_self
    simp only [mostV, List.foldl_cons]
    rw [if_pos (by omega)]
    by_cases e : x.f1 > 0
    · rw [if_pos e]
    · rw [if_neg e, show x.f1 = 0 by omega]
theorem weigh_all (l : List S57) (v : Int) (h : ∀ x ∈ l, x.f1 = v) : ∀ t : Int, l.foldl (fun t x => if x.f1 = v then wrap64 (t + x.f0) else t) t = l.foldl (fun t x => wrap64 (t + x.f0)) t := by
  induction l with
  | nil => intro t; rfl
  | cons x l ih =>
    intro t
    rw [List.foldl_cons, List.foldl_cons, if_pos (h x List.mem_cons_self)]
    exact ih (fun y hy => h y (List.mem_cons_of_mem _ hy)) _
theorem okF_get {l : List S57} (h : l.all okF = true) (x : S57) (hx : x ∈ l) : okF x = true := List.all_eq_true.1 h x hx
theorem good_eq (l : List S57) (R W : Int) : (goodLoop l l.length 0 && tailV l R W) = goodV l R W := by
  have hL := goodLoop_eq l l.length 0 (by omega) (by omega)
  have hok : l.any cpP = !l.all okF := any_ok l
  by_cases h1 : goodLoop l l.length 0 = true
  · have hj := hL.1 h1
    have hall : l.all okF = true := List.all_eq_true.2 fun x hx => by
      obtain ⟨j, hj2, rfl⟩ := List.getElem_of_mem hx
      have := (hj j (by omega) hj2).1
      simpa [rd_T57, List.getD_eq_getElem?_getD, hj2] using this
    have hcl : vClashes l l.length = false := by
      unfold vClashes
      rw [List.any_eq_false]
      intro j hj2
      have := (hj j (by omega) (List.mem_range.1 hj2)).2
      simpa using this
    have h0 : ∀ x ∈ l, 0 ≤ x.f1 := fun x hx => by
      have := okF_get hall x hx
      unfold okF inB at this
      simp at this
      omega
    rw [h1, Bool.true_and]
    unfold tailV goodV
    rw [hok, hall, hcl, vTot_eq, vTop_eq]
    by_cases hlen : inB (l.length : Int) 1 7 = true
    · have hne : l ≠ [] := by rintro rfl; simp [inB] at hlen
      rw [hlen, most_start l hne h0]
      by_cases h2 : inB W 1 (sumA l) = true
      · rw [h2]
        by_cases h3 : mostV l 0 = 0
        · have hz : ∀ x ∈ l, x.f1 = 0 := fun x hx => by
            have := (most_ge l 0).2 x hx
            have := h0 x hx
            omega
          have hw : vWeigh l (mostV l 0) = sumA l := by rw [h3]; exact weigh_all l 0 hz 0
          have hWA : W ≤ sumA l := by unfold inB at h2; simp at h2; omega
          rw [hw, h3]
          simp [hWA]
        · have : (mostV l 0 == 0) = false := beq_eq_false_iff_ne.2 h3
          rw [this]
          simp
      · simp only [Bool.not_eq_true] at h2
        rw [h2]; simp
    · simp only [Bool.not_eq_true] at hlen
      rw [hlen]; simp
  · simp only [Bool.not_eq_true] at h1
    rw [h1, Bool.false_and]
    symm
    unfold goodV
    by_cases hall : l.all okF = true
    · have hcl : vClashes l l.length = true := by
        rw [← Bool.not_eq_false]
        intro hc
        have : goodLoop l l.length 0 = true := hL.2 fun j _ hj2 => by
          refine ⟨?_, ?_⟩
          · have := okF_get hall l[j] (List.getElem_mem hj2)
            simpa [rd_T57, List.getD_eq_getElem?_getD, hj2] using this
          · unfold vClashes at hc
            rw [List.any_eq_false] at hc
            have := hc j (List.mem_range.2 hj2)
            simpa using this
        rw [this] at h1
        exact absurd h1 (by simp)
      rw [hcl]; simp
    · simp only [Bool.not_eq_true] at hall
      rw [hok, hall]; simp
theorem specGood_ev (l : List S57) (R W : Int) (hn : l.length ≤ 1073741824) : Ev (fun k => spec_GoodVoting.f k l R W) (goodV l R W) := by
  have := good_l l R W hn l.length 0 (by omega) (by omega) (by omega)
  rw [good_eq] at this
  exact this
theorem good_parts (l : List S57) (R W : Int) (h : goodV l R W = true) : l ≠ [] ∧ (∀ x ∈ l, 0 ≤ x.f1) ∧ 1 ≤ R := by
  have h' := h
  rw [← good_eq, Bool.and_eq_true] at h
  have hj := (goodLoop_eq l l.length 0 (by omega) (by omega)).1 h.1
  have ht := h.2
  unfold tailV at ht
  simp only [Bool.and_eq_true] at ht
  have h1 : inB (l.length : Int) 1 7 = true := ht.1.1.1.1.1
  have h2 : inB R 1 (sumA l) = true := ht.1.1.1.1.2
  refine ⟨?_, fun x hx => ?_, ?_⟩
  · rintro rfl; simp [inB] at h1
  · obtain ⟨j, hj2, rfl⟩ := List.getElem_of_mem hx
    have := (hj j (by omega) hj2).1
    have e : rd_T57 l (j : Int) = l[j] := by simp [rd_T57, List.getD_eq_getElem?_getD, hj2]
    rw [e] at this
    unfold okF inB at this
    simp at this
    omega
  · unfold inB at h2; simp at h2; omega
theorem drop_int (s : List Int) (i : Int) (h0 : 0 ≤ i) (h : i < (s.length : Int)) : s.drop i.toNat = rd s i :: s.drop (i + 1).toNat := by
  rw [show (i + 1).toNat = i.toNat + 1 by omega, List.drop_eq_getElem_cons (by omega)]
  simp [rd, List.getD_eq_getElem?_getD, show i.toNat < s.length by omega]
theorem rd_mem (s : List Int) (i : Int) (h0 : 0 ≤ i) (h : i < (s.length : Int)) : rd s i ∈ s := by
  unfold rd
  rw [List.getD_eq_getElem?_getD, List.getElem?_eq_getElem (by omega)]
  exact List.getElem_mem _
theorem weight_l (l : List S57) (R W : Int) (s : List Int) (hn : s.length ≤ 1073741824) (hs : ∀ k ∈ s, 0 ≤ k ∧ k < (l.length : Int)) (d : Nat) : ∀ (i t : Int), 0 ≤ i → i ≤ (s.length : Int) → (s.length : Int) - i = d →
    Ev (fun k => spec_l14Weight.l0 k t s (s.length : Int) i l R W) ((s.drop i.toNat).foldl (fun t k => wrap64 (t + (rd_T57 l k).f0)) t) := by
  induction d with
  | zero =>
    intro i t h0 hi hd
    rw [List.drop_eq_nil_of_le (by omega)]
    exact Ev.step (fun k => by simp only [spec_l14Weight.l0]; rw [if_neg (by omega)]; rfl) (Ev.now _)
  | succ d ih =>
    intro i t h0 hi hd
    have hm := hs _ (rd_mem s i h0 (by omega))
    rw [drop_int s i h0 (by omega), List.foldl_cons]
    exact Ev.step (fun k => by simp only [spec_l14Weight.l0]; rw [if_pos (by omega), if_pos h0, if_pos (by omega), if_pos hm.1, if_pos hm.2, wrap_id (i + 1) (by omega) (by omega)]) (ih (i + 1) _ (by omega) (by omega) (by omega))
theorem weight_ev (l : List S57) (R W : Int) (s : List Int) (hn : s.length ≤ 1073741824) (hs : ∀ k ∈ s, 0 ≤ k ∧ k < (l.length : Int)) : Ev (fun k => spec_l14Weight.f k l R W s) (vSum l s) := by
  have := weight_l l R W s hn hs s.length 0 0 (by omega) (by omega) (by omega)
  simpa [spec_l14Weight.f, vSum] using this
def bStep (l : List S57) (b : S57) (k : Int) : S57 := if (rd_T57 l k).f1 > b.f1 then rd_T57 l k else b
theorem best_l (l : List S57) (R W : Int) (s : List Int) (hn : s.length ≤ 1073741824) (hs : ∀ k ∈ s, 0 ≤ k ∧ k < (l.length : Int)) (d : Nat) : ∀ (i b : Int), 0 ≤ i → i ≤ (s.length : Int) → (s.length : Int) - i = d → 0 ≤ b → b < (l.length : Int) →
    ∃ r, (0 ≤ r ∧ r < (l.length : Int)) ∧ rd_T57 l r = (s.drop i.toNat).foldl (bStep l) (rd_T57 l b) ∧ Ev (fun k => spec_l14Best.l0 k b s (s.length : Int) i l R W) r := by
  induction d with
  | zero =>
    intro i b h0 hi hd hb hb2
    refine ⟨b, ⟨hb, hb2⟩, by rw [List.drop_eq_nil_of_le (by omega)]; rfl, ?_⟩
    exact Ev.step (f := fun _ => some b) (fun k => by simp only [spec_l14Best.l0]; rw [if_neg (by omega)]) (Ev.now _)
  | succ d ih =>
    intro i b h0 hi hd hb hb2
    have hm := hs _ (rd_mem s i h0 (by omega))
    rw [drop_int s i h0 (by omega), List.foldl_cons]
    by_cases q : (rd_T57 l (rd s i)).f1 > (rd_T57 l b).f1
    · obtain ⟨r, h1, h2, e⟩ := ih (i + 1) (rd s i) (by omega) (by omega) (by omega) hm.1 hm.2
      refine ⟨r, h1, by rw [h2]; unfold bStep; rw [if_pos q], Ev.step (fun k => ?_) e⟩
      simp only [spec_l14Best.l0]
      rw [if_pos (by omega), if_pos h0, if_pos (by omega), if_pos hm.1, if_pos hm.2, if_pos hb, if_pos hb2, if_pos q, wrap_id (i + 1) (by omega) (by omega)]
    · obtain ⟨r, h1, h2, e⟩ := ih (i + 1) b (by omega) (by omega) (by omega) hb hb2
      refine ⟨r, h1, by rw [h2]; congr 1; unfold bStep; rw [if_neg q], Ev.step (fun k => ?_) e⟩
      simp only [spec_l14Best.l0]
      rw [if_pos (by omega), if_pos h0, if_pos (by omega), if_pos hm.1, if_pos hm.2, if_pos hb, if_pos hb2, if_neg q, wrap_id (i + 1) (by omega) (by omega)]
theorem best_ev (l : List S57) (R W : Int) (s : List Int) (hn : s.length ≤ 1073741824) (hs : ∀ k ∈ s, 0 ≤ k ∧ k < (l.length : Int)) (hl : ∀ x ∈ l, 0 ≤ x.f1) (hp : s ≠ []) :
    ∃ r, (0 ≤ r ∧ r < (l.length : Int)) ∧ rd_T57 l r = vBest l s ∧ Ev (fun k => spec_l14Best.f k l R W s) r := by
  cases s with
  | nil => exact absurd rfl hp
  | cons x s =>
    have hx := hs x List.mem_cons_self
    have e0 : rd (x :: s) 0 = x := rfl
    obtain ⟨r, h1, h2, e⟩ := best_l l R W (x :: s) hn hs (x :: s).length 0 x (by omega) (by omega) (by omega) hx.1 hx.2
    refine ⟨r, h1, ?_, Ev.congr (fun k => ?_) e⟩
    · rw [h2]
      have h3 : 0 ≤ (rd_T57 l x).f1 := by
        apply hl
        unfold rd_T57
        rw [List.getD_eq_getElem?_getD, List.getElem?_eq_getElem (by omega)]
        exact List.getElem_mem _
      show ((x :: s).drop 0).foldl (bStep l) (rd_T57 l x) = (x :: s).foldl (bStep l) ⟨0, -1, ⟨#[]⟩⟩
      rw [List.drop_zero, List.foldl_cons, List.foldl_cons]
      congr 1
      unfold bStep
      rw [if_neg (by omega), if_pos (show (rd_T57 l x).f1 > -1 by omega)]
    · unfold spec_l14Best.f
      rw [if_pos (by simp only [List.length_cons]; omega), e0]
theorem rd57_set (x : List S57) (i : Int) (j : Int) (v : S57) (h0 : 0 ≤ i) (h1 : i < (x.length : Int)) (j0 : 0 ≤ j) : rd_T57 (x.set i.toNat v) j = if j = i then v else rd_T57 x j := by
  unfold rd_T57
  rw [List.getD_eq_getElem?_getD, List.getD_eq_getElem?_getD, List.getElem?_set]
  by_cases e : j = i
  · subst e; simp [show j.toNat < x.length by omega]
  · rw [if_neg (by omega), if_neg e]
theorem toIntS_l (x0 : List Int) (hn : x0.length ≤ 1073741824) : ∀ (k : Nat) (x3 : List Int) (i : Int), 0 ≤ i → i ≤ (x0.length : Int) → (x0.length - i).toNat < k → x3.length = x0.length → (∀ j : Nat, (j : Int) < i → rd x3 j = rd x0 j) → laws_toIntS.l0 k x0 x3 i = some x0 := by
  intro k
  induction k with
  | zero => intro x3 i h0 hi hk; omega
  | succ k ih =>
    intro x3 i h0 hi hk hl hj
    simp only [laws_toIntS.l0]
    by_cases hlt : i < (x0.length : Int)
    · rw [if_pos hlt, if_pos h0, if_pos (by omega), wrap_id (i + 1) (by omega) (by omega)]
      refine ih _ (i + 1) (by omega) (by omega) (by omega) (by simpa using hl) (fun j hj2 => ?_)
      rw [rd_set x3 i j _ h0 (by omega)]
      by_cases e : (j : Int) = i
      · rw [if_pos e, e]
      · rw [if_neg e]; exact hj j (by omega)
    · rw [if_neg hlt]
      congr 1
      apply List.ext_getElem hl
      intro n h1 h2
      have := hj n (by omega)
      simpa [rd, List.getD_eq_getElem?_getD, h1, h2] using this
theorem toIntS_eq (l : List Int) (hn : l.length ≤ 1073741824) (k : Nat) (hk : l.length < k) : laws_toIntS.f k l = some l := by
  unfold laws_toIntS.f
  rw [if_pos (by omega), if_pos (by omega)]
  exact toIntS_l l hn k _ 0 (by omega) (by omega) (by omega) (by simp) (fun j hj => by omega)
theorem toIntS_ev (l : List Int) (hn : l.length ≤ 1073741824) : Ev (fun k => laws_toIntS.f k l) l := ⟨l.length + 1, fun k hk => toIntS_eq l hn k (by omega)⟩
theorem eqIntS_l (l : List Int) (hn : l.length ≤ 1073741824) : ∀ (k : Nat) (i : Int), 0 ≤ i → i ≤ (l.length : Int) → (l.length - i).toNat < k → laws_eqIntS.l0 k l l i = some true := by
  intro k
  induction k with
  | zero => intro i h0 hi hk; omega
  | succ k ih =>
    intro i h0 hi hk
    simp only [laws_eqIntS.l0]
    by_cases hlt : i < (l.length : Int)
    · rw [if_pos hlt, if_pos h0, if_pos hlt, if_pos True.intro, wrap_id (i + 1) (by omega) (by omega)]
      exact ih (i + 1) (by omega) (by omega) (by omega)
    · rw [if_neg hlt]
theorem eqIntS_eq (l : List Int) (hn : l.length ≤ 1073741824) (k : Nat) (hk : l.length < k) : laws_eqIntS.f k l l = some true := by
  unfold laws_eqIntS.f
  rw [if_pos rfl]
  exact eqIntS_l l hn k 0 (by omega) (by omega) (by omega)
theorem eqIntS_ev (l : List Int) (hn : l.length ≤ 1073741824) : Ev (fun k => laws_eqIntS.f k l l) true := ⟨l.length + 1, fun k hk => eqIntS_eq l hn k (by omega)⟩
theorem eqCopyS_l (l : List S57) (hn : l.length ≤ 1073741824) (d : Nat) : ∀ i : Int, 0 ≤ i → i ≤ (l.length : Int) → (l.length : Int) - i = d → Ev (fun k => laws_eqCopyS.l0 k l l i) true := by
  induction d with
  | zero => intro i h0 hi hd; exact Ev.step (f := fun _ => some true) (fun k => by simp only [laws_eqCopyS.l0]; rw [if_neg (by omega)]) (Ev.now _)
  | succ d ih =>
    intro i h0 hi hd
    refine Ev.step (fun k => ?_) (ih (i + 1) (by omega) (by omega) (by omega))
    simp only [laws_eqCopyS.l0, laws_eqCopy.f]
    rw [if_pos (by omega), if_pos h0, if_pos (by omega), wrap_id (i + 1) (by omega) (by omega)]
    simp
theorem eqVoting_ev (l : List S57) (R W : Int) (hn : l.length ≤ 1073741824) : Ev (fun k => laws_eqVoting.f k l R W l R W) true := by
  unfold laws_eqVoting.f
  refine Ev.bind (a := true) ?_ (Ev.congr (fun k => by simp) (Ev.now true))
  exact Ev.congr (fun k => by unfold laws_eqCopyS.f; rw [if_pos rfl]) (eqCopyS_l l hn l.length 0 (by omega) (by omega) (by omega))
def cv (x : S98) : S57 := ⟨x.f0, x.f1, x.f2⟩
def cvL (l : List S98) : List S57 := l.map cv
theorem cvL_len (l : List S98) : (cvL l).length = l.length := by simp [cvL]
theorem rd57_cv (l : List S98) (j : Int) (h0 : 0 ≤ j) (h1 : j < (l.length : Int)) : rd_T57 (cvL l) j = cv (rd_T98 l j) := by
  have : j.toNat < l.length := by omega
  simp [rd_T57, rd_T98, cvL, List.getD_eq_getElem?_getD, this]
theorem toCopyS_l (l : List S98) (hn : l.length ≤ 1073741824) (d : Nat) : ∀ (x : List S57) (i : Int), x.length = l.length → 0 ≤ i → i ≤ (l.length : Int) → (l.length : Int) - i = d → (∀ j : Int, 0 ≤ j → j < i → rd_T57 x j = cv (rd_T98 l j)) →
    Ev (fun k => laws_toCopyS.l0 k l x i) (cvL l) := by
  induction d with
  | zero =>
    intro x i hx h0 hi hd hj
    have e : x = cvL l := by
      apply List.ext_getElem (by rw [hx, cvL_len])
      intro j h1 h2
      have a := hj j (by omega) (by omega)
      rw [← rd57_cv l j (by omega) (by omega)] at a
      simpa [rd_T57, List.getD_eq_getElem?_getD, h1, h2] using a
    subst e
    exact Ev.step (f := fun _ => some (cvL l)) (fun k => by simp only [laws_toCopyS.l0]; rw [if_neg (by omega)]) (Ev.now _)
  | succ d ih =>
    intro x i hx h0 hi hd hj
    refine Ev.step (fun k => ?_) (ih (x.set i.toNat (cv (rd_T98 l i))) (i + 1) (by simpa using hx) (by omega) (by omega) (by omega) (fun j j0 j1 => ?_))
    · simp only [laws_toCopyS.l0, laws_toCopy.f, Option.bind_some]
      rw [if_pos (by omega), if_pos h0, if_pos (by omega), wrap_id (i + 1) (by omega) (by omega)]
      rfl
    · rw [rd57_set x i j _ h0 (by omega) j0]
      by_cases e : j = i
      · rw [if_pos e, e]
      · rw [if_neg e]; exact hj j j0 (by omega)
theorem toVoting_ev (l : List S98) (R W : Int) (hn : l.length ≤ 1073741824) : Ev (fun k => laws_toVoting.f k l R W) (cvL l, R, W) := by
  unfold laws_toVoting.f
  refine Ev.bind (a := cvL l) (Ev.congr (fun k => ?_) (toCopyS_l l hn l.length (List.replicate l.length z57) 0 (by simp) (by omega) (by omega) (by omega) (fun j h0 h1 => by omega))) (Ev.now _)
  unfold laws_toCopyS.f
  rw [if_pos (by omega), if_pos (by omega)]
  rfl
theorem szCopyS_l (l : List S98) (hn : l.length ≤ 1073741824) (hs : ∀ x ∈ l, x.f2.size ≤ maxLen) (d : Nat) : ∀ (i b : Int), 0 ≤ i → i ≤ (l.length : Int) → (l.length : Int) - i = d → 0 ≤ b → b ≤ 1048576 → ∃ r, r ≤ 1048576 ∧ Ev (fun k => laws_szCopyS.l0 k l b i) r := by
  induction d with
  | zero => intro i b h0 hi hd hb hb2; exact ⟨b, hb2, Ev.step (f := fun _ => some b) (fun k => by simp only [laws_szCopyS.l0]; rw [if_neg (by omega)]) (Ev.now _)⟩
  | succ d ih =>
    intro i b h0 hi hd hb hb2
    have hm : (rd_T98 l i).f2.size ≤ maxLen := by
      apply hs
      unfold rd_T98
      rw [List.getD_eq_getElem?_getD, List.getElem?_eq_getElem (by omega)]
      exact List.getElem_mem _
    have hm' : (rd_T98 l i).f2.size ≤ 9223372036854775807 := by unfold maxLen at hm; omega
    have hw : wrap64 (b - ((rd_T98 l i).f2.size : Int)) = b - ((rd_T98 l i).f2.size : Int) := wrap_id _ (by omega) (by omega)
    by_cases hp : b - ((rd_T98 l i).f2.size : Int) < 0
    · refine ⟨-1, by omega, Ev.step (f := fun _ => some (-1)) (fun k => ?_) (Ev.now _)⟩
      simp only [laws_szCopyS.l0, laws_szCopy.f, hw]
      rw [if_pos (by omega), if_pos h0, if_pos hp]
      rfl
    · obtain ⟨r, h, e⟩ := ih (i + 1) (b - ((rd_T98 l i).f2.size : Int)) (by omega) (by omega) (by omega) (by omega) (by omega)
      refine ⟨r, h, Ev.step (fun k => ?_) e⟩
      simp only [laws_szCopyS.l0, laws_szCopy.f, hw]
      rw [if_pos (by omega), if_pos h0, if_neg hp]
      simp only [Option.bind_some]
      rw [if_neg hp, wrap_id (i + 1) (by omega) (by omega)]
/-- What the law lets through is small; the rest it does not look at. -/
theorem szVoting_ev (l : List S98) (R W : Int) (hn : l.length ≤ maxLen) (hs : ∀ x ∈ l, x.f2.size ≤ maxLen) : ∃ r, Ev (fun k => laws_szVoting.f k l R W 1048576) r ∧ (¬ r < 0 → l.length ≤ 1048576) := by
  have hn' : l.length ≤ 9223372036854775807 := by unfold maxLen at hn; omega
  have hw : wrap64 (1048576 - (l.length : Int)) = 1048576 - (l.length : Int) := wrap_id _ (by omega) (by omega)
  by_cases hp : 1048576 - (l.length : Int) < 0
  · refine ⟨-1, ?_, fun h => absurd (by omega) h⟩
    unfold laws_szVoting.f
    refine Ev.bind (a := -1) (Ev.congr (fun k => ?_) (Ev.now _)) (Ev.congr (fun k => if_pos (by omega)) (Ev.now _))
    unfold laws_szCopyS.f
    rw [hw, if_pos hp]
  · obtain ⟨r, h, e⟩ := szCopyS_l l (by omega) hs l.length 0 (1048576 - (l.length : Int)) (by omega) (by omega) (by omega) (by omega) (by omega)
    refine ⟨if r < 0 then -1 else r, ?_, fun _ => by omega⟩
    unfold laws_szVoting.f
    refine Ev.bind (a := r) (Ev.congr (fun k => ?_) e) ?_
    · unfold laws_szCopyS.f
      rw [hw, if_neg hp]
    · by_cases q : r < 0
      · simp only [q, if_true]; exact ⟨0, fun _ _ => rfl⟩
      · simp only [q, if_false]; exact ⟨0, fun _ _ => rfl⟩
theorem markIntS_l (n : Nat) (hn : n ≤ 1073741824) (d : Nat) : ∀ (x : List Int) (m i : Int), x.length = n → 0 ≤ m → m ≤ i + 100000000000 → 0 ≤ i → i ≤ (n : Int) → (n : Int) - i = d → ∃ m', 0 ≤ m' ∧ ∃ y, Ev (fun k => laws_markIntS.l0 k x m i) (m', y) := by
  induction d with
  | zero => intro x m i hx h1 h2 h0 hi hd; exact ⟨m, h1, x, Ev.step (f := fun _ => some (m, x)) (fun k => by simp only [laws_markIntS.l0]; rw [if_neg (by omega)]) (Ev.now _)⟩
  | succ d ih =>
    intro x m i hx h1 h2 h0 hi hd
    obtain ⟨m', h, y, e⟩ := ih (x.set i.toNat m) (m + 1) (i + 1) (by simpa using hx) (by omega) (by omega) (by omega) (by omega) (by omega)
    exact ⟨m', h, y, Ev.step (fun k => by simp only [laws_markIntS.l0]; rw [if_pos (by omega), if_pos h0, wrap_id (m + 1) (by omega) (by omega), wrap_id (i + 1) (by omega) (by omega)]) e⟩
theorem markIntS_ev (l : List Int) (hn : l.length ≤ 1073741824) : ∃ m', 0 ≤ m' ∧ ∃ y, Ev (fun k => laws_markIntS.f k l 1) (m', y) :=
  markIntS_l l.length hn l.length l 1 0 rfl (by omega) (by omega) (by omega) (by omega) (by omega)
theorem markText_l (d : Nat) : ∀ (n : Int) (t : ByteArray), 0 ≤ n → n ≤ 1000000000000 → n < 10 ^ d → t.size + d ≤ 1000 → ∃ r, Ev (fun k => laws_markText.l0 k n t) r := by
  induction d with
  | zero =>
    intro n t h0 hb h1 h2
    exact ⟨_, Ev.step (fun k => by simp only [laws_markText.l0]; rw [if_neg (by omega), if_pos (by omega)]) (Ev.now _)⟩
  | succ d ih =>
    intro n t h0 hb h1 h2
    by_cases hp : n > 0
    · have hdv : Int.tdiv n 10 = n / 10 := Int.tdiv_eq_ediv_of_nonneg h0
      have hlt : n / 10 < 10 ^ d := by
        rw [Int.pow_succ] at h1
        omega
      have hs : ∀ z : Int, (strOfNums [z]).size = 1 := fun z => strOfNums_size [z]
      obtain ⟨r, e⟩ := ih (n / 10) (strOfNums [(wrap64 (48 + (Int.tmod n 10))) % 256] ++ t) (by omega) (by omega) hlt (by rw [ByteArray.size_append, hs]; omega)
      exact ⟨r, Ev.step (fun k => by simp only [laws_markText.l0, Option.bind_some]; rw [if_pos hp, if_pos (by rw [hs]; omega), hdv, wrap_id (n / 10) (by omega) (by omega)]) e⟩
    · exact ⟨_, Ev.step (fun k => by simp only [laws_markText.l0]; rw [if_neg hp, if_pos (by omega)]) (Ev.now _)⟩
theorem markText_ev (n : Int) (h0 : 0 ≤ n) (hb : n ≤ 100000000000) : ∃ r, Ev (fun k => laws_markText.f k n) r := by
  by_cases hp : n ≤ 0
  · exact ⟨_, Ev.congr (fun k => by unfold laws_markText.f; rw [if_pos hp]) (Ev.now _)⟩
  · obtain ⟨r, e⟩ := markText_l 12 n ⟨#[]⟩ h0 (by omega) (by omega) (by simp [ByteArray.size])
    exact ⟨r, Ev.congr (fun k => by unfold laws_markText.f; rw [if_neg hp]) e⟩
open Classical in
noncomputable def mT (n : Int) : ByteArray := if h : ∃ r, Ev (fun k => laws_markText.f k n) r then h.choose else ⟨#[]⟩
theorem mT_ev (n : Int) (h0 : 0 ≤ n) (hb : n ≤ 100000000000) : Ev (fun k => laws_markText.f k n) (mT n) := by
  unfold mT
  rw [dif_pos (markText_ev n h0 hb)]
  exact (markText_ev n h0 hb).choose_spec
noncomputable def mkd (i : Int) : S57 := ⟨1 + 3 * i, 2 + 3 * i, mT (3 + 3 * i)⟩
theorem markCopyS_l (n : Nat) (hn : n ≤ 1073741824) (d : Nat) : ∀ (x : List S57) (i : Int), x.length = n → 0 ≤ i → i ≤ (n : Int) → (n : Int) - i = d → (∀ j : Int, 0 ≤ j → j < i → rd_T57 x j = mkd j) →
    ∃ y, y.length = n ∧ (∀ j : Int, 0 ≤ j → j < n → rd_T57 y j = mkd j) ∧ Ev (fun k => laws_markCopyS.l0 k x (1 + 3 * i) i) (1 + 3 * (n : Int), y) := by
  induction d with
  | zero =>
    intro x i hx h0 hi hd hj
    obtain rfl : i = (n : Int) := by omega
    exact ⟨x, hx, hj, Ev.step (f := fun _ => some (1 + 3 * (n : Int), x)) (fun k => by simp only [laws_markCopyS.l0]; rw [if_neg (by omega)]) (Ev.now _)⟩
  | succ d ih =>
    intro x i hx h0 hi hd hj
    have hlt : i < (x.length : Int) := by omega
    obtain ⟨y, hy, hy2, e⟩ := ih (x.set i.toNat (mkd i)) (i + 1) (by simpa using hx) (by omega) (by omega) (by omega) (fun j j0 j1 => by
      rw [rd57_set x i j _ h0 hlt j0]
      by_cases e : j = i
      · rw [if_pos e, e]
      · rw [if_neg e]; exact hj j j0 (by omega))
    refine ⟨y, hy, hy2, ?_⟩
    have w1 : wrap64 (1 + 3 * i + 1) = 2 + 3 * i := by rw [wrap_id _ (by omega) (by omega)]; omega
    have w2 : wrap64 (2 + 3 * i + 1) = 3 + 3 * i := by rw [wrap_id _ (by omega) (by omega)]; omega
    have w3 : wrap64 (3 + 3 * i + 1) = 1 + 3 * (i + 1) := by rw [wrap_id _ (by omega) (by omega)]; omega
    refine Ev.step (f := fun k => (laws_markText.f k (3 + 3 * i)).bind fun t280 => (laws_markCopyS.l0 k (x.set i.toNat ⟨1 + 3 * i, 2 + 3 * i, t280⟩) (1 + 3 * (i + 1)) (i + 1))) (fun k => ?_) (Ev.bind (mT_ev _ (by omega) (by omega)) e)
    simp only [laws_markCopyS.l0, Option.bind_some, w1, w2, w3]
    rw [if_pos hlt, if_pos h0, wrap_id (i + 1) (by omega) (by omega)]
    simp [rd57_set, h0, hlt]
theorem heldCopyS_l (x : List S57) (hn : x.length ≤ 1073741824) (hx : ∀ j : Int, 0 ≤ j → j < x.length → rd_T57 x j = mkd j) (d : Nat) : ∀ i : Int, 0 ≤ i → i ≤ (x.length : Int) → (x.length : Int) - i = d →
    Ev (fun k => laws_heldCopyS.l0 k x (1 + 3 * i) i) (1 + 3 * (x.length : Int)) := by
  induction d with
  | zero =>
    intro i h0 hi hd
    obtain rfl : i = (x.length : Int) := by omega
    exact Ev.step (f := fun _ => some (1 + 3 * (x.length : Int))) (fun k => by simp only [laws_heldCopyS.l0]; rw [if_neg (by omega)]) (Ev.now _)
  | succ d ih =>
    intro i h0 hi hd
    have hlt : i < (x.length : Int) := by omega
    have hm := hx i h0 hlt
    have w1 : wrap64 (1 + 3 * i + 1) = 2 + 3 * i := by rw [wrap_id _ (by omega) (by omega)]; omega
    have w2 : wrap64 (2 + 3 * i + 1) = 3 + 3 * i := by rw [wrap_id _ (by omega) (by omega)]; omega
    have w3 : wrap64 (3 + 3 * i + 1) = 1 + 3 * (i + 1) := by rw [wrap_id _ (by omega) (by omega)]; omega
    refine Ev.step (f := fun k => (laws_markText.f k (3 + 3 * i)).bind fun t => if (mT (3 + 3 * i)).toList = t.toList then laws_heldCopyS.l0 k x (1 + 3 * (i + 1)) (i + 1) else some (-1)) (fun k => ?_)
      (Ev.bind (mT_ev _ (by omega) (by omega)) (Ev.congr (fun k => if_pos rfl) (ih (i + 1) (by omega) (by omega) (by omega))))
    simp only [laws_heldCopyS.l0, w1, w2, w3, hm, mkd]
    rw [if_pos hlt, if_pos h0, if_pos True.intro, if_pos True.intro, wrap_id (i + 1) (by omega) (by omega)]
/-- A voting is marked, and holds what it was marked with. -/
theorem mark_at (l : List S57) (R W : Int) (hn : l.length ≤ 1073741824) : ∃ (y : List S57), Ev (fun k => laws_markVoting.f k l R W 1) (1 + 3 * (l.length : Int), y) ∧ Ev (fun k => laws_heldVoting.f k y R W 1) (1 + 3 * (l.length : Int)) := by
  obtain ⟨y, hy, hy2, e⟩ := markCopyS_l l.length hn l.length l 0 rfl (by omega) (by omega) (by omega) (fun j h0 h1 => by omega)
  have h := heldCopyS_l y (by omega) (by rw [hy]; exact hy2) y.length 0 (by omega) (by omega) (by omega)
  rw [hy] at h
  refine ⟨y, ?_, ?_⟩
  · unfold laws_markVoting.f
    exact Ev.bind (a := (1 + 3 * (l.length : Int), y)) e (Ev.now _)
  · unfold laws_heldVoting.f
    exact Ev.bind (a := 1 + 3 * (l.length : Int)) h (Ev.congr (fun k => if_neg (by omega)) (Ev.now _))
theorem mark_held (l : List S57) (R W : Int) (hn : l.length ≤ 1073741824) : ∃ (m : Int) (y : List S57), 0 ≤ m ∧ Ev (fun k => laws_markVoting.f k l R W 1) (m, y) ∧ Ev (fun k => laws_heldVoting.f k y R W 1) m := by
  obtain ⟨y, h1, h2⟩ := mark_at l R W hn
  exact ⟨_, y, by omega, h1, h2⟩
theorem write_l (l0 : List S57) (v : Int) (t : ByteArray) (s : List Int) (R W : Int) (hn : s.length ≤ 1073741824) (res : List S57 × Int × Int × Bool) (d : Nat) :
    ∀ (i n : Int) (l : List S57), 0 ≤ i → i ≤ (s.length : Int) → (s.length : Int) - i = d → (∀ k ∈ s, 0 ≤ k ∧ k < (l.length : Int)) →
    Ev (fun k => (spec_GoodVoting.f k ((s.drop i.toNat).foldl (wStep v t) (l, n)).1 R W).bind fun b => (if b = true then (some (((s.drop i.toNat).foldl (wStep v t) (l, n)).1, R, W, true)) else (some (([] : List S57), 0, 0, false)))) res →
    Ev (fun k => spec_WriteText.l0 k t v s (s.length : Int) i l R W) res := by
  induction d with
  | zero =>
    intro i n l h0 hi hd hk h
    rw [List.drop_eq_nil_of_le (by omega)] at h
    exact Ev.step (fun k => by simp only [spec_WriteText.l0]; rw [if_neg (by omega)]; rfl) h
  | succ d ih =>
    intro i n l h0 hi hd hk h
    have hm := hk _ (rd_mem s i h0 (by omega))
    rw [drop_int s i h0 (by omega), List.foldl_cons] at h
    refine Ev.step (fun k => ?_) (ih (i + 1) (wStep v t (l, n) (rd s i)).2 (wStep v t (l, n) (rd s i)).1 (by omega) (by omega) (by omega) (fun k hk2 => by simpa [wStep] using hk k hk2) h)
    simp only [spec_WriteText.l0, Option.bind_some]
    rw [if_pos (by omega), if_pos h0, if_pos (by omega), if_pos hm.1, if_pos hm.2, wrap_id (i + 1) (by omega) (by omega)]
    simp [wStep, rd57_set, hm.1, hm.2]
theorem own_eq (l : List S57) (R W : Int) (h : l.length ≤ 1073741824) : spec_l14Own.f l R W = some (l, R, W) := by
  unfold spec_l14Own.f
  rw [Option.bind_some, if_pos (by simp; omega)]
  rfl
theorem specWrite_ev (l : List S57) (R W : Int) (s : List Int) (t : ByteArray) (hl : l.length ≤ 1073741824) (hs : s.length ≤ 1073741824) : Ev (fun k => spec_WriteText.f k l R W s t) (writeTextV l R W s t) := by
  have bad : ∀ x, x = ([], 0, 0, false) → Ev (fun k => spec_WriteText.j0 k s t true l R W) x := by
    rintro x rfl
    exact Ev.step (f := fun _ => some ([], 0, 0, false)) (fun k => by simp only [spec_WriteText.j0]; simp) (Ev.now _)
  unfold spec_WriteText.f
  refine Ev.bind (specGood_ev l R W hl) ?_
  cases g : goodV l R W with
  | false => exact Ev.congr (fun k => if_neg (by simp)) (bad _ (by simp [writeTextV, someV, g]))
  | true =>
    obtain ⟨hne, hp, hR⟩ := good_parts l R W g
    refine Ev.congr (fun k => if_pos rfl) (Ev.bind (some_ev s (l.length : Int) hs (by omega) (by omega)) ?_)
    cases r : risingV s (l.length : Int) with
    | false => exact Ev.congr (fun k => if_neg (by simp)) (bad _ (by simp [writeTextV, someV, r]))
    | true =>
      have hin := risingV_in s _ r
      refine Ev.congr (fun k => if_pos rfl) (Ev.bind (weight_ev l R W s hs hin) ?_)
      by_cases q : vSum l s < W
      · exact Ev.congr (fun k => if_pos q) (bad _ (by simp [writeTextV, q]))
      · refine Ev.congr (fun k => if_neg q) ?_
        by_cases q2 : (t.size : Int) > 12
        · rw [decide_eq_true q2]
          exact bad _ (by simp [writeTextV]; omega)
        · rw [decide_eq_false q2]
          have hW : 1 ≤ W := by
            have h := g
            rw [← good_eq, Bool.and_eq_true] at h
            have ht := h.2
            unfold tailV at ht
            simp only [Bool.and_eq_true] at ht
            have h2 : inB W 1 (sumA l) = true := ht.1.1.1.2
            unfold inB at h2; simp at h2; omega
          have hsne : s ≠ [] := by
            rintro rfl
            have : vSum l [] = 0 := rfl
            omega
          obtain ⟨b, hb, he, hE⟩ := best_ev l R W s hs hin hp hsne
          refine Ev.step (f := fun k => (spec_l14Best.f k l R W s).bind fun t204 => (if 0 ≤ t204 then (if t204 < (l.length : Int) then ((spec_l14Own.f l R W).bind fun bt206 => (spec_WriteText.l0 k t (wrap64 (((rd_T57 l t204).f1) + 1)) s (s.length : Int) 0 bt206.1 bt206.2.1 bt206.2.2)) else (none)) else (none)))
            (fun k => by simp only [spec_WriteText.j0]; rw [if_neg (by simp)]) (Ev.bind hE (Ev.congr (fun k => if_pos hb.1) (Ev.congr (fun k => if_pos hb.2) ?_)))
          refine Ev.congr (fun k => by rw [own_eq l R W hl, Option.bind_some]) (write_l l _ t s R W hs _ s.length 0 0 l (by omega) (by omega) (by omega) hin ?_)
          rw [he]
          have hwl := writtenV_len l s (wrap64 ((vBest l s).f1 + 1)) t
          refine Ev.bind (a := goodV (writtenV l s (wrap64 ((vBest l s).f1 + 1)) t).1 R W) (specGood_ev (writtenV l s (wrap64 ((vBest l s).f1 + 1)) t).1 R W (by rw [hwl]; exact hl)) ?_
          cases gg : goodV (writtenV l s (wrap64 ((vBest l s).f1 + 1)) t).1 R W with
          | false =>
            have : writeTextV l R W s t = ([], 0, 0, false) := by unfold writeTextV; rw [if_neg (by simp [gg])]
            rw [this]
            exact ⟨0, fun _ _ => rfl⟩
          | true =>
            have : writeTextV l R W s t = ((writtenV l s (wrap64 ((vBest l s).f1 + 1)) t).1, R, W, true) := by unfold writeTextV; rw [if_pos ⟨by simp [someV, g, r], q, by omega, gg⟩]
            rw [this]
            exact ⟨0, fun _ _ => rfl⟩
end Go.Proofs.Ytfbghibgjfegpaa.Pure
