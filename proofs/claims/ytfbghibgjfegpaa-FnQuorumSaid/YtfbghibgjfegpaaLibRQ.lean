import Derived.Test.YtfbghibgjfegpaaPRQx13
import Derived.Test.YtfbghibgjfegpaaPRQx7
import Derived.Test.YtfbghibgjfegpaaPRQx11
import Derived.Test.YtfbghibgjfegpaaPRQx12
import Derived.Test.YtfbghibgjfegpaaPRQx15
import Derived.Test.YtfbghibgjfegpaaPRQx8
import Derived.Test.YtfbghibgjfegpaaPRQx4
/- Plain laws on the printed functions. Conditions: lists of at most 2^30. -/
namespace Go.Proofs.Ytfbghibgjfegpaa.Pure
open Go Go.RowKit Go.Proofs.Ytfbghibgjfegpaa.PRQ Go.Proofs.YtfbghibgjfegpaaW.PrintWords Go.Proofs.YtfbghibgjfegpaaW.PrintLast
set_option linter.unusedVariables false
theorem wrap_id (x : Int) (h0 : -9223372036854775808 ≤ x) (h1 : x ≤ 9223372036854775807) : wrap64 x = x := by
  unfold wrap64; omega
theorem l1In_eq (a b c : Int) : spec_l1In.f a b c = some (inB a b c) := by
  unfold spec_l1In.f inB
  by_cases h : a ≥ b
  · rw [if_pos h]; simp [show b ≤ a from h]
  · rw [if_neg h]; simp [show ¬ b ≤ a from h]
theorem some_l (l : List Int) (n : Int) (hn : l.length ≤ 1073741824) (n0 : 0 ≤ n) (n1 : n ≤ 1073741824) : ∀ (k : Nat) (i b : Int), 0 ≤ i → i ≤ (l.length : Int) → (l.length - i).toNat < k → (i = 0 ∧ b = -1 ∨ 0 < i ∧ b = rd l (i - 1) ∧ 0 ≤ b) →
    spec_l14Some.l0 k l n l (l.length : Int) i = some (risingFrom n b (l.drop i.toNat)) := by
  intro k
  induction k with
  | zero => intro i b h0 hi hk; omega
  | succ k ih =>
    intro i b h0 hi hk hb
    simp only [spec_l14Some.l0]
    by_cases hlt : i < (l.length : Int)
    · rw [if_pos hlt, if_pos h0, if_pos hlt, l1In_eq, wrap_id (n - 1) (by omega) (by omega), drop_rd l i h0 hlt]
      simp only [Option.bind_some, risingFrom]
      by_cases q : inB (rd l i) 0 (n - 1) = true
      · rw [if_pos q]
        have q' : 0 ≤ rd l i ∧ rd l i ≤ n - 1 := by unfold inB at q; simpa using q
        have step : spec_l14Some.l0 k l n l (l.length : Int) (wrap64 (i + 1)) = some (risingFrom n (rd l i) (l.drop (i + 1).toNat)) := by
          rw [wrap_id (i + 1) (by omega) (by omega)]
          exact ih (i + 1) (rd l i) (by omega) (by omega) (by omega) (.inr ⟨by omega, by rw [show i + 1 - 1 = i by omega], q'.1⟩)
        rcases hb with ⟨rfl, rfl⟩ | ⟨hp, rfl, hb0⟩
        · rw [if_neg (by omega), step]
          simp only [show (-1 : Int) + 1 = 0 by omega, q, Bool.true_and]
        · rw [if_pos hp, wrap_id (i - 1) (by omega) (by omega), if_pos (by omega), if_pos (by omega)]
          by_cases r : rd l (i - 1) ≥ rd l i
          · rw [if_pos r]
            have : inB (rd l i) (rd l (i - 1) + 1) (n - 1) = false := by unfold inB; simp; omega
            rw [this]; rfl
          · rw [if_neg r, step]
            have : inB (rd l i) (rd l (i - 1) + 1) (n - 1) = true := by unfold inB; simp; omega
            rw [this]; rfl
      · rw [if_neg q]
        have q' : ¬ (0 ≤ rd l i ∧ rd l i ≤ n - 1) := by unfold inB at q; simpa using q
        have : inB (rd l i) (b + 1) (n - 1) = false := by
          unfold inB
          simp
          rcases hb with ⟨_, rfl⟩ | ⟨_, _, hb0⟩ <;> omega
        rw [this]; rfl
    · rw [if_neg hlt, List.drop_eq_nil_of_le (by omega)]; rfl
theorem some_eq (l : List Int) (n : Int) (hn : l.length ≤ 1073741824) (n0 : 0 ≤ n) (n1 : n ≤ 1073741824) (k : Nat) (hk : l.length < k) : spec_l14Some.f k l n = some (risingV l n) :=
  some_l l n hn n0 n1 k 0 (-1) (by omega) (by omega) (by omega) (.inl ⟨rfl, rfl⟩)
theorem some_ev (l : List Int) (n : Int) (hn : l.length ≤ 1073741824) (n0 : 0 ≤ n) (n1 : n ≤ 1073741824) : Ev (fun k => spec_l14Some.f k l n) (risingV l n) := ⟨l.length + 1, fun k hk => some_eq l n hn n0 n1 k (by omega)⟩
theorem drop57 (l : List S57) (i : Int) (h0 : 0 ≤ i) (h : i < (l.length : Int)) : l.drop i.toNat = rd_T57 l i :: l.drop (i + 1).toNat := by
  rw [show (i + 1).toNat = i.toNat + 1 by omega, List.drop_eq_getElem_cons (by omega)]
  simp [rd_T57, List.getD_eq_getElem?_getD, show i.toNat < l.length by omega]
theorem all_l (l : List S57) (R W : Int) (hn : l.length ≤ 1073741824) (d : Nat) : ∀ (i t : Int), 0 ≤ i → i ≤ (l.length : Int) → (l.length : Int) - i = d →
    Ev (fun k => spec_l14All.l0 k t l (l.length : Int) i) ((l.drop i.toNat).foldl (fun t x => wrap64 (t + x.f0)) t) := by
  induction d with
  | zero =>
    intro i t h0 hi hd
    rw [List.drop_eq_nil_of_le (by omega)]
    exact Ev.step (fun k => by simp only [spec_l14All.l0]; rw [if_neg (by omega)]; rfl) (Ev.now _)
  | succ d ih =>
    intro i t h0 hi hd
    rw [drop57 l i h0 (by omega), List.foldl_cons]
    exact Ev.step (fun k => by simp only [spec_l14All.l0]; rw [if_pos (by omega), if_pos h0, if_pos (by omega), wrap_id (i + 1) (by omega) (by omega)]) (ih (i + 1) _ (by omega) (by omega) (by omega))
theorem all_ev (l : List S57) (R W : Int) (hn : l.length ≤ 1073741824) : Ev (fun k => spec_l14All.f k l R W) (l.foldl (fun t x => wrap64 (t + x.f0)) 0) := by
  have := all_l l R W hn l.length 0 0 (by omega) (by omega) (by omega)
  simpa [spec_l14All.f] using this
def mostV (l : List S57) (m : Int) : Int := l.foldl (fun m x => if x.f1 > m then x.f1 else m) m
theorem newest1_l (l : List S57) (m : Int) (hn : l.length ≤ 1073741824) (d : Nat) : ∀ (i t : Int), 0 ≤ i → i ≤ (l.length : Int) → (l.length : Int) - i = d →
    Ev (fun k => spec_l14Newest.l1 k m t l (l.length : Int) i) (m, (l.drop i.toNat).foldl (fun t x => if x.f1 = m then wrap64 (t + x.f0) else t) t) := by
  induction d with
  | zero =>
    intro i t h0 hi hd
    rw [List.drop_eq_nil_of_le (by omega)]
    exact Ev.step (fun k => by simp only [spec_l14Newest.l1]; rw [if_neg (by omega)]; rfl) (Ev.now _)
  | succ d ih =>
    intro i t h0 hi hd
    rw [drop57 l i h0 (by omega), List.foldl_cons]
    by_cases e : (rd_T57 l i).f1 = m
    · rw [if_pos e]
      exact Ev.step (fun k => by simp only [spec_l14Newest.l1]; rw [if_pos (by omega), if_pos h0, if_pos (by omega), if_pos e, wrap_id (i + 1) (by omega) (by omega)]) (ih (i + 1) _ (by omega) (by omega) (by omega))
    · rw [if_neg e]
      exact Ev.step (fun k => by simp only [spec_l14Newest.l1]; rw [if_pos (by omega), if_pos h0, if_pos (by omega), if_neg e, wrap_id (i + 1) (by omega) (by omega)]) (ih (i + 1) _ (by omega) (by omega) (by omega))
theorem newest0_l (l : List S57) (R W : Int) (hn : l.length ≤ 1073741824) (d : Nat) : ∀ (i m : Int), 0 ≤ i → i ≤ (l.length : Int) → (l.length : Int) - i = d →
    Ev (fun k => spec_l14Newest.l0 k m l (l.length : Int) i l R W) (mostV (l.drop i.toNat) m, vWeigh l (mostV (l.drop i.toNat) m)) := by
  induction d with
  | zero =>
    intro i m h0 hi hd
    rw [List.drop_eq_nil_of_le (by omega)]
    have := newest1_l l m hn l.length 0 0 (by omega) (by omega) (by omega)
    refine Ev.step (fun k => by simp only [spec_l14Newest.l0]; rw [if_neg (by omega)]) (by simpa [mostV, vWeigh] using this)
  | succ d ih =>
    intro i m h0 hi hd
    rw [drop57 l i h0 (by omega)]
    have e1 : mostV (rd_T57 l i :: l.drop (i + 1).toNat) m = mostV (l.drop (i + 1).toNat) (if (rd_T57 l i).f1 > m then (rd_T57 l i).f1 else m) := by simp [mostV]
    rw [e1]
    by_cases e : (rd_T57 l i).f1 > m
    · rw [if_pos e]
      exact Ev.step (fun k => by simp only [spec_l14Newest.l0]; rw [if_pos (by omega), if_pos h0, if_pos (by omega), if_pos e, wrap_id (i + 1) (by omega) (by omega)]) (ih (i + 1) _ (by omega) (by omega) (by omega))
    · rw [if_neg e]
      exact Ev.step (fun k => by simp only [spec_l14Newest.l0]; rw [if_pos (by omega), if_pos h0, if_pos (by omega), if_neg e, wrap_id (i + 1) (by omega) (by omega)]) (ih (i + 1) _ (by omega) (by omega) (by omega))
theorem newest_ev (l : List S57) (R W : Int) (hn : l.length ≤ 1073741824) : Ev (fun k => spec_l14Newest.f k l R W) (mostV l 0, vWeigh l (mostV l 0)) := by
  have := newest0_l l R W hn l.length 0 0 (by omega) (by omega) (by omega)
  simpa [spec_l14Newest.f] using this
def okF (x : S57) : Bool := inB x.f0 1 10 && inB x.f1 0 1000000 && !decide ((x.f2.size : Int) > 12)
theorem cpP_ok (x : S57) : cpP x = !okF x := by
  unfold cpP impl_GoodVoting_1.f impl_copyOK.f okF
  rw [inB_some, inB_some]
  by_cases h3 : (x.f2.size : Int) > 12
  · cases h1 : inB x.f0 1 10 <;> cases h2 : inB x.f1 0 1000000 <;> simp [h3] <;> omega
  · cases h1 : inB x.f0 1 10 <;> cases h2 : inB x.f1 0 1000000 <;> simp [h3] <;> omega
theorem any_ok (l : List S57) : l.any cpP = !l.all okF := by
  induction l with
  | nil => rfl
  | cons x l ih => rw [List.any_cons, List.all_cons, ih, cpP_ok, Bool.not_and]
def sumA (l : List S57) : Int := l.foldl (fun t x => wrap64 (t + x.f0)) 0
def tailV (l : List S57) (R W : Int) : Bool :=
  inB l.length 1 7 && inB R 1 (sumA l) && inB W 1 (sumA l) && !decide (wrap64 (R + W) ≤ sumA l) && !decide (wrap64 (2 * W) ≤ sumA l) && decide (vWeigh l (mostV l 0) ≥ W)
def goodLoop (l : List S57) : Nat → Int → Bool
  | 0, _ => true
  | d + 1, i => okF (rd_T57 l i) && !((l.take i.toNat).any (vClash (rd_T57 l i))) && goodLoop l d (i + 1)
theorem good_tail (l : List S57) (R W : Int) (hn : l.length ≤ 1073741824) (i : Int) (hi : ¬ i < (l.length : Int)) : Ev (fun k => spec_GoodVoting.l0 k l (l.length : Int) i l R W) (tailV l R W) := by
  obtain ⟨K1, hA⟩ := all_ev l R W hn
  obtain ⟨K2, hB⟩ := newest_ev l R W hn
  refine ⟨K1 + K2 + 1, fun k hk => ?_⟩
  obtain ⟨k, rfl⟩ : ∃ m, k = m + 1 := ⟨k - 1, by omega⟩
  simp only [spec_GoodVoting.l0]
  have hA' : spec_l14All.f k l R W = some (sumA l) := hA k (by omega)
  have hB' : spec_l14Newest.f k l R W = some (mostV l 0, vWeigh l (mostV l 0)) := hB k (by omega)
  rw [if_neg hi, l1In_eq, hA', hB']
  simp only [Option.bind_some, l1In_eq]
  unfold tailV
  cases q1 : inB (l.length : Int) 1 7 with
  | false => simp
  | true =>
    cases q2 : inB R 1 (sumA l) with
    | false => simp
    | true =>
      cases q3 : inB W 1 (sumA l) with
      | false => simp
      | true =>
        by_cases q4 : wrap64 (R + W) ≤ sumA l
        · simp [q4]
        · by_cases q5 : wrap64 (2 * W) ≤ sumA l
          · simp [q4, q5]
          · simp [q4, q5]
theorem good_in (l y : List S57) (R W : Int) (i : Int) (a : S57) (hn : y.length ≤ 1073741824) (d : Nat) : ∀ (j : Int) (r : Bool), 0 ≤ j → j ≤ (y.length : Int) → (y.length : Int) - j = d →
    ((y.drop j.toNat).any (vClash a) = true → r = false) → ((y.drop j.toNat).any (vClash a) = false → Ev (fun k => spec_GoodVoting.l0 k l (l.length : Int) (wrap64 (i + 1)) l R W) r) →
    Ev (fun k => spec_GoodVoting.l1 k l (l.length : Int) i y (y.length : Int) j l R W a.f0 a.f1 a.f2) r := by
  induction d with
  | zero =>
    intro j r h0 hj hd h1 h2
    exact Ev.step (fun k => by simp only [spec_GoodVoting.l1]; rw [if_neg (by omega)]) (h2 (by rw [List.drop_eq_nil_of_le (by omega)]; rfl))
  | succ d ih =>
    intro j r h0 hj hd h1 h2
    rw [drop57 y j h0 (by omega), List.any_cons] at h1 h2
    by_cases e1 : (rd_T57 y j).f1 = a.f1
    · by_cases e2 : (rd_T57 y j).f2.toList = a.f2.toList
      · have hc : vClash a (rd_T57 y j) = false := by simp [vClash, e2]
        rw [hc, Bool.false_or] at h1 h2
        exact Ev.step (fun k => by simp only [spec_GoodVoting.l1]; rw [if_pos (by omega), if_pos h0, if_pos (by omega), if_pos e1, if_pos e2, wrap_id (j + 1) (by omega) (by omega)]) (ih (j + 1) r (by omega) (by omega) (by omega) h1 h2)
      · have hc : vClash a (rd_T57 y j) = true := by
          have : ¬ (a.f2.toList = (rd_T57 y j).f2.toList) := fun h => e2 h.symm
          simp [vClash, e1, this]
        rw [hc] at h1
        obtain rfl := h1 (by simp)
        exact Ev.step (fun k => by simp only [spec_GoodVoting.l1]; rw [if_pos (by omega), if_pos h0, if_pos (by omega), if_pos e1, if_neg e2] <;> first | done | rfl) (Ev.now _)
    · have hc : vClash a (rd_T57 y j) = false := by
        have : ¬ (a.f1 = (rd_T57 y j).f1) := fun h => e1 h.symm
        simp [vClash, this]
      rw [hc, Bool.false_or] at h1 h2
      exact Ev.step (fun k => by simp only [spec_GoodVoting.l1]; rw [if_pos (by omega), if_pos h0, if_pos (by omega), if_neg e1, wrap_id (j + 1) (by omega) (by omega)]) (ih (j + 1) r (by omega) (by omega) (by omega) h1 h2)
theorem good_l (l : List S57) (R W : Int) (hn : l.length ≤ 1073741824) (d : Nat) : ∀ (i : Int), 0 ≤ i → i ≤ (l.length : Int) → (l.length : Int) - i = d →
    Ev (fun k => spec_GoodVoting.l0 k l (l.length : Int) i l R W) (goodLoop l d i && tailV l R W) := by
  induction d with
  | zero => intro i h0 hi hd; simpa [goodLoop] using good_tail l R W hn i (by omega)
  | succ d ih =>
    intro i h0 hi hd
    have hlt : i < (l.length : Int) := by omega
    have bad : ∀ r, r = false → Ev (fun k => spec_GoodVoting.j1 k i l (l.length : Int) i true l R W (rd_T57 l i).f0 (rd_T57 l i).f1 (rd_T57 l i).f2) r := by
      rintro r rfl
      exact Ev.step (fun k => by simp only [spec_GoodVoting.j1]; first | rw [if_pos True.intro] | rw [if_pos rfl]) (Ev.now _)
    have st : ∀ r b, (b = true → r = false) → (b = false → Ev (fun k => spec_GoodVoting.l1 k l (l.length : Int) i (l.take i.toNat) ((l.take i.toNat).length : Int) 0 l R W (rd_T57 l i).f0 (rd_T57 l i).f1 (rd_T57 l i).f2) r) →
        Ev (fun k => spec_GoodVoting.j1 k i l (l.length : Int) i b l R W (rd_T57 l i).f0 (rd_T57 l i).f1 (rd_T57 l i).f2) r := by
      intro r b h1 h2
      cases b with
      | true => exact bad r (h1 rfl)
      | false => exact Ev.step (fun k => by simp only [spec_GoodVoting.j1]; rw [if_neg (by simp), if_pos h0, if_pos (by omega)]; rfl) (h2 rfl)
    have hin := good_in l (l.take i.toNat) R W i (rd_T57 l i) (by rw [List.length_take]; omega) (l.take i.toNat).length 0 (goodLoop l (d + 1) i && tailV l R W) (by omega) (by omega) (by omega)
    have key : ∀ b, b = decide (((rd_T57 l i).f2.size : Int) > 12) → inB (rd_T57 l i).f0 1 10 = true → inB (rd_T57 l i).f1 0 1000000 = true → Ev (fun k => spec_GoodVoting.j1 k i l (l.length : Int) i b l R W (rd_T57 l i).f0 (rd_T57 l i).f1 (rd_T57 l i).f2) (goodLoop l (d + 1) i && tailV l R W) := by
      intro b hb q1 q2
      refine st _ b (fun hbt => ?_) (fun hbf => hin (fun hc => ?_) (fun hc => ?_))
      · simp [goodLoop, okF, ← hb, hbt]
      · rw [show ((0 : Int).toNat) = 0 from rfl, List.drop_zero] at hc
        simp [goodLoop, hc]
      · rw [show ((0 : Int).toNat) = 0 from rfl, List.drop_zero] at hc
        have := ih (i + 1) (by omega) (by omega) (by omega)
        rw [wrap_id (i + 1) (by omega) (by omega)]
        have e : (goodLoop l (d + 1) i && tailV l R W) = (goodLoop l d (i + 1) && tailV l R W) := by
          have ho : okF (rd_T57 l i) = true := by unfold okF; rw [q1, q2, ← hb, hbf]; rfl
          simp only [goodLoop, hc, ho]
          simp
        rw [e]
        exact this
    cases q1 : inB (rd_T57 l i).f0 1 10 with
    | false =>
      exact Ev.step (fun k => by simp only [spec_GoodVoting.l0]; rw [if_pos hlt, if_pos h0, if_pos hlt, l1In_eq, q1]; simp only [Option.bind_some]; rw [if_neg (by simp)]) (bad _ (by simp [goodLoop, okF, q1]))
    | true =>
      cases q2 : inB (rd_T57 l i).f1 0 1000000 with
      | false =>
        exact Ev.step (fun k => by simp only [spec_GoodVoting.l0]; rw [if_pos hlt, if_pos h0, if_pos hlt, l1In_eq, l1In_eq, q1, q2]; simp only [Option.bind_some]; first | rw [if_pos True.intro, if_neg (by simp)] | rw [if_pos rfl, if_neg (by simp)]) (bad _ (by simp [goodLoop, okF, q2]))
      | true =>
        exact Ev.step (fun k => by simp only [spec_GoodVoting.l0]; rw [if_pos hlt, if_pos h0, if_pos hlt, l1In_eq, l1In_eq, q1, q2]; simp only [Option.bind_some]; first | rw [if_pos True.intro, if_pos True.intro] | rw [if_pos rfl, if_pos rfl]) (key _ rfl q1 q2)
theorem goodLoop_eq (l : List S57) (d : Nat) : ∀ i : Int, 0 ≤ i → (l.length : Int) - i = d → (goodLoop l d i = true ↔ (∀ j : Nat, i ≤ (j : Int) → j < l.length → okF (rd_T57 l (j : Int)) = true ∧ (l.take j).any (vClash (rd_T57 l (j : Int))) = false)) := by
  induction d with
  | zero => intro i h0 hd; simp only [goodLoop, true_iff]; intro j h1 h2; omega
  | succ d ih =>
    intro i h0 hd
    simp only [goodLoop, Bool.and_eq_true, Bool.not_eq_true']
    rw [ih (i + 1) (by omega) (by omega)]
    constructor
    · rintro ⟨⟨h1, h2⟩, h3⟩ j hj hl
      by_cases e : (j : Int) = i
      · subst e
        simpa using And.intro h1 h2
      · exact h3 j (by omega) hl
    · intro h
      refine ⟨?_, fun j hj hl => h j (by omega) hl⟩
      have := h i.toNat (by omega) (by omega)
      rw [show ((i.toNat : Nat) : Int) = i by omega] at this
      exact this
theorem list_all (l : List S57) : (vAll l.length).map (rd_T57 l) = l := by
  apply List.ext_getElem (by simp [vAll])
  intro i h1 h2
  simp [vAll, rd_T57, List.getD_eq_getElem?_getD, h2]
theorem vTot_eq (l : List S57) : vTot l = sumA l := by
  unfold vTot vSum sumA
  have := List.foldl_map (f := rd_T57 l) (g := fun (t : Int) (x : S57) => wrap64 (t + x.f0)) (l := vAll l.length) (init := 0)
  rw [list_all] at this
  exact this.symm
theorem best_f1 (l : List S57) : ∀ b : S57, (l.foldl (fun b x => if x.f1 > b.f1 then x else b) b).f1 = mostV l b.f1 := by
  induction l with
  | nil => intro b; rfl
  | cons x l ih =>
    intro b
    rw [List.foldl_cons, ih]
    simp only [mostV, List.foldl_cons]
    by_cases e : x.f1 > b.f1
    · rw [if_pos e, if_pos e]
    · rw [if_neg e, if_neg e]
theorem vTop_eq (l : List S57) : vTop l = mostV l (-1) := by
  unfold vTop vBest
  have := List.foldl_map (f := rd_T57 l) (g := fun (b x : S57) => if x.f1 > b.f1 then x else b) (l := vAll l.length) (init := ⟨0, -1, ⟨#[]⟩⟩)
  rw [list_all] at this
  rw [← this, best_f1]
theorem most_ge (l : List S57) : ∀ m : Int, m ≤ mostV l m ∧ ∀ x ∈ l, x.f1 ≤ mostV l m := by
  induction l with
  | nil => intro m; simp [mostV]
  | cons x l ih =>
    intro m
    have e : mostV (x :: l) m = mostV l (if x.f1 > m then x.f1 else m) := by simp [mostV]
    rw [e]
    obtain ⟨h1, h2⟩ := ih (if x.f1 > m then x.f1 else m)
    have h3 : m ≤ (if x.f1 > m then x.f1 else m) ∧ x.f1 ≤ (if x.f1 > m then x.f1 else m) := by split <;> omega
    refine ⟨by omega, fun y hy => ?_⟩
    rcases List.mem_cons.1 hy with rfl | hy
    · omega
    · exact h2 y hy
theorem most_start (l : List S57) (hl : l ≠ []) (h : ∀ x ∈ l, 0 ≤ x.f1) : mostV l (-1) = mostV l 0 := by
  cases l with
  | nil => exact absurd rfl hl
  | cons x l =>
    have h0 := h x List.mem_cons_self
    simp only [mostV, List.foldl_cons]
    rw [if_pos (by omega)]
    by_cases e : x.f1 > 0
    · rw [if_pos e]
    · rw [if_neg e, show x.f1 = 0 by omega]
theorem weigh_all (l : List S57) (v : Int) (h : ∀ x ∈ l, x.f1 = v) : ∀ t : Int, l.foldl (fun t x => if x.f1 = v then wrap64 (t + x.f0) else t) t = l.foldl (fun t x => wrap64 (t + x.f0)) t := by
  induction l with
  | nil => intro t; rfl
  | cons x l ih =>
    intro t
    rw [List.foldl_cons, List.foldl_cons, if_pos (h x List.mem_cons_self)]
    exact ih (fun y hy => h y (List.mem_cons_of_mem _ hy)) _
theorem okF_get {l : List S57} (h : l.all okF = true) (x : S57) (hx : x ∈ l) : okF x = true := List.all_eq_true.1 h x hx
theorem good_eq (l : List S57) (R W : Int) : (goodLoop l l.length 0 && tailV l R W) = goodV l R W := by
  have hL := goodLoop_eq l l.length 0 (by omega) (by omega)
  have hok : l.any cpP = !l.all okF := any_ok l
  by_cases h1 : goodLoop l l.length 0 = true
  · have hj := hL.1 h1
    have hall : l.all okF = true := List.all_eq_true.2 fun x hx => by
      obtain ⟨j, hj2, rfl⟩ := List.getElem_of_mem hx
      have := (hj j (by omega) hj2).1
      simpa [rd_T57, List.getD_eq_getElem?_getD, hj2] using this
    have hcl : vClashes l l.length = false := by
      unfold vClashes
      rw [List.any_eq_false]
      intro j hj2
      have := (hj j (by omega) (List.mem_range.1 hj2)).2
      simpa using this
    have h0 : ∀ x ∈ l, 0 ≤ x.f1 := fun x hx => by
      have := okF_get hall x hx
      unfold okF inB at this
      simp at this
      omega
    rw [h1, Bool.true_and]
    unfold tailV goodV
    rw [hok, hall, hcl, vTot_eq, vTop_eq]
    by_cases hlen : inB (l.length : Int) 1 7 = true
    · have hne : l ≠ [] := by rintro rfl; simp [inB] at hlen
      rw [hlen, most_start l hne h0]
      by_cases h2 : inB W 1 (sumA l) = true
      · rw [h2]
        by_cases h3 : mostV l 0 = 0
        · have hz : ∀ x ∈ l, x.f1 = 0 := fun x hx => by
            have := (most_ge l 0).2 x hx
            have := h0 x hx
            omega
          have hw : vWeigh l (mostV l 0) = sumA l := by rw [h3]; exact weigh_all l 0 hz 0
          have hWA : W ≤ sumA l := by unfold inB at h2; simp at h2; omega
          rw [hw, h3]
          simp [hWA]
        · have : (mostV l 0 == 0) = false := beq_eq_false_iff_ne.2 h3
          rw [this]
          simp
      · simp only [Bool.not_eq_true] at h2
        rw [h2]; simp
    · simp only [Bool.not_eq_true] at hlen
      rw [hlen]; simp
  · simp only [Bool.not_eq_true] at h1
    rw [h1, Bool.false_and]
    symm
    unfold goodV
    by_cases hall : l.all okF = true
    · have hcl : vClashes l l.length = true := by
        rw [← Bool.not_eq_false]
        intro hc
        have : goodLoop l l.length 0 = true := hL.2 fun j _ hj2 => by
          refine ⟨?_, ?_⟩
          · have := okF_get hall l[j] (List.getElem_mem hj2)
            simpa [rd_T57, List.getD_eq_getElem?_getD, hj2] using this
          · unfold vClashes at hc
            rw [List.any_eq_false] at hc
            have := hc j (List.mem_range.2 hj2)
            simpa using this
        rw [this] at h1
        exact absurd h1 (by simp)
      rw [hcl]; simp
    · simp only [Bool.not_eq_true] at hall
      rw [hok, hall]; simp
theorem specGood_ev (l : List S57) (R W : Int) (hn : l.length ≤ 1073741824) : Ev (fun k => spec_GoodVoting.f k l R W) (goodV l R W) := by
  have := good_l l R W hn l.length 0 (by omega) (by omega) (by omega)
  rw [good_eq] at this
  exact this
theorem good_parts (l : List S57) (R W : Int) (h : goodV l R W = true) : l ≠ [] ∧ (∀ x ∈ l, 0 ≤ x.f1) ∧ 1 ≤ R := by
  have h' := h
  rw [← good_eq, Bool.and_eq_true] at h
  have hj := (goodLoop_eq l l.length 0 (by omega) (by omega)).1 h.1
  have ht := h.2
  unfold tailV at ht
  simp only [Bool.and_eq_true] at ht
  have h1 : inB (l.length : Int) 1 7 = true := ht.1.1.1.1.1
  have h2 : inB R 1 (sumA l) = true := ht.1.1.1.1.2
  refine ⟨?_, fun x hx => ?_, ?_⟩
  · rintro rfl; simp [inB] at h1
  · obtain ⟨j, hj2, rfl⟩ := List.getElem_of_mem hx
    have := (hj j (by omega) hj2).1
    have e : rd_T57 l (j : Int) = l[j] := by simp [rd_T57, List.getD_eq_getElem?_getD, hj2]
    rw [e] at this
    unfold okF inB at this
    simp at this
    omega
  · unfold inB at h2; simp at h2; omega
theorem drop_int (s : List Int) (i : Int) (h0 : 0 ≤ i) (h : i < (s.length : Int)) : s.drop i.toNat = rd s i :: s.drop (i + 1).toNat := by
  rw [show (i + 1).toNat = i.toNat + 1 by omega, List.drop_eq_getElem_cons (by omega)]
  simp [rd, List.getD_eq_getElem?_getD, show i.toNat < s.length by omega]
theorem rd_mem (s : List Int) (i : Int) (h0 : 0 ≤ i) (h : i < (s.length : Int)) : rd s i ∈ s := by
  unfold rd
  rw [List.getD_eq_getElem?_getD, List.getElem?_eq_getElem (by omega)]
  exact List.getElem_mem _
theorem weight_l (l : List S57) (R W : Int) (s : List Int) (hn : s.length ≤ 1073741824) (hs : ∀ k ∈ s, 0 ≤ k ∧ k < (l.length : Int)) (d : Nat) : ∀ (i t : Int), 0 ≤ i → i ≤ (s.length : Int) → (s.length : Int) - i = d →
    Ev (fun k => spec_l14Weight.l0 k t s (s.length : Int) i l R W) ((s.drop i.toNat).foldl (fun t k => wrap64 (t + (rd_T57 l k).f0)) t) := by
  induction d with
  | zero =>
    intro i t h0 hi hd
    rw [List.drop_eq_nil_of_le (by omega)]
    exact Ev.step (fun k => by simp only [spec_l14Weight.l0]; rw [if_neg (by omega)]; rfl) (Ev.now _)
  | succ d ih =>
    intro i t h0 hi hd
    have hm := hs _ (rd_mem s i h0 (by omega))
    rw [drop_int s i h0 (by omega), List.foldl_cons]
    exact Ev.step (fun k => by simp only [spec_l14Weight.l0]; rw [if_pos (by omega), if_pos h0, if_pos (by omega), if_pos hm.1, if_pos hm.2, wrap_id (i + 1) (by omega) (by omega)]) (ih (i + 1) _ (by omega) (by omega) (by omega))
theorem weight_ev (l : List S57) (R W : Int) (s : List Int) (hn : s.length ≤ 1073741824) (hs : ∀ k ∈ s, 0 ≤ k ∧ k < (l.length : Int)) : Ev (fun k => spec_l14Weight.f k l R W s) (vSum l s) := by
  have := weight_l l R W s hn hs s.length 0 0 (by omega) (by omega) (by omega)
  simpa [spec_l14Weight.f, vSum] using this
def bStep (l : List S57) (b : S57) (k : Int) : S57 := if (rd_T57 l k).f1 > b.f1 then rd_T57 l k else b
theorem best_l (l : List S57) (R W : Int) (s : List Int) (hn : s.length ≤ 1073741824) (hs : ∀ k ∈ s, 0 ≤ k ∧ k < (l.length : Int)) (d : Nat) : ∀ (i b : Int), 0 ≤ i → i ≤ (s.length : Int) → (s.length : Int) - i = d → 0 ≤ b → b < (l.length : Int) →
    ∃ r, (0 ≤ r ∧ r < (l.length : Int)) ∧ rd_T57 l r = (s.drop i.toNat).foldl (bStep l) (rd_T57 l b) ∧ Ev (fun k => spec_l14Best.l0 k b s (s.length : Int) i l R W) r := by
  induction d with
  | zero =>
    intro i b h0 hi hd hb hb2
    refine ⟨b, ⟨hb, hb2⟩, by rw [List.drop_eq_nil_of_le (by omega)]; rfl, ?_⟩
    exact Ev.step (f := fun _ => some b) (fun k => by simp only [spec_l14Best.l0]; rw [if_neg (by omega)]) (Ev.now _)
  | succ d ih =>
    intro i b h0 hi hd hb hb2
    have hm := hs _ (rd_mem s i h0 (by omega))
    rw [drop_int s i h0 (by omega), List.foldl_cons]
    by_cases q : (rd_T57 l (rd s i)).f1 > (rd_T57 l b).f1
    · obtain ⟨r, h1, h2, e⟩ := ih (i + 1) (rd s i) (by omega) (by omega) (by omega) hm.1 hm.2
      refine ⟨r, h1, by rw [h2]; unfold bStep; rw [if_pos q], Ev.step (fun k => ?_) e⟩
      simp only [spec_l14Best.l0]
      rw [if_pos (by omega), if_pos h0, if_pos (by omega), if_pos hm.1, if_pos hm.2, if_pos hb, if_pos hb2, if_pos q, wrap_id (i + 1) (by omega) (by omega)]
    · obtain ⟨r, h1, h2, e⟩ := ih (i + 1) b (by omega) (by omega) (by omega) hb hb2
      refine ⟨r, h1, by rw [h2]; congr 1; unfold bStep; rw [if_neg q], Ev.step (fun k => ?_) e⟩
      simp only [spec_l14Best.l0]
      rw [if_pos (by omega), if_pos h0, if_pos (by omega), if_pos hm.1, if_pos hm.2, if_pos hb, if_pos hb2, if_neg q, wrap_id (i + 1) (by omega) (by omega)]
theorem best_ev (l : List S57) (R W : Int) (s : List Int) (hn : s.length ≤ 1073741824) (hs : ∀ k ∈ s, 0 ≤ k ∧ k < (l.length : Int)) (hl : ∀ x ∈ l, 0 ≤ x.f1) (hp : s ≠ []) :
    ∃ r, (0 ≤ r ∧ r < (l.length : Int)) ∧ rd_T57 l r = vBest l s ∧ Ev (fun k => spec_l14Best.f k l R W s) r := by
  cases s with
  | nil => exact absurd rfl hp
  | cons x s =>
    have hx := hs x List.mem_cons_self
    have e0 : rd (x :: s) 0 = x := rfl
    obtain ⟨r, h1, h2, e⟩ := best_l l R W (x :: s) hn hs (x :: s).length 0 x (by omega) (by omega) (by omega) hx.1 hx.2
    refine ⟨r, h1, ?_, Ev.congr (fun k => ?_) e⟩
    · rw [h2]
      have h3 : 0 ≤ (rd_T57 l x).f1 := by
        apply hl
        unfold rd_T57
        rw [List.getD_eq_getElem?_getD, List.getElem?_eq_getElem (by omega)]
        exact List.getElem_mem _
      show ((x :: s).drop 0).foldl (bStep l) (rd_T57 l x) = (x :: s).foldl (bStep l) ⟨0, -1, ⟨#[]⟩⟩
      rw [List.drop_zero, List.foldl_cons, List.foldl_cons]
      congr 1
      unfold bStep
      rw [if_neg (by omega), if_pos (show (rd_T57 l x).f1 > -1 by omega)]
    · unfold spec_l14Best.f
      rw [if_pos (by simp only [List.length_cons]; omega), e0]
theorem rd57_set (x : List S57) (i : Int) (j : Int) (v : S57) (h0 : 0 ≤ i) (h1 : i < (x.length : Int)) (j0 : 0 ≤ j) : rd_T57 (x.set i.toNat v) j = if j = i then v else rd_T57 x j := by
  unfold rd_T57
  rw [List.getD_eq_getElem?_getD, List.getD_eq_getElem?_getD, List.getElem?_set]
  by_cases e : j = i
  · subst e; simp [show j.toNat < x.length by omega]
  · rw [if_neg (by omega), if_neg e]
def nvL (l : List Int) : List S57 := l.map fun x => (⟨x, 0, (⟨#[]⟩ : ByteArray)⟩ : S57)
def nvV (l : List Int) (R W : Int) : List S57 × Int × Int × Bool := if goodV (nvL l) R W = true then (nvL l, R, W, true) else ([], 0, 0, false)
theorem nvL_snoc (l : List Int) (i : Int) (h0 : 0 ≤ i) (h : i < (l.length : Int)) : nvL (l.take i.toNat) ++ [(⟨rd l i, 0, (⟨#[]⟩ : ByteArray)⟩ : S57)] = nvL (l.take (i + 1).toNat) := by
  rw [show (i + 1).toNat = i.toNat + 1 by omega, List.take_add_one]
  have : l[i.toNat]? = some (rd l i) := by simp [rd, List.getD_eq_getElem?_getD, show i.toNat < l.length by omega]
  rw [this]
  simp [nvL]
theorem nvL_len (l : List Int) : (nvL l).length = l.length := by simp [nvL]
theorem specNV_l (l : List Int) (R W : Int) (hn : l.length ≤ 1073741824) (d : Nat) : ∀ i : Int, 0 ≤ i → i ≤ (l.length : Int) → (l.length : Int) - i = d →
    Ev (fun k => spec_NewVoting.l0 k l (l.length : Int) i (nvL (l.take i.toNat)) R W) (nvV l R W) := by
  induction d with
  | zero =>
    intro i h0 hi hd
    have e : l.take i.toNat = l := List.take_of_length_le (by omega)
    refine Ev.step (f := fun k => (spec_GoodVoting.f k (nvL l) R W).bind fun t266 => (if t266 = true then (some (nvL l, R, W, true)) else (some (([] : List (S57)), 0, 0, false)))) (fun k => by simp only [spec_NewVoting.l0]; rw [if_neg (by omega), e]) ?_
    refine Ev.bind (specGood_ev (nvL l) R W (by rw [nvL_len]; exact hn)) ?_
    unfold nvV
    by_cases g : goodV (nvL l) R W = true
    · simp only [g, if_true]; exact ⟨0, fun _ _ => rfl⟩
    · simp only [g]; exact ⟨0, fun _ _ => rfl⟩
  | succ d ih =>
    intro i h0 hi hd
    have e := nvL_snoc l i h0 (by omega)
    refine Ev.step (fun k => ?_) (ih (i + 1) (by omega) (by omega) (by omega))
    simp only [spec_NewVoting.l0]
    rw [if_pos (by omega), if_pos h0, if_pos (by omega), if_pos (by rw [nvL_len, List.length_take]; omega), wrap_id (i + 1) (by omega) (by omega), e]
theorem specNV_ev (l : List Int) (R W : Int) (hn : l.length ≤ 1073741824) : Ev (fun k => spec_NewVoting.f k l R W) (nvV l R W) :=
  specNV_l l R W hn l.length 0 (by omega) (by omega) (by omega)
theorem implNV_l (l : List Int) (R W : Int) (hn : l.length ≤ 1073741824) (d : Nat) : ∀ i : Int, 0 ≤ i → i ≤ (l.length : Int) → (l.length : Int) - i = d →
    Ev (fun k => impl_NewVoting.l0 k l (l.length : Int) i (nvL (l.take i.toNat)) R W) (nvV l R W) := by
  induction d with
  | zero =>
    intro i h0 hi hd
    have e : l.take i.toNat = l := List.take_of_length_le (by omega)
    refine Ev.step (f := fun k => some (nvV l R W)) (fun k => ?_) (Ev.now _)
    simp only [impl_NewVoting.l0, impl_GoodVoting.f]
    rw [if_neg (by omega), e]
    simp only [Option.bind_some, nvV]
    by_cases g : goodV (nvL l) R W = true
    · rw [if_pos g, if_pos g]
    · rw [if_neg g, if_neg g]
  | succ d ih =>
    intro i h0 hi hd
    have e := nvL_snoc l i h0 (by omega)
    refine Ev.step (fun k => ?_) (ih (i + 1) (by omega) (by omega) (by omega))
    simp only [impl_NewVoting.l0]
    rw [if_pos (by omega), if_pos h0, if_pos (by omega), if_pos (by rw [nvL_len, List.length_take]; omega), wrap_id (i + 1) (by omega) (by omega), e]
theorem implNV_ev (l : List Int) (R W : Int) (hn : l.length ≤ 1073741824) : Ev (fun k => impl_NewVoting.f k l R W) (nvV l R W) := by
  by_cases h7 : (l.length : Int) > 7
  · have g : goodV (nvL l) R W = false := by
      rw [← Bool.not_eq_true]
      intro h
      have := goodV_len _ _ _ h
      rw [nvL_len] at this
      omega
    have e : nvV l R W = ([], 0, 0, false) := by unfold nvV; rw [if_neg (by rw [g]; simp)]
    rw [e]
    exact Ev.congr (fun k => by unfold impl_NewVoting.f; rw [if_pos h7]) (Ev.now _)
  · exact Ev.congr (fun k => by unfold impl_NewVoting.f; rw [if_neg h7]; rfl) (implNV_l l R W hn l.length 0 (by omega) (by omega) (by omega))
theorem nvV_len (l : List Int) (R W : Int) (hn : l.length ≤ 1073741824) : (nvV l R W).1.length ≤ 1073741824 := by
  unfold nvV
  split
  · rw [nvL_len]; exact hn
  · simp
theorem nvV_ok (l : List Int) (R W : Int) : (nvV l R W).2.2.2 = true → 1 ≤ (nvV l R W).1.length ∧ (nvV l R W).1.length ≤ 7 := by
  unfold nvV
  split
  · rename_i h; intro _; exact goodV_len _ _ _ h
  · intro h; exact absurd h (by simp)
theorem nv3 : nvV [1, 1, 1] 2 2 = (nvL [1, 1, 1], 2, 2, true) := by
  have : goodV (nvL [1, 1, 1]) 2 2 = true := by decide +kernel
  unfold nvV
  rw [if_pos this]
theorem write_l (l0 : List S57) (v : Int) (t : ByteArray) (s : List Int) (R W : Int) (hn : s.length ≤ 1073741824) (res : List S57 × Int × Int × Bool) (d : Nat) :
    ∀ (i n : Int) (l : List S57), 0 ≤ i → i ≤ (s.length : Int) → (s.length : Int) - i = d → (∀ k ∈ s, 0 ≤ k ∧ k < (l.length : Int)) →
    Ev (fun k => (spec_GoodVoting.f k ((s.drop i.toNat).foldl (wStep v t) (l, n)).1 R W).bind fun b => (if b = true then (some (((s.drop i.toNat).foldl (wStep v t) (l, n)).1, R, W, true)) else (some (([] : List S57), 0, 0, false)))) res →
    Ev (fun k => spec_WriteText.l0 k t v s (s.length : Int) i l R W) res := by
  induction d with
  | zero =>
    intro i n l h0 hi hd hk h
    rw [List.drop_eq_nil_of_le (by omega)] at h
    exact Ev.step (fun k => by simp only [spec_WriteText.l0]; rw [if_neg (by omega)]; rfl) h
  | succ d ih =>
    intro i n l h0 hi hd hk h
    have hm := hk _ (rd_mem s i h0 (by omega))
    rw [drop_int s i h0 (by omega), List.foldl_cons] at h
    refine Ev.step (fun k => ?_) (ih (i + 1) (wStep v t (l, n) (rd s i)).2 (wStep v t (l, n) (rd s i)).1 (by omega) (by omega) (by omega) (fun k hk2 => by simpa [wStep] using hk k hk2) h)
    simp only [spec_WriteText.l0, Option.bind_some]
    rw [if_pos (by omega), if_pos h0, if_pos (by omega), if_pos hm.1, if_pos hm.2, wrap_id (i + 1) (by omega) (by omega)]
    simp [wStep, rd57_set, hm.1, hm.2]
theorem own_eq (l : List S57) (R W : Int) (h : l.length ≤ 1073741824) : spec_l14Own.f l R W = some (l, R, W) := by
  unfold spec_l14Own.f
  rw [Option.bind_some, if_pos (by simp; omega)]
  rfl
theorem specWrite_ev (l : List S57) (R W : Int) (s : List Int) (t : ByteArray) (hl : l.length ≤ 1073741824) (hs : s.length ≤ 1073741824) : Ev (fun k => spec_WriteText.f k l R W s t) (writeTextV l R W s t) := by
  have bad : ∀ x, x = ([], 0, 0, false) → Ev (fun k => spec_WriteText.j0 k s t true l R W) x := by
    rintro x rfl
    exact Ev.step (f := fun _ => some ([], 0, 0, false)) (fun k => by simp only [spec_WriteText.j0]; simp) (Ev.now _)
  unfold spec_WriteText.f
  refine Ev.bind (specGood_ev l R W hl) ?_
  cases g : goodV l R W with
  | false => exact Ev.congr (fun k => if_neg (by simp)) (bad _ (by simp [writeTextV, someV, g]))
  | true =>
    obtain ⟨hne, hp, hR⟩ := good_parts l R W g
    refine Ev.congr (fun k => if_pos rfl) (Ev.bind (some_ev s (l.length : Int) hs (by omega) (by omega)) ?_)
    cases r : risingV s (l.length : Int) with
    | false => exact Ev.congr (fun k => if_neg (by simp)) (bad _ (by simp [writeTextV, someV, r]))
    | true =>
      have hin := risingV_in s _ r
      refine Ev.congr (fun k => if_pos rfl) (Ev.bind (weight_ev l R W s hs hin) ?_)
      by_cases q : vSum l s < W
      · exact Ev.congr (fun k => if_pos q) (bad _ (by simp [writeTextV, q]))
      · refine Ev.congr (fun k => if_neg q) ?_
        by_cases q2 : (t.size : Int) > 12
        · rw [decide_eq_true q2]
          exact bad _ (by simp [writeTextV]; omega)
        · rw [decide_eq_false q2]
          have hW : 1 ≤ W := by
            have h := g
            rw [← good_eq, Bool.and_eq_true] at h
            have ht := h.2
            unfold tailV at ht
            simp only [Bool.and_eq_true] at ht
            have h2 : inB W 1 (sumA l) = true := ht.1.1.1.2
            unfold inB at h2; simp at h2; omega
          have hsne : s ≠ [] := by
            rintro rfl
            have : vSum l [] = 0 := rfl
            omega
          obtain ⟨b, hb, he, hE⟩ := best_ev l R W s hs hin hp hsne
          refine Ev.step (f := fun k => (spec_l14Best.f k l R W s).bind fun t204 => (if 0 ≤ t204 then (if t204 < (l.length : Int) then ((spec_l14Own.f l R W).bind fun bt206 => (spec_WriteText.l0 k t (wrap64 (((rd_T57 l t204).f1) + 1)) s (s.length : Int) 0 bt206.1 bt206.2.1 bt206.2.2)) else (none)) else (none)))
            (fun k => by simp only [spec_WriteText.j0]; rw [if_neg (by simp)]) (Ev.bind hE (Ev.congr (fun k => if_pos hb.1) (Ev.congr (fun k => if_pos hb.2) ?_)))
          refine Ev.congr (fun k => by rw [own_eq l R W hl, Option.bind_some]) (write_l l _ t s R W hs _ s.length 0 0 l (by omega) (by omega) (by omega) hin ?_)
          rw [he]
          have hwl := writtenV_len l s (wrap64 ((vBest l s).f1 + 1)) t
          refine Ev.bind (a := goodV (writtenV l s (wrap64 ((vBest l s).f1 + 1)) t).1 R W) (specGood_ev (writtenV l s (wrap64 ((vBest l s).f1 + 1)) t).1 R W (by rw [hwl]; exact hl)) ?_
          cases gg : goodV (writtenV l s (wrap64 ((vBest l s).f1 + 1)) t).1 R W with
          | false =>
            have : writeTextV l R W s t = ([], 0, 0, false) := by unfold writeTextV; rw [if_neg (by simp [gg])]
            rw [this]
            exact ⟨0, fun _ _ => rfl⟩
          | true =>
            have : writeTextV l R W s t = ((writtenV l s (wrap64 ((vBest l s).f1 + 1)) t).1, R, W, true) := by unfold writeTextV; rw [if_pos ⟨by simp [someV, g, r], q, by omega, gg⟩]
            rw [this]
            exact ⟨0, fun _ _ => rfl⟩
theorem toList_inj (a b : ByteArray) (h : a.toList = b.toList) : a = b := by
  rw [ByteArray.toList_eq, ByteArray.toList_eq] at h
  cases a with | mk x => cases b with | mk y =>
    have : x = y := Array.toList_inj.1 h
    rw [this]
theorem rising_up (n : Int) : ∀ (l : List Int) (b : Int), risingFrom n b l = true → ∀ k ∈ l, b < k := by
  intro l
  induction l with
  | nil => intro b _ k hk; cases hk
  | cons x l ih =>
    intro b h k hk
    simp only [risingFrom, Bool.and_eq_true] at h
    have hx : b < x := by have := h.1; unfold inB at this; simp at this; omega
    rcases List.mem_cons.1 hk with rfl | hk
    · exact hx
    · have := ih x h.2 k hk; omega
theorem set_self57 (x : List S57) (i : Int) (h0 : 0 ≤ i) (h1 : i < (x.length : Int)) : x.set i.toNat (rd_T57 x i) = x := by
  apply List.ext_getElem (by simp)
  intro j h2 h3
  rw [List.getElem_set]
  by_cases e : i.toNat = j
  · subst e; simp [rd_T57, List.getD_eq_getElem?_getD, h3]
  · rw [if_neg e]
theorem folds_eq (l : List S57) (n : Int) (v : Int) (t : ByteArray) (hvt : ∀ k : Int, 0 ≤ k → k < (l.length : Int) → (rd_T57 l k).f1 = v → (rd_T57 l k).f2 = t) :
    ∀ (s : List Int) (b : Int) (p : List S57 × Int), risingFrom n b s = true → (∀ k ∈ s, 0 ≤ k ∧ k < (l.length : Int)) → p.1.length = l.length → (∀ k ∈ s, rd_T57 p.1 k = rd_T57 l k) → s.foldl (rStep v t) p = s.foldl (wStep v t) p := by
  intro s
  induction s with
  | nil => intros; rfl
  | cons x s ih =>
    intro b p hr hin hp hag
    simp only [risingFrom, Bool.and_eq_true] at hr
    obtain ⟨hx0, hx1⟩ := hin x List.mem_cons_self
    have hup := rising_up n s x hr.2
    have hax := hag x List.mem_cons_self
    have hstep : rStep v t p x = wStep v t p x := by
      unfold rStep wStep
      by_cases e : (rd_T57 p.1 x).f1 = v
      · have e2 : (rd_T57 p.1 x).f2 = t := by rw [hax] at e ⊢; exact hvt x hx0 hx1 e
        rw [if_pos e, if_pos ⟨e, by rw [e2]⟩]
        have e3 : (⟨(rd_T57 p.1 x).f0, v, t⟩ : S57) = rd_T57 p.1 x := by rw [← e, ← e2]
        rw [e3, set_self57 p.1 x hx0 (by omega)]
      · rw [if_neg e, if_neg (fun h => e h.1)]
    rw [List.foldl_cons, List.foldl_cons, hstep]
    refine ih x _ hr.2 (fun k hk => hin k (List.mem_cons_of_mem _ hk)) (by simp [wStep, hp]) (fun k hk => ?_)
    have hk0 := (hin k (List.mem_cons_of_mem _ hk)).1
    have := hup k hk
    rw [show (wStep v t p x).1 = p.1.set x.toNat ⟨(rd_T57 p.1 x).f0, v, t⟩ from rfl, rd57_set _ _ _ _ hx0 (by omega) hk0, if_neg (by omega)]
    exact hag k (List.mem_cons_of_mem _ hk)
theorem good_clash (l : List S57) (R W : Int) (h : goodV l R W = true) (i j : Int) (i0 : 0 ≤ i) (i1 : i < (l.length : Int)) (j0 : 0 ≤ j) (j1 : j < (l.length : Int)) (e : (rd_T57 l i).f1 = (rd_T57 l j).f1) : (rd_T57 l i).f2 = (rd_T57 l j).f2 := by
  have key : ∀ a b : Int, 0 ≤ a → a < b → b < (l.length : Int) → (rd_T57 l b).f1 = (rd_T57 l a).f1 → (rd_T57 l b).f2 = (rd_T57 l a).f2 := by
    intro a b a0 ab b1 e
    rw [← good_eq, Bool.and_eq_true] at h
    have hj := ((goodLoop_eq l l.length 0 (by omega) (by omega)).1 h.1 b.toNat (by omega) (by omega)).2
    rw [show ((b.toNat : Nat) : Int) = b by omega, List.any_eq_false] at hj
    have hm : rd_T57 l a ∈ l.take b.toNat := by
      have h2 : a.toNat < l.length := by omega
      have : rd_T57 l a = l[a.toNat] := by simp [rd_T57, List.getD_eq_getElem?_getD, h2]
      rw [this]
      exact List.mem_take_iff_getElem.2 ⟨a.toNat, by omega, rfl⟩
    have := hj _ hm
    unfold vClash at this
    simp [e] at this
    exact toList_inj _ _ this
  by_cases h1 : i < j
  · exact (key i j i0 h1 j1 e.symm).symm
  · by_cases h2 : j < i
    · exact key j i j0 h2 i1 e
    · rw [show i = j by omega]
/-- What the reference repairs is what the program repairs. -/
theorem rep_eq (l : List S57) (R W : Int) (s : List Int) (hs : s.length ≤ 1073741824) : specRepV l R W s = repairV l R W s := by
  unfold specRepV repairV
  by_cases q : someV l R W s = true ∧ ¬ (vSum l s < R)
  · rw [if_pos q, if_pos q]
    have hsv := q.1
    unfold someV at hsv
    rw [Bool.and_eq_true] at hsv
    obtain ⟨hne, hpos, hR⟩ := good_parts l R W hsv.1
    have hin := risingV_in s _ hsv.2
    have hsne : s ≠ [] := by
      rintro rfl
      have : vSum l [] = 0 := rfl
      omega
    obtain ⟨b, hb, he, _⟩ := best_ev l R W s hs hin hpos hsne
    have : s.foldl (rStep (vBest l s).f1 (vBest l s).f2) (l, 0) = writtenV l s (vBest l s).f1 (vBest l s).f2 := by
      refine folds_eq l (l.length : Int) _ _ (fun k h0 h1 e => ?_) s (-1) (l, 0) hsv.2 hin rfl (fun _ _ => rfl)
      rw [← he] at e ⊢
      exact good_clash l R W hsv.1 k b h0 h1 hb.1 hb.2 e
    rw [this]
  · rw [if_neg q, if_neg q]
theorem u64_wrap (n : Int) : IntKind.u64.wrap n = n % 18446744073709551616 := by simp [IntKind.wrap, IntKind.bits, IntKind.signed]
theorem seed_byte (x : Int) : 0 ≤ bits .and .u64 (IntKind.u64.wrap x / 1099511627776) 255 ∧ bits .and .u64 (IntKind.u64.wrap x / 1099511627776) 255 ≤ 255 := by
  have h := bits_mask .u64 24 (by decide) (fun n h0 h1 => by rw [u64_wrap]; omega) 8 (by decide) (IntKind.u64.wrap x / 1099511627776) (by rw [u64_wrap]; omega) (by rw [u64_wrap]; omega)
  have e : ((2 : Int) ^ 8 - 1) = 255 := by decide
  rw [e] at h
  rw [h]
  omega
theorem next_at (code : List Int) (hc : ∀ y ∈ code, 0 ≤ y ∧ y ≤ 255) (a s : Int) (h0 : 0 ≤ a) (h1 : a ≤ 1000000000) : ∃ r s', spec_l1Cur_next.f code a s = some (r, a + 1, s') ∧ 0 ≤ r ∧ r ≤ 255 := by
  unfold spec_l1Cur_next.f
  rw [wrap_id (a + 1) (by omega) (by omega)]
  by_cases h : a < (code.length : Int)
  · rw [if_pos h, if_pos h0, if_pos (by omega)]
    have := hc _ (rd_mem code a h0 h)
    refine ⟨_, _, rfl, ?_⟩
    rw [wrap_id _ (by omega) (by omega)]
    exact this
  · rw [if_neg h, if_neg (by omega)]
    refine ⟨_, _, rfl, ?_⟩
    have := seed_byte ((IntKind.u64.wrap ((IntKind.u64.wrap (s * 6364136223846793005)) + 0)) + 1442695040888963407)
    rw [wrap_id _ (by omega) (by omega)]
    exact this
theorem pick_at (code : List Int) (hc : ∀ y ∈ code, 0 ≤ y ∧ y ≤ 255) (n a s : Int) (hn : 1 ≤ n) (hn2 : n ≤ 200) (h0 : 0 ≤ a) (h1 : a ≤ 1000000000) : ∃ r a' s', spec_l1Cur_pick.f code a s n = some (r, a', s') ∧ (0 ≤ r ∧ r < n) ∧ a ≤ a' ∧ a' ≤ a + 1 := by
  unfold spec_l1Cur_pick.f
  by_cases h : n ≤ 1
  · rw [if_pos h]; exact ⟨_, _, _, rfl, by omega, by omega, by omega⟩
  · obtain ⟨r, s', e, r0, r1⟩ := next_at code hc a s h0 h1
    rw [if_neg h, e]
    simp only [Option.bind_some]
    rw [if_neg (by omega), if_neg (by omega)]
    exact ⟨_, _, _, rfl, ⟨Int.tmod_nonneg _ r0, Int.tmod_lt_of_pos _ (by omega)⟩, by omega, by omega⟩
theorem one_at (code : List Int) (hc : ∀ y ∈ code, 0 ≤ y ∧ y ≤ 255) (n a s : Int) (hn : 1 ≤ n) (hn2 : n ≤ 200) (h0 : 0 ≤ a) (h1 : a ≤ 1000000000) : ∃ b a' s', spec_l1Cur_one.f code a s n = some (b, a', s') ∧ a ≤ a' ∧ a' ≤ a + 1 := by
  obtain ⟨r, a', s', e, _, h2⟩ := pick_at code hc n a s hn hn2 h0 h1
  unfold spec_l1Cur_one.f
  rw [e]
  exact ⟨_, _, _, rfl, h2⟩
theorem among_at (code : List Int) (hc : ∀ y ∈ code, 0 ≤ y ∧ y ≤ 255) (l : List Int) (a s : Int) (hn : 1 ≤ l.length) (hn2 : l.length ≤ 200) (h0 : 0 ≤ a) (h1 : a ≤ 1000000000) : ∃ x ∈ l, ∃ a' s', spec_l1Cur_among.f code a s l = some (x, a', s') ∧ a ≤ a' ∧ a' ≤ a + 1 := by
  obtain ⟨r, a', s', e, hr, h2⟩ := pick_at code hc l.length a s (by omega) (by omega) h0 h1
  unfold spec_l1Cur_among.f
  rw [e]
  simp only [Option.bind_some]
  rw [if_pos hr.1, if_pos hr.2]
  exact ⟨_, rd_mem l r hr.1 hr.2, _, _, rfl, h2⟩
theorem of_at (code : List Int) (hc : ∀ y ∈ code, 0 ≤ y ∧ y ≤ 255) (l : List ByteArray) (a s : Int) (hn : 1 ≤ l.length) (hn2 : l.length ≤ 200) (h0 : 0 ≤ a) (h1 : a ≤ 1000000000) : ∃ x, ∃ a' s', spec_l1Cur_of.f code a s l = some (x, a', s') ∧ a ≤ a' ∧ a' ≤ a + 1 := by
  obtain ⟨r, a', s', e, hr, h2⟩ := pick_at code hc l.length a s (by omega) (by omega) h0 h1
  unfold spec_l1Cur_of.f
  rw [e]
  simp only [Option.bind_some]
  rw [if_pos hr.1, if_pos hr.2]
  exact ⟨_, _, _, rfl, h2⟩
theorem weights_l (code : List Int) (hc : ∀ y ∈ code, 0 ≤ y ∧ y ≤ 255) (d : Nat) : ∀ (x : List Int) (a s : Int), 1 ≤ x.length + d → x.length + d ≤ 5 → (∀ y ∈ x, 0 ≤ y ∧ y ≤ 11) → 0 ≤ a → a + d ≤ 100000000 →
    ∃ ws a' s', Ev (fun k => spec_l1Cur_weights.l0 k x (d : Int) code a s) (ws, a', s') ∧ (1 ≤ ws.length ∧ ws.length ≤ 5) ∧ (∀ y ∈ ws, 0 ≤ y ∧ y ≤ 11) ∧ a ≤ a' ∧ a' ≤ a + d + 2 := by
  induction d with
  | zero =>
    intro x a s h1 h2 hx h0 ha
    obtain ⟨b, a', s', e, h3, h4⟩ := one_at code hc 30 a s (by omega) (by omega) h0 (by omega)
    cases b
    · refine ⟨x, a', s', Ev.step (fun k => ?_) (Ev.now _), ⟨by omega, by omega⟩, hx, h3, by omega⟩
      simp only [spec_l1Cur_weights.l0]
      rw [if_neg (by omega), e]
      rfl
    · obtain ⟨y, hy, a2, s2, e2, h5, h6⟩ := among_at code hc [0, 10, 11] a' s' (by decide) (by decide) (by omega) (by omega)
      refine ⟨x.set (0 : Int).toNat y, a2, s2, Ev.step (fun k => ?_) (Ev.now _), ⟨by simp; omega, by simp; omega⟩, fun z hz => ?_, by omega, by omega⟩
      · simp only [spec_l1Cur_weights.l0]
        rw [if_neg (by omega), e]
        simp only [Option.bind_some]
        rw [if_pos trivial, e2]
        simp only [Option.bind_some]
        rw [if_pos (by omega)]
      · rcases List.mem_or_eq_of_mem_set hz with h | rfl
        · exact hx z h
        · simp at hy; omega
  | succ d ih =>
    intro x a s h1 h2 hx h0 ha
    obtain ⟨r, a', s', e, hr, h3, h4⟩ := pick_at code hc 3 a s (by omega) (by omega) h0 (by omega)
    obtain ⟨ws, a2, s2, hE, h5, h6, h7, h8⟩ := ih (x ++ [wrap64 (1 + r)]) a' s' (by simp; omega) (by simp; omega) (fun y hy => by
      rcases List.mem_append.1 hy with h | h
      · exact hx y h
      · rw [wrap_id _ (by omega) (by omega)] at h; simp at h; omega) (by omega) (by omega)
    refine ⟨ws, a2, s2, Ev.step (fun k => ?_) hE, h5, h6, by omega, by omega⟩
    simp only [spec_l1Cur_weights.l0]
    rw [if_pos (by omega), e]
    simp only [Option.bind_some]
    rw [if_pos (by omega), wrap_id (((d + 1 : Nat) : Int) - 1) (by omega) (by omega), show ((d + 1 : Nat) : Int) - 1 = (d : Int) by omega]
theorem weights_at (code : List Int) (hc : ∀ y ∈ code, 0 ≤ y ∧ y ≤ 255) (a s : Int) (h0 : 0 ≤ a) (ha : a ≤ 1000000) :
    ∃ ws a' s', Ev (fun k => spec_l1Cur_weights.f k code a s) (ws, a', s') ∧ (1 ≤ ws.length ∧ ws.length ≤ 5) ∧ (∀ y ∈ ws, 0 ≤ y ∧ y ≤ 11) ∧ a ≤ a' ∧ a' ≤ a + 10 := by
  obtain ⟨r, a', s', e, hr, h3, h4⟩ := pick_at code hc 5 a s (by omega) (by omega) h0 (by omega)
  obtain ⟨ws, a2, s2, hE, h5, h6, h7, h8⟩ := weights_l code hc (1 + r).toNat [] a' s' (by simp; omega) (by simp; omega) (fun y hy => nomatch hy) (by omega) (by omega)
  refine ⟨ws, a2, s2, Ev.congr (fun k => ?_) hE, h5, h6, by omega, by omega⟩
  unfold spec_l1Cur_weights.f
  rw [e]
  simp only [Option.bind_some]
  rw [wrap_id (1 + r) (by omega) (by omega), show (((1 + r).toNat : Nat) : Int) = 1 + r by omega]
theorem votes_l (code : List Int) (hc : ∀ y ∈ code, 0 ≤ y ∧ y ≤ 255) (l : List Int) (hl : l.length ≤ 1000) (d : Nat) : ∀ (x i a s : Int), 0 ≤ i → (l.length : Int) - i = d → 0 ≤ a → a ≤ 100000000 →
    ∃ r w a' s', Ev (fun k => spec_l1Cur_votes.l0 k x l (l.length : Int) i code a s) (r, w, a', s') ∧ a ≤ a' ∧ a' ≤ a + 4 := by
  induction d with
  | zero =>
    intro x i a s h0 hd ha hb
    obtain ⟨r1, a1, s1, e1, _, h3, h4⟩ := pick_at code hc 2 a s (by omega) (by omega) (by omega) (by omega)
    obtain ⟨r2, a2, s2, e2, _, h5, h6⟩ := pick_at code hc 2 a1 s1 (by omega) (by omega) (by omega) (by omega)
    obtain ⟨b, a3, s3, e3, h7, h8⟩ := one_at code hc 12 a2 s2 (by omega) (by omega) (by omega) (by omega)
    cases b
    · refine ⟨wrap64 ((wrap64 ((wrap64 (x - (wrap64 ((wrap64 ((wrap64 (Int.tdiv x 2)) + 1)) + r1)))) + 1)) + r2), wrap64 ((wrap64 ((wrap64 (Int.tdiv x 2)) + 1)) + r1), a3, s3, Ev.step (fun k => ?_) (Ev.now _), by omega, by omega⟩
      simp only [spec_l1Cur_votes.l0]
      rw [if_neg (by omega), e1]
      simp only [Option.bind_some]
      rw [e2]
      simp only [Option.bind_some]
      rw [e3]
      rfl
    · obtain ⟨r4, a4, s4, e4, _, h9, h10⟩ := pick_at code hc 4 a3 s3 (by omega) (by omega) (by omega) (by omega)
      refine ⟨r4, wrap64 ((wrap64 ((wrap64 (Int.tdiv x 2)) + 1)) + r1), a4, s4, Ev.step (fun k => ?_) (Ev.now _), by omega, by omega⟩
      simp only [spec_l1Cur_votes.l0]
      rw [if_neg (by omega), e1]
      simp only [Option.bind_some]
      rw [e2]
      simp only [Option.bind_some]
      rw [e3]
      simp only [Option.bind_some]
      rw [if_pos trivial, e4]
      rfl
  | succ d ih =>
    intro x i a s h0 hd ha hb
    obtain ⟨r, w, a', s', hE, h1⟩ := ih (wrap64 (x + rd l i)) (i + 1) a s (by omega) (by omega) ha hb
    refine ⟨r, w, a', s', Ev.step (fun k => ?_) hE, h1⟩
    simp only [spec_l1Cur_votes.l0]
    rw [if_pos (by omega), if_pos h0, if_pos (by omega), wrap_id (i + 1) (by omega) (by omega)]
theorem votes_at (code : List Int) (hc : ∀ y ∈ code, 0 ≤ y ∧ y ≤ 255) (l : List Int) (hl : l.length ≤ 1000) (a s : Int) (h0 : 0 ≤ a) (ha : a ≤ 1000000) :
    ∃ r w a' s', Ev (fun k => spec_l1Cur_votes.f k code a s l) (r, w, a', s') ∧ a ≤ a' ∧ a' ≤ a + 4 := votes_l code hc l hl l.length 0 0 a s (by omega) (by omega) h0 (by omega)
theorem some_l2 (code : List Int) (hc : ∀ y ∈ code, 0 ≤ y ∧ y ≤ 255) (n : Int) (hn : n ≤ 1000) (d : Nat) : ∀ (x : List Int) (i a s : Int), 0 ≤ i → n - i = d → x.length ≤ i → 0 ≤ a → a + d ≤ 100000000 →
    ∃ l a' s', Ev (fun k => spec_l1Cur_some.l0 k n x i code a s) (l, a', s') ∧ l.length ≤ n + 1 ∧ a ≤ a' ∧ a' ≤ a + d + 1 := by
  induction d with
  | zero =>
    intro x i a s h0 hd hx ha hb
    obtain ⟨b, a3, s3, e3, h7, h8⟩ := one_at code hc 30 a s (by omega) (by omega) (by omega) (by omega)
    cases b
    · refine ⟨x, a3, s3, Ev.step (fun k => ?_) (Ev.now _), by omega, by omega, by omega⟩
      simp only [spec_l1Cur_some.l0]
      rw [if_neg (by omega), e3]
      rfl
    · refine ⟨x ++ [n], a3, s3, Ev.step (fun k => ?_) (Ev.now _), by simp; omega, by omega, by omega⟩
      simp only [spec_l1Cur_some.l0]
      rw [if_neg (by omega), e3]
      simp only [Option.bind_some]
      rw [if_pos trivial, if_pos (by omega)]
  | succ d ih =>
    intro x i a s h0 hd hx ha hb
    obtain ⟨b, a3, s3, e3, h7, h8⟩ := one_at code hc 3 a s (by omega) (by omega) (by omega) (by omega)
    cases b
    · obtain ⟨l, a', s', hE, h1, h2, h3⟩ := ih (x ++ [i]) (i + 1) a3 s3 (by omega) (by omega) (by simp; omega) (by omega) (by omega)
      refine ⟨l, a', s', Ev.step (fun k => ?_) hE, h1, by omega, by omega⟩
      simp only [spec_l1Cur_some.l0]
      rw [if_pos (by omega), e3]
      simp only [Option.bind_some]
      rw [if_neg Bool.false_ne_true, if_pos (by omega), wrap_id (i + 1) (by omega) (by omega)]
    · obtain ⟨l, a', s', hE, h1, h2, h3⟩ := ih x (i + 1) a3 s3 (by omega) (by omega) (by omega) (by omega) (by omega)
      refine ⟨l, a', s', Ev.step (fun k => ?_) hE, h1, by omega, by omega⟩
      simp only [spec_l1Cur_some.l0]
      rw [if_pos (by omega), e3]
      simp only [Option.bind_some]
      rw [if_pos trivial, wrap_id (i + 1) (by omega) (by omega)]
theorem some_at (code : List Int) (hc : ∀ y ∈ code, 0 ≤ y ∧ y ≤ 255) (n : Int) (hn0 : 0 ≤ n) (hn : n ≤ 1000) (a s : Int) (h0 : 0 ≤ a) (ha : a ≤ 1000000) :
    ∃ l a' s', Ev (fun k => spec_l1Cur_some.f k code a s n) (l, a', s') ∧ l.length ≤ n + 1 ∧ a ≤ a' ∧ a' ≤ a + n + 1 := by
  obtain ⟨l, a', s', hE, h1, h2, h3⟩ := some_l2 code hc n hn n.toNat [] 0 a s (by omega) (by omega) (by simp) h0 (by omega)
  exact ⟨l, a', s', hE, h1, h2, by omega⟩
theorem repairV_len (l : List S57) (R W : Int) (s : List Int) : (repairV l R W s).2.2.2.2 = true → (repairV l R W s).1.length = l.length := by
  unfold repairV
  split
  · intro _; exact writtenV_len _ _ _ _
  · intro h; exact absurd h (by simp)
theorem writeTextV_len (l : List S57) (R W : Int) (s : List Int) (t : ByteArray) : (writeTextV l R W s t).2.2.2 = true → (writeTextV l R W s t).1.length = l.length := by
  unfold writeTextV
  split
  · intro _; exact writtenV_len _ _ _ _
  · intro h; exact absurd h (by simp)
theorem specRep_at (l : List S57) (R W : Int) (s : List Int) (hl : l.length ≤ 1073741824) (hs : s.length ≤ 1073741824) : spec_RepairCopies.f l R W s = some (repairV l R W s) := by
  unfold spec_RepairCopies.f
  rw [if_pos ⟨hl, hs⟩, rep_eq l R W s hs]
theorem sameV_l (l : List S57) (R W : Int) (hn : l.length ≤ 1073741824) (d : Nat) : ∀ i : Int, 0 ≤ i → i ≤ (l.length : Int) → (l.length : Int) - i = d → Ev (fun k => laws_sameVotings.l0 k (l.length : Int) i l R W l R W) true := by
  induction d with
  | zero => intro i h0 hi hd; exact Ev.step (f := fun _ => some true) (fun k => by simp only [laws_sameVotings.l0]; rw [if_neg (by omega)]) (Ev.now _)
  | succ d ih =>
    intro i h0 hi hd
    refine Ev.step (fun k => ?_) (ih (i + 1) (by omega) (by omega) (by omega))
    simp only [laws_sameVotings.l0]
    rw [if_pos (by omega), if_pos h0, if_pos (by omega), if_pos (by omega), wrap_id (i + 1) (by omega) (by omega)]
    simp
theorem sameV_ev (l : List S57) (R W : Int) (hn : l.length ≤ 1073741824) : Ev (fun k => laws_sameVotings.f k l R W l R W) true := by
  refine Ev.congr (f := fun k => laws_sameVotings.j0 k ((l.length : Int) != (l.length : Int)) l R W l R W) (fun k => by unfold laws_sameVotings.f; rw [if_pos rfl, if_pos rfl]) ?_
  refine Ev.step (fun k => ?_) (sameV_l l R W hn l.length 0 (by omega) (by omega) (by omega))
  simp [laws_sameVotings.j0]
/-- The numbers from one on. -/
def ints : Int → Nat → List Int
  | _, 0 => []
  | a, d + 1 => a :: ints (a + 1) d
theorem ints_mem (d : Nat) : ∀ a k : Int, k ∈ ints a d ↔ a ≤ k ∧ k < a + d := by
  induction d with
  | zero => intro a k; simp [ints]
  | succ d ih => intro a k; simp only [ints, List.mem_cons, ih]; omega
theorem ints_eq (d : Nat) : ∀ a : Int, ints a d = (List.range d).map (fun i : Nat => a + (i : Int)) := by
  induction d with
  | zero => intro a; rfl
  | succ d ih =>
    intro a
    rw [List.range_succ_eq_map, List.map_cons, List.map_map]
    simp only [ints, ih]
    congr 1
    · simp
    · apply List.map_congr_left
      intro i _
      simp only [Function.comp, Nat.succ_eq_add_one]
      omega
theorem vAll_ints (n : Nat) : vAll n = ints 0 n := by
  rw [ints_eq]
  unfold vAll
  apply List.map_congr_left
  intro i _
  show (i : Int) = 0 + (i : Int)
  omega
theorem rising_sub (n : Int) (d : Nat) : ∀ (a b : Int) (s : List Int), a + d = n → a ≤ b + 1 → risingFrom n b s = true → s.Sublist (ints a d) := by
  induction d with
  | zero =>
    intro a b s ha hb hr
    cases s with
    | nil => exact List.nil_sublist _
    | cons k s =>
      simp only [risingFrom, Bool.and_eq_true] at hr
      have := hr.1
      unfold inB at this
      simp at this
      omega
  | succ d ih =>
    intro a b s ha hb hr
    cases s with
    | nil => exact List.nil_sublist _
    | cons k s =>
      simp only [risingFrom, Bool.and_eq_true] at hr
      have hk := hr.1
      unfold inB at hk
      simp at hk
      by_cases e : k = a
      · subst e; exact (ih (k + 1) k s (by omega) (by omega) hr.2).cons_cons _
      · refine List.Sublist.cons _ (ih (a + 1) (k - 1) (k :: s) (by omega) (by omega) ?_)
        simp only [risingFrom, Bool.and_eq_true]
        refine ⟨?_, hr.2⟩
        unfold inB
        simp
        omega
theorem risingV_sub (s : List Int) (n : Nat) (h : risingV s n = true) : s.Sublist (ints 0 n) := rising_sub n n 0 (-1) s (by omega) (by omega) h
def tot (f : Int → Int) : List Int → Int
  | [] => 0
  | k :: s => f k + tot f s
theorem tot_sub (f : Int → Int) {s t : List Int} (hs : s.Sublist t) : (∀ k ∈ t, 0 ≤ f k) → tot f s ≤ tot f t := by
  induction hs with
  | slnil => intro _; exact Int.le_refl _
  | cons a h ih => intro hp; have := ih (fun k hk => hp k (List.mem_cons_of_mem _ hk)); have := hp a List.mem_cons_self; simp only [tot]; omega
  | cons_cons a h ih => intro hp; have := ih (fun k hk => hp k (List.mem_cons_of_mem _ hk)); simp only [tot]; omega
theorem tot_split (f : Int → Int) (p : Int → Bool) (t : List Int) : tot f (t.filter p) + tot f (t.filter (fun k => !p k)) = tot f t := by
  induction t with
  | nil => rfl
  | cons k t ih =>
    cases h : p k
    · rw [List.filter_cons_of_neg (by simp [h]), List.filter_cons_of_pos (by simp [h])]; simp only [tot]; omega
    · rw [List.filter_cons_of_pos (by simp [h]), List.filter_cons_of_neg (by simp [h])]; simp only [tot]; omega
theorem filter_self {α : Type} (p : α → Bool) (s : List α) (h : ∀ k ∈ s, p k = true) : s.filter p = s := List.filter_eq_self.2 h
theorem tot_meet (f : Int → Int) {s t : List Int} (pos : ∀ k ∈ t, 0 ≤ f k) (hs : s.Sublist t) (p : Int → Bool) (h : tot f t < tot f s + tot f (t.filter p)) : ∃ k ∈ s, p k = true := by
  by_cases e : ∃ k ∈ s, p k = true
  · exact e
  · exfalso
    have hn : s.filter (fun k => !p k) = s := filter_self _ s fun k hk => by
      cases q : p k
      · rfl
      · exact absurd ⟨k, hk, q⟩ e
    have h1 := hs.filter (fun k => !p k)
    rw [hn] at h1
    have h2 := tot_sub f h1 (fun k hk => pos k (List.mem_filter.1 hk).1)
    have h3 := tot_split f p t
    omega
theorem tot_imp (f : Int → Int) (t : List Int) (pos : ∀ k ∈ t, 0 ≤ f k) (p q : Int → Bool) (h : ∀ k ∈ t, p k = true → q k = true) : tot f (t.filter p) ≤ tot f (t.filter q) := by
  have e : t.filter p = (t.filter q).filter p := by
    rw [List.filter_filter]
    apply List.filter_congr
    intro k hk
    cases c : p k
    · rfl
    · simp [h k hk c]
  rw [e]
  exact tot_sub f List.filter_sublist (fun k hk => pos k (List.mem_filter.1 hk).1)
theorem tot_in (f : Int → Int) {s t : List Int} (pos : ∀ k ∈ t, 0 ≤ f k) (hs : s.Sublist t) (p : Int → Bool) (h : ∀ k ∈ s, p k = true) : tot f s ≤ tot f (t.filter p) := by
  have h1 := hs.filter p
  rw [filter_self p s h] at h1
  exact tot_sub f h1 (fun k hk => pos k (List.mem_filter.1 hk).1)
theorem fold_tot (g : Int → Int) (s : List Int) : (∀ k ∈ s, 0 ≤ g k ∧ g k ≤ 10) → ∀ t : Int, 0 ≤ t → t + 10 * s.length ≤ 1000000 → s.foldl (fun t k => wrap64 (t + g k)) t = t + tot g s := by
  induction s with
  | nil => intro _ t _ _; simp [tot]
  | cons k s ih =>
    intro h t h0 h1
    have hk := h k List.mem_cons_self
    simp only [List.length_cons] at h1
    rw [List.foldl_cons, wrap_id _ (by omega) (by omega), ih (fun j hj => h j (List.mem_cons_of_mem _ hj)) _ (by omega) (by omega)]
    simp only [tot]; omega
theorem fold_ftot (g v : Int → Int) (m : Int) (s : List Int) : (∀ k ∈ s, 0 ≤ g k ∧ g k ≤ 10) → ∀ t : Int, 0 ≤ t → t + 10 * s.length ≤ 1000000 → s.foldl (fun t k => if v k = m then wrap64 (t + g k) else t) t = t + tot g (s.filter (fun k => v k == m)) := by
  induction s with
  | nil => intro _ t _ _; simp [tot]
  | cons k s ih =>
    intro h t h0 h1
    have hk := h k List.mem_cons_self
    simp only [List.length_cons] at h1
    rw [List.foldl_cons]
    by_cases e : v k = m
    · rw [if_pos e, wrap_id _ (by omega) (by omega), ih (fun j hj => h j (List.mem_cons_of_mem _ hj)) _ (by omega) (by omega), List.filter_cons_of_pos (by simp [e])]
      simp only [tot]; omega
    · rw [if_neg e, ih (fun j hj => h j (List.mem_cons_of_mem _ hj)) _ (by omega) (by omega), List.filter_cons_of_neg (by simp [e])]
def wt (l : List S57) (k : Int) : Int := (rd_T57 l k).f0
def vr (l : List S57) (k : Int) : Int := (rd_T57 l k).f1
def tx (l : List S57) (k : Int) : ByteArray := (rd_T57 l k).f2
def al (l : List S57) : List Int := ints 0 l.length
theorem al_mem (l : List S57) (k : Int) : k ∈ al l ↔ 0 ≤ k ∧ k < (l.length : Int) := by unfold al; rw [ints_mem]; omega
/-- A voting that is right, its newest version known. -/
structure GoodF (l : List S57) (R W m : Int) : Prop where
  n1 : 1 ≤ l.length
  n7 : l.length ≤ 7
  cp : ∀ k : Int, 0 ≤ k → k < (l.length : Int) → (1 ≤ wt l k ∧ wt l k ≤ 10) ∧ (0 ≤ vr l k ∧ vr l k ≤ 1000000) ∧ (tx l k).size ≤ 12
  R1 : 1 ≤ R
  R2 : R ≤ tot (wt l) (al l)
  W1 : 1 ≤ W
  W2 : W ≤ tot (wt l) (al l)
  RW : tot (wt l) (al l) < R + W
  WW : tot (wt l) (al l) < 2 * W
  clash : ∀ i j : Int, 0 ≤ i → i < (l.length : Int) → 0 ≤ j → j < (l.length : Int) → vr l i = vr l j → tx l i = tx l j
  top : ∀ k : Int, 0 ≤ k → k < (l.length : Int) → vr l k ≤ m
  att : ∃ k : Int, (0 ≤ k ∧ k < (l.length : Int)) ∧ vr l k = m
  wm : W ≤ tot (wt l) ((al l).filter (fun k => vr l k == m))
theorem tot_le (f : Int → Int) (s : List Int) (h : ∀ k ∈ s, f k ≤ 10) : tot f s ≤ 10 * s.length := by
  induction s with
  | nil => simp [tot]
  | cons k s ih => have := ih (fun j hj => h j (List.mem_cons_of_mem _ hj)); have := h k List.mem_cons_self; simp only [tot, List.length_cons]; omega
theorem ints_len (a : Int) (d : Nat) : (ints a d).length = d := by rw [ints_eq]; simp
theorem best_fold (l : List S57) (s : List Int) : ∀ b : S57, ∀ r, s.foldl (fun b k => if (rd_T57 l k).f1 > b.f1 then rd_T57 l k else b) b = r → (r = b ∨ ∃ k ∈ s, r = rd_T57 l k) ∧ b.f1 ≤ r.f1 ∧ ∀ k ∈ s, vr l k ≤ r.f1 := by
  induction s with
  | nil => rintro b r rfl; exact ⟨.inl rfl, Int.le_refl _, fun k hk => nomatch hk⟩
  | cons x s ih =>
    intro b r h
    rw [List.foldl_cons] at h
    obtain ⟨h1, h2, h3⟩ := ih _ r h
    have hb : b.f1 ≤ r.f1 ∧ vr l x ≤ r.f1 := by
      by_cases e : (rd_T57 l x).f1 > b.f1
      · rw [if_pos e] at h2; exact ⟨by omega, h2⟩
      · rw [if_neg e] at h2; exact ⟨h2, by unfold vr; omega⟩
    refine ⟨?_, hb.1, fun k hk => ?_⟩
    · rcases h1 with h1 | ⟨k, hk, h1⟩
      · by_cases e : (rd_T57 l x).f1 > b.f1
        · rw [if_pos e] at h1; exact .inr ⟨x, List.mem_cons_self, h1⟩
        · rw [if_neg e] at h1; exact .inl h1
      · exact .inr ⟨k, List.mem_cons_of_mem _ hk, h1⟩
    · rcases List.mem_cons.1 hk with rfl | hk
      · exact hb.2
      · exact h3 k hk
theorem best_at (l : List S57) (s : List Int) (hs : s ≠ []) (h : ∀ k ∈ s, 0 ≤ vr l k) : (∃ k ∈ s, vBest l s = rd_T57 l k) ∧ ∀ k ∈ s, vr l k ≤ (vBest l s).f1 := by
  obtain ⟨h1, h2, h3⟩ := best_fold l s ⟨0, -1, ⟨#[]⟩⟩ _ rfl
  refine ⟨?_, h3⟩
  rcases h1 with h1 | h1
  · exfalso
    obtain ⟨k, hk⟩ : ∃ k, k ∈ s := by cases s with | nil => exact absurd rfl hs | cons x s => exact ⟨x, List.mem_cons_self⟩
    have a := h k hk
    have b := h3 k hk
    rw [h1] at b
    have : vr l k ≤ -1 := b
    omega
  · exact h1
theorem vSum_tot (l : List S57) (s : List Int) (h : ∀ k ∈ s, 0 ≤ wt l k ∧ wt l k ≤ 10) (hn : s.length ≤ 7) : vSum l s = tot (wt l) s := by
  have := fold_tot (wt l) s h 0 (by omega) (by omega)
  rw [Int.zero_add] at this
  exact this
theorem vWeigh_tot (l : List S57) (m : Int) (h : ∀ k ∈ al l, 0 ≤ wt l k ∧ wt l k ≤ 10) (hn : l.length ≤ 7) : vWeigh l m = tot (wt l) ((al l).filter (fun k => vr l k == m)) := by
  have hl : (al l).length = l.length := ints_len _ _
  have := fold_ftot (wt l) (vr l) m (al l) h 0 (by omega) (by omega)
  rw [Int.zero_add] at this
  rw [← this]
  have e := List.foldl_map (f := rd_T57 l) (g := fun (t : Int) (x : S57) => if x.f1 = m then wrap64 (t + x.f0) else t) (l := vAll l.length) (init := 0)
  rw [list_all, vAll_ints] at e
  exact e
theorem vTot_tot (l : List S57) (h : ∀ k ∈ al l, 0 ≤ wt l k ∧ wt l k ≤ 10) (hn : l.length ≤ 7) : vTot l = tot (wt l) (al l) := by
  unfold vTot
  rw [vAll_ints]
  exact vSum_tot l _ h (by rw [ints_len]; exact hn)
theorem rd_get (l : List S57) (j : Nat) (h : j < l.length) : rd_T57 l (j : Int) = l[j] := by simp [rd_T57, List.getD_eq_getElem?_getD, h]
theorem inB_t {a b c : Int} (h : inB a b c = true) : b ≤ a ∧ a ≤ c := by unfold inB at h; simpa using h
theorem inB_of {a b c : Int} (h : b ≤ a ∧ a ≤ c) : inB a b c = true := by unfold inB; simpa using h
theorem good_1 (l : List S57) (R W : Int) (h : goodV l R W = true) : GoodF l R W (vTop l) := by
  have hcl := good_clash l R W h
  unfold goodV at h
  simp only [Bool.and_eq_true] at h
  obtain ⟨⟨⟨⟨⟨⟨⟨a1, a2⟩, a3⟩, a4⟩, a5⟩, a6⟩, _⟩, a8⟩ := h
  have n := inB_t a1
  rw [any_ok] at a2
  simp at a2
  have cp : ∀ k : Int, 0 ≤ k → k < (l.length : Int) → (1 ≤ wt l k ∧ wt l k ≤ 10) ∧ (0 ≤ vr l k ∧ vr l k ≤ 1000000) ∧ (tx l k).size ≤ 12 := by
    intro k h0 h1
    have hm : okF (rd_T57 l k) = true := by
      have := rd_get l k.toNat (by omega)
      rw [show ((k.toNat : Nat) : Int) = k by omega] at this
      rw [this]
      exact a2 _ (List.getElem_mem _)
    unfold okF at hm
    simp only [Bool.and_eq_true] at hm
    refine ⟨inB_t hm.1.1, inB_t hm.1.2, ?_⟩
    have := hm.2
    simp at this
    exact_mod_cast this
  have hw : ∀ k ∈ al l, 0 ≤ wt l k ∧ wt l k ≤ 10 := fun k hk => by
    have := (al_mem l k).1 hk
    have := (cp k this.1 this.2).1
    omega
  have hT := vTot_tot l hw (by omega)
  have hT2 := tot_le (wt l) (al l) (fun k hk => (hw k hk).2)
  have hl : (al l).length = l.length := ints_len _ _
  rw [hT] at a3 a4 a5 a6
  have r := inB_t a3
  have w := inB_t a4
  have a5' : ¬ wrap64 (R + W) ≤ tot (wt l) (al l) := by simpa using a5
  have a6' : ¬ wrap64 (2 * W) ≤ tot (wt l) (al l) := by simpa using a6
  rw [wrap_id _ (by omega) (by omega)] at a5' a6'
  have hne : al l ≠ [] := fun e => by rw [e] at hl; simp at hl; omega
  obtain ⟨⟨kb, hkb, eb⟩, hb⟩ := best_at l (al l) hne (fun k hk => (cp k ((al_mem l k).1 hk).1 ((al_mem l k).1 hk).2).2.1.1)
  have eT : vTop l = (vBest l (al l)).f1 := by unfold vTop; rw [vAll_ints]; rfl
  refine ⟨by omega, by omega, cp, r.1, r.2, w.1, w.2, by omega, by omega, hcl, fun k h0 h1 => ?_, ⟨kb, (al_mem l kb).1 hkb, ?_⟩, ?_⟩
  · rw [eT]; exact hb k ((al_mem l k).2 ⟨h0, h1⟩)
  · rw [eT, eb]; rfl
  · by_cases e0 : vTop l = 0
    · have : (al l).filter (fun k => vr l k == vTop l) = al l := filter_self _ _ fun k hk => by
        have hk' := (al_mem l k).1 hk
        have c1 := (cp k hk'.1 hk'.2).2.1.1
        have c2 := hb k hk
        rw [← eT, e0] at c2
        simp [e0]; omega
      rw [this]; exact w.2
    · have := a8
      simp [e0] at this
      rw [vWeigh_tot l _ hw (by omega)] at this
      exact this
theorem top_eq (l : List S57) (m : Int) (hn : 1 ≤ l.length) (h0 : ∀ k : Int, 0 ≤ k → k < (l.length : Int) → 0 ≤ vr l k) (top : ∀ k : Int, 0 ≤ k → k < (l.length : Int) → vr l k ≤ m) (att : ∃ k : Int, (0 ≤ k ∧ k < (l.length : Int)) ∧ vr l k = m) : vTop l = m := by
  have hl : (al l).length = l.length := ints_len _ _
  have hne : al l ≠ [] := fun e => by rw [e] at hl; simp at hl; omega
  obtain ⟨⟨kb, hkb, eb⟩, hb⟩ := best_at l (al l) hne (fun k hk => h0 k ((al_mem l k).1 hk).1 ((al_mem l k).1 hk).2)
  have eT : vTop l = (vBest l (al l)).f1 := by unfold vTop; rw [vAll_ints]; rfl
  obtain ⟨k, hk, e⟩ := att
  have c1 := hb k ((al_mem l k).2 hk)
  have c2 := top kb ((al_mem l kb).1 hkb).1 ((al_mem l kb).1 hkb).2
  have : (vBest l (al l)).f1 = vr l kb := by rw [eb]; rfl
  rw [eT]; omega
theorem good_2 (l : List S57) (R W m : Int) (h : GoodF l R W m) : goodV l R W = true := by
  have hw : ∀ k ∈ al l, 0 ≤ wt l k ∧ wt l k ≤ 10 := fun k hk => by
    have := (al_mem l k).1 hk
    have := (h.cp k this.1 this.2).1
    omega
  have hT := vTot_tot l hw h.n7
  have hT2 := tot_le (wt l) (al l) (fun k hk => (hw k hk).2)
  have hl : (al l).length = l.length := ints_len _ _
  have := h.n1
  have := h.n7
  have := h.R1
  have := h.R2
  have := h.W1
  have := h.W2
  have := h.RW
  have := h.WW
  have eT := top_eq l m h.n1 (fun k h0 h1 => (h.cp k h0 h1).2.1.1) h.top h.att
  unfold goodV
  simp only [Bool.and_eq_true]
  rw [hT, eT, vWeigh_tot l m hw h.n7, wrap_id _ (by omega) (by omega), wrap_id _ (by omega) (by omega)]
  refine ⟨⟨⟨⟨⟨⟨⟨inB_of (by omega), ?_⟩, inB_of ⟨h.R1, h.R2⟩⟩, inB_of ⟨h.W1, h.W2⟩⟩, ?_⟩, ?_⟩, ?_⟩, ?_⟩
  · rw [any_ok, Bool.not_not, List.all_eq_true]
    intro x hx
    obtain ⟨j, hj, rfl⟩ := List.getElem_of_mem hx
    have := h.cp (j : Int) (by omega) (by omega)
    unfold wt vr tx at this
    rw [rd_get l j hj] at this
    unfold okF
    rw [inB_of this.1, inB_of this.2.1]
    have := this.2.2
    simp; omega
  · simp; omega
  · simp; omega
  · rw [Bool.not_eq_true']
    unfold vClashes
    rw [List.any_eq_false]
    intro i hi
    have hi := List.mem_range.1 hi
    simp only [Bool.not_eq_true]
    rw [List.any_eq_false]
    intro b hb
    obtain ⟨j, hj, rfl⟩ := List.mem_take_iff_getElem.1 hb
    have c := h.clash (i : Int) (j : Int) (by omega) (by omega) (by omega) (by omega)
    unfold vr tx at c
    rw [rd_get l j (by omega)] at c
    unfold vClash
    by_cases e : (rd_T57 l (i : Int)).f1 = l[j].f1
    · simp [c e]
    · simp [e]
  · rw [Bool.or_eq_true, decide_eq_true_eq]
    exact .inr h.wm
/-! What is written to some. -/
theorem written_rd (v : Int) (t : ByteArray) (s : List Int) : ∀ p : List S57 × Int, (∀ k ∈ s, 0 ≤ k ∧ k < (p.1.length : Int)) → ∀ k : Int, 0 ≤ k → rd_T57 (s.foldl (wStep v t) p).1 k = if k ∈ s then ⟨(rd_T57 p.1 k).f0, v, t⟩ else rd_T57 p.1 k := by
  induction s with
  | nil => intro p _ k _; simp
  | cons x s ih =>
    intro p hin k h0
    have hx := hin x List.mem_cons_self
    have hl : (wStep v t p x).1.length = p.1.length := by simp [wStep]
    rw [List.foldl_cons, ih _ (fun j hj => by rw [hl]; exact hin j (List.mem_cons_of_mem _ hj)) k h0]
    have e : rd_T57 (wStep v t p x).1 k = if k = x then ⟨(rd_T57 p.1 x).f0, v, t⟩ else rd_T57 p.1 k := rd57_set _ _ _ _ hx.1 hx.2 h0
    rw [e]
    by_cases q : k = x
    · subst q
      by_cases m : k ∈ s <;> simp [m]
    · by_cases m : k ∈ s <;> simp [m, q]
theorem written_n (v : Int) (t : ByteArray) (s : List Int) : ∀ p : List S57 × Int, (s.foldl (wStep v t) p).2 ≤ p.2 + s.length := by
  induction s with
  | nil => intro p; simp
  | cons x s ih =>
    intro p
    rw [List.foldl_cons]
    have := ih (wStep v t p x)
    have h2 : (wStep v t p x).2 ≤ p.2 + 1 := by simp only [wStep]; split <;> omega
    simp only [List.length_cons]
    omega
theorem written_same (v : Int) (t : ByteArray) (s : List Int) (p : List S57 × Int) : (∀ k ∈ s, (0 ≤ k ∧ k < (p.1.length : Int)) ∧ (rd_T57 p.1 k).f1 = v ∧ (rd_T57 p.1 k).f2 = t) → s.foldl (wStep v t) p = p := by
  induction s with
  | nil => intro _; rfl
  | cons x s ih =>
    intro h
    obtain ⟨⟨x0, x1⟩, e1, e2⟩ := h x List.mem_cons_self
    have : wStep v t p x = p := by
      unfold wStep
      rw [if_pos ⟨e1, by rw [e2]⟩, show (⟨(rd_T57 p.1 x).f0, v, t⟩ : S57) = rd_T57 p.1 x by rw [← e1, ← e2], set_self57 _ _ x0 x1]
    rw [List.foldl_cons, this]
    exact ih (fun k hk => h k (List.mem_cons_of_mem _ hk))
/-- What holds of some of a good voting. -/
structure Some (l : List S57) (R W m : Int) (s : List Int) : Prop where
  good : GoodF l R W m
  sub : s.Sublist (al l)
  rise : risingV s l.length = true
  sum : vSum l s = tot (wt l) s
theorem Some.mem {l : List S57} {R W m : Int} {s : List Int} (h : Some l R W m s) {k : Int} (hk : k ∈ s) : 0 ≤ k ∧ k < (l.length : Int) := (al_mem l k).1 (h.sub.subset hk)
theorem Some.pos {l : List S57} {R W m : Int} {s : List Int} (h : Some l R W m s) : ∀ k ∈ al l, 0 ≤ wt l k := fun k hk => by
  have := (al_mem l k).1 hk
  have := (h.good.cp k this.1 this.2).1
  omega
theorem some_1 (l : List S57) (R W : Int) (s : List Int) (h : someV l R W s = true) : Some l R W (vTop l) s := by
  unfold someV at h
  rw [Bool.and_eq_true] at h
  have g := good_1 l R W h.1
  have sub : s.Sublist (al l) := risingV_sub s l.length h.2
  have := sub.length_le
  have e : (al l).length = l.length := ints_len _ _
  refine ⟨g, sub, h.2, vSum_tot l s (fun k hk => ?_) (by have := g.n7; omega)⟩
  have := (al_mem l k).1 (sub.subset hk)
  have := (g.cp k this.1 this.2).1
  omega
theorem some_2 {l : List S57} {R W m : Int} {s : List Int} (h : Some l R W m s) : someV l R W s = true := by
  unfold someV
  rw [Bool.and_eq_true]
  exact ⟨good_2 l R W m h.good, h.rise⟩
theorem Some.best {l : List S57} {R W m : Int} {s : List Int} (h : Some l R W m s) (hr : tot (wt l) (al l) < tot (wt l) s + W) : s ≠ [] ∧ (vBest l s).f1 = m ∧ (∃ k ∈ s, vBest l s = rd_T57 l k) := by
  have hw := h.good.wm
  obtain ⟨k, hk, e⟩ := tot_meet (wt l) h.pos h.sub (fun k => vr l k == m) (by omega)
  have e : vr l k = m := by simpa using e
  have hne : s ≠ [] := fun e => by rw [e] at hk; cases hk
  obtain ⟨⟨j, hj, ej⟩, hb⟩ := best_at l s hne (fun k hk => (h.good.cp k (h.mem hk).1 (h.mem hk).2).2.1.1)
  refine ⟨hne, ?_, ⟨j, hj, ej⟩⟩
  have c1 := hb k hk
  have c2 := h.good.top j (h.mem hj).1 (h.mem hj).2
  have : (vBest l s).f1 = vr l j := by rw [ej]; rfl
  omega
/-- What the program writes or repairs, seen from afar. -/
structure Wrote (l : List S57) (s : List Int) (v : Int) (t : ByteArray) (L : List S57) : Prop where
  len : L.length = l.length
  rd : ∀ k : Int, 0 ≤ k → rd_T57 L k = if k ∈ s then ⟨(rd_T57 l k).f0, v, t⟩ else rd_T57 l k
theorem Wrote.mk' (l : List S57) (s : List Int) (v : Int) (t : ByteArray) (h : ∀ k ∈ s, 0 ≤ k ∧ k < (l.length : Int)) : Wrote l s v t (writtenV l s v t).1 := ⟨writtenV_len l s v t, written_rd v t s (l, 0) h⟩
theorem Wrote.wt {l L : List S57} {s : List Int} {v : Int} {t : ByteArray} (h : Wrote l s v t L) (k : Int) (h0 : 0 ≤ k) : wt L k = Pure.wt l k := by
  unfold Pure.wt; rw [h.rd k h0]; split <;> rfl
theorem tot_congr (f g : Int → Int) (s : List Int) (h : ∀ k ∈ s, f k = g k) : tot f s = tot g s := by
  induction s with
  | nil => rfl
  | cons k s ih => simp only [tot]; rw [h k List.mem_cons_self, ih (fun j hj => h j (List.mem_cons_of_mem _ hj))]
theorem Wrote.al {l L : List S57} {s : List Int} {v : Int} {t : ByteArray} (h : Wrote l s v t L) : al L = Pure.al l := by unfold Pure.al; rw [h.len]
theorem Wrote.tot {l L : List S57} {s : List Int} {v : Int} {t : ByteArray} (h : Wrote l s v t L) (o : List Int) (ho : ∀ k ∈ o, 0 ≤ k) : tot (Pure.wt L) o = Pure.tot (Pure.wt l) o := tot_congr _ _ o fun k hk => h.wt k (ho k hk)
theorem Wrote.vr {l L : List S57} {s : List Int} {v : Int} {t : ByteArray} (h : Wrote l s v t L) (k : Int) (h0 : 0 ≤ k) : vr L k = if k ∈ s then v else Pure.vr l k := by
  unfold Pure.vr; rw [h.rd k h0]; split <;> rfl
theorem Wrote.tx {l L : List S57} {s : List Int} {v : Int} {t : ByteArray} (h : Wrote l s v t L) (k : Int) (h0 : 0 ≤ k) : tx L k = if k ∈ s then t else Pure.tx l k := by
  unfold Pure.tx; rw [h.rd k h0]; split <;> rfl
theorem al_pos (l : List S57) : ∀ k ∈ al l, 0 ≤ k := fun k hk => ((al_mem l k).1 hk).1
/-- The newest version and its text written to more: right as before. -/
theorem rep_good {l L : List S57} {R W m : Int} {s : List Int} {t : ByteArray} (h : Some l R W m s) (hk : ∃ k : Int, (0 ≤ k ∧ k < (l.length : Int)) ∧ vr l k = m ∧ tx l k = t) (hL : Wrote l s m t L) : GoodF L R W m := by
  obtain ⟨k0, hk0, e1, e2⟩ := hk
  have g := h.good
  have hle : L.length = l.length := hL.len
  have hT : tot (wt L) (al L) = tot (wt l) (al l) := by rw [hL.al]; exact hL.tot _ (al_pos l)
  have hcl : ∀ i : Int, 0 ≤ i → i < (l.length : Int) → vr l i = m → tx l i = t := fun i h0 h1 e => by rw [← e2]; exact g.clash i k0 h0 h1 hk0.1 hk0.2 (by rw [e, e1])
  have htx : ∀ i : Int, 0 ≤ i → i < (l.length : Int) → vr L i = m → tx L i = t := fun i h0 h1 e => by
    rw [hL.tx i h0]
    rw [hL.vr i h0] at e
    by_cases q : i ∈ s
    · rw [if_pos q]
    · rw [if_neg q] at e ⊢; exact hcl i h0 h1 e
  refine ⟨by rw [hle]; exact g.n1, by rw [hle]; exact g.n7, ?_, g.R1, by rw [hT]; exact g.R2, g.W1, by rw [hT]; exact g.W2, by rw [hT]; exact g.RW, by rw [hT]; exact g.WW, ?_, ?_, ⟨k0, by rw [hle]; exact hk0, ?_⟩, ?_⟩
  · rw [hle]
    intro k h0 h1
    obtain ⟨c1, c2, c3⟩ := g.cp k h0 h1
    rw [hL.wt k h0, hL.vr k h0, hL.tx k h0]
    have d := g.cp k0 hk0.1 hk0.2
    refine ⟨c1, ?_, ?_⟩
    · split
      · rw [← e1]; exact d.2.1
      · exact c2
    · split
      · rw [← e2]; exact d.2.2
      · exact c3
  · rw [hle]
    intro i j i0 i1 j0 j1 e
    by_cases q : vr L i = m
    · rw [htx i i0 i1 q, htx j j0 j1 (by rw [← e]; exact q)]
    · have q2 : ¬ vr L j = m := fun h => q (by rw [e]; exact h)
      rw [hL.vr i i0] at q e
      rw [hL.vr j j0] at q2 e
      rw [hL.tx i i0, hL.tx j j0]
      by_cases a : i ∈ s
      · rw [if_pos a] at q; exact absurd rfl q
      · by_cases b : j ∈ s
        · rw [if_pos b] at q2; exact absurd rfl q2
        · rw [if_neg a, if_neg b] at *; exact g.clash i j i0 i1 j0 j1 e
  · rw [hle]
    intro k h0 h1
    rw [hL.vr k h0]
    split
    · exact Int.le_refl _
    · exact g.top k h0 h1
  · rw [hL.vr k0 hk0.1]
    split
    · rfl
    · exact e1
  · have c1 := g.wm
    have c2 := tot_imp (wt l) (al l) h.pos (fun k => vr l k == m) (fun k => vr L k == m) (fun k hk e => by
      have e : vr l k = m := by simpa using e
      have h0 := al_pos l k hk
      simp only [beq_iff_eq]
      rw [hL.vr k h0]
      split
      · rfl
      · exact e)
    have c3 := hL.tot ((al l).filter (fun k => vr L k == m)) (fun k hk => al_pos l k (List.mem_filter.1 hk).1)
    rw [hL.al]
    omega
theorem someV_of {l : List S57} {R W : Int} {s : List Int} (h1 : goodV l R W = true) (h2 : risingV s l.length = true) : someV l R W s = true := by
  unfold someV; rw [h1, h2]; rfl
/-- What is repaired is right, its newest version is the old one, all that were repaired have it, and repaired again nothing changes. -/
theorem rep_facts (l : List S57) (R W : Int) (s : List Int) (L : List S57) (R' W' n : Int) (h : repairV l R W s = (L, R', W', n, true)) :
    R' = R ∧ W' = W ∧ L.length = l.length ∧ goodV l R W = true ∧ goodV L R W = true ∧ vTop L = vTop l ∧ repairV L R W s = (L, R, W, 0, true) ∧ n ≤ s.length ∧ ∀ k ∈ s, (0 ≤ k ∧ k < (L.length : Int)) ∧ (rd_T57 L k).f1 = vTop l := by
  unfold repairV at h
  split at h
  · rename_i q
    obtain ⟨hs, hw⟩ := q
    have S := some_1 l R W s hs
    have hsum := S.sum
    have hRW := S.good.RW
    obtain ⟨hne, e1, k0, hk0, ek⟩ := S.best (by omega)
    simp only [Prod.mk.injEq] at h
    obtain ⟨h1, h2, h3, h4, _⟩ := h
    have hL : Wrote l s (vTop l) (vBest l s).f2 L := by rw [← h1, ← e1]; exact Wrote.mk' l s _ _ (fun k hk => S.mem hk)
    have g := rep_good S ⟨k0, S.mem hk0, by unfold vr; rw [← ek, e1], by unfold tx; rw [← ek]⟩ hL
    have g2 := good_2 L R W _ g
    have hS2 : someV L R W s = true := someV_of g2 (by rw [hL.len]; exact S.rise)
    have S2 := some_1 L R W s hS2
    have hsum2 : vSum L s = vSum l s := by rw [S2.sum, S.sum]; exact hL.tot s (fun k hk => (S.mem hk).1)
    have hall : ∀ k ∈ s, rd_T57 L k = ⟨(rd_T57 l k).f0, vTop l, (vBest l s).f2⟩ := fun k hk => by rw [hL.rd k (S.mem hk).1, if_pos hk]
    obtain ⟨⟨j, hj, ej⟩, _⟩ := best_at L s hne (fun k hk => (g.cp k (by have := S.mem hk; omega) (by have := S.mem hk; rw [hL.len]; omega)).2.1.1)
    have eb1 : (vBest L s).f1 = vTop l := by rw [ej, hall j hj]
    have eb2 : (vBest L s).f2 = (vBest l s).f2 := by rw [ej, hall j hj]
    refine ⟨h2.symm, h3.symm, hL.len, by unfold someV at hs; rw [Bool.and_eq_true] at hs; exact hs.1, g2, top_eq L (vTop l) g.n1 (fun k h0 h1 => (g.cp k h0 h1).2.1.1) g.top g.att, ?_, ?_, fun k hk => ⟨by have := S.mem hk; rw [hL.len]; exact this, by rw [hall k hk]⟩⟩
    · unfold repairV
      rw [if_pos ⟨hS2, by rw [hsum2]; exact hw⟩, eb1, eb2]
      have : writtenV L s (vTop l) (vBest l s).f2 = (L, 0) := written_same _ _ s (L, 0) (fun k hk => ⟨by have := S.mem hk; show 0 ≤ k ∧ k < (L.length : Int); rw [hL.len]; exact this, by show (rd_T57 L k).f1 = _; rw [hall k hk], by show (rd_T57 L k).f2 = _; rw [hall k hk]⟩)
      rw [this]
    · have := written_n (vBest l s).f1 (vBest l s).f2 s (l, 0)
      rw [← h4]
      show (s.foldl (wStep (vBest l s).f1 (vBest l s).f2) (l, 0)).2 ≤ (s.length : Int)
      have e0 : ((l, 0) : List S57 × Int).2 = 0 := rfl
      omega
  · simp at h
theorem newest_good (l : List S57) (R W : Int) (h : goodV l R W = true) : newestV l R W = (vTop l, vWeigh l (vTop l), true) := by
  unfold newestV; rw [if_pos h]
/-- What was written is the newest, by one more; and any that weigh enough to read meet it. -/
theorem wr_facts (l : List S57) (R W : Int) (s : List Int) (t : ByteArray) (L : List S57) (R' W' : Int) (h : writeTextV l R W s t = (L, R', W', true)) :
    R' = R ∧ W' = W ∧ L.length = l.length ∧ goodV l R W = true ∧ goodV L R W = true ∧ (vTop L = vTop l + 1 ∧ 0 ≤ vTop l ∧ vTop l ≤ 1000000) ∧ W ≤ vWeigh L (vTop L) ∧ risingV s L.length = true ∧
    ∀ o, risingV o L.length = true → ¬ (vSum L o < R) → (vBest L o).f1 = vTop L ∧ (vBest L o).f2 = t ∧ s.any (fun k => o.any (k == ·)) = true := by
  unfold writeTextV at h
  split at h
  · rename_i q
    obtain ⟨hs, hw, _, hg2⟩ := q
    have S := some_1 l R W s hs
    have hsum := S.sum
    have hWW := S.good.WW
    obtain ⟨hne, e1, k0, hk0, ek⟩ := S.best (by omega)
    obtain ⟨ka, hka, ea⟩ := S.good.att
    have hm := (S.good.cp ka hka.1 hka.2).2.1
    have ew : wrap64 ((vBest l s).f1 + 1) = vTop l + 1 := by rw [e1]; exact wrap_id _ (by omega) (by omega)
    rw [ew] at h hg2
    simp only [Prod.mk.injEq] at h
    obtain ⟨h1, h2, h3, _⟩ := h
    rw [h1] at hg2
    have hL : Wrote l s (vTop l + 1) t L := by rw [← h1]; exact Wrote.mk' l s _ _ (fun k hk => S.mem hk)
    have g2 := good_1 L R W hg2
    have hT : vTop L = vTop l + 1 := top_eq L (vTop l + 1) g2.n1 (fun k h0 h1 => (g2.cp k h0 h1).2.1.1) (fun k h0 h1 => by
      rw [hL.len] at h1
      rw [hL.vr k h0]
      have := S.good.top k h0 h1
      split <;> omega) ⟨k0, by rw [hL.len]; exact S.mem hk0, by rw [hL.vr k0 (S.mem hk0).1, if_pos hk0]⟩
    have hr2 : risingV s L.length = true := by rw [hL.len]; exact S.rise
    have S2 := some_1 L R W s (someV_of hg2 hr2)
    refine ⟨h2.symm, h3.symm, hL.len, by unfold someV at hs; rw [Bool.and_eq_true] at hs; exact hs.1, hg2, ⟨hT, by omega, by omega⟩, ?_, hr2, ?_⟩
    · have a := tot_in (wt L) S2.pos S2.sub (fun k => vr L k == vTop L) (fun k hk => by simp only [beq_iff_eq]; rw [hL.vr k (S.mem hk).1, if_pos hk, hT])
      rw [vWeigh_tot L (vTop L) (fun k hk => by
        have := (al_mem L k).1 hk
        have := (g2.cp k this.1 this.2).1
        omega) g2.n7]
      have b := hL.tot s (fun k hk => (S.mem hk).1)
      omega
    · intro o ho hsumo
      have So := some_1 L R W o (someV_of hg2 ho)
      have c1 := So.sum
      have c2 := g2.RW
      obtain ⟨hno, f1, j, hj, ej⟩ := So.best (by omega)
      have hjr := So.mem hj
      have hjs : j ∈ s := by
        by_cases q : j ∈ s
        · exact q
        · exfalso
          have a : vr L j = vTop L := by unfold vr; rw [← ej]; exact f1
          rw [hL.vr j hjr.1, if_neg q, hT] at a
          have := S.good.top j hjr.1 (by rw [← hL.len]; exact hjr.2)
          omega
      refine ⟨f1, by rw [ej, hL.rd j hjr.1, if_pos hjs], ?_⟩
      rw [List.any_eq_true]
      exact ⟨j, hjs, by rw [List.any_eq_true]; exact ⟨j, hj, by simp⟩⟩
  · simp at h
/-- What is read is of the newest version. -/
theorem read_facts (l : List S57) (R W : Int) (s : List Int) : (readV l R W s = (⟨#[]⟩, 0, false)) ∨ (goodV l R W = true ∧ ∃ t, readV l R W s = (t, vTop l, true)) := by
  unfold readV
  split
  · rename_i q
    obtain ⟨hs, hw⟩ := q
    have S := some_1 l R W s hs
    have c1 := S.sum
    have c2 := S.good.RW
    obtain ⟨hne, e1, _⟩ := S.best (by omega)
    refine .inr ⟨by unfold someV at hs; rw [Bool.and_eq_true] at hs; exact hs.1, (vBest l s).f2, by rw [e1]⟩
  · exact .inl rfl
/-- What NewVoting takes: a read and a write weigh more than all, two writes, too. -/
theorem new_facts (ws : List Int) (r n : Int) (hl : ws.length ≤ 5) (hw : ∀ y ∈ ws, 0 ≤ y ∧ y ≤ 11) : (nvV ws r n).2.2.2 = true → tot id ws < r + n ∧ tot id ws < 2 * n ∧ (0 ≤ r ∧ r ≤ 100) ∧ (0 ≤ n ∧ n ≤ 100) := by
  unfold nvV
  split
  · rename_i h
    intro _
    have g := good_1 _ _ _ h
    have e : tot (wt (nvL ws)) (al (nvL ws)) = tot id ws := by
      have h1 : ∀ (f : Int → Int) (s : List Int), tot f s = tot id (s.map f) := by
        intro f s
        induction s with
        | nil => rfl
        | cons k s ih => simp only [tot, List.map_cons, ih]; rfl
      rw [h1]
      congr 1
      apply List.ext_getElem
      · simp [al, ints_len, nvL_len]
      · intro i h2 h3
        have hi : i < ws.length := h3
        have e1 : (al (nvL ws))[i]'(by simp [al, ints_len, nvL_len, hi]) = (i : Int) := by
          simp [al, ints_eq]
        rw [List.getElem_map, e1]
        unfold wt
        rw [rd_get (nvL ws) i (by rw [nvL_len]; exact hi)]
        simp [nvL]
    have a := g.R2
    have b := g.W2
    have c := g.RW
    have d := g.WW
    have r1 := g.R1
    have w1 := g.W1
    rw [e] at a b c d
    have : tot id ws ≤ 100 := by
      have : ∀ s : List Int, (∀ y ∈ s, y ≤ 11) → tot id s ≤ 11 * s.length := by
        intro s
        induction s with
        | nil => intro _; simp [tot]
        | cons k s ih => intro hh; have := ih (fun j hj => hh j (List.mem_cons_of_mem _ hj)); have := hh k List.mem_cons_self; simp only [tot, List.length_cons, id]; omega
      have := this ws (fun y hy => (hw y hy).2)
      omega
    refine ⟨c, d, ?_, ?_⟩ <;> omega
  · intro h; exact absurd h (by simp)
theorem nvV_len2 (l : List Int) (R W : Int) : (nvV l R W).1.length ≤ l.length := by
  unfold nvV
  split
  · rw [nvL_len]; exact Nat.le_refl _
  · simp
theorem tot_take (l : List Int) (x : Int) (h0 : 0 ≤ x) (h : x < (l.length : Int)) : tot id (l.take (x + 1).toNat) = tot id (l.take x.toNat) + rd l x := by
  have app : ∀ a b : List Int, tot id (a ++ b) = tot id a + tot id b := by
    intro a b
    induction a with
    | nil => simp [tot]
    | cons k a ih => simp only [List.cons_append, tot, ih]; omega
  rw [show (x + 1).toNat = x.toNat + 1 by omega, List.take_succ_eq_append_getElem (by omega), app]
  simp [tot, rd, List.getD_eq_getElem?_getD, show x.toNat < l.length by omega]
theorem tot_small (l : List Int) (h : ∀ y ∈ l, 0 ≤ y ∧ y ≤ 11) : 0 ≤ tot id l ∧ tot id l ≤ 11 * l.length := by
  induction l with
  | nil => simp [tot]
  | cons k s ih => have := ih (fun j hj => h j (List.mem_cons_of_mem _ hj)); have := h k List.mem_cons_self; simp only [tot, List.length_cons, id]; omega
theorem tot_small2 (l : List Int) (n : Nat) (hn : l.length ≤ 5) (h : ∀ y ∈ l, 0 ≤ y ∧ y ≤ 11) : 0 ≤ tot id (l.take n) ∧ tot id (l.take n) ≤ 100 := by
  have := tot_small (l.take n) (fun y hy => h y (List.mem_of_mem_take hy))
  have e : (l.take n).length ≤ l.length := by rw [List.length_take]; omega
  omega
theorem rising_snoc (n x : Int) (hx0 : 0 ≤ x) (hxn : x < n) : ∀ (l : List Int) (b : Int), b < x → risingFrom n b l = true → (∀ k ∈ l, k < x) → risingFrom n b (l ++ [x]) = true := by
  intro l
  induction l with
  | nil => intro b hb _ _; simp only [List.nil_append, risingFrom, Bool.and_true]; exact inB_of (by omega)
  | cons k l ih =>
    intro b hb h hk
    simp only [List.cons_append, risingFrom, Bool.and_eq_true] at h ⊢
    exact ⟨h.1, ih k (hk k List.mem_cons_self) h.2 (fun j hj => hk j (List.mem_cons_of_mem _ hj))⟩
/-- Numbers below one that rise, and that one behind them. -/
theorem up_snoc {n : Nat} {x : Int} {xs : List Int} (h0 : 0 ≤ x) (hx : x < (n : Int)) (h : xs.length ≤ x ∧ risingV xs n = true ∧ ∀ k ∈ xs, k < x) : (xs ++ [x]).length ≤ x + 1 ∧ risingV (xs ++ [x]) n = true ∧ ∀ k ∈ xs ++ [x], k < x + 1 :=
  ⟨by simp; omega, rising_snoc n x h0 hx xs (-1) (by omega) h.2.1 h.2.2, fun k hk => by
    rcases List.mem_append.1 hk with h1 | h1
    · have := h.2.2 k h1; omega
    · simp at h1; omega⟩
theorem up_same {n : Nat} {x : Int} {xs : List Int} (h : xs.length ≤ x ∧ risingV xs n = true ∧ ∀ k ∈ xs, k < x) : (xs.length : Int) ≤ x + 1 ∧ risingV xs n = true ∧ ∀ k ∈ xs, k < x + 1 :=
  ⟨by omega, h.2.1, fun k hk => by have := h.2.2 k hk; omega⟩
end Go.Proofs.Ytfbghibgjfegpaa.Pure
