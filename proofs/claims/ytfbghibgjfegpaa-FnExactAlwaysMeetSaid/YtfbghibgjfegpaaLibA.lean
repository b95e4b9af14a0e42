import Derived.Test.YtfbghibgjfegpaaPAllx5
/- Plain laws on the printed functions of AlwaysMeet's law: lists of numbers copied and compared, numbers that rise. Conditions: lists of at most 2^30 numbers. -/
namespace Go.Proofs.Ytfbghibgjfegpaa.Pure
open Go.RowKit Go.Proofs.Ytfbghibgjfegpaa.PAll Go.Proofs.YtfbghibgjfegpaaW.PrintWords Go.Proofs.YtfbghibgjfegpaaW.PrintLast
theorem wrap_id (x : Int) (h0 : -9223372036854775808 ≤ x) (h1 : x ≤ 9223372036854775807) : wrap64 x = x := by
  unfold wrap64; omega
theorem toIntS_l (x0 : List Int) (hn : x0.length ≤ 1073741824) : ∀ (k : Nat) (x3 : List Int) (i : Int), 0 ≤ i → i ≤ (x0.length : Int) → (x0.length - i).toNat < k → x3.length = x0.length → (∀ j : Nat, (j : Int) < i → rd x3 j = rd x0 j) → laws_toIntS.l0 k x0 x3 i = some x0 := by
  intro k
  induction k with
  | zero => intro x3 i h0 hi hk; omega
  | succ k ih =>
    intro x3 i h0 hi hk hl hj
    simp only [laws_toIntS.l0]
    by_cases hlt : i < (x0.length : Int)
    · rw [if_pos hlt, if_pos h0, if_pos (by omega), wrap_id (i + 1) (by omega) (by omega)]
      refine ih _ (i + 1) (by omega) (by omega) (by omega) (by simpa using hl) (fun j hj2 => ?_)
      rw [rd_set x3 i j _ h0 (by omega)]
      by_cases e : (j : Int) = i
      · rw [if_pos e, e]
      · rw [if_neg e]; exact hj j (by omega)
    · rw [if_neg hlt]
      congr 1
      apply List.ext_getElem hl
      intro n h1 h2
      have := hj n (by omega)
      simpa [rd, List.getD_eq_getElem?_getD, h1, h2] using this
theorem toIntS_eq (l : List Int) (hn : l.length ≤ 1073741824) (k : Nat) (hk : l.length < k) : laws_toIntS.f k l = some l := by
  unfold laws_toIntS.f
  rw [if_pos (by omega), if_pos (by omega)]
  exact toIntS_l l hn k _ 0 (by omega) (by omega) (by omega) (by simp) (fun j hj => by omega)
theorem eqIntS_l (l : List Int) (hn : l.length ≤ 1073741824) : ∀ (k : Nat) (i : Int), 0 ≤ i → i ≤ (l.length : Int) → (l.length - i).toNat < k → laws_eqIntS.l0 k l l i = some true := by
  intro k
  induction k with
  | zero => intro i h0 hi hk; omega
  | succ k ih =>
    intro i h0 hi hk
    simp only [laws_eqIntS.l0]
    by_cases hlt : i < (l.length : Int)
    · rw [if_pos hlt, if_pos h0, if_pos hlt, if_pos True.intro, wrap_id (i + 1) (by omega) (by omega)]
      exact ih (i + 1) (by omega) (by omega) (by omega)
    · rw [if_neg hlt]
theorem eqIntS_eq (l : List Int) (hn : l.length ≤ 1073741824) (k : Nat) (hk : l.length < k) : laws_eqIntS.f k l l = some true := by
  unfold laws_eqIntS.f
  rw [if_pos rfl]
  exact eqIntS_l l hn k 0 (by omega) (by omega) (by omega)
theorem l1In_eq (a b c : Int) : spec_l1In.f a b c = some (inB a b c) := by
  unfold spec_l1In.f inB
  by_cases h : a ≥ b
  · rw [if_pos h]; simp [show b ≤ a from h]
  · rw [if_neg h]; simp [show ¬ b ≤ a from h]
theorem some_l (l : List Int) (n : Int) (hn : l.length ≤ 1073741824) (n0 : 0 ≤ n) (n1 : n ≤ 1073741824) : ∀ (k : Nat) (i b : Int), 0 ≤ i → i ≤ (l.length : Int) → (l.length - i).toNat < k → (i = 0 ∧ b = -1 ∨ 0 < i ∧ b = rd l (i - 1) ∧ 0 ≤ b) →
    spec_l14Some.l0 k l n l (l.length : Int) i = some (risingFrom n b (l.drop i.toNat)) := by
  intro k
  induction k with
  | zero => intro i b h0 hi hk; omega
  | succ k ih =>
    intro i b h0 hi hk hb
    simp only [spec_l14Some.l0]
    by_cases hlt : i < (l.length : Int)
    · rw [if_pos hlt, if_pos h0, if_pos hlt, l1In_eq, wrap_id (n - 1) (by omega) (by omega), drop_rd l i h0 hlt]
      simp only [Option.bind_some, risingFrom]
      by_cases q : inB (rd l i) 0 (n - 1) = true
      · rw [if_pos q]
        have q' : 0 ≤ rd l i ∧ rd l i ≤ n - 1 := by unfold inB at q; simpa using q
        have step : spec_l14Some.l0 k l n l (l.length : Int) (wrap64 (i + 1)) = some (risingFrom n (rd l i) (l.drop (i + 1).toNat)) := by
          rw [wrap_id (i + 1) (by omega) (by omega)]
          exact ih (i + 1) (rd l i) (by omega) (by omega) (by omega) (.inr ⟨by omega, by rw [show i + 1 - 1 = i by omega], q'.1⟩)
        rcases hb with ⟨rfl, rfl⟩ | ⟨hp, rfl, hb0⟩
        · rw [if_neg (by omega), step]
          simp only [show (-1 : Int) + 1 = 0 by omega, q, Bool.true_and]
        · rw [if_pos hp, wrap_id (i - 1) (by omega) (by omega), if_pos (by omega), if_pos (by omega)]
          by_cases r : rd l (i - 1) ≥ rd l i
          · rw [if_pos r]
            have : inB (rd l i) (rd l (i - 1) + 1) (n - 1) = false := by unfold inB; simp; omega
            rw [this]; rfl
          · rw [if_neg r, step]
            have : inB (rd l i) (rd l (i - 1) + 1) (n - 1) = true := by unfold inB; simp; omega
            rw [this]; rfl
      · rw [if_neg q]
        have q' : ¬ (0 ≤ rd l i ∧ rd l i ≤ n - 1) := by unfold inB at q; simpa using q
        have : inB (rd l i) (b + 1) (n - 1) = false := by
          unfold inB
          simp
          rcases hb with ⟨_, rfl⟩ | ⟨_, _, hb0⟩ <;> omega
        rw [this]; rfl
    · rw [if_neg hlt, List.drop_eq_nil_of_le (by omega)]; rfl
theorem some_eq (l : List Int) (n : Int) (hn : l.length ≤ 1073741824) (n0 : 0 ≤ n) (n1 : n ≤ 1073741824) (k : Nat) (hk : l.length < k) : spec_l14Some.f k l n = some (risingV l n) :=
  some_l l n hn n0 n1 k 0 (-1) (by omega) (by omega) (by omega) (.inl ⟨rfl, rfl⟩)
theorem drop_any (p : Int → Bool) (l : List Int) (i : Int) (h0 : 0 ≤ i) (hlt : i < (l.length : Int)) : (l.drop i.toNat).any p = (p (rd l i) || (l.drop (i + 1).toNat).any p) := by
  rw [drop_rd l i h0 hlt, List.any_cons]
theorem has_l (l : List Int) (v : Int) (hn : l.length ≤ 1073741824) : ∀ (k : Nat) (i : Int), 0 ≤ i → i ≤ (l.length : Int) → (l.length - i).toNat < k → spec_l1Has.l0 k v l (l.length : Int) i = some ((l.drop i.toNat).any (v == ·)) := by
  intro k
  induction k with
  | zero => intro i h0 hi hk; omega
  | succ k ih =>
    intro i h0 hi hk
    simp only [spec_l1Has.l0]
    by_cases hlt : i < (l.length : Int)
    · rw [if_pos hlt, if_pos h0, if_pos hlt, drop_any _ l i h0 hlt]
      by_cases e : rd l i = v
      · rw [if_pos e]; simp [e]
      · rw [if_neg e, wrap_id (i + 1) (by omega) (by omega), ih (i + 1) (by omega) (by omega) (by omega)]
        simp [show (v == rd l i) = false from beq_eq_false_iff_ne.2 (Ne.symm e)]
    · rw [if_neg hlt, List.drop_eq_nil_of_le (by omega)]; rfl
theorem has_eq (l : List Int) (v : Int) (hn : l.length ≤ 1073741824) (k : Nat) (hk : l.length < k) : spec_l1Has.f k l v = some (l.any (v == ·)) :=
  has_l l v hn k 0 (by omega) (by omega) (by omega)
theorem meet_l (a b : List Int) (ha : a.length ≤ 1073741824) (hb : b.length ≤ 1073741824) : ∀ (k : Nat) (i : Int), 0 ≤ i → i ≤ (a.length : Int) → (a.length - i).toNat + b.length + 1 < k → spec_AlwaysMeet.l0 k b a (a.length : Int) i = some ((a.drop i.toNat).any (fun x => b.any (x == ·)), true) := by
  intro k
  induction k with
  | zero => intro i h0 hi hk; omega
  | succ k ih =>
    intro i h0 hi hk
    simp only [spec_AlwaysMeet.l0]
    by_cases hlt : i < (a.length : Int)
    · rw [if_pos hlt, if_pos h0, if_pos hlt, has_eq b _ hb k (by omega), drop_any _ a i h0 hlt]
      simp only [Option.bind_some]
      by_cases e : b.any (rd a i == ·) = true
      · rw [if_pos e, e]; rfl
      · rw [if_neg e, wrap_id (i + 1) (by omega) (by omega), ih (i + 1) (by omega) (by omega) (by omega)]
        simp only [Bool.not_eq_true] at e
        rw [e]; rfl
    · rw [if_neg hlt, List.drop_eq_nil_of_le (by omega)]; rfl
theorem specMeet_eq (a b ws : List Int) (ha : a.length ≤ 1073741824) (hb : b.length ≤ 1073741824) (hw : ws.length ≤ 1073741824) (k : Nat) (hk : a.length + b.length + ws.length + 5 < k) : spec_AlwaysMeet.f k a b ws = some (meetV a b ws.length) := by
  unfold spec_AlwaysMeet.f
  rw [some_eq a _ ha (by omega) (by omega) k (by omega)]
  obtain ⟨m, rfl⟩ : ∃ m, k = m + 1 := ⟨k - 1, by omega⟩
  simp only [Option.bind_some]
  cases p : risingV a (ws.length : Int) with
  | false => rw [if_neg (by simp)]; simp [spec_AlwaysMeet.j0, meetV, p]
  | true =>
    rw [if_pos rfl, some_eq b _ hb (by omega) (by omega) (m + 1) (by omega)]
    simp only [Option.bind_some]
    cases q : risingV b (ws.length : Int) with
    | false => rw [if_neg (by simp)]; simp [spec_AlwaysMeet.j0, meetV, q]
    | true =>
      rw [if_pos rfl]
      simp only [spec_AlwaysMeet.j0]
      by_cases h7 : ws.length ≤ 7
      · rw [if_neg (by simp; omega), meet_l a b ha hb m 0 (by omega) (by omega) (by omega)]
        simp [meetV, h7, p, q]
      · rw [if_pos (by simp; omega)]
        simp [meetV, h7]
end Go.Proofs.Ytfbghibgjfegpaa.Pure
