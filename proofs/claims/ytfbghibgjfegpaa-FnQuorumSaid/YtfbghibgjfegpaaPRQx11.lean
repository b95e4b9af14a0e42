-- Laid by this session's wip/pr.py over the kit's printer and the session's own contracts.
import Derived.Test.YtfbghibgjfegpaaPRQx0
import Derived.Test.YtfbghibgjfegpaaPRQx2
import Derived.Test.YtfbghibgjfegpaaPRQx3
import Derived.Test.YtfbghibgjfegpaaPRQx5
import Derived.Test.YtfbghibgjfegpaaPRQx6
import Derived.Test.YtfbghibgjfegpaaPRQx10
namespace Go.Proofs.Ytfbghibgjfegpaa.PRQ
open Go.RowKit Go.Proofs.YtfbghibgjfegpaaW.PrintWords Go.Proofs.YtfbghibgjfegpaaW.PrintLast Go.Proofs.YtfbghibgjfegpaaW.PrintMore
attribute [local go_sem] max2_int min2_int max_two min_two max_three min_three max_four min_four   -- for this text's walks alone
set_option linter.unusedVariables false
set_option linter.unusedSimpArgs false

/-! ### spec_RepairCopies: function 35, a contract by hand -/
theorem wrap_id (x : Int) (h0 : -9223372036854775808 ≤ x) (h1 : x ≤ 9223372036854775807) : wrap64 x = x := by
 unfold wrap64; omega
theorem l1In_eq (a b c : Int) : spec_l1In.f a b c = some (inB a b c) := by
 unfold spec_l1In.f inB
 by_cases h : a ≥ b
 ·rw [if_pos h]; simp [show b ≤ a from h]
 ·rw [if_neg h]; simp [show ¬ b ≤ a from h]
theorem some_l (l : List Int) (n : Int) (hn : l.length ≤ 1073741824) (n0 : 0 ≤ n) (n1 : n ≤ 1073741824) : ∀ (k : Nat) (i b : Int), 0 ≤ i → i ≤ (l.length : Int) → (l.length - i).toNat < k → (i = 0 ∧ b = -1 ∨ 0 < i ∧ b = rd l (i - 1) ∧ 0 ≤ b) →
  spec_l14Some.l0 k l n l (l.length : Int) i = some (risingFrom n b (l.drop i.toNat)) := by
 intro k
 induction k with
 | zero => intro i b h0 hi hk; omega
 | succ k ih =>
  intro i b h0 hi hk hb
  simp only [spec_l14Some.l0]
  by_cases hlt : i < (l.length : Int)
  ·rw [if_pos hlt, if_pos h0, if_pos hlt, l1In_eq, wrap_id (n - 1) (by omega) (by omega), drop_rd l i h0 hlt]
   simp only [Option.bind_some, risingFrom]
   by_cases q : inB (rd l i) 0 (n - 1) = true
   ·rw [if_pos q]
    have q' : 0 ≤ rd l i ∧ rd l i ≤ n - 1 := by unfold inB at q; simpa using q
    have step : spec_l14Some.l0 k l n l (l.length : Int) (wrap64 (i + 1)) = some (risingFrom n (rd l i) (l.drop (i + 1).toNat)) := by
     rw [wrap_id (i + 1) (by omega) (by omega)]
     exact ih (i + 1) (rd l i) (by omega) (by omega) (by omega) (.inr ⟨by omega, by rw [show i + 1 - 1 = i by omega], q'.1⟩)
    rcases hb with ⟨rfl, rfl⟩ | ⟨hp, rfl, hb0⟩
    ·rw [if_neg (by omega), step]
     simp only [show (-1 : Int) + 1 = 0 by omega, q, Bool.true_and]
    ·rw [if_pos hp, wrap_id (i - 1) (by omega) (by omega), if_pos (by omega), if_pos (by omega)]
     by_cases r : rd l (i - 1) ≥ rd l i
     ·rw [if_pos r]
      have : inB (rd l i) (rd l (i - 1) + 1) (n - 1) = false := by unfold inB; simp; omega
      rw [this]; rfl
     ·rw [if_neg r, step]
      have : inB (rd l i) (rd l (i - 1) + 1) (n - 1) = true := by unfold inB; simp; omega
      rw [this]; rfl
   ·rw [if_neg q]
    have q' : ¬ (0 ≤ rd l i ∧ rd l i ≤ n - 1) := by unfold inB at q; simpa using q
    have : inB (rd l i) (b + 1) (n - 1) = false := by
     unfold inB
     simp
     rcases hb with ⟨_, rfl⟩ | ⟨_, _, hb0⟩ <;> omega
    rw [this]; rfl
  ·rw [if_neg hlt, List.drop_eq_nil_of_le (by omega)]; rfl
theorem some_eq (l : List Int) (n : Int) (hn : l.length ≤ 1073741824) (n0 : 0 ≤ n) (n1 : n ≤ 1073741824) (k : Nat) (hk : l.length < k) : spec_l14Some.f k l n = some (risingV l n) :=
 some_l l n hn n0 n1 k 0 (-1) (by omega) (by omega) (by omega) (.inl ⟨rfl, rfl⟩)
theorem some_ev (l : List Int) (n : Int) (hn : l.length ≤ 1073741824) (n0 : 0 ≤ n) (n1 : n ≤ 1073741824) : Ev (fun k => spec_l14Some.f k l n) (risingV l n) := ⟨l.length + 1, fun k hk => some_eq l n hn n0 n1 k (by omega)⟩
theorem drop57 (l : List S57) (i : Int) (h0 : 0 ≤ i) (h : i < (l.length : Int)) : l.drop i.toNat = rd_T57 l i :: l.drop (i + 1).toNat := by
 rw [show (i + 1).toNat = i.toNat + 1 by omega, List.drop_eq_getElem_cons (by omega)]
 simp [rd_T57, List.getD_eq_getElem?_getD, show i.toNat < l.length by omega]
theorem all_l (l : List S57) (R W : Int) (hn : l.length ≤ 1073741824) (d : Nat) : ∀ (i t : Int), 0 ≤ i → i ≤ (l.length : Int) → (l.length : Int) - i = d →
  Ev (fun k => spec_l14All.l0 k t l (l.length : Int) i) ((l.drop i.toNat).foldl (fun t x => wrap64 (t + x.f0)) t) := by
 induction d with
 | zero =>
  intro i t h0 hi hd
  rw [List.drop_eq_nil_of_le (by omega)]
  exact Ev.step (fun k => by simp only [spec_l14All.l0]; rw [if_neg (by omega)]; rfl) (Ev.now _)
 | succ d ih =>
  intro i t h0 hi hd
  rw [drop57 l i h0 (by omega), List.foldl_cons]
  exact Ev.step (fun k => by simp only [spec_l14All.l0]; rw [if_pos (by omega), if_pos h0, if_pos (by omega), wrap_id (i + 1) (by omega) (by omega)]) (ih (i + 1) _ (by omega) (by omega) (by omega))
theorem all_ev (l : List S57) (R W : Int) (hn : l.length ≤ 1073741824) : Ev (fun k => spec_l14All.f k l R W) (l.foldl (fun t x => wrap64 (t + x.f0)) 0) := by
 have := all_l l R W hn l.length 0 0 (by omega) (by omega) (by omega)
 simpa [spec_l14All.f] using this
def mostV (l : List S57) (m : Int) : Int := l.foldl (fun m x => if x.f1 > m then x.f1 else m) m
theorem newest1_l (l : List S57) (m : Int) (hn : l.length ≤ 1073741824) (d : Nat) : ∀ (i t : Int), 0 ≤ i → i ≤ (l.length : Int) → (l.length : Int) - i = d →
  Ev (fun k => spec_l14Newest.l1 k m t l (l.length : Int) i) (m, (l.drop i.toNat).foldl (fun t x => if x.f1 = m then wrap64 (t + x.f0) else t) t) := by
 induction d with
 | zero =>
  intro i t h0 hi hd
  rw [List.drop_eq_nil_of_le (by omega)]
  exact Ev.step (fun k => by simp only [spec_l14Newest.l1]; rw [if_neg (by omega)]; rfl) (Ev.now _)
 | succ d ih =>
  intro i t h0 hi hd
  rw [drop57 l i h0 (by omega), List.foldl_cons]
  by_cases e : (rd_T57 l i).f1 = m
  ·rw [if_pos e]
   exact Ev.step (fun k => by simp only [spec_l14Newest.l1]; rw [if_pos (by omega), if_pos h0, if_pos (by omega), if_pos e, wrap_id (i + 1) (by omega) (by omega)]) (ih (i + 1) _ (by omega) (by omega) (by omega))
  ·rw [if_neg e]
   exact Ev.step (fun k => by simp only [spec_l14Newest.l1]; rw [if_pos (by omega), if_pos h0, if_pos (by omega), if_neg e, wrap_id (i + 1) (by omega) (by omega)]) (ih (i + 1) _ (by omega) (by omega) (by omega))
theorem newest0_l (l : List S57) (R W : Int) (hn : l.length ≤ 1073741824) (d : Nat) : ∀ (i m : Int), 0 ≤ i → i ≤ (l.length : Int) → (l.length : Int) - i = d →
  Ev (fun k => spec_l14Newest.l0 k m l (l.length : Int) i l R W) (mostV (l.drop i.toNat) m, vWeigh l (mostV (l.drop i.toNat) m)) := by
 induction d with
 | zero =>
  intro i m h0 hi hd
  rw [List.drop_eq_nil_of_le (by omega)]
  have := newest1_l l m hn l.length 0 0 (by omega) (by omega) (by omega)
  refine Ev.step (fun k => by simp only [spec_l14Newest.l0]; rw [if_neg (by omega)]) (by simpa [mostV, vWeigh] using this)
 | succ d ih =>
  intro i m h0 hi hd
  rw [drop57 l i h0 (by omega)]
  have e1 : mostV (rd_T57 l i :: l.drop (i + 1).toNat) m = mostV (l.drop (i + 1).toNat) (if (rd_T57 l i).f1 > m then (rd_T57 l i).f1 else m) := by simp [mostV]
  rw [e1]
  by_cases e : (rd_T57 l i).f1 > m
  ·rw [if_pos e]
   exact Ev.step (fun k => by simp only [spec_l14Newest.l0]; rw [if_pos (by omega), if_pos h0, if_pos (by omega), if_pos e, wrap_id (i + 1) (by omega) (by omega)]) (ih (i + 1) _ (by omega) (by omega) (by omega))
  ·rw [if_neg e]
   exact Ev.step (fun k => by simp only [spec_l14Newest.l0]; rw [if_pos (by omega), if_pos h0, if_pos (by omega), if_neg e, wrap_id (i + 1) (by omega) (by omega)]) (ih (i + 1) _ (by omega) (by omega) (by omega))
theorem newest_ev (l : List S57) (R W : Int) (hn : l.length ≤ 1073741824) : Ev (fun k => spec_l14Newest.f k l R W) (mostV l 0, vWeigh l (mostV l 0)) := by
 have := newest0_l l R W hn l.length 0 0 (by omega) (by omega) (by omega)
 simpa [spec_l14Newest.f] using this
def okF (x : S57) : Bool := inB x.f0 1 10 && inB x.f1 0 1000000 && !decide ((x.f2.size : Int) > 12)
theorem cpP_ok (x : S57) : cpP x = !okF x := by
 unfold cpP impl_GoodVoting_1.f impl_copyOK.f okF
 rw [inB_some, inB_some]
 by_cases h3 : (x.f2.size : Int) > 12
 ·cases h1 : inB x.f0 1 10 <;> cases h2 : inB x.f1 0 1000000 <;> simp [h3] <;> omega
 ·cases h1 : inB x.f0 1 10 <;> cases h2 : inB x.f1 0 1000000 <;> simp [h3] <;> omega
theorem any_ok (l : List S57) : l.any cpP = !l.all okF := by
 induction l with
 | nil => rfl
 | cons x l ih => rw [List.any_cons, List.all_cons, ih, cpP_ok, Bool.not_and]
def sumA (l : List S57) : Int := l.foldl (fun t x => wrap64 (t + x.f0)) 0
def tailV (l : List S57) (R W : Int) : Bool :=
 inB l.length 1 7 && inB R 1 (sumA l) && inB W 1 (sumA l) && !decide (wrap64 (R + W) ≤ sumA l) && !decide (wrap64 (2 * W) ≤ sumA l) && decide (vWeigh l (mostV l 0) ≥ W)
def goodLoop (l : List S57) : Nat → Int → Bool
 | 0, _ => true
 | d + 1, i => okF (rd_T57 l i) && !((l.take i.toNat).any (vClash (rd_T57 l i))) && goodLoop l d (i + 1)
theorem good_tail (l : List S57) (R W : Int) (hn : l.length ≤ 1073741824) (i : Int) (hi : ¬ i < (l.length : Int)) : Ev (fun k => spec_GoodVoting.l0 k l (l.length : Int) i l R W) (tailV l R W) := by
 obtain ⟨K1, hA⟩ := all_ev l R W hn
 obtain ⟨K2, hB⟩ := newest_ev l R W hn
 refine ⟨K1 + K2 + 1, fun k hk => ?_⟩
 obtain ⟨k, rfl⟩ : ∃ m, k = m + 1 := ⟨k - 1, by omega⟩
 simp only [spec_GoodVoting.l0]
 have hA' : spec_l14All.f k l R W = some (sumA l) := hA k (by omega)
 have hB' : spec_l14Newest.f k l R W = some (mostV l 0, vWeigh l (mostV l 0)) := hB k (by omega)
 rw [if_neg hi, l1In_eq, hA', hB']
 simp only [Option.bind_some, l1In_eq]
 unfold tailV
 cases q1 : inB (l.length : Int) 1 7 with
 | false => simp
 | true =>
  cases q2 : inB R 1 (sumA l) with
  | false => simp
  | true =>
   cases q3 : inB W 1 (sumA l) with
   | false => simp
   | true =>
    by_cases q4 : wrap64 (R + W) ≤ sumA l
    ·simp [q4]
    ·by_cases q5 : wrap64 (2 * W) ≤ sumA l
     ·simp [q4, q5]
     ·simp [q4, q5]
theorem good_in (l y : List S57) (R W : Int) (i : Int) (a : S57) (hn : y.length ≤ 1073741824) (d : Nat) : ∀ (j : Int) (r : Bool), 0 ≤ j → j ≤ (y.length : Int) → (y.length : Int) - j = d →
  ((y.drop j.toNat).any (vClash a) = true → r = false) → ((y.drop j.toNat).any (vClash a) = false → Ev (fun k => spec_GoodVoting.l0 k l (l.length : Int) (wrap64 (i + 1)) l R W) r) →
  Ev (fun k => spec_GoodVoting.l1 k l (l.length : Int) i y (y.length : Int) j l R W a.f0 a.f1 a.f2) r := by
 induction d with
 | zero =>
  intro j r h0 hj hd h1 h2
  exact Ev.step (fun k => by simp only [spec_GoodVoting.l1]; rw [if_neg (by omega)]) (h2 (by rw [List.drop_eq_nil_of_le (by omega)]; rfl))
 | succ d ih =>
  intro j r h0 hj hd h1 h2
  rw [drop57 y j h0 (by omega), List.any_cons] at h1 h2
  by_cases e1 : (rd_T57 y j).f1 = a.f1
  ·by_cases e2 : (rd_T57 y j).f2.toList = a.f2.toList
   ·have hc : vClash a (rd_T57 y j) = false := by simp [vClash, e2]
    rw [hc, Bool.false_or] at h1 h2
    exact Ev.step (fun k => by simp only [spec_GoodVoting.l1]; rw [if_pos (by omega), if_pos h0, if_pos (by omega), if_pos e1, if_pos e2, wrap_id (j + 1) (by omega) (by omega)]) (ih (j + 1) r (by omega) (by omega) (by omega) h1 h2)
   ·have hc : vClash a (rd_T57 y j) = true := by
     have : ¬ (a.f2.toList = (rd_T57 y j).f2.toList) := fun h => e2 h.symm
     simp [vClash, e1, this]
    rw [hc] at h1
    obtain rfl := h1 (by simp)
    exact Ev.step (fun k => by simp only [spec_GoodVoting.l1]; rw [if_pos (by omega), if_pos h0, if_pos (by omega), if_pos e1, if_neg e2] <;> first | done | rfl) (Ev.now _)
  ·have hc : vClash a (rd_T57 y j) = false := by
    have : ¬ (a.f1 = (rd_T57 y j).f1) := fun h => e1 h.symm
    simp [vClash, this]
   rw [hc, Bool.false_or] at h1 h2
   exact Ev.step (fun k => by simp only [spec_GoodVoting.l1]; rw [if_pos (by omega), if_pos h0, if_pos (by omega), if_neg e1, wrap_id (j + 1) (by omega) (by omega)]) (ih (j + 1) r (by omega) (by omega) (by omega) h1 h2)
theorem good_l (l : List S57) (R W : Int) (hn : l.length ≤ 1073741824) (d : Nat) : ∀ (i : Int), 0 ≤ i → i ≤ (l.length : Int) → (l.length : Int) - i = d →
  Ev (fun k => spec_GoodVoting.l0 k l (l.length : Int) i l R W) (goodLoop l d i && tailV l R W) := by
 induction d with
 | zero => intro i h0 hi hd; simpa [goodLoop] using good_tail l R W hn i (by omega)
 | succ d ih =>
  intro i h0 hi hd
  have hlt : i < (l.length : Int) := by omega
  have bad : ∀ r, r = false → Ev (fun k => spec_GoodVoting.j1 k i l (l.length : Int) i true l R W (rd_T57 l i).f0 (rd_T57 l i).f1 (rd_T57 l i).f2) r := by
   rintro r rfl
   exact Ev.step (fun k => by simp only [spec_GoodVoting.j1]; first | rw [if_pos True.intro] | rw [if_pos rfl]) (Ev.now _)
  have st : ∀ r b, (b = true → r = false) → (b = false → Ev (fun k => spec_GoodVoting.l1 k l (l.length : Int) i (l.take i.toNat) ((l.take i.toNat).length : Int) 0 l R W (rd_T57 l i).f0 (rd_T57 l i).f1 (rd_T57 l i).f2) r) →
    Ev (fun k => spec_GoodVoting.j1 k i l (l.length : Int) i b l R W (rd_T57 l i).f0 (rd_T57 l i).f1 (rd_T57 l i).f2) r := by
   intro r b h1 h2
   cases b with
   | true => exact bad r (h1 rfl)
   | false => exact Ev.step (fun k => by simp only [spec_GoodVoting.j1]; rw [if_neg (by simp), if_pos h0, if_pos (by omega)]; rfl) (h2 rfl)
  have hin := good_in l (l.take i.toNat) R W i (rd_T57 l i) (by rw [List.length_take]; omega) (l.take i.toNat).length 0 (goodLoop l (d + 1) i && tailV l R W) (by omega) (by omega) (by omega)
  have key : ∀ b, b = decide (((rd_T57 l i).f2.size : Int) > 12) → inB (rd_T57 l i).f0 1 10 = true → inB (rd_T57 l i).f1 0 1000000 = true → Ev (fun k => spec_GoodVoting.j1 k i l (l.length : Int) i b l R W (rd_T57 l i).f0 (rd_T57 l i).f1 (rd_T57 l i).f2) (goodLoop l (d + 1) i && tailV l R W) := by
   intro b hb q1 q2
   refine st _ b (fun hbt => ?_) (fun hbf => hin (fun hc => ?_) (fun hc => ?_))
   ·simp [goodLoop, okF, ← hb, hbt]
   ·rw [show ((0 : Int).toNat) = 0 from rfl, List.drop_zero] at hc
    simp [goodLoop, hc]
   ·rw [show ((0 : Int).toNat) = 0 from rfl, List.drop_zero] at hc
    have := ih (i + 1) (by omega) (by omega) (by omega)
    rw [wrap_id (i + 1) (by omega) (by omega)]
    have e : (goodLoop l (d + 1) i && tailV l R W) = (goodLoop l d (i + 1) && tailV l R W) := by
     have ho : okF (rd_T57 l i) = true := by unfold okF; rw [q1, q2, ← hb, hbf]; rfl
     simp only [goodLoop, hc, ho]
     simp
    rw [e]
    exact this
  cases q1 : inB (rd_T57 l i).f0 1 10 with
  | false =>
   exact Ev.step (fun k => by simp only [spec_GoodVoting.l0]; rw [if_pos hlt, if_pos h0, if_pos hlt, l1In_eq, q1]; simp only [Option.bind_some]; rw [if_neg (by simp)]) (bad _ (by simp [goodLoop, okF, q1]))
  | true =>
   cases q2 : inB (rd_T57 l i).f1 0 1000000 with
   | false =>
    exact Ev.step (fun k => by simp only [spec_GoodVoting.l0]; rw [if_pos hlt, if_pos h0, if_pos hlt, l1In_eq, l1In_eq, q1, q2]; simp only [Option.bind_some]; first | rw [if_pos True.intro, if_neg (by simp)] | rw [if_pos rfl, if_neg (by simp)]) (bad _ (by simp [goodLoop, okF, q2]))
   | true =>
    exact Ev.step (fun k => by simp only [spec_GoodVoting.l0]; rw [if_pos hlt, if_pos h0, if_pos hlt, l1In_eq, l1In_eq, q1, q2]; simp only [Option.bind_some]; first | rw [if_pos True.intro, if_pos True.intro] | rw [if_pos rfl, if_pos rfl]) (key _ rfl q1 q2)
theorem goodLoop_eq (l : List S57) (d : Nat) : ∀ i : Int, 0 ≤ i → (l.length : Int) - i = d → (goodLoop l d i = true ↔ (∀ j : Nat, i ≤ (j : Int) → j < l.length → okF (rd_T57 l (j : Int)) = true ∧ (l.take j).any (vClash (rd_T57 l (j : Int))) = false)) := by
 induction d with
 | zero => intro i h0 hd; simp only [goodLoop, true_iff]; intro j h1 h2; omega
 | succ d ih =>
  intro i h0 hd
  simp only [goodLoop, Bool.and_eq_true, Bool.not_eq_true']
  rw [ih (i + 1) (by omega) (by omega)]
  constructor
  ·rintro ⟨⟨h1, h2⟩, h3⟩ j hj hl
   by_cases e : (j : Int) = i
   ·subst e
    simpa using And.intro h1 h2
   ·exact h3 j (by omega) hl
  ·intro h
   refine ⟨?_, fun j hj hl => h j (by omega) hl⟩
   have := h i.toNat (by omega) (by omega)
   rw [show ((i.toNat : Nat) : Int) = i by omega] at this
   exact this
theorem list_all (l : List S57) : (vAll l.length).map (rd_T57 l) = l := by
 apply List.ext_getElem (by simp [vAll])
 intro i h1 h2
 simp [vAll, rd_T57, List.getD_eq_getElem?_getD, h2]
theorem vTot_eq (l : List S57) : vTot l = sumA l := by
 unfold vTot vSum sumA
 have := List.foldl_map (f := rd_T57 l) (g := fun (t : Int) (x : S57) => wrap64 (t + x.f0)) (l := vAll l.length) (init := 0)
 rw [list_all] at this
 exact this.symm
theorem best_f1 (l : List S57) : ∀ b : S57, (l.foldl (fun b x => if x.f1 > b.f1 then x else b) b).f1 = mostV l b.f1 := by
 induction l with
 | nil => intro b; rfl
 | cons x l ih =>
  intro b
  rw [List.foldl_cons, ih]
  simp only [mostV, List.foldl_cons]
  by_cases e : x.f1 > b.f1
  ·rw [if_pos e, if_pos e]
  ·rw [if_neg e, if_neg e]
theorem vTop_eq (l : List S57) : vTop l = mostV l (-1) := by
 unfold vTop vBest
 have := List.foldl_map (f := rd_T57 l) (g := fun (b x : S57) => if x.f1 > b.f1 then x else b) (l := vAll l.length) (init := ⟨0, -1, ⟨#[]⟩⟩)
 rw [list_all] at this
 rw [← this, best_f1]
theorem most_ge (l : List S57) : ∀ m : Int, m ≤ mostV l m ∧ ∀ x ∈ l, x.f1 ≤ mostV l m := by
 induction l with
 | nil => intro m; simp [mostV]
 | cons x l ih =>
  intro m
  have e : mostV (x :: l) m = mostV l (if x.f1 > m then x.f1 else m) := by simp [mostV]
  rw [e]
  obtain ⟨h1, h2⟩ := ih (if x.f1 > m then x.f1 else m)
  have h3 : m ≤ (if x.f1 > m then x.f1 else m) ∧ x.f1 ≤ (if x.f1 > m then x.f1 else m) := by split <;> omega
  refine ⟨by omega, fun y hy => ?_⟩
  rcases List.mem_cons.1 hy with rfl | hy
  ·omega
  ·exact h2 y hy
theorem most_start (l : List S57) (hl : l ≠ []) (h : ∀ x ∈ l, 0 ≤ x.f1) : mostV l (-1) = mostV l 0 := by
 cases l with
 | nil => exact absurd rfl hl
 | cons x l =>
  have h0 := h x List.mem_cons_self
  simp only [mostV, List.foldl_cons]
  rw [if_pos (by omega)]
  by_cases e : x.f1 > 0
  ·rw [if_pos e]
  ·rw [if_neg e, show x.f1 = 0 by omega]
theorem weigh_all (l : List S57) (v : Int) (h : ∀ x ∈ l, x.f1 = v) : ∀ t : Int, l.foldl (fun t x => if x.f1 = v then wrap64 (t + x.f0) else t) t = l.foldl (fun t x => wrap64 (t + x.f0)) t := by
 induction l with
 | nil => intro t; rfl
 | cons x l ih =>
  intro t
  rw [List.foldl_cons, List.foldl_cons, if_pos (h x List.mem_cons_self)]
  exact ih (fun y hy => h y (List.mem_cons_of_mem _ hy)) _
theorem okF_get {l : List S57} (h : l.all okF = true) (x : S57) (hx : x ∈ l) : okF x = true := List.all_eq_true.1 h x hx
theorem good_eq (l : List S57) (R W : Int) : (goodLoop l l.length 0 && tailV l R W) = goodV l R W := by
 have hL := goodLoop_eq l l.length 0 (by omega) (by omega)
 have hok : l.any cpP = !l.all okF := any_ok l
 by_cases h1 : goodLoop l l.length 0 = true
 ·have hj := hL.1 h1
  have hall : l.all okF = true := List.all_eq_true.2 fun x hx => by
   obtain ⟨j, hj2, rfl⟩ := List.getElem_of_mem hx
   have := (hj j (by omega) hj2).1
   simpa [rd_T57, List.getD_eq_getElem?_getD, hj2] using this
  have hcl : vClashes l l.length = false := by
   unfold vClashes
   rw [List.any_eq_false]
   intro j hj2
   have := (hj j (by omega) (List.mem_range.1 hj2)).2
   simpa using this
  have h0 : ∀ x ∈ l, 0 ≤ x.f1 := fun x hx => by
   have := okF_get hall x hx
   unfold okF inB at this
   simp at this
   omega
  rw [h1, Bool.true_and]
  unfold tailV goodV
  rw [hok, hall, hcl, vTot_eq, vTop_eq]
  by_cases hlen : inB (l.length : Int) 1 7 = true
  ·have hne : l ≠ [] := by rintro rfl; simp [inB] at hlen
   rw [hlen, most_start l hne h0]
   by_cases h2 : inB W 1 (sumA l) = true
   ·rw [h2]
    by_cases h3 : mostV l 0 = 0
    ·have hz : ∀ x ∈ l, x.f1 = 0 := fun x hx => by
      have := (most_ge l 0).2 x hx
      have := h0 x hx
      omega
     have hw : vWeigh l (mostV l 0) = sumA l := by rw [h3]; exact weigh_all l 0 hz 0
     have hWA : W ≤ sumA l := by unfold inB at h2; simp at h2; omega
     rw [hw, h3]
     simp [hWA]
    ·have : (mostV l 0 == 0) = false := beq_eq_false_iff_ne.2 h3
     rw [this]
     simp
   ·simp only [Bool.not_eq_true] at h2
    rw [h2]; simp
  ·simp only [Bool.not_eq_true] at hlen
   rw [hlen]; simp
 ·simp only [Bool.not_eq_true] at h1
  rw [h1, Bool.false_and]
  symm
  unfold goodV
  by_cases hall : l.all okF = true
  ·have hcl : vClashes l l.length = true := by
    rw [← Bool.not_eq_false]
    intro hc
    have : goodLoop l l.length 0 = true := hL.2 fun j _ hj2 => by
     refine ⟨?_, ?_⟩
     ·have := okF_get hall l[j] (List.getElem_mem hj2)
      simpa [rd_T57, List.getD_eq_getElem?_getD, hj2] using this
     ·unfold vClashes at hc
      rw [List.any_eq_false] at hc
      have := hc j (List.mem_range.2 hj2)
      simpa using this
    rw [this] at h1
    exact absurd h1 (by simp)
   rw [hcl]; simp
  ·simp only [Bool.not_eq_true] at hall
   rw [hok, hall]; simp
theorem specGood_ev (l : List S57) (R W : Int) (hn : l.length ≤ 1073741824) : Ev (fun k => spec_GoodVoting.f k l R W) (goodV l R W) := by
 have := good_l l R W hn l.length 0 (by omega) (by omega) (by omega)
 rw [good_eq] at this
 exact this
theorem good_parts (l : List S57) (R W : Int) (h : goodV l R W = true) : l ≠ [] ∧ (∀ x ∈ l, 0 ≤ x.f1) ∧ 1 ≤ R := by
 have h' := h
 rw [← good_eq, Bool.and_eq_true] at h
 have hj := (goodLoop_eq l l.length 0 (by omega) (by omega)).1 h.1
 have ht := h.2
 unfold tailV at ht
 simp only [Bool.and_eq_true] at ht
 have h1 : inB (l.length : Int) 1 7 = true := ht.1.1.1.1.1
 have h2 : inB R 1 (sumA l) = true := ht.1.1.1.1.2
 refine ⟨?_, fun x hx => ?_, ?_⟩
 ·rintro rfl; simp [inB] at h1
 ·obtain ⟨j, hj2, rfl⟩ := List.getElem_of_mem hx
  have := (hj j (by omega) hj2).1
  have e : rd_T57 l (j : Int) = l[j] := by simp [rd_T57, List.getD_eq_getElem?_getD, hj2]
  rw [e] at this
  unfold okF inB at this
  simp at this
  omega
 ·unfold inB at h2; simp at h2; omega
theorem drop_int (s : List Int) (i : Int) (h0 : 0 ≤ i) (h : i < (s.length : Int)) : s.drop i.toNat = rd s i :: s.drop (i + 1).toNat := by
 rw [show (i + 1).toNat = i.toNat + 1 by omega, List.drop_eq_getElem_cons (by omega)]
 simp [rd, List.getD_eq_getElem?_getD, show i.toNat < s.length by omega]
theorem weight_l (l : List S57) (R W : Int) (s : List Int) (hn : s.length ≤ 1073741824) (hs : ∀ k ∈ s, 0 ≤ k ∧ k < (l.length : Int)) (d : Nat) : ∀ (i t : Int), 0 ≤ i → i ≤ (s.length : Int) → (s.length : Int) - i = d →
  Ev (fun k => spec_l14Weight.l0 k t s (s.length : Int) i l R W) ((s.drop i.toNat).foldl (fun t k => wrap64 (t + (rd_T57 l k).f0)) t) := by
 induction d with
 | zero =>
  intro i t h0 hi hd
  rw [List.drop_eq_nil_of_le (by omega)]
  exact Ev.step (fun k => by simp only [spec_l14Weight.l0]; rw [if_neg (by omega)]; rfl) (Ev.now _)
 | succ d ih =>
  intro i t h0 hi hd
  have hm := hs _ (rd_mem s i h0 (by omega))
  rw [drop_int s i h0 (by omega), List.foldl_cons]
  exact Ev.step (fun k => by simp only [spec_l14Weight.l0]; rw [if_pos (by omega), if_pos h0, if_pos (by omega), if_pos hm.1, if_pos hm.2, wrap_id (i + 1) (by omega) (by omega)]) (ih (i + 1) _ (by omega) (by omega) (by omega))
theorem weight_ev (l : List S57) (R W : Int) (s : List Int) (hn : s.length ≤ 1073741824) (hs : ∀ k ∈ s, 0 ≤ k ∧ k < (l.length : Int)) : Ev (fun k => spec_l14Weight.f k l R W s) (vSum l s) := by
 have := weight_l l R W s hn hs s.length 0 0 (by omega) (by omega) (by omega)
 simpa [spec_l14Weight.f, vSum] using this
def bStep (l : List S57) (b : S57) (k : Int) : S57 := if (rd_T57 l k).f1 > b.f1 then rd_T57 l k else b
theorem best_l (l : List S57) (R W : Int) (s : List Int) (hn : s.length ≤ 1073741824) (hs : ∀ k ∈ s, 0 ≤ k ∧ k < (l.length : Int)) (d : Nat) : ∀ (i b : Int), 0 ≤ i → i ≤ (s.length : Int) → (s.length : Int) - i = d → 0 ≤ b → b < (l.length : Int) →
  ∃ r, (0 ≤ r ∧ r < (l.length : Int)) ∧ rd_T57 l r = (s.drop i.toNat).foldl (bStep l) (rd_T57 l b) ∧ Ev (fun k => spec_l14Best.l0 k b s (s.length : Int) i l R W) r := by
 induction d with
 | zero =>
  intro i b h0 hi hd hb hb2
  refine ⟨b, ⟨hb, hb2⟩, by rw [List.drop_eq_nil_of_le (by omega)]; rfl, ?_⟩
  exact Ev.step (f := fun _ => some b) (fun k => by simp only [spec_l14Best.l0]; rw [if_neg (by omega)]) (Ev.now _)
 | succ d ih =>
  intro i b h0 hi hd hb hb2
  have hm := hs _ (rd_mem s i h0 (by omega))
  rw [drop_int s i h0 (by omega), List.foldl_cons]
  by_cases q : (rd_T57 l (rd s i)).f1 > (rd_T57 l b).f1
  ·obtain ⟨r, h1, h2, e⟩ := ih (i + 1) (rd s i) (by omega) (by omega) (by omega) hm.1 hm.2
   refine ⟨r, h1, by rw [h2]; unfold bStep; rw [if_pos q], Ev.step (fun k => ?_) e⟩
   simp only [spec_l14Best.l0]
   rw [if_pos (by omega), if_pos h0, if_pos (by omega), if_pos hm.1, if_pos hm.2, if_pos hb, if_pos hb2, if_pos q, wrap_id (i + 1) (by omega) (by omega)]
  ·obtain ⟨r, h1, h2, e⟩ := ih (i + 1) b (by omega) (by omega) (by omega) hb hb2
   refine ⟨r, h1, by rw [h2]; congr 1; unfold bStep; rw [if_neg q], Ev.step (fun k => ?_) e⟩
   simp only [spec_l14Best.l0]
   rw [if_pos (by omega), if_pos h0, if_pos (by omega), if_pos hm.1, if_pos hm.2, if_pos hb, if_pos hb2, if_neg q, wrap_id (i + 1) (by omega) (by omega)]
theorem best_ev (l : List S57) (R W : Int) (s : List Int) (hn : s.length ≤ 1073741824) (hs : ∀ k ∈ s, 0 ≤ k ∧ k < (l.length : Int)) (hl : ∀ x ∈ l, 0 ≤ x.f1) (hp : s ≠ []) :
  ∃ r, (0 ≤ r ∧ r < (l.length : Int)) ∧ rd_T57 l r = vBest l s ∧ Ev (fun k => spec_l14Best.f k l R W s) r := by
 cases s with
 | nil => exact absurd rfl hp
 | cons x s =>
  have hx := hs x List.mem_cons_self
  have e0 : rd (x :: s) 0 = x := rfl
  obtain ⟨r, h1, h2, e⟩ := best_l l R W (x :: s) hn hs (x :: s).length 0 x (by omega) (by omega) (by omega) hx.1 hx.2
  refine ⟨r, h1, ?_, Ev.congr (fun k => ?_) e⟩
  ·rw [h2]
   have h3 : 0 ≤ (rd_T57 l x).f1 := by
    apply hl
    unfold rd_T57
    rw [List.getD_eq_getElem?_getD, List.getElem?_eq_getElem (by omega)]
    exact List.getElem_mem _
   show ((x :: s).drop 0).foldl (bStep l) (rd_T57 l x) = (x :: s).foldl (bStep l) ⟨0, -1, ⟨#[]⟩⟩
   rw [List.drop_zero, List.foldl_cons, List.foldl_cons]
   congr 1
   unfold bStep
   rw [if_neg (by omega), if_pos (show (rd_T57 l x).f1 > -1 by omega)]
  ·unfold spec_l14Best.f
   rw [if_pos (by simp only [List.length_cons]; omega), e0]
/-- What is repaired of some, as the reference has it. -/
def rStep (v : Int) (t : ByteArray) (p : List S57 × Int) (k : Int) : List S57 × Int := if (rd_T57 p.1 k).f1 = v then p else (p.1.set k.toNat ⟨(rd_T57 p.1 k).f0, v, t⟩, p.2 + 1)
def specRepV (l : List S57) (R W : Int) (s : List Int) : List S57 × Int × Int × Int × Bool :=
 if someV l R W s = true ∧ ¬ (vSum l s < R) then ((s.foldl (rStep (vBest l s).f1 (vBest l s).f2) (l, 0)).1, R, W, (s.foldl (rStep (vBest l s).f1 (vBest l s).f2) (l, 0)).2, true) else ([], 0, 0, 0, false)
set_option maxRecDepth 100000 in
set_option maxHeartbeats 4000000 in
theorem srep_1 (A : Option Addr) (c : Nat) (l : List S57) (R W : Int) (A1 : Option Addr) (c1 : Nat) (s : List Int) (w : World) (hr : Kd.C k57 w A l.length l) (hc : l.length ≤ c) (hs : Kd.C (Kd.int .i64) w A1 s.length s) (hc1 : s.length ≤ c1) (hl : l.length ≤ 1073741824) (hsl : s.length ≤ 1073741824) (b : goodV l R W = false) :
  Calls Try.prog 35 #[.agg #[.slice A l.length c, .int .i64 R, .int .i64 W], .slice A1 s.length c1] w fun e w' => ∃ v0_ : Value, e = .returned (.tuple #[.agg #[v0_, .int .i64 (specRepV l R W s).2.1, .int .i64 (specRepV l R W s).2.2.1], .int .i64 (specRepV l R W s).2.2.2.1, .bool (specRepV l R W s).2.2.2.2]) ∧ Kd.R k57 57 w' w.heap.size (fun _ => True) v0_ (specRepV l R W s).1 ∧ Below w.heap.size w w' := by
 have HV0 := Aside0.mk (VZ.new w A c l R W hr)
 have HC := Aside0.mk hc
 have HS := Aside0.mk hs
 have HF : Aside0 (specRepV l R W s = ([], 0, 0, 0, false)) := ⟨by simp [specRepV, someV, b]⟩
 obtain ⟨kg, hg⟩ := (specGood_ev l R W hl).rounds
 rw [b] at hg
 have HE := Aside0.mk hg
 clear hr hc hs hg
 go_enter Try.func35, Try.ntmps35
 go_wp2
 first | (go_region_with (first | (go_at_call 18; refine (spec_GoodVoting.calls kg _ _ l R W false _ HV0.out.drew.vs.row HC.out HE.out).mono ?_; rintro e w2 ⟨rfl, hb⟩; have HV2 := Aside0.mk (HV0.out.drew.below hb); clear hb; obtain ⟨k0, k1, k2⟩ := boxV_cells HV2.out.vs.blk; obtain ⟨⟨z0, z1, z2⟩, y0, y1, y2⟩ := boxZ_cells HV2.out.zb))) | fail
 all_goals
   go_wp2
   refine bodyPost_ret (results_ctt rfl _ _ (w.heap.size + 1) 35 #[.slice none 0 0, .int .i64 0, .int .i64 0] (0, 0) _ rfl (z_again HV2.out.zb) Try.underlying35 rfl (by kernel_rfl)) rfl ?_
   exact ⟨_, by rw [HF.out]; first | done | rfl, by rw [HF.out]; exact Kd.R_nil _ _ _ _ _, below_set (below_set (below_set HV2.out.vs.bel (by omega)) (by omega)) (by omega)⟩
set_option maxRecDepth 100000 in
set_option maxHeartbeats 4000000 in
theorem srep_2 (A : Option Addr) (c : Nat) (l : List S57) (R W : Int) (A1 : Option Addr) (c1 : Nat) (s : List Int) (w : World) (hr : Kd.C k57 w A l.length l) (hc : l.length ≤ c) (hs : Kd.C (Kd.int .i64) w A1 s.length s) (hc1 : s.length ≤ c1) (hl : l.length ≤ 1073741824) (hsl : s.length ≤ 1073741824) (b : goodV l R W = true) (b2 : risingV s (l.length : Int) = false) :
  Calls Try.prog 35 #[.agg #[.slice A l.length c, .int .i64 R, .int .i64 W], .slice A1 s.length c1] w fun e w' => ∃ v0_ : Value, e = .returned (.tuple #[.agg #[v0_, .int .i64 (specRepV l R W s).2.1, .int .i64 (specRepV l R W s).2.2.1], .int .i64 (specRepV l R W s).2.2.2.1, .bool (specRepV l R W s).2.2.2.2]) ∧ Kd.R k57 57 w' w.heap.size (fun _ => True) v0_ (specRepV l R W s).1 ∧ Below w.heap.size w w' := by
 have HV0 := Aside0.mk (VZ.new w A c l R W hr)
 have HC := Aside0.mk hc
 have HC1 := Aside0.mk hc1
 have HS := Aside0.mk hs
 have HF : Aside0 (specRepV l R W s = ([], 0, 0, 0, false)) := ⟨by simp [specRepV, someV, b2]⟩
 obtain ⟨kg, hg⟩ := (specGood_ev l R W hl).rounds
 rw [b] at hg
 have HE := Aside0.mk hg
 obtain ⟨ks, hk⟩ := (some_ev s (l.length : Int) hsl (by omega) (by omega)).rounds
 rw [b2] at hk
 have HK := Aside0.mk hk
 clear hr hc hs hg hc1 hk
 go_enter Try.func35, Try.ntmps35
 go_wp2
 first | (go_region_with (first | (go_at_call 18; refine (spec_GoodVoting.calls kg _ _ l R W true _ HV0.out.drew.vs.row HC.out HE.out).mono ?_; rintro e w2 ⟨rfl, hb⟩; have HV2 := Aside0.mk (HV0.out.drew.below hb); clear hb; obtain ⟨k0, k1, k2⟩ := boxV_cells HV2.out.vs.blk; obtain ⟨⟨z0, z1, z2⟩, y0, y1, y2⟩ := boxZ_cells HV2.out.zb) | (go_at_call 42; refine (spec_l14Some.calls ks _ _ s (l.length : Int) false _ (Kd.C_below HS.out HV2.out.vs.bel) HC1.out HK.out).mono ?_; rintro e w4 ⟨rfl, hd⟩; have HV4 := Aside0.mk (HV2.out.below hd.below); clear hd; obtain ⟨m0, m1, m2⟩ := boxV_cells HV4.out.vs.blk; obtain ⟨⟨x0, x1, x2⟩, n0, n1, n2⟩ := boxZ_cells HV4.out.zb))) | fail
 all_goals
   go_wp2
   refine bodyPost_ret (results_ctt rfl _ _ (w.heap.size + 1) 35 #[.slice none 0 0, .int .i64 0, .int .i64 0] (0, 0) _ rfl (z_again HV4.out.zb) Try.underlying35 rfl (by kernel_rfl)) rfl ?_
   exact ⟨_, by rw [HF.out]; first | done | rfl, by rw [HF.out]; exact Kd.R_nil _ _ _ _ _, below_set (below_set (below_set HV4.out.vs.bel (by omega)) (by omega)) (by omega)⟩
set_option maxRecDepth 100000 in
set_option maxHeartbeats 4000000 in
theorem srep_3 (A : Option Addr) (c : Nat) (l : List S57) (R W : Int) (A1 : Option Addr) (c1 : Nat) (s : List Int) (w : World) (hr : Kd.C k57 w A l.length l) (hc : l.length ≤ c) (hs : Kd.C (Kd.int .i64) w A1 s.length s) (hc1 : s.length ≤ c1) (hl : l.length ≤ 1073741824) (hsl : s.length ≤ 1073741824) (b : goodV l R W = true) (b2 : risingV s (l.length : Int) = true) (q : vSum l s < R) :
  Calls Try.prog 35 #[.agg #[.slice A l.length c, .int .i64 R, .int .i64 W], .slice A1 s.length c1] w fun e w' => ∃ v0_ : Value, e = .returned (.tuple #[.agg #[v0_, .int .i64 (specRepV l R W s).2.1, .int .i64 (specRepV l R W s).2.2.1], .int .i64 (specRepV l R W s).2.2.2.1, .bool (specRepV l R W s).2.2.2.2]) ∧ Kd.R k57 57 w' w.heap.size (fun _ => True) v0_ (specRepV l R W s).1 ∧ Below w.heap.size w w' := by
 have HV0 := Aside0.mk (VZ.new w A c l R W hr)
 have HC := Aside0.mk hc
 have HC1 := Aside0.mk hc1
 have HS := Aside0.mk hs
 have HF : Aside0 (specRepV l R W s = ([], 0, 0, 0, false)) := ⟨by simp [specRepV, q]⟩
 obtain ⟨kg, hg⟩ := (specGood_ev l R W hl).rounds
 rw [b] at hg
 have HE := Aside0.mk hg
 obtain ⟨ks, hk⟩ := (some_ev s (l.length : Int) hsl (by omega) (by omega)).rounds
 rw [b2] at hk
 have HK := Aside0.mk hk
 obtain ⟨kw, hw⟩ := (weight_ev l R W s hsl (risingV_in s _ b2)).rounds
 have HW := Aside0.mk hw
 have q1 := decide_eq_true q
 clear hr hc hs hg hc1 hk hw
 go_enter Try.func35, Try.ntmps35
 go_wp2
 go_region_held3 (fun w' => w'.cell? ⟨w.heap.size, 0, none⟩ = some (.slice A l.length c) ∧ w'.cell? ⟨w.heap.size, 1, none⟩ = some (.int .i64 R) ∧ w'.cell? ⟨w.heap.size, 2, none⟩ = some (.int .i64 W)) (go_keep) (first | (go_at_call 18; refine (spec_GoodVoting.calls kg _ _ l R W true _ HV0.out.drew.vs.row HC.out HE.out).mono ?_; rintro e w2 ⟨rfl, hb⟩; have HV2 := Aside0.mk (HV0.out.drew.below hb); clear hb; obtain ⟨k0, k1, k2⟩ := boxV_cells HV2.out.vs.blk; obtain ⟨⟨z0, z1, z2⟩, y0, y1, y2⟩ := boxZ_cells HV2.out.zb) | (go_at_call 42; refine (spec_l14Some.calls ks _ _ s (l.length : Int) true _ (Kd.C_below HS.out HV2.out.vs.bel) HC1.out HK.out).mono ?_; rintro e w4 ⟨rfl, hd⟩; have HV4 := Aside0.mk (HV2.out.below hd.below); clear hd; obtain ⟨m0, m1, m2⟩ := boxV_cells HV4.out.vs.blk; obtain ⟨⟨x0, x1, x2⟩, n0, n1, n2⟩ := boxZ_cells HV4.out.zb) | (go_at_call 64; refine (spec_l14Weight.calls kw _ _ l R W _ _ s _ _ HV4.out.vs.row HC.out (Kd.C_below HS.out HV4.out.vs.bel) HC1.out HW.out).mono ?_; rintro e w6 ⟨rfl, hb⟩; have HV6 := Aside0.mk (HV4.out.below hb); clear hb; obtain ⟨g0, g1, g2⟩ := boxV_cells HV6.out.vs.blk; obtain ⟨⟨p0, p1, p2⟩, r0, r1, r2⟩ := boxZ_cells HV6.out.zb))
 all_goals
   go_wp2
   refine bodyPost_ret (results_ctt rfl _ _ (w.heap.size + 1) 35 #[.slice none 0 0, .int .i64 0, .int .i64 0] (0, 0) _ rfl (z_again HV6.out.zb) Try.underlying35 rfl (by kernel_rfl)) rfl ?_
   exact ⟨_, by rw [HF.out]; first | done | rfl, by rw [HF.out]; exact Kd.R_nil _ _ _ _ _, below_set (below_set (below_set HV6.out.vs.bel (by omega)) (by omega)) (by omega)⟩
theorem own_eq (l : List S57) (R W : Int) (h : l.length ≤ 1073741824) : spec_l14Own.f l R W = some (l, R, W) := by
 unfold spec_l14Own.f
 rw [Option.bind_some, if_pos (by simp; omega)]
 rfl
/-- A voting over a row of its own in a variable, and an empty one in the result's own. -/
structure VG (w : World) (g z go co n : Nat) (xs : List S57) (R W : Int) (w1 : World) : Prop where
 blk : w1.heap[g]? = some (.cells #[.slice (some ⟨go, 0, none⟩) n co, .int .i64 R, .int .i64 W] 35 (0, 0))
 zb : w1.heap[z]? = some (.cells #[.slice none 0 0, .int .i64 0, .int .i64 0] 35 (0, 0))
 row : Kd.R k57 57 w1 w.heap.size (fun _ => True) (.slice (some ⟨go, 0, none⟩) n co) xs
 bel : Below w.heap.size w w1
theorem VG.below {w w1 w2 : World} {g z go co n : Nat} {xs : List S57} {R W : Int} (h : VG w g z go co n xs R W w1) (hb : Below w1.heap.size w1 w2) : VG w g z go co n xs R W w2 := ⟨blk_below h.blk hb, blk_below h.zb hb, Kd.R_below h.row hb, below_step h.bel hb⟩
theorem VG.drew {w w1 : World} {g z go co n : Nat} {xs : List S57} {R W : Int} (h : VG w g z go co n xs R W w1) : VG w g z go co n xs R W w1.drew := h.below (below_drew1 (Below.refl _ _))
theorem VG.alloc {w w1 : World} {g z go co n : Nat} {xs : List S57} {R W : Int} (h : VG w g z go co n xs R W w1) (o : Obj) : VG w g z go co n xs R W (w1.alloc o) := h.below (below_alloc (Below.refl _ _) o)
theorem VG.cells {w w1 : World} {g z go co n : Nat} {xs : List S57} {R W : Int} (h : VG w g z go co n xs R W w1) : w1.cell? ⟨g, 0, none⟩ = some (.slice (some ⟨go, 0, none⟩) n co) ∧ w1.cell? ⟨g, 1, none⟩ = some (.int .i64 R) ∧ w1.cell? ⟨g, 2, none⟩ = some (.int .i64 W) :=
 ⟨(blk_cell h.blk 0).trans rfl, (blk_cell h.blk 1).trans rfl, (blk_cell h.blk 2).trans rfl⟩
theorem VG.elem {w w1 : World} {g z go co n : Nat} {xs : List S57} {R W : Int} (h : VG w g z go co n xs R W w1) (i : Int) (h0 : 0 ≤ i) (h1 : i < (n : Int)) :
  (w1.cell? ⟨go, i.toNat * 3, none⟩ = some (.int .i64 (rd_T57 xs i).f0) ∧ w1.cell? ⟨go, i.toNat * 3 + 1, none⟩ = some (.int .i64 (rd_T57 xs i).f1) ∧ w1.cell? ⟨go, i.toNat * 3 + 2, none⟩ = some (.string (rd_T57 xs i).f2)) ∧ w1.frozen? ⟨go, i.toNat * 3, none⟩ = false ∧ w1.frozen? ⟨go, i.toNat * 3 + 1, none⟩ = false ∧ w1.frozen? ⟨go, i.toNat * 3 + 2, none⟩ = false := by
 obtain ⟨ce, hcl, hM, hcc, hfr⟩ := Kd.R_elem h.row z57 i h0 h1
 obtain rfl := k57_openM hM
 exact ⟨⟨hcc 0 _ rfl, hcc 1 _ rfl, hcc 2 _ rfl⟩, hfr 0, hfr 1, hfr 2⟩
theorem VG.of {w w1 : World} {g z go co n c n0 : Nat} {A : Option Addr} {l xs : List S57} {R W : Int} (hg : g = w.heap.size) (hz : z = w.heap.size + 1) (h : VZ w g z A c l R W w1) (ho : Kd.R k57 57 w1 w.heap.size (fun _ => True) (.slice (some ⟨go, 0, none⟩) n co) xs) :
  VG w g z go co n xs R W (((w1.setCell ⟨g, 0, none⟩ (.slice (some ⟨go, 0, none⟩) n co)).setCell ⟨g, 1, none⟩ (.int .i64 R)).setCell ⟨g, 2, none⟩ (.int .i64 W)) := by
 subst hg hz
 refine ⟨by simpa using blk_set (blk_set (blk_set h.vs.blk 0 (.slice (some ⟨go, 0, none⟩) n co)) 1 (.int .i64 R)) 2 (.int .i64 W), blk_far (blk_far (blk_far h.zb (by simp) _) (by simp) _) (by simp) _, ?_, below_set (below_set (below_set h.vs.bel (by omega)) (by omega)) (by omega)⟩
 exact Kd.R_mono (Kd.R_far (Kd.R_far (Kd.R_far (Kd.R_types ho h.vs.blk (by decide)) (fun _ hk => hk.2) _) (fun _ hk => hk.2) _) (fun _ hk => hk.2) _) (fun _ hk => trivial)
theorem VG.far {w w1 : World} {g z go co n b : Nat} {xs : List S57} {R W : Int} (h : VG w g z go co n xs R W w1) (hg : g ≠ b) (hz : z ≠ b) (hgo : b ≠ go) (hw : w.heap.size ≤ b) (o : Nat) (u : Value) : VG w g z go co n xs R W (w1.setCell ⟨b, o, none⟩ u) :=
 ⟨blk_far h.blk hg u, blk_far h.zb hz u, Kd.R_mono (Kd.R_far (Kd.R_far1 h.row rfl (by simp [Value.ownBlock, hgo])) (fun _ hk => hk.2) u) (fun _ _ => trivial), below_set h.bel hw⟩
/-- One copy takes a version and a text. -/
theorem VG.put {w w1 : World} {g z go co n : Nat} {xs : List S57} {R W : Int} (h : VG w g z go co n xs R W w1) (hx : xs.length = n) (i : Int) (h0 : 0 ≤ i) (h1 : i < (n : Int)) (hg : g ≠ go) (hz : z ≠ go) (hw : w.heap.size ≤ go) (v : Int) (t : ByteArray) :
  VG w g z go co n (xs.set i.toNat ⟨(rd_T57 xs i).f0, v, t⟩) R W ((w1.setCell ⟨go, i.toNat * 3 + 1, none⟩ (.int .i64 v)).setCell ⟨go, i.toNat * 3 + 2, none⟩ (.string t)) :=
 ⟨blk_far (blk_far h.blk hg _) hg _, blk_far (blk_far h.zb hz _) hz _, (elem57 h.row i h0 h1 hx v t).2.2.2.2.2.2.1, below_set (below_set h.bel hw) hw⟩
theorem best_c {w w1 : World} {g z go co c1 kb : Nat} {l : List S57} {R W bi : Int} {A1 : Option Addr} {s : List Int} (HS : Kd.C (Kd.int .i64) w A1 s.length s) (hc1 : s.length ≤ c1) (hk : spec_l14Best.f kb l R W s = some bi) (HG : VG w g z go co l.length l R W w1) :
  Calls Try.prog 66 #[.agg #[.slice (some ⟨go, 0, none⟩) l.length co, .int .i64 R, .int .i64 W], .slice A1 s.length c1] w1 fun e w' => e = .returned (.int .i64 bi) ∧ Below w1.heap.size w1 w' :=
 spec_l14Best.calls kb _ _ l R W _ _ s _ _ (Kd.R_reads' HG.row).2.2 (Kd.R_reads' HG.row).2.1 (Kd.C_below HS HG.bel) hc1 hk
set_option maxRecDepth 100000 in
set_option maxHeartbeats 4000000 in
theorem srep_4 (A : Option Addr) (c : Nat) (l : List S57) (R W : Int) (A1 : Option Addr) (c1 : Nat) (s : List Int) (w : World) (hr : Kd.C k57 w A l.length l) (hc : l.length ≤ c) (hs : Kd.C (Kd.int .i64) w A1 s.length s) (hc1 : s.length ≤ c1) (hl : l.length ≤ 1073741824) (hsl : s.length ≤ 1073741824) (b : goodV l R W = true) (b2 : risingV s (l.length : Int) = true) (q : ¬ (vSum l s < R)) :
  Calls Try.prog 35 #[.agg #[.slice A l.length c, .int .i64 R, .int .i64 W], .slice A1 s.length c1] w fun e w' => ∃ v0_ : Value, e = .returned (.tuple #[.agg #[v0_, .int .i64 (specRepV l R W s).2.1, .int .i64 (specRepV l R W s).2.2.1], .int .i64 (specRepV l R W s).2.2.2.1, .bool (specRepV l R W s).2.2.2.2]) ∧ Kd.R k57 57 w' w.heap.size (fun _ => True) v0_ (specRepV l R W s).1 ∧ Below w.heap.size w w' := by
 have HV0 := Aside0.mk (VZ.new w A c l R W hr)
 have HC := Aside0.mk hc
 have HC1 := Aside0.mk hc1
 have HS := Aside0.mk hs
 have HF : Aside0 (specRepV l R W s = ((s.foldl (rStep (vBest l s).f1 (vBest l s).f2) (l, 0)).1, R, W, (s.foldl (rStep (vBest l s).f1 (vBest l s).f2) (l, 0)).2, true)) := ⟨by simp [specRepV, someV, b, b2, q]⟩
 obtain ⟨kg, hg⟩ := (specGood_ev l R W hl).rounds
 rw [b] at hg
 have HE := Aside0.mk hg
 obtain ⟨ks, hk⟩ := (some_ev s (l.length : Int) hsl (by omega) (by omega)).rounds
 rw [b2] at hk
 have HK := Aside0.mk hk
 obtain ⟨kw, hw⟩ := (weight_ev l R W s hsl (risingV_in s _ b2)).rounds
 have HW := Aside0.mk hw
 have q1 := decide_eq_false q
 obtain ⟨hne, hpos, hR⟩ := good_parts l R W b
 have hsne : s ≠ [] := by
  rintro rfl
  have : vSum l [] = 0 := rfl
  omega
 obtain ⟨bi, hbi, hbe, hbE⟩ := best_ev l R W s hsl (risingV_in s _ b2) hpos hsne
 obtain ⟨kb, hb0⟩ := hbE.rounds
 have HBE := Aside0.mk hb0
 have HBI := Aside0.mk hbe
 have HI := Aside0.mk (risingV_in s _ b2)
 have HOW := Aside0.mk (own_eq l R W hl)
 have hl1 : 1 ≤ l.length := List.length_pos_iff.2 hne
 have hn4 : w.heap.size ≠ w.heap.size + 1 := by omega
 obtain ⟨ad, rfl⟩ : ∃ ad, A = some ad := by
  obtain ⟨ad, e, _⟩ := at_T57 hr 0 (by omega) (by omega)
  exact ⟨ad, e⟩
 clear hr hc hs hg hc1 hk hw q hb0 hbe hbE hpos hR hne hsne
 go_enter Try.func35, Try.ntmps35
 go_upto_region 1 with fail
 go_cut [29] (fun s29 wx => s29 = .bool false ∧ Aside0 (VZ w w.heap.size (w.heap.size + 1) (some ad) c l R W wx))
 case first =>
  go_region_held3 (fun w' => w'.cell? ⟨w.heap.size, 0, none⟩ = some (.slice (some ad) l.length c) ∧ w'.cell? ⟨w.heap.size, 1, none⟩ = some (.int .i64 R) ∧ w'.cell? ⟨w.heap.size, 2, none⟩ = some (.int .i64 W)) (go_keep) (first | (go_at_call 18; refine (spec_GoodVoting.calls kg _ _ l R W true _ HV0.out.drew.vs.row HC.out HE.out).mono ?_; rintro e w2 ⟨rfl, hb⟩; have HV2 := Aside0.mk (HV0.out.drew.below hb); clear hb; obtain ⟨k0, k1, k2⟩ := boxV_cells HV2.out.vs.blk; obtain ⟨⟨z0, z1, z2⟩, y0, y1, y2⟩ := boxZ_cells HV2.out.zb) | (go_at_call 42; refine (spec_l14Some.calls ks _ _ s (l.length : Int) true _ (Kd.C_below HS.out HV2.out.vs.bel) HC1.out HK.out).mono ?_; rintro e w4 ⟨rfl, hd⟩; have HV4 := Aside0.mk (HV2.out.below hd.below); clear hd; obtain ⟨m0, m1, m2⟩ := boxV_cells HV4.out.vs.blk; obtain ⟨⟨x0, x1, x2⟩, n0, n1, n2⟩ := boxZ_cells HV4.out.zb) | (go_at_call 64; refine (spec_l14Weight.calls kw _ _ l R W _ _ s _ _ HV4.out.vs.row HC.out (Kd.C_below HS.out HV4.out.vs.bel) HC1.out HW.out).mono ?_; rintro e w6 ⟨rfl, hb⟩; have HV6 := Aside0.mk (HV4.out.below hb); clear hb; obtain ⟨g0, g1, g2⟩ := boxV_cells HV6.out.vs.blk; obtain ⟨⟨p0, p1, p2⟩, r0, r1, r2⟩ := boxZ_cells HV6.out.zb))
  all_goals (go_wp2_with fail; go_meet; exact ⟨by first | rfl | simp [*], HV6⟩)
 case rest =>
  obtain ⟨rfl, HV6⟩ := hcut
  obtain ⟨k0, k1, k2⟩ := boxV_cells HV6.out.vs.blk
  go_upto_region 4 with (first | (go_at_call 69; refine (spec_l14Own.calls _ _ l R W l R W _ HV6.out.vs.row HC.out HOW.out).mono ?_; rintro e w7 ⟨v0, rfl, ho, hb⟩; have HV7 := Aside0.mk (HV6.out.below hb); obtain ⟨go, co, ev, gb, gl, cl2, hG⟩ := Kd.R_form ho (by omega); subst ev; clear hG cl2; have HO7 := Aside0.mk (Kd.R_lower ho HV6.out.vs.bel.size); clear ho hb; obtain ⟨m0, m1, m2⟩ := boxV_cells HV7.out.vs.blk; obtain ⟨⟨z0, z1, z2⟩, y0, y1, y2⟩ := boxZ_cells HV7.out.zb; have j0 := blk_frozen HV7.out.vs.blk 0; have j1 := blk_frozen HV7.out.vs.blk 1; have j2 := blk_frozen HV7.out.vs.blk 2))
  have HG := Aside0.mk (VG.of (n0 := 0) rfl rfl HV7.out HO7.out)
  clear HV7 HO7 m0 m1 m2 z0 z1 z2 y0 y1 y2 j0 j1 j2 k0 k1 k2 HV6 gb gl
  generalize (((w7.setCell _ _).setCell _ _).setCell _ _) = w8 at HG ⊢
  obtain ⟨k0, k1, k2⟩ := HG.out.cells
  have hs8 : w8.heap.size ≠ w.heap.size := by have := blk_lt HG.out.blk; omega
  obtain ⟨⟨t0, t1, t2⟩, u0, u1, u2⟩ := HG.out.elem bi hbi.1 hbi.2
  have hs8b : w8.heap.size ≠ go := by have := World.block_lt_of_cell? w8 _ t0; simp at this; omega
  go_cut [7] (fun s7 wx => ∃ g7 : Nat, s7 = .pointer (some ⟨g7, 0, none⟩) ∧ Aside0 (wx.heap[g7]? = some (.cells (cells57 (vBest l s)) 57 (0, 0))) ∧ Aside0 (VG w w.heap.size (w.heap.size + 1) go co l.length l R W wx) ∧ Aside0 (w.heap.size + 2 ≤ g7 ∧ g7 ≠ go))
  case first =>
   go_region_held3 (fun w' => w'.cell? ⟨w.heap.size, 0, none⟩ = some (.slice (some ⟨go, 0, none⟩) l.length co) ∧ w'.cell? ⟨w.heap.size, 1, none⟩ = some (.int .i64 R) ∧ w'.cell? ⟨w.heap.size, 2, none⟩ = some (.int .i64 W) ∧ w'.cell? ⟨go, bi.toNat * 3, none⟩ = some (.int .i64 (rd_T57 l bi).f0) ∧ w'.cell? ⟨go, bi.toNat * 3 + 1, none⟩ = some (.int .i64 (rd_T57 l bi).f1) ∧ w'.cell? ⟨go, bi.toNat * 3 + 2, none⟩ = some (.string (rd_T57 l bi).f2)) (go_keep) (first | (go_at_call 66; refine (best_c (g := w.heap.size) (z := w.heap.size + 1) HS.out HC1.out HBE.out (show VG w w.heap.size (w.heap.size + 1) go co l.length l R W _ from (by repeat (first | exact HG.out | apply VG.drew | refine VG.alloc ?_ _)))).mono ?_; rintro e w9 ⟨rfl, hb⟩; have HG9 : Aside0 (VG w w.heap.size (w.heap.size + 1) go co l.length l R W w9) := ⟨VG.below (by repeat (first | exact HG.out | apply VG.drew | refine VG.alloc ?_ _)) hb⟩; have HB9 := Aside0.mk hb; obtain ⟨hcc, hff⟩ := bcell hb; have hsz := hb.size; clear hb; obtain ⟨m0, m1, m2⟩ := HG9.out.cells; obtain ⟨⟨e0, e1, e2⟩, f0, f1, f2⟩ := HG9.out.elem bi hbi.1 hbi.2; have hs9 : w9.heap.size ≠ w.heap.size := (by have := blk_lt HG9.out.blk; omega); have hs9b : w9.heap.size ≠ go := (by have := World.block_lt_of_cell? w9 _ e0; simp at this; omega)))
   all_goals go_wp2_with fail
   all_goals go_meet
   ·have hz9 := blk_lt HG9.out.zb
    exact ⟨w9.heap.size, rfl, ⟨by rw [← HBI.out]; exact blk_new w9 _⟩, ⟨HG9.out.alloc _⟩, ⟨by omega, hs9b⟩⟩
   ·have hz8 := blk_lt HG.out.zb
    have hB := blk_below (blk_drew (blk_new w8 (.cells #[.int .i64 0, .int .i64 0, .string ⟨#[]⟩] 57))) HB9.out
    exact ⟨w8.heap.size, rfl, ⟨by rw [← HBI.out]; simpa [cells57] using blk_set (blk_set (blk_set hB 0 (.int .i64 (rd_T57 l bi).f0)) 1 (.int .i64 (rd_T57 l bi).f1)) 2 (.string (rd_T57 l bi).f2)⟩, ⟨VG.far (VG.far (VG.far HG9.out (by omega) (by omega) hs8b (by omega) _ _) (by omega) (by omega) hs8b (by omega) _ _) (by omega) (by omega) hs8b (by omega) _ _⟩, ⟨by omega, hs8b⟩⟩
  case rest =>
   obtain ⟨g7, rfl, H7, HG, HN⟩ := hcut
   clear k0 k1 k2 t0 t1 t2 u0 u1 u2 hs8 hs8b
   obtain ⟨hg7, hg7o⟩ := HN.out
   have hm := Kd.C_max HS.out
   go_wp2
   go_loopw [8, 10, 42] (fun v8 v10 v42 wr => ∃ (x n : Int) (xs : List S57), 0 ≤ x ∧ x ≤ (s.length : Int) ∧ v42 = .int .i64 x ∧ v8 = .int .i64 n ∧ 0 ≤ n ∧ n ≤ x ∧ Aside0 ((s.take x.toNat).foldl (rStep (vBest l s).f1 (vBest l s).f2) (l, 0) = (xs, n)) ∧ Aside0 (xs.length = l.length) ∧ Aside0 (VG w w.heap.size (w.heap.size + 1) go co l.length xs R W wr) ∧ Aside0 (wr.heap[g7]? = some (.cells (cells57 (vBest l s)) 57 (0, 0)))) (fun _ _ v _ => (s.length - intOf v).toNat)
   case atStart => exact ⟨0, 0, l, by omega, by omega, rfl, rfl, by omega, by omega, ⟨rfl⟩, ⟨rfl⟩, HG, H7⟩
   case round =>
    obtain ⟨x, n, xs, h0, hx, rfl, rfl, hn0, hnx, HF2, HX, HG, H7⟩ := hrel
    obtain ⟨q0, q1', q2⟩ := HG.out.cells
    by_cases hlts : x < (s.length : Int)
    ·obtain ⟨ad3, e1, d1⟩ := Kd.at_int HS.out x h0 hlts
     cases e1
     replace d1 := (HG.out.bel.cell (World.block_lt_of_cell? w _ d1)).trans d1
     obtain ⟨h3, h4⟩ := HI.out _ (rd_mem s x h0 hlts)
     obtain ⟨⟨c0, c1, c2⟩, f0, f1, f2⟩ := HG.out.elem (rd s x) h3 h4
     have b0 : wr.cell? ⟨g7, 0, none⟩ = some (.int .i64 (vBest l s).f0) := (blk_cell H7.out 0).trans rfl
     have b1 : wr.cell? ⟨g7, 1, none⟩ = some (.int .i64 (vBest l s).f1) := (blk_cell H7.out 1).trans rfl
     have b2 : wr.cell? ⟨g7, 2, none⟩ = some (.string (vBest l s).f2) := (blk_cell H7.out 2).trans rfl
     have hne : go ≠ w.heap.size := Ne.symm (by simpa [Value.ownBlock] using Kd.R_ne HG.out.row HG.out.blk (by decide))
     have hnz : go ≠ w.heap.size + 1 := Ne.symm (by simpa [Value.ownBlock] using Kd.R_ne HG.out.row HG.out.zb (by decide))
     have hgo : w.heap.size ≤ go := R_ge HG.out.row (by have := HX.out; omega)
     have HS1 : Aside0 ((s.take (x + 1).toNat).foldl (rStep (vBest l s).f1 (vBest l s).f2) (l, 0) = rStep (vBest l s).f1 (vBest l s).f2 (xs, n) (rd s x)) := ⟨by rw [rd_take s x h0 hlts, List.foldl_append, HF2.out]; rfl⟩
     by_cases e1 : (rd_T57 xs (rd s x)).f1 = (vBest l s).f1
     ·have bb : ((rd_T57 xs (rd s x)).f1 != (vBest l s).f1) = false := bne_eq_false_iff_eq.2 e1
      replace HS1 : Aside0 ((s.take (x + 1).toNat).foldl (rStep (vBest l s).f1 (vBest l s).f2) (l, 0) = (xs, n)) := ⟨by rw [HS1.out]; simp [rStep, e1]⟩
      clear e1
      go_wp2
      go_quiet (fail)
      go_wp2
      go_roundw
      case rel => exact ⟨x + 1, n, xs, by omega, by omega, by first | rfl | simp, rfl, by omega, by omega, HS1, HX, ⟨HG.out.below (pw_below_drewN (Below.refl _ _) _)⟩, ⟨blk_drewN H7.out _⟩⟩
      case measure => simp [intOf]; omega
     ·have bb : ((rd_T57 xs (rd s x)).f1 != (vBest l s).f1) = true := bne_iff_ne.2 e1
      replace HS1 : Aside0 ((s.take (x + 1).toNat).foldl (rStep (vBest l s).f1 (vBest l s).f2) (l, 0) = (xs.set (rd s x).toNat ⟨(rd_T57 xs (rd s x)).f0, (vBest l s).f1, (vBest l s).f2⟩, n + 1)) := ⟨by rw [HS1.out]; simp [rStep, e1]⟩
      clear e1
      go_wp2
      go_quiet (fail)
      go_wp2
      go_roundw
      case rel => exact ⟨x + 1, n + 1, _, by omega, by omega, by first | rfl | simp, rfl, by omega, by omega, HS1, ⟨by simpa using HX.out⟩, ⟨(HG.out.below (pw_below_drewN (Below.refl _ _) _)).put HX.out (rd s x) h3 h4 (Ne.symm hne) (Ne.symm hnz) hgo _ _⟩, ⟨blk_far (blk_far (blk_drewN H7.out _) hg7o _) hg7o _⟩⟩
      case measure => simp [intOf]; omega
    ·have e : s.take x.toNat = s := List.take_of_length_le (by omega)
     have HV : Aside0 (s.foldl (rStep (vBest l s).f1 (vBest l s).f2) (l, 0) = (xs, n)) := ⟨by have := HF2.out; rw [e] at this; exact this⟩
     clear e
     obtain ⟨⟨z0, z1, z2⟩, y0, y1, y2⟩ := boxZ_cells HG.out.zb
     go_wp2
     refine bodyPost_ret (results_ctt rfl _ _ (w.heap.size + 1) 35 _ (0, 0) _ rfl (z_put HG.out.zb _ R W) Try.underlying35 rfl (by kernel_rfl)) rfl ?_
     exact ⟨_, by rw [HF.out, HV.out]; first | done | rfl, by rw [HF.out, HV.out]; exact Kd.R_mono (Kd.R_far (Kd.R_far (Kd.R_far (Kd.R_types HG.out.row HG.out.zb (by decide)) (fun _ hk => hk.2) _) (fun _ hk => hk.2) _) (fun _ hk => hk.2) _) (fun _ hk => trivial), below_set (below_set (below_set HG.out.bel (by omega)) (by omega)) (by omega)⟩
theorem srep_c (A : Option Addr) (c : Nat) (l : List S57) (R W : Int) (A1 : Option Addr) (c1 : Nat) (s : List Int) (w : World) (hr : Kd.C k57 w A l.length l) (hc : l.length ≤ c) (hs : Kd.C (Kd.int .i64) w A1 s.length s) (hc1 : s.length ≤ c1) (hl : l.length ≤ 1073741824) (hsl : s.length ≤ 1073741824) :
  Calls Try.prog 35 #[.agg #[.slice A l.length c, .int .i64 R, .int .i64 W], .slice A1 s.length c1] w fun e w' => ∃ v0_ : Value, e = .returned (.tuple #[.agg #[v0_, .int .i64 (specRepV l R W s).2.1, .int .i64 (specRepV l R W s).2.2.1], .int .i64 (specRepV l R W s).2.2.2.1, .bool (specRepV l R W s).2.2.2.2]) ∧ Kd.R k57 57 w' w.heap.size (fun _ => True) v0_ (specRepV l R W s).1 ∧ Below w.heap.size w w' := by
 cases b : goodV l R W with
 | false => exact srep_1 A c l R W A1 c1 s w hr hc hs hc1 hl hsl b
 | true =>
  cases b2 : risingV s (l.length : Int) with
  | false => exact srep_2 A c l R W A1 c1 s w hr hc hs hc1 hl hsl b b2
  | true =>
   by_cases q : vSum l s < R
   ·exact srep_3 A c l R W A1 c1 s w hr hc hs hc1 hl hsl b b2 q
   ·exact srep_4 A c l R W A1 c1 s w hr hc hs hc1 hl hsl b b2 q
def spec_RepairCopies.f (l0_0 : List (S57)) (a0_1 : Int) (a0_2 : Int) (l1 : List Int) : Option ((List (S57)) × Int × Int × Int × Bool) := if l0_0.length ≤ 1073741824 ∧ l1.length ≤ 1073741824 then some (specRepV l0_0 a0_1 a0_2 l1) else none
theorem spec_RepairCopies.calls (A0_0 : Option Addr) (c0_0 : Nat) (l0_0 : List (S57)) (a0_1 : Int) (a0_2 : Int) (A1 : Option Addr) (c1 : Nat) (l1 : List Int) (r1 : List (S57)) (r2 : Int) (r3 : Int) (r4 : Int) (r5 : Bool) (w : World) (hr0_0 : Kd.C k57 w A0_0 l0_0.length l0_0) (hc0_0 : l0_0.length ≤ c0_0) (hr1 : Kd.C (Kd.int .i64) w A1 l1.length l1) (hc1 : l1.length ≤ c1) (h : spec_RepairCopies.f l0_0 a0_1 a0_2 l1 = some (r1, r2, r3, r4, r5)) :
  Calls Try.prog 35 #[.agg #[.slice A0_0 l0_0.length c0_0, .int .i64 a0_1, .int .i64 a0_2], .slice A1 l1.length c1] w fun e w' => ∃ v0_ : Value, e = .returned (.tuple #[.agg #[v0_, .int .i64 r2, .int .i64 r3], .int .i64 r4, .bool r5]) ∧ Kd.R k57 57 w' w.heap.size (fun _ => True) v0_ r1 ∧ Below w.heap.size w w' := by
 unfold spec_RepairCopies.f at h
 by_cases q : l0_0.length ≤ 1073741824 ∧ l1.length ≤ 1073741824
 ·rw [if_pos q] at h
  have e := Option.some.inj h
  have hh := srep_c A0_0 c0_0 l0_0 a0_1 a0_2 A1 c1 l1 w hr0_0 hc0_0 hr1 hc1 q.1 q.2
  rw [e] at hh
  exact hh
 ·rw [if_neg q] at h
  cases h

end Go.Proofs.Ytfbghibgjfegpaa.PRQ
