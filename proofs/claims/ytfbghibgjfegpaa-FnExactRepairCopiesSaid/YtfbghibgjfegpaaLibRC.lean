import Derived.Test.YtfbghibgjfegpaaRCN
import Derived.Laws.Strings
/- Plain laws on the printed functions. Conditions: lists of at most 2^30. -/
namespace Go.Proofs.Ytfbghibgjfegpaa.Pure
open Go.RowKit Go.Proofs.Ytfbghibgjfegpaa.PRC Go.Proofs.YtfbghibgjfegpaaW.PrintWords Go.Proofs.YtfbghibgjfegpaaW.PrintLast
set_option linter.unusedVariables false
theorem rd57_set (x : List S57) (i : Int) (j : Int) (v : S57) (h0 : 0 ≤ i) (h1 : i < (x.length : Int)) (j0 : 0 ≤ j) : rd_T57 (x.set i.toNat v) j = if j = i then v else rd_T57 x j := by
  unfold rd_T57
  rw [List.getD_eq_getElem?_getD, List.getD_eq_getElem?_getD, List.getElem?_set]
  by_cases e : j = i
  · subst e; simp [show j.toNat < x.length by omega]
  · rw [if_neg (by omega), if_neg e]
theorem toIntS_l (x0 : List Int) (hn : x0.length ≤ 1073741824) : ∀ (k : Nat) (x3 : List Int) (i : Int), 0 ≤ i → i ≤ (x0.length : Int) → (x0.length - i).toNat < k → x3.length = x0.length → (∀ j : Nat, (j : Int) < i → rd x3 j = rd x0 j) → laws_toIntS.l0 k x0 x3 i = some x0 := by
  intro k
  induction k with
  | zero => intro x3 i h0 hi hk; omega
  | succ k ih =>
    intro x3 i h0 hi hk hl hj
    simp only [laws_toIntS.l0]
    by_cases hlt : i < (x0.length : Int)
    · rw [if_pos hlt, if_pos h0, if_pos (by omega), wrap_id (i + 1) (by omega) (by omega)]
      refine ih _ (i + 1) (by omega) (by omega) (by omega) (by simpa using hl) (fun j hj2 => ?_)
      rw [rd_set x3 i j _ h0 (by omega)]
      by_cases e : (j : Int) = i
      · rw [if_pos e, e]
      · rw [if_neg e]; exact hj j (by omega)
    · rw [if_neg hlt]
      congr 1
      apply List.ext_getElem hl
      intro n h1 h2
      have := hj n (by omega)
      simpa [rd, List.getD_eq_getElem?_getD, h1, h2] using this
theorem toIntS_eq (l : List Int) (hn : l.length ≤ 1073741824) (k : Nat) (hk : l.length < k) : laws_toIntS.f k l = some l := by
  unfold laws_toIntS.f
  rw [if_pos (by omega), if_pos (by omega)]
  exact toIntS_l l hn k _ 0 (by omega) (by omega) (by omega) (by simp) (fun j hj => by omega)
theorem toIntS_ev (l : List Int) (hn : l.length ≤ 1073741824) : Ev (fun k => laws_toIntS.f k l) l := ⟨l.length + 1, fun k hk => toIntS_eq l hn k (by omega)⟩
theorem eqIntS_l (l : List Int) (hn : l.length ≤ 1073741824) : ∀ (k : Nat) (i : Int), 0 ≤ i → i ≤ (l.length : Int) → (l.length - i).toNat < k → laws_eqIntS.l0 k l l i = some true := by
  intro k
  induction k with
  | zero => intro i h0 hi hk; omega
  | succ k ih =>
    intro i h0 hi hk
    simp only [laws_eqIntS.l0]
    by_cases hlt : i < (l.length : Int)
    · rw [if_pos hlt, if_pos h0, if_pos hlt, if_pos True.intro, wrap_id (i + 1) (by omega) (by omega)]
      exact ih (i + 1) (by omega) (by omega) (by omega)
    · rw [if_neg hlt]
theorem eqIntS_eq (l : List Int) (hn : l.length ≤ 1073741824) (k : Nat) (hk : l.length < k) : laws_eqIntS.f k l l = some true := by
  unfold laws_eqIntS.f
  rw [if_pos rfl]
  exact eqIntS_l l hn k 0 (by omega) (by omega) (by omega)
theorem eqIntS_ev (l : List Int) (hn : l.length ≤ 1073741824) : Ev (fun k => laws_eqIntS.f k l l) true := ⟨l.length + 1, fun k hk => eqIntS_eq l hn k (by omega)⟩
theorem eqCopyS_l (l : List S57) (hn : l.length ≤ 1073741824) (d : Nat) : ∀ i : Int, 0 ≤ i → i ≤ (l.length : Int) → (l.length : Int) - i = d → Ev (fun k => laws_eqCopyS.l0 k l l i) true := by
  induction d with
  | zero => intro i h0 hi hd; exact Ev.step (f := fun _ => some true) (fun k => by simp only [laws_eqCopyS.l0]; rw [if_neg (by omega)]) (Ev.now _)
  | succ d ih =>
    intro i h0 hi hd
    refine Ev.step (fun k => ?_) (ih (i + 1) (by omega) (by omega) (by omega))
    simp only [laws_eqCopyS.l0, laws_eqCopy.f]
    rw [if_pos (by omega), if_pos h0, if_pos (by omega), wrap_id (i + 1) (by omega) (by omega)]
    simp
theorem eqVoting_ev (l : List S57) (R W : Int) (hn : l.length ≤ 1073741824) : Ev (fun k => laws_eqVoting.f k l R W l R W) true := by
  unfold laws_eqVoting.f
  refine Ev.bind (a := true) ?_ (Ev.congr (fun k => by simp) (Ev.now true))
  exact Ev.congr (fun k => by unfold laws_eqCopyS.f; rw [if_pos rfl]) (eqCopyS_l l hn l.length 0 (by omega) (by omega) (by omega))
def cv (x : S98) : S57 := ⟨x.f0, x.f1, x.f2⟩
def cvL (l : List S98) : List S57 := l.map cv
theorem cvL_len (l : List S98) : (cvL l).length = l.length := by simp [cvL]
theorem rd57_cv (l : List S98) (j : Int) (h0 : 0 ≤ j) (h1 : j < (l.length : Int)) : rd_T57 (cvL l) j = cv (rd_T98 l j) := by
  have : j.toNat < l.length := by omega
  simp [rd_T57, rd_T98, cvL, List.getD_eq_getElem?_getD, this]
theorem toCopyS_l (l : List S98) (hn : l.length ≤ 1073741824) (d : Nat) : ∀ (x : List S57) (i : Int), x.length = l.length → 0 ≤ i → i ≤ (l.length : Int) → (l.length : Int) - i = d → (∀ j : Int, 0 ≤ j → j < i → rd_T57 x j = cv (rd_T98 l j)) →
    Ev (fun k => laws_toCopyS.l0 k l x i) (cvL l) := by
  induction d with
  | zero =>
    intro x i hx h0 hi hd hj
    have e : x = cvL l := by
      apply List.ext_getElem (by rw [hx, cvL_len])
      intro j h1 h2
      have a := hj j (by omega) (by omega)
      rw [← rd57_cv l j (by omega) (by omega)] at a
      simpa [rd_T57, List.getD_eq_getElem?_getD, h1, h2] using a
    subst e
    exact Ev.step (f := fun _ => some (cvL l)) (fun k => by simp only [laws_toCopyS.l0]; rw [if_neg (by omega)]) (Ev.now _)
  | succ d ih =>
    intro x i hx h0 hi hd hj
    refine Ev.step (fun k => ?_) (ih (x.set i.toNat (cv (rd_T98 l i))) (i + 1) (by simpa using hx) (by omega) (by omega) (by omega) (fun j j0 j1 => ?_))
    · simp only [laws_toCopyS.l0, laws_toCopy.f, Option.bind_some]
      rw [if_pos (by omega), if_pos h0, if_pos (by omega), wrap_id (i + 1) (by omega) (by omega)]
      rfl
    · rw [rd57_set x i j _ h0 (by omega) j0]
      by_cases e : j = i
      · rw [if_pos e, e]
      · rw [if_neg e]; exact hj j j0 (by omega)
theorem toVoting_ev (l : List S98) (R W : Int) (hn : l.length ≤ 1073741824) : Ev (fun k => laws_toVoting.f k l R W) (cvL l, R, W) := by
  unfold laws_toVoting.f
  refine Ev.bind (a := cvL l) (Ev.congr (fun k => ?_) (toCopyS_l l hn l.length (List.replicate l.length z57) 0 (by simp) (by omega) (by omega) (by omega) (fun j h0 h1 => by omega))) (Ev.now _)
  unfold laws_toCopyS.f
  rw [if_pos (by omega), if_pos (by omega)]
  rfl
theorem szCopyS_l (l : List S98) (hn : l.length ≤ 1073741824) (hs : ∀ x ∈ l, x.f2.size ≤ maxLen) (d : Nat) : ∀ (i b : Int), 0 ≤ i → i ≤ (l.length : Int) → (l.length : Int) - i = d → 0 ≤ b → b ≤ 1048576 → ∃ r, r ≤ 1048576 ∧ Ev (fun k => laws_szCopyS.l0 k l b i) r := by
  induction d with
  | zero => intro i b h0 hi hd hb hb2; exact ⟨b, hb2, Ev.step (f := fun _ => some b) (fun k => by simp only [laws_szCopyS.l0]; rw [if_neg (by omega)]) (Ev.now _)⟩
  | succ d ih =>
    intro i b h0 hi hd hb hb2
    have hm : (rd_T98 l i).f2.size ≤ maxLen := by
      apply hs
      unfold rd_T98
      rw [List.getD_eq_getElem?_getD, List.getElem?_eq_getElem (by omega)]
      exact List.getElem_mem _
    have hm' : (rd_T98 l i).f2.size ≤ 9223372036854775807 := by unfold maxLen at hm; omega
    have hw : wrap64 (b - ((rd_T98 l i).f2.size : Int)) = b - ((rd_T98 l i).f2.size : Int) := wrap_id _ (by omega) (by omega)
    by_cases hp : b - ((rd_T98 l i).f2.size : Int) < 0
    · refine ⟨-1, by omega, Ev.step (f := fun _ => some (-1)) (fun k => ?_) (Ev.now _)⟩
      simp only [laws_szCopyS.l0, laws_szCopy.f, hw]
      rw [if_pos (by omega), if_pos h0, if_pos hp]
      rfl
    · obtain ⟨r, h, e⟩ := ih (i + 1) (b - ((rd_T98 l i).f2.size : Int)) (by omega) (by omega) (by omega) (by omega) (by omega)
      refine ⟨r, h, Ev.step (fun k => ?_) e⟩
      simp only [laws_szCopyS.l0, laws_szCopy.f, hw]
      rw [if_pos (by omega), if_pos h0, if_neg hp]
      simp only [Option.bind_some]
      rw [if_neg hp, wrap_id (i + 1) (by omega) (by omega)]
/-- What the law lets through is small; the rest it does not look at. -/
theorem szVoting_ev (l : List S98) (R W : Int) (hn : l.length ≤ maxLen) (hs : ∀ x ∈ l, x.f2.size ≤ maxLen) : ∃ r, Ev (fun k => laws_szVoting.f k l R W 1048576) r ∧ (¬ r < 0 → l.length ≤ 1048576) := by
  have hn' : l.length ≤ 9223372036854775807 := by unfold maxLen at hn; omega
  have hw : wrap64 (1048576 - (l.length : Int)) = 1048576 - (l.length : Int) := wrap_id _ (by omega) (by omega)
  by_cases hp : 1048576 - (l.length : Int) < 0
  · refine ⟨-1, ?_, fun h => absurd (by omega) h⟩
    unfold laws_szVoting.f
    refine Ev.bind (a := -1) (Ev.congr (fun k => ?_) (Ev.now _)) (Ev.congr (fun k => if_pos (by omega)) (Ev.now _))
    unfold laws_szCopyS.f
    rw [hw, if_pos hp]
  · obtain ⟨r, h, e⟩ := szCopyS_l l (by omega) hs l.length 0 (1048576 - (l.length : Int)) (by omega) (by omega) (by omega) (by omega) (by omega)
    refine ⟨if r < 0 then -1 else r, ?_, fun _ => by omega⟩
    unfold laws_szVoting.f
    refine Ev.bind (a := r) (Ev.congr (fun k => ?_) e) ?_
    · unfold laws_szCopyS.f
      rw [hw, if_neg hp]
    · by_cases q : r < 0
      · simp only [q, if_true]; exact ⟨0, fun _ _ => rfl⟩
      · simp only [q, if_false]; exact ⟨0, fun _ _ => rfl⟩
theorem markIntS_l (n : Nat) (hn : n ≤ 1073741824) (d : Nat) : ∀ (x : List Int) (m i : Int), x.length = n → 0 ≤ m → m ≤ i + 100000000000 → 0 ≤ i → i ≤ (n : Int) → (n : Int) - i = d → ∃ m', 0 ≤ m' ∧ ∃ y, Ev (fun k => laws_markIntS.l0 k x m i) (m', y) := by
  induction d with
  | zero => intro x m i hx h1 h2 h0 hi hd; exact ⟨m, h1, x, Ev.step (f := fun _ => some (m, x)) (fun k => by simp only [laws_markIntS.l0]; rw [if_neg (by omega)]) (Ev.now _)⟩
  | succ d ih =>
    intro x m i hx h1 h2 h0 hi hd
    obtain ⟨m', h, y, e⟩ := ih (x.set i.toNat m) (m + 1) (i + 1) (by simpa using hx) (by omega) (by omega) (by omega) (by omega) (by omega)
    exact ⟨m', h, y, Ev.step (fun k => by simp only [laws_markIntS.l0]; rw [if_pos (by omega), if_pos h0, wrap_id (m + 1) (by omega) (by omega), wrap_id (i + 1) (by omega) (by omega)]) e⟩
theorem markIntS_ev (l : List Int) (hn : l.length ≤ 1073741824) : ∃ m', 0 ≤ m' ∧ ∃ y, Ev (fun k => laws_markIntS.f k l 1) (m', y) :=
  markIntS_l l.length hn l.length l 1 0 rfl (by omega) (by omega) (by omega) (by omega) (by omega)
theorem markText_l (d : Nat) : ∀ (n : Int) (t : ByteArray), 0 ≤ n → n ≤ 1000000000000 → n < 10 ^ d → t.size + d ≤ 1000 → ∃ r, Ev (fun k => laws_markText.l0 k n t) r := by
  induction d with
  | zero =>
    intro n t h0 hb h1 h2
    exact ⟨_, Ev.step (fun k => by simp only [laws_markText.l0]; rw [if_neg (by omega), if_pos (by omega)]) (Ev.now _)⟩
  | succ d ih =>
    intro n t h0 hb h1 h2
    by_cases hp : n > 0
    · have hdv : Int.tdiv n 10 = n / 10 := Int.tdiv_eq_ediv_of_nonneg h0
      have hlt : n / 10 < 10 ^ d := by
        rw [Int.pow_succ] at h1
        omega
      have hs : ∀ z : Int, (strOfNums [z]).size = 1 := fun z => strOfNums_size [z]
      obtain ⟨r, e⟩ := ih (n / 10) (strOfNums [(wrap64 (48 + (Int.tmod n 10))) % 256] ++ t) (by omega) (by omega) hlt (by rw [ByteArray.size_append, hs]; omega)
      exact ⟨r, Ev.step (fun k => by simp only [laws_markText.l0, Option.bind_some]; rw [if_pos hp, if_pos (by rw [hs]; omega), hdv, wrap_id (n / 10) (by omega) (by omega)]) e⟩
    · exact ⟨_, Ev.step (fun k => by simp only [laws_markText.l0]; rw [if_neg hp, if_pos (by omega)]) (Ev.now _)⟩
theorem markText_ev (n : Int) (h0 : 0 ≤ n) (hb : n ≤ 100000000000) : ∃ r, Ev (fun k => laws_markText.f k n) r := by
  by_cases hp : n ≤ 0
  · exact ⟨_, Ev.congr (fun k => by unfold laws_markText.f; rw [if_pos hp]) (Ev.now _)⟩
  · obtain ⟨r, e⟩ := markText_l 12 n ⟨#[]⟩ h0 (by omega) (by omega) (by simp [ByteArray.size])
    exact ⟨r, Ev.congr (fun k => by unfold laws_markText.f; rw [if_neg hp]) e⟩
open Classical in
noncomputable def mT (n : Int) : ByteArray := if h : ∃ r, Ev (fun k => laws_markText.f k n) r then h.choose else ⟨#[]⟩
theorem mT_ev (n : Int) (h0 : 0 ≤ n) (hb : n ≤ 100000000000) : Ev (fun k => laws_markText.f k n) (mT n) := by
  unfold mT
  rw [dif_pos (markText_ev n h0 hb)]
  exact (markText_ev n h0 hb).choose_spec
noncomputable def mkd (i : Int) : S57 := ⟨1 + 3 * i, 2 + 3 * i, mT (3 + 3 * i)⟩
theorem markCopyS_l (n : Nat) (hn : n ≤ 1073741824) (d : Nat) : ∀ (x : List S57) (i : Int), x.length = n → 0 ≤ i → i ≤ (n : Int) → (n : Int) - i = d → (∀ j : Int, 0 ≤ j → j < i → rd_T57 x j = mkd j) →
    ∃ y, y.length = n ∧ (∀ j : Int, 0 ≤ j → j < n → rd_T57 y j = mkd j) ∧ Ev (fun k => laws_markCopyS.l0 k x (1 + 3 * i) i) (1 + 3 * (n : Int), y) := by
  induction d with
  | zero =>
    intro x i hx h0 hi hd hj
    obtain rfl : i = (n : Int) := by omega
    exact ⟨x, hx, hj, Ev.step (f := fun _ => some (1 + 3 * (n : Int), x)) (fun k => by simp only [laws_markCopyS.l0]; rw [if_neg (by omega)]) (Ev.now _)⟩
  | succ d ih =>
    intro x i hx h0 hi hd hj
    have hlt : i < (x.length : Int) := by omega
    obtain ⟨y, hy, hy2, e⟩ := ih (x.set i.toNat (mkd i)) (i + 1) (by simpa using hx) (by omega) (by omega) (by omega) (fun j j0 j1 => by
      rw [rd57_set x i j _ h0 hlt j0]
      by_cases e : j = i
      · rw [if_pos e, e]
      · rw [if_neg e]; exact hj j j0 (by omega))
    refine ⟨y, hy, hy2, ?_⟩
    have w1 : wrap64 (1 + 3 * i + 1) = 2 + 3 * i := by rw [wrap_id _ (by omega) (by omega)]; omega
    have w2 : wrap64 (2 + 3 * i + 1) = 3 + 3 * i := by rw [wrap_id _ (by omega) (by omega)]; omega
    have w3 : wrap64 (3 + 3 * i + 1) = 1 + 3 * (i + 1) := by rw [wrap_id _ (by omega) (by omega)]; omega
    refine Ev.step (f := fun k => (laws_markText.f k (3 + 3 * i)).bind fun t280 => (laws_markCopyS.l0 k (x.set i.toNat ⟨1 + 3 * i, 2 + 3 * i, t280⟩) (1 + 3 * (i + 1)) (i + 1))) (fun k => ?_) (Ev.bind (mT_ev _ (by omega) (by omega)) e)
    simp only [laws_markCopyS.l0, Option.bind_some, w1, w2, w3]
    rw [if_pos hlt, if_pos h0, wrap_id (i + 1) (by omega) (by omega)]
    simp [rd57_set, h0, hlt]
theorem heldCopyS_l (x : List S57) (hn : x.length ≤ 1073741824) (hx : ∀ j : Int, 0 ≤ j → j < x.length → rd_T57 x j = mkd j) (d : Nat) : ∀ i : Int, 0 ≤ i → i ≤ (x.length : Int) → (x.length : Int) - i = d →
    Ev (fun k => laws_heldCopyS.l0 k x (1 + 3 * i) i) (1 + 3 * (x.length : Int)) := by
  induction d with
  | zero =>
    intro i h0 hi hd
    obtain rfl : i = (x.length : Int) := by omega
    exact Ev.step (f := fun _ => some (1 + 3 * (x.length : Int))) (fun k => by simp only [laws_heldCopyS.l0]; rw [if_neg (by omega)]) (Ev.now _)
  | succ d ih =>
    intro i h0 hi hd
    have hlt : i < (x.length : Int) := by omega
    have hm := hx i h0 hlt
    have w1 : wrap64 (1 + 3 * i + 1) = 2 + 3 * i := by rw [wrap_id _ (by omega) (by omega)]; omega
    have w2 : wrap64 (2 + 3 * i + 1) = 3 + 3 * i := by rw [wrap_id _ (by omega) (by omega)]; omega
    have w3 : wrap64 (3 + 3 * i + 1) = 1 + 3 * (i + 1) := by rw [wrap_id _ (by omega) (by omega)]; omega
    refine Ev.step (f := fun k => (laws_markText.f k (3 + 3 * i)).bind fun t => if (mT (3 + 3 * i)).toList = t.toList then laws_heldCopyS.l0 k x (1 + 3 * (i + 1)) (i + 1) else some (-1)) (fun k => ?_)
      (Ev.bind (mT_ev _ (by omega) (by omega)) (Ev.congr (fun k => if_pos rfl) (ih (i + 1) (by omega) (by omega) (by omega))))
    simp only [laws_heldCopyS.l0, w1, w2, w3, hm, mkd]
    rw [if_pos hlt, if_pos h0, if_pos True.intro, if_pos True.intro, wrap_id (i + 1) (by omega) (by omega)]
/-- A voting is marked, and holds what it was marked with. -/
theorem mark_at (l : List S57) (R W : Int) (hn : l.length ≤ 1073741824) : ∃ (y : List S57), Ev (fun k => laws_markVoting.f k l R W 1) (1 + 3 * (l.length : Int), y) ∧ Ev (fun k => laws_heldVoting.f k y R W 1) (1 + 3 * (l.length : Int)) := by
  obtain ⟨y, hy, hy2, e⟩ := markCopyS_l l.length hn l.length l 0 rfl (by omega) (by omega) (by omega) (fun j h0 h1 => by omega)
  have h := heldCopyS_l y (by omega) (by rw [hy]; exact hy2) y.length 0 (by omega) (by omega) (by omega)
  rw [hy] at h
  refine ⟨y, ?_, ?_⟩
  · unfold laws_markVoting.f
    exact Ev.bind (a := (1 + 3 * (l.length : Int), y)) e (Ev.now _)
  · unfold laws_heldVoting.f
    exact Ev.bind (a := 1 + 3 * (l.length : Int)) h (Ev.congr (fun k => if_neg (by omega)) (Ev.now _))
theorem mark_held (l : List S57) (R W : Int) (hn : l.length ≤ 1073741824) : ∃ (m : Int) (y : List S57), 0 ≤ m ∧ Ev (fun k => laws_markVoting.f k l R W 1) (m, y) ∧ Ev (fun k => laws_heldVoting.f k y R W 1) m := by
  obtain ⟨y, h1, h2⟩ := mark_at l R W hn
  exact ⟨_, y, by omega, h1, h2⟩
theorem toList_inj (a b : ByteArray) (h : a.toList = b.toList) : a = b := by
  rw [ByteArray.toList_eq, ByteArray.toList_eq] at h
  cases a with | mk x => cases b with | mk y =>
    have : x = y := Array.toList_inj.1 h
    rw [this]
theorem rising_up (n : Int) : ∀ (l : List Int) (b : Int), risingFrom n b l = true → ∀ k ∈ l, b < k := by
  intro l
  induction l with
  | nil => intro b _ k hk; cases hk
  | cons x l ih =>
    intro b h k hk
    simp only [risingFrom, Bool.and_eq_true] at h
    have hx : b < x := by have := h.1; unfold inB at this; simp at this; omega
    rcases List.mem_cons.1 hk with rfl | hk
    · exact hx
    · have := ih x h.2 k hk; omega
theorem set_self57 (x : List S57) (i : Int) (h0 : 0 ≤ i) (h1 : i < (x.length : Int)) : x.set i.toNat (rd_T57 x i) = x := by
  apply List.ext_getElem (by simp)
  intro j h2 h3
  rw [List.getElem_set]
  by_cases e : i.toNat = j
  · subst e; simp [rd_T57, List.getD_eq_getElem?_getD, h3]
  · rw [if_neg e]
theorem folds_eq (l : List S57) (n : Int) (v : Int) (t : ByteArray) (hvt : ∀ k : Int, 0 ≤ k → k < (l.length : Int) → (rd_T57 l k).f1 = v → (rd_T57 l k).f2 = t) :
    ∀ (s : List Int) (b : Int) (p : List S57 × Int), risingFrom n b s = true → (∀ k ∈ s, 0 ≤ k ∧ k < (l.length : Int)) → p.1.length = l.length → (∀ k ∈ s, rd_T57 p.1 k = rd_T57 l k) → s.foldl (rStep v t) p = s.foldl (wStep v t) p := by
  intro s
  induction s with
  | nil => intros; rfl
  | cons x s ih =>
    intro b p hr hin hp hag
    simp only [risingFrom, Bool.and_eq_true] at hr
    obtain ⟨hx0, hx1⟩ := hin x List.mem_cons_self
    have hup := rising_up n s x hr.2
    have hax := hag x List.mem_cons_self
    have hstep : rStep v t p x = wStep v t p x := by
      unfold rStep wStep
      by_cases e : (rd_T57 p.1 x).f1 = v
      · have e2 : (rd_T57 p.1 x).f2 = t := by rw [hax] at e ⊢; exact hvt x hx0 hx1 e
        rw [if_pos e, if_pos ⟨e, by rw [e2]⟩]
        have e3 : (⟨(rd_T57 p.1 x).f0, v, t⟩ : S57) = rd_T57 p.1 x := by rw [← e, ← e2]
        rw [e3, set_self57 p.1 x hx0 (by omega)]
      · rw [if_neg e, if_neg (fun h => e h.1)]
    rw [List.foldl_cons, List.foldl_cons, hstep]
    refine ih x _ hr.2 (fun k hk => hin k (List.mem_cons_of_mem _ hk)) (by simp [wStep, hp]) (fun k hk => ?_)
    have hk0 := (hin k (List.mem_cons_of_mem _ hk)).1
    have := hup k hk
    rw [show (wStep v t p x).1 = p.1.set x.toNat ⟨(rd_T57 p.1 x).f0, v, t⟩ from rfl, rd57_set _ _ _ _ hx0 (by omega) hk0, if_neg (by omega)]
    exact hag k (List.mem_cons_of_mem _ hk)
theorem good_clash (l : List S57) (R W : Int) (h : goodV l R W = true) (i j : Int) (i0 : 0 ≤ i) (i1 : i < (l.length : Int)) (j0 : 0 ≤ j) (j1 : j < (l.length : Int)) (e : (rd_T57 l i).f1 = (rd_T57 l j).f1) : (rd_T57 l i).f2 = (rd_T57 l j).f2 := by
  have key : ∀ a b : Int, 0 ≤ a → a < b → b < (l.length : Int) → (rd_T57 l b).f1 = (rd_T57 l a).f1 → (rd_T57 l b).f2 = (rd_T57 l a).f2 := by
    intro a b a0 ab b1 e
    rw [← good_eq, Bool.and_eq_true] at h
    have hj := ((goodLoop_eq l l.length 0 (by omega) (by omega)).1 h.1 b.toNat (by omega) (by omega)).2
    rw [show ((b.toNat : Nat) : Int) = b by omega, List.any_eq_false] at hj
    have hm : rd_T57 l a ∈ l.take b.toNat := by
      have h2 : a.toNat < l.length := by omega
      have : rd_T57 l a = l[a.toNat] := by simp [rd_T57, List.getD_eq_getElem?_getD, h2]
      rw [this]
      exact List.mem_take_iff_getElem.2 ⟨a.toNat, by omega, rfl⟩
    have := hj _ hm
    unfold vClash at this
    simp [e] at this
    exact toList_inj _ _ this
  by_cases h1 : i < j
  · exact (key i j i0 h1 j1 e.symm).symm
  · by_cases h2 : j < i
    · exact key j i j0 h2 i1 e
    · rw [show i = j by omega]
/-- What the reference repairs is what the program repairs. -/
theorem rep_eq (l : List S57) (R W : Int) (s : List Int) (hs : s.length ≤ 1073741824) : specRepV l R W s = repairV l R W s := by
  unfold specRepV repairV
  by_cases q : someV l R W s = true ∧ ¬ (vSum l s < R)
  · rw [if_pos q, if_pos q]
    have hsv := q.1
    unfold someV at hsv
    rw [Bool.and_eq_true] at hsv
    obtain ⟨hne, hpos, hR⟩ := good_parts l R W hsv.1
    have hin := risingV_in s _ hsv.2
    have hsne : s ≠ [] := by
      rintro rfl
      have : vSum l [] = 0 := rfl
      omega
    obtain ⟨b, hb, he, _⟩ := best_ev l R W s hs hin hpos hsne
    have : s.foldl (rStep (vBest l s).f1 (vBest l s).f2) (l, 0) = writtenV l s (vBest l s).f1 (vBest l s).f2 := by
      refine folds_eq l (l.length : Int) _ _ (fun k h0 h1 e => ?_) s (-1) (l, 0) hsv.2 hin rfl (fun _ _ => rfl)
      rw [← he] at e ⊢
      exact good_clash l R W hsv.1 k b h0 h1 hb.1 hb.2 e
    rw [this]
  · rw [if_neg q, if_neg q]
end Go.Proofs.Ytfbghibgjfegpaa.Pure
