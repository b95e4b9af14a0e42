import Derived.Test.YtdbfhbnlheankaaGreatDoorIOPVGx0
import Derived.WalkLawsBesides
import Derived.Test.YtdbfhbnlheankaaGreatDoorIOVR1
import Derived.Lib.Walk
/- Texts are less, alike or greater. Conditions: none. -/
namespace Go.Proofs.YtdbfhbnlheankaaGreatDoor.PVG
open Go.RowKit Go.Proofs.YtdbfhbnlheankaaGreatDoorW.PrintWords
theorem bytesLess_tri : ∀ a b : List UInt8, (Op.bytesLess a b || a == b) = !(Op.bytesLess b a)
  | [], [] => rfl
  | [], _ :: _ => rfl
  | _ :: _, [] => rfl
  | x :: a, y :: b => by
    have ih := bytesLess_tri a b
    have h3 : (x :: a == y :: b) = (x == y && a == b) := rfl
    rw [h3]
    simp only [Op.bytesLess]
    rcases Nat.lt_trichotomy x.toNat y.toNat with h | h | h
    · have e1 : x < y := h
      have e2 : ¬ y < x := by intro h'; exact absurd (show y.toNat < x.toNat from h') (by omega)
      have e3 : (y == x) = false := by rw [beq_eq_false_iff_ne]; rintro rfl; omega
      simp [e1, e2, e3]
    · have e1 : x = y := UInt8.toNat_inj.1 h
      subst e1
      have e2 : ¬ x < x := by intro h'; exact absurd (show x.toNat < x.toNat from h') (by omega)
      simpa [e2] using ih
    · have e1 : y < x := h
      have e2 : ¬ x < y := by intro h'; exact absurd (show x.toNat < y.toNat from h') (by omega)
      have e3 : (x == y) = false := by rw [beq_eq_false_iff_ne]; rintro rfl; omega
      simp [e1, e2, e3]
end Go.Proofs.YtdbfhbnlheankaaGreatDoor.PVG
/- The place of a name among rising names: the library's search, walked; what it finds. Conditions: rows of moderate length. -/
namespace Go.Proofs.YtdbfhbnlheankaaGreatDoor.VT
open Go.RowKit Go.Proofs.YtdbfhbnlheankaaGreatDoor.PVG Go.Proofs.YtdbfhbnlheankaaGreatDoorW.PrintWords Go.Proofs.YtdbfhbnlheankaaGreatDoorW.PrintLast Go.Proofs.YtdbfhbnlheankaaGreatDoorW.PrintMore
set_option linter.unusedVariables false
set_option linter.unusedSimpArgs false
/-- The halving. -/
def bsG (less : Nat → Bool) : Nat → Nat → Nat → Nat
  | 0, lo, _ => lo
  | f + 1, lo, hi => if lo < hi then (if less ((lo + hi) / 2) = true then bsG less f ((lo + hi) / 2 + 1) hi else bsG less f lo ((lo + hi) / 2)) else lo
def lessAt (ns : List ByteArray) (s : ByteArray) (t : Nat) : Bool := lt (ns.getD t nil_) s
def bsI (ns : List ByteArray) (s : ByteArray) : Nat := bsG (lessAt ns s) ns.length 0 ns.length
def bsB (ns : List ByteArray) (s : ByteArray) : Bool := decide (bsI ns s < ns.length) && (ns.getD (bsI ns s) nil_).toList == s.toList
set_option maxRecDepth 100000 in
set_option maxHeartbeats 4000000 in
theorem nanS_c (x : ByteArray) (w : World) : Calls Tryz.prog 199 #[.string x] w fun e w' => e = .returned (.bool false) ∧ w' = w := by
  go_enter Tryz.func199, Tryz.ntmps199
  go_wp2
  go_ret
  exact ⟨by simp, rfl⟩
set_option maxRecDepth 100000 in
set_option maxHeartbeats 4000000 in
theorem nanT_c (x : ByteArray) (w : World) : Calls Tryz.prog 175 #[.string x] w fun e w' => e = .returned (.bool false) ∧ w' = w := by
  go_enter Tryz.func175, Tryz.ntmps175
  go_wp2
  go_ret
  exact ⟨by simp, rfl⟩
set_option maxRecDepth 100000 in
set_option maxHeartbeats 4000000 in
theorem lessS_c (x y : ByteArray) (w : World) : Calls Tryz.prog 174 #[.string x, .string y] w fun e w' => e = .returned (.bool (lt x y)) ∧ w' = w := by
  go_enter Tryz.func174, Tryz.ntmps174
  go_wp2_with (first | (go_at_call 199; (with_reducible refine (nanS_c _ _).mono ?_); rintro e w2 ⟨rfl, rfl⟩))
  go_ret
  exact ⟨rfl, rfl⟩
set_option maxRecDepth 100000 in
set_option maxHeartbeats 4000000 in
theorem bs_c (ns : List ByteArray) (s : ByteArray) (A : Option Addr) (c : Nat) (w : World) (hr : Kd.string.C w A ns.length ns) (hn : ns.length ≤ 1073741824) :
    Calls Tryz.prog 147 #[.slice A ns.length c, .string s] w fun e w' => e = .returned (.tuple #[.int .i64 ((bsI ns s : Nat) : Int), .bool (bsB ns s)]) ∧ Below w.heap.size w w' := by
  have NAM := Aside0.mk (show ∀ i, i < ns.length → ∃ ad, A = some ad ∧ w.cell? (ad.add i) = some (.string (ns.getD i nil_)) from fun i hi => by
    obtain ⟨ad, c, e, _, hK, hc⟩ := Kd.C_get hr nil_ (i : Int) (by omega) (by omega)
    obtain rfl : c = [.string (ns.getD (i : Int).toNat nil_)] := hK
    have h0 := hc 0 _ rfl
    have e1 : (i : Int).toNat * Kd.string.sz + 0 = i := by show (i : Int).toNat * 1 + 0 = i; omega
    rw [e1, Int.toNat_natCast] at h0
    exact ⟨ad, e, h0⟩)
  have HN := Aside0.mk hn
  clear hr
  obtain ⟨n, hnn⟩ : ∃ n, n = ns.length := ⟨_, rfl⟩
  have HNN := Aside0.mk hnn
  rw [← hnn] at hn ⊢
  clear hnn
  have hu100 := Tryz.underlying100
  have ru100 := run_underlying Tryz.underlying100
  go_enter Tryz.func147, Tryz.ntmps147
  go_wp2
  go_loopg [7, 8] n (fun m v7 v8 W => ∃ lo hi : Nat, v7 = .int .i64 (lo : Int) ∧ v8 = .int .i64 (hi : Int) ∧ Aside0 (lo ≤ hi ∧ hi ≤ n ∧ hi - lo ≤ m) ∧ Aside0 (bsG (lessAt ns s) m lo hi = bsI ns s) ∧ W = w)
  case atStart => exact ⟨0, n, rfl, rfl, ⟨by omega⟩, ⟨by rw [HNN.out]; rfl⟩, rfl⟩
  case round =>
    obtain ⟨lo, hi, rfl, rfl, HM, HG, rfl⟩ := hrel
    by_cases hlh : lo < hi
    · have d1 : decide (lo < hi) = true := decide_eq_true hlh
      cases gk with
      | zero => have := HM.out; omega
      | succ m =>
        have hb : (lo + hi) / 2 < n := by have := HM.out; omega
        have b1 : (lo : Int) ≤ 1073741824 := by have := HM.out; have := HN.out; have := HNN.out; omega
        have b2 : (hi : Int) ≤ 1073741824 := by have := HM.out; have := HN.out; have := HNN.out; omega
        obtain ⟨ad, rfl, kc⟩ := NAM.out ((lo + hi) / 2) (by have := HNN.out; omega)
        have HX := Aside0.mk (show (bsG (lessAt ns s) (m + 1) lo hi) = if lt (ns.getD ((lo + hi) / 2) nil_) s = true then bsG (lessAt ns s) m ((lo + hi) / 2 + 1) hi else bsG (lessAt ns s) m lo ((lo + hi) / 2) by
          rw [bsG, if_pos hlh]; rfl)
        obtain ⟨y, hy⟩ : ∃ y, ns.getD ((lo + hi) / 2) nil_ = y := ⟨_, rfl⟩
        rw [hy] at kc
        have HY := Aside0.mk hy
        clear hy
        cases hyx : lt y s with
        | false =>
          have HZ := Aside0.mk hyx
          go_wp2_with (first | (go_at_call 174; (with_reducible refine (lessS_c _ _ _).mono ?_); rintro e w2 ⟨rfl, rfl⟩; rw [hyx]))
          go_roundg m
          case rel => exact ⟨lo, (lo + hi) / 2, rfl, by rw [show ((lo : Int) + (hi : Int)) / 2 = (((lo + hi) / 2 : Nat) : Int) by omega], ⟨by have := HM.out; omega⟩, ⟨by rw [← HG.out, HX.out, HY.out, HZ.out, if_neg (by simp)]⟩, rfl⟩
          case measure => omega
        | true =>
          have HZ := Aside0.mk hyx
          go_wp2_with (first | (go_at_call 174; (with_reducible refine (lessS_c _ _ _).mono ?_); rintro e w2 ⟨rfl, rfl⟩; rw [hyx]))
          go_roundg m
          case rel => exact ⟨(lo + hi) / 2 + 1, hi, by rw [show ((lo : Int) + (hi : Int)) / 2 + 1 = (((lo + hi) / 2 + 1 : Nat) : Int) by omega], rfl, ⟨by have := HM.out; omega⟩, ⟨by rw [← HG.out, HX.out, HY.out, HZ.out, if_pos rfl]⟩, rfl⟩
          case measure => omega
    · have HI := Aside0.mk (show bsI ns s = lo by
        rw [← HG.out]
        cases gk with
        | zero => simp [bsG]
        | succ m => rw [bsG, if_neg hlh])
      have d1 : decide (lo < hi) = false := decide_eq_false hlh
      by_cases hn : lo < n
      · have d2 : decide (lo < n) = true := decide_eq_true hn
        obtain ⟨ad, rfl, kc⟩ := NAM.out lo (by have := HNN.out; omega)
        obtain ⟨y, hy⟩ : ∃ y, ns.getD lo nil_ = y := ⟨_, rfl⟩
        rw [hy] at kc
        have HB := Aside0.mk (show bsB ns s = (y.toList == s.toList) by unfold bsB; rw [HI.out, decide_eq_true (by have := HNN.out; omega), hy, Bool.true_and])
        clear hy hlh
        cases hys : (y.toList == s.toList) with
        | true =>
          have HZ := Aside0.mk hys
          go_wp2_with (first | (go_at_call 175; (with_reducible refine (nanT_c _ _).mono ?_); rintro e w2 ⟨rfl, rfl⟩))
          go_ret2
          exact ⟨by rw [HI.out, HB.out, HZ.out]; rfl, Below.refl _ _⟩
        | false =>
          have HZ := Aside0.mk hys
          go_wp2_with (first | (go_at_call 175; (with_reducible refine (nanT_c _ _).mono ?_); rintro e w2 ⟨rfl, rfl⟩))
          go_ret2
          exact ⟨by rw [HI.out, HB.out, HZ.out]; rfl, Below.refl _ _⟩
      · have d2 : decide (lo < n) = false := decide_eq_false hn
        have HB := Aside0.mk (show bsB ns s = false by unfold bsB; rw [HI.out, decide_eq_false (by have := HNN.out; omega), Bool.false_and])
        clear hlh
        go_wp2_with (first | (go_at_call 175; (with_reducible refine (nanT_c _ _).mono ?_); rintro e w2 ⟨rfl, rfl⟩))
        go_ret2
        exact ⟨by rw [HI.out, HB.out]; rfl, Below.refl _ _⟩
end Go.Proofs.YtdbfhbnlheankaaGreatDoor.VT
