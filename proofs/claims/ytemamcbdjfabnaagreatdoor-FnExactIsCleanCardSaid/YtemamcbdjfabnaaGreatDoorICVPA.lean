import Derived.Test.YtemamcbdjfabnaaGreatDoorICVK
import Derived.Test.YtemamcbdjfabnaaGreatDoorICVWA
import Derived.WalkLawsBesides
import Derived.Test.YtemamcbdjfabnaaGreatDoorICPVGx11
/- The package cmp's helpers, walked. Conditions: none. -/
namespace Go.Proofs.YtemamcbdjfabnaaGreatDoor.VT
open Go.RowKit Go.Proofs.YtemamcbdjfabnaaGreatDoor.PVG Go.Proofs.YtemamcbdjfabnaaGreatDoorW.PrintWords Go.Proofs.YtemamcbdjfabnaaGreatDoorW.PrintLast Go.Proofs.YtemamcbdjfabnaaGreatDoorW.PrintMore
set_option linter.unusedVariables false
set_option linter.unusedSimpArgs false
def ci (a b : Int) : Int := if a < b then -1 else if b < a then 1 else 0
def cs (a b : ByteArray) : Int := if Op.bytesLess a.toList b.toList = true then -1 else if Op.bytesLess b.toList a.toList = true then 1 else 0
set_option maxRecDepth 100000 in
set_option maxHeartbeats 2000000 in
theorem nans_c (a : ByteArray) (w : World) : Calls Tryz.prog 99 #[.string a] w fun e w' => e = .returned (.bool false) ∧ w' = w := by
  go_enter Tryz.func99, Tryz.ntmps99
  go_wp2
  go_ret
  exact ⟨by simp, rfl⟩
set_option maxRecDepth 100000 in
set_option maxHeartbeats 2000000 in
theorem nani_c (a : Int) (w : World) : Calls Tryz.prog 98 #[.int .i64 a] w fun e w' => e = .returned (.bool false) ∧ w' = w := by
  go_enter Tryz.func98, Tryz.ntmps98
  go_wp2
  go_ret
  exact ⟨by simp, rfl⟩
set_option maxRecDepth 100000 in
set_option maxHeartbeats 4000000 in
theorem cmpi_c (a b : Int) (w : World) : Calls Tryz.prog 86 #[.int .i64 a, .int .i64 b] w fun e w' => e = .returned (.int .i64 (ci a b)) ∧ w' = w := by
  by_cases h1 : a < b
  · have d1 : decide (a < b) = true := decide_eq_true h1
    have E := Aside0.mk (show ci a b = -1 by rw [ci, if_pos h1])
    clear h1
    go_enter Tryz.func86, Tryz.ntmps86
    go_wp2_with (first | (go_at_call 98; (with_reducible refine (nani_c _ _).mono ?_); rintro e w2 ⟨rfl, rfl⟩))
    go_ret
    exact ⟨by rw [E.out]; rfl, rfl⟩
  · have d1 : decide (a < b) = false := decide_eq_false h1
    by_cases h2 : b < a
    · have d2 : decide (b < a) = true := decide_eq_true h2
      have E := Aside0.mk (show ci a b = 1 by rw [ci, if_neg h1, if_pos h2])
      clear h1 h2
      go_enter Tryz.func86, Tryz.ntmps86
      go_wp2_with (first | (go_at_call 98; (with_reducible refine (nani_c _ _).mono ?_); rintro e w2 ⟨rfl, rfl⟩))
      go_ret
      exact ⟨by rw [E.out]; rfl, rfl⟩
    · have d2 : decide (b < a) = false := decide_eq_false h2
      have E := Aside0.mk (show ci a b = 0 by rw [ci, if_neg h1, if_neg h2])
      clear h1 h2
      go_enter Tryz.func86, Tryz.ntmps86
      go_wp2_with (first | (go_at_call 98; (with_reducible refine (nani_c _ _).mono ?_); rintro e w2 ⟨rfl, rfl⟩))
      go_ret
      exact ⟨by rw [E.out]; rfl, rfl⟩
set_option maxRecDepth 100000 in
set_option maxHeartbeats 4000000 in
theorem cmps_c (a b : ByteArray) (w : World) : Calls Tryz.prog 87 #[.string a, .string b] w fun e w' => e = .returned (.int .i64 (cs a b)) ∧ w' = w := by
  have ht := bytesLess_tri a.toList b.toList
  cases d1 : Op.bytesLess a.toList b.toList with
  | true =>
    clear ht
    have E := Aside0.mk (show cs a b = -1 by rw [cs, if_pos d1])
    go_enter Tryz.func87, Tryz.ntmps87
    go_wp2_with (first | (go_at_call 99; (with_reducible refine (nans_c _ _).mono ?_); rintro e w2 ⟨rfl, rfl⟩))
    go_ret
    exact ⟨by rw [E.out]; rfl, rfl⟩
  | false =>
    rw [d1, Bool.false_or] at ht
    cases d2 : Op.bytesLess b.toList a.toList with
    | true =>
      rw [d2] at ht
      have h3 : (a.toList == b.toList) = false := ht
      clear ht
      have E := Aside0.mk (show cs a b = 1 by rw [cs, d1, d2]; rfl)
      go_enter Tryz.func87, Tryz.ntmps87
      go_wp2_with (first | (go_at_call 99; (with_reducible refine (nans_c _ _).mono ?_); rintro e w2 ⟨rfl, rfl⟩))
      go_ret
      exact ⟨by rw [E.out]; rfl, rfl⟩
    | false =>
      rw [d2] at ht
      have h3 : (a.toList == b.toList) = true := ht
      clear ht
      have E := Aside0.mk (show cs a b = 0 by rw [cs, d1, d2]; rfl)
      go_enter Tryz.func87, Tryz.ntmps87
      go_wp2_with (first | (go_at_call 99; (with_reducible refine (nans_c _ _).mono ?_); rintro e w2 ⟨rfl, rfl⟩))
      go_ret
      exact ⟨by rw [E.out]; rfl, rfl⟩
/-- The first that is not nought. -/
def orL : List Int → Int
  | [] => 0
  | x :: r => if x = 0 then orL r else x
theorem orL_drop {xs : List Int} {i : Nat} (h : i < xs.length) : orL (xs.drop i) = if xs[i] = 0 then orL (xs.drop (i + 1)) else xs[i] := by
  rw [List.drop_eq_getElem_cons h, orL]
set_option maxRecDepth 100000 in
set_option maxHeartbeats 4000000 in
theorem or_c (xs : List Int) (hl : xs.length ≤ 1000) (g : Nat) (w : World) (h : ∀ i (hi : i < xs.length), w.cell? ⟨g, i, none⟩ = some (.int .i64 xs[i])) : Calls Tryz.prog 85 #[.slice (some ⟨g, 0, none⟩) xs.length xs.length] w fun e w' => e = .returned (.int .i64 (orL xs)) ∧ w' = w := by
  have H := Aside0.mk h
  have HL := Aside0.mk hl
  clear h hl
  go_enter Tryz.func85, Tryz.ntmps85
  go_wp2
  go_loopg [8] xs.length (fun m v8 W => ∃ i : Nat, v8 = .int .i64 (i : Int) ∧ Aside0 (i + m = xs.length) ∧ Aside0 (orL xs = orL (xs.drop i)) ∧ W = w)
  case atStart => exact ⟨0, rfl, ⟨by omega⟩, ⟨rfl⟩, rfl⟩
  case round =>
    obtain ⟨i, rfl, HI, HO, rfl⟩ := hrel
    cases gk with
    | zero =>
      have hlt : decide (i < xs.length) = false := decide_eq_false (by have := HI.out; omega)
      have HE := Aside0.mk (show orL xs = 0 by rw [HO.out, List.drop_eq_nil_of_le (by have := HI.out; omega)]; rfl)
      go_wp2
      go_ret
      exact ⟨by rw [HE.out]; rfl, rfl⟩
    | succ m =>
      have hi : i < xs.length := by have := HI.out; omega
      have b4 : (i : Int) ≤ 1000 := by have := HL.out; omega
      have hc := H.out i hi
      have HD := Aside0.mk (orL_drop hi)
      by_cases h0 : xs[i] = 0
      · have HN := Aside0.mk (show orL xs = orL (xs.drop (i + 1)) by rw [HO.out, HD.out, if_pos h0])
        rw [h0] at hc
        clear h0
        go_wp2
        go_roundg m
        case rel => exact ⟨i + 1, by go_num, ⟨by have := HI.out; omega⟩, HN, rfl⟩
        case measure => omega
      · have HN := Aside0.mk (show orL xs = xs[i] by rw [HO.out, HD.out, if_neg h0])
        have h0b : (xs[i] != 0) = true := by simpa using h0
        obtain ⟨x, hx⟩ : ∃ x, x = xs[i] := ⟨_, rfl⟩
        rw [← hx] at hc HN h0b
        clear h0 hx HD
        go_wp2
        go_ret
        exact ⟨by rw [HN.out]; rfl, rfl⟩
theorem or3_c (a b c : Int) (g : Nat) (w : World) (h : w.heap[g]? = some (.cells #[.int .i64 a, .int .i64 b, .int .i64 c] 3 (0, 0))) : Calls Tryz.prog 85 #[.slice (some ⟨g, 0, none⟩) 3 3] w fun e w' => e = .returned (.int .i64 (orL [a, b, c])) ∧ w' = w :=
  or_c [a, b, c] (by simp) g w (fun i hi => by
    match i, hi with
    | 0, _ => exact (blk_cell h 0).trans rfl
    | 1, _ => exact (blk_cell h 1).trans rfl
    | 2, _ => exact (blk_cell h 2).trans rfl)
mutual
/-- How two trees stand to each other. -/
def cmpT : Tr → Tr → Int
  | .mk kd nu tx ns ks, u => if orL [ci kd u.kd, ci nu u.nu, cs tx u.tx] = 0 then cmpL ks (kd == 7) ns u.ns u.ks else orL [ci kd u.kd, ci nu u.nu, cs tx u.tx]
def cmpL : List Tr → Bool → List ByteArray → List ByteArray → List Tr → Int
  | [], _, _, _, us => if us.length = 0 then 0 else -1
  | _ :: _, _, _, _, [] => 1
  | t :: ts, m, ns, ms, u :: us => if m = true ∧ cs (ns.headD nil_) (ms.headD nil_) ≠ 0 then cs (ns.headD nil_) (ms.headD nil_) else if cmpT t u = 0 then cmpL ts m ns.tail ms.tail us else cmpT t u
end
theorem cmpL_drop {ks us : List Tr} {m : Bool} {ns ms : List ByteArray} {i : Nat} (h1 : i < ks.length) (h2 : i < us.length) :
    cmpL (ks.drop i) m (ns.drop i) (ms.drop i) (us.drop i) = if m = true ∧ cs ((ns.drop i).headD nil_) ((ms.drop i).headD nil_) ≠ 0 then cs ((ns.drop i).headD nil_) ((ms.drop i).headD nil_) else if cmpT ks[i] us[i] = 0 then cmpL (ks.drop (i + 1)) m (ns.drop (i + 1)) (ms.drop (i + 1)) (us.drop (i + 1)) else cmpT ks[i] us[i] := by
  rw [List.drop_eq_getElem_cons h1, List.drop_eq_getElem_cons h2, cmpL, List.tail_drop, List.tail_drop]
theorem cmpL_end {ks us : List Tr} {m : Bool} {ns ms : List ByteArray} {i : Nat} (h : i = min ks.length us.length) : cmpL (ks.drop i) m (ns.drop i) (ms.drop i) (us.drop i) = ci ks.length us.length := by
  by_cases h1 : ks.length ≤ us.length
  · rw [List.drop_eq_nil_of_le (by omega), cmpL, List.length_drop]
    unfold ci
    by_cases h2 : us.length - i = 0
    · rw [if_pos h2, if_neg (by omega), if_neg (by omega)]
    · rw [if_neg h2, if_pos (by omega)]
  · have hi : i < ks.length := by omega
    rw [List.drop_eq_getElem_cons hi, show us.drop i = [] from List.drop_eq_nil_of_le (by omega), cmpL]
    unfold ci
    rw [if_neg (by omega), if_pos (by omega)]
end Go.Proofs.YtemamcbdjfabnaaGreatDoor.VT
