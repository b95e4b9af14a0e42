import Derived.Test.YtdbfhbnlheankaaGreatDoorIOVIA
import Derived.Test.YtdbfhbnlheankaaGreatDoorIOPVGx0
import Derived.Test.YtdbfhbnlheankaaGreatDoorIOVID
/- The reference's at, flat and id: walked. Conditions: the names of a map stand beside its parts. -/
namespace Go.Proofs.YtdbfhbnlheankaaGreatDoor.VT
open Go.RowKit Go.Proofs.YtdbfhbnlheankaaGreatDoor.PVG Go.Proofs.YtdbfhbnlheankaaGreatDoorW.PrintWords Go.Proofs.YtdbfhbnlheankaaGreatDoorW.PrintLast Go.Proofs.YtdbfhbnlheankaaGreatDoorW.PrintMore
set_option linter.unusedVariables false
set_option linter.unusedSimpArgs false
/-- The first place. -/
def fstI (s : ByteArray) : List ByteArray → Nat → Int
  | [], _ => -1
  | a :: ns, i => if (a.toList == s.toList) = true then (i : Int) else fstI s ns (i + 1)
theorem fstI_drop {s : ByteArray} {ns : List ByteArray} {i : Nat} (h : i < ns.length) : fstI s (ns.drop i) i = if ((ns.getD i nil_).toList == s.toList) = true then (i : Int) else fstI s (ns.drop (i + 1)) (i + 1) := by
  rw [List.drop_eq_getElem_cons h, fstI, List.getD_eq_getElem?_getD, List.getElem?_eq_getElem h]
  rfl
set_option maxRecDepth 100000 in
set_option maxHeartbeats 4000000 in
theorem l3At_c (nu : Int) (tx s : ByteArray) (ns : List ByteArray) (A3 A4 : Option Addr) (c3 c4 n : Nat) (w : World) (hr : Kd.C Kd.string w A3 ns.length ns) (hl : ns.length = n) (hn : n ≤ 1073741824) :
    Calls Tryz.prog 77 #[.agg #[.int .i64 7, .int .i64 nu, .string tx, .slice A3 n c3, .slice A4 n c4], .string s] w fun e w' => e = .returned (.int .i64 (fstI s ns 0)) ∧ Below w.heap.size w w' := by
  obtain ⟨W1, hW1⟩ : ∃ W1, W1 = w.alloc (.cells #[.int .i64 7, .int .i64 nu, .string tx, .slice A3 n c3, .slice A4 n c4] 49) := ⟨_, rfl⟩
  obtain ⟨gb, hgb⟩ : ∃ g, g = w.heap.size := ⟨_, rfl⟩
  have HB1 := Aside0.mk (show Below w.heap.size w W1 by rw [hW1]; exact below_alloc (Below.refl _ _) _)
  have KB := (show W1.heap[gb]? = some (.cells #[.int .i64 7, .int .i64 nu, .string tx, .slice A3 n c3, .slice A4 n c4] 49 (0, 0)) by rw [hW1, hgb]; exact blk_new w _)
  have NAM := Aside0.mk (show ∀ i, i < n → ∃ ad, A3 = some ad ∧ W1.cell? (ad.add i) = some (.string (ns.getD i nil_)) from fun i hi => by
    obtain ⟨ad, c, e, _, hK, hc⟩ := Kd.C_get (Kd.C_below hr HB1.out) nil_ (i : Int) (by omega) (by omega)
    obtain rfl : c = [.string (ns.getD (i : Int).toNat nil_)] := hK
    have h0 := hc 0 _ rfl
    have e1 : (i : Int).toNat * Kd.string.sz + 0 = i := by show (i : Int).toNat * 1 + 0 = i; omega
    rw [e1, Int.toNat_natCast] at h0
    exact ⟨ad, e, h0⟩)
  have k0 : W1.cell? ⟨gb, 0, none⟩ = some (.int .i64 7) := (blk_cell KB 0).trans rfl
  have k3 : W1.cell? ⟨gb, 3, none⟩ = some (.slice A3 n c3) := (blk_cell KB 3).trans rfl
  have k4 : W1.cell? ⟨gb, 4, none⟩ = some (.slice A4 n c4) := (blk_cell KB 4).trans rfl
  have HN := Aside0.mk hn
  have HL := Aside0.mk hl
  clear hr KB hl hn
  go_enter Tryz.func77, Tryz.ntmps77
  go_upto_region 1 with fail
  rw [← hW1, ← hgb]
  clear hW1 hgb
  go_wp2
  go_loopg [9] n (fun m v9 W => ∃ i : Nat, v9 = .int .i64 (i : Int) ∧ Aside0 (i + m = n) ∧ Aside0 (fstI s (ns.drop i) i = fstI s ns 0) ∧ W = W1)
  case atStart => exact ⟨0, rfl, ⟨by omega⟩, ⟨by rw [List.drop_zero]⟩, rfl⟩
  case round =>
    obtain ⟨i, rfl, HI, HF, rfl⟩ := hrel
    cases gk with
    | zero =>
      have hin : decide (i < n) = false := decide_eq_false (by have := HI.out; omega)
      have HR := Aside0.mk (show fstI s ns 0 = -1 by rw [← HF.out, List.drop_of_length_le (by have := HI.out; have := HL.out; omega)]; rfl)
      go_wp2
      go_ret
      exact ⟨by rw [HR.out]; rfl, HB1.out⟩
    | succ m =>
      have hi : i < n := by have := HI.out; omega
      have hin : decide (i < n) = true := decide_eq_true hi
      have hi2 : (i : Int) < (n : Int) := by omega
      have b1 : (i : Int) ≤ 1073741824 := by have := HI.out; have := HN.out; omega
      obtain ⟨ad, rfl, kc⟩ := NAM.out i hi
      obtain ⟨y, hy⟩ : ∃ y, ns.getD i nil_ = y := ⟨_, rfl⟩
      have HS := Aside0.mk (fstI_drop (s := s) (ns := ns) (i := i) (by have := HL.out; omega))
      rw [hy] at kc HS
      clear hy
      cases hys : (y.toList == s.toList) with
      | true =>
        have HR := Aside0.mk (show fstI s ns 0 = (i : Int) by rw [← HF.out, HS.out, hys]; rfl)
        go_wp2
        go_ret
        exact ⟨by rw [HR.out]; rfl, HB1.out⟩
      | false =>
        have HR := Aside0.mk (show fstI s (ns.drop (i + 1)) (i + 1) = fstI s ns 0 by rw [← HF.out, HS.out, hys]; rfl)
        go_wp2
        go_roundg m
        case rel => exact ⟨i + 1, rfl, ⟨by have := HI.out; omega⟩, HR, rfl⟩
        case measure => omega
end Go.Proofs.YtdbfhbnlheankaaGreatDoor.VT
/- The reference's flat and id: walked. Conditions: the names of a map stand beside its parts. -/
namespace Go.Proofs.YtdbfhbnlheankaaGreatDoor.VT
open Go.RowKit Go.Proofs.YtdbfhbnlheankaaGreatDoor.PVG Go.Proofs.YtdbfhbnlheankaaGreatDoorW.PrintWords Go.Proofs.YtdbfhbnlheankaaGreatDoorW.PrintLast Go.Proofs.YtdbfhbnlheankaaGreatDoorW.PrintMore
set_option linter.unusedVariables false
set_option linter.unusedSimpArgs false
set_option maxRecDepth 100000 in
set_option maxHeartbeats 4000000 in
theorem l8Flat_c (kd nu : Int) (tx : ByteArray) (v3 v4 : Value) (w : World) : Calls Tryz.prog 78 #[.agg #[.int .i64 kd, .int .i64 nu, .string tx, v3, v4]] w fun e w' => e = .returned (.bool (kd == 4 || kd == 5)) ∧ Below w.heap.size w w' := by
  obtain ⟨W1, hW1⟩ : ∃ W1, W1 = w.alloc (.cells #[.int .i64 kd, .int .i64 nu, .string tx, v3, v4] 49) := ⟨_, rfl⟩
  obtain ⟨gb, hgb⟩ : ∃ g, g = w.heap.size := ⟨_, rfl⟩
  have HB1 := Aside0.mk (show Below w.heap.size w W1 by rw [hW1]; exact below_alloc (Below.refl _ _) _)
  have KB := (show W1.heap[gb]? = some (.cells #[.int .i64 kd, .int .i64 nu, .string tx, v3, v4] 49 (0, 0)) by rw [hW1, hgb]; exact blk_new w _)
  have k0 : W1.cell? ⟨gb, 0, none⟩ = some (.int .i64 kd) := (blk_cell KB 0).trans rfl
  clear KB
  by_cases h4 : kd = 4
  · subst h4
    go_enter Tryz.func78, Tryz.ntmps78
    go_upto_region 1 with fail
    rw [← hW1, ← hgb]
    clear hW1 hgb
    go_wp2
    go_ret
    exact ⟨rfl, HB1.out⟩
  · have h4b : (kd == 4) = false := by simpa using h4
    rw [h4b, Bool.false_or]
    go_enter Tryz.func78, Tryz.ntmps78
    go_upto_region 1 with fail
    rw [← hW1, ← hgb]
    clear hW1 hgb
    go_wp2
    go_ret
    exact ⟨rfl, HB1.out⟩
/-- The five cells of a record, set one by one. -/
theorem put5 {w : World} {g t : Nat} {a b c d e a' b' c' d' e' : Value} (h : w.heap[g]? = some (.cells #[a, b, c, d, e] t (0, 0))) :
    (((((w.setCell ⟨g, 0, none⟩ a').setCell ⟨g, 1, none⟩ b').setCell ⟨g, 2, none⟩ c').setCell ⟨g, 3, none⟩ d').setCell ⟨g, 4, none⟩ e').heap[g]? = some (.cells #[a', b', c', d', e'] t (0, 0)) :=
  blk_put (cs := #[a', b', c', d', e]) (blk_put (cs := #[a', b', c', d, e]) (blk_put (cs := #[a', b', c, d, e]) (blk_put (cs := #[a', b, c, d, e]) (blk_put (cs := #[a, b, c, d, e]) h 0 _ rfl) 1 _ rfl) 2 _ rfl) 3 _ rfl) 4 _ rfl
theorem fstI_cases (s : ByteArray) : ∀ (ns : List ByteArray) (i : Nat), fstI s ns i = -1 ∨ ∃ j : Nat, fstI s ns i = ((i + j : Nat) : Int) ∧ j < ns.length
  | [], i => .inl rfl
  | a :: ns, i => by
    rw [fstI]
    by_cases h : (a.toList == s.toList) = true
    · rw [if_pos h]; exact .inr ⟨0, rfl, by simp⟩
    · rw [if_neg h]
      rcases fstI_cases s ns (i + 1) with h1 | ⟨j, h1, h2⟩
      · exact .inl h1
      · exact .inr ⟨j + 1, by rw [h1]; congr 1; omega, by simp; omega⟩
/-- What the reference's id answers. -/
def l8R (kd : Int) (ns : List ByteArray) (ks : List S49) : S49 × Bool :=
  if kd = 7 then (if fstI idN ns 0 < 0 then (z49, false) else (if ((rd_T49 ks (fstI idN ns 0)).f0 == 4 || (rd_T49 ks (fstI idN ns 0)).f0 == 5) = true then (rd_T49 ks (fstI idN ns 0), true) else (z49, false))) else (z49, false)
/-- A record of a row that is read. -/
theorem rec_at {w : World} {P : Nat → Prop} {A4 : Option Addr} {c4 : Nat} {ks : List S49} (hs : Kd.V k49 49 w w.heap.size P (.slice A4 ks.length c4) ks) (i : Nat) (hi : i < ks.length) :
    ∃ ad a3 d3 a4 d4, A4 = some ad ∧ (∀ W, Below w.heap.size w W → W.cell? (ad.add (i * 5)) = some (.int .i64 (rd_T49 ks i).f0) ∧ W.cell? ⟨(ad.add (i * 5)).block, (ad.add (i * 5)).off + 1, none⟩ = some (.int .i64 (rd_T49 ks i).f1) ∧ W.cell? ⟨(ad.add (i * 5)).block, (ad.add (i * 5)).off + 2, none⟩ = some (.string (rd_T49 ks i).f2) ∧ W.cell? ⟨(ad.add (i * 5)).block, (ad.add (i * 5)).off + 3, none⟩ = some (.slice a3 (rd_T49 ks i).f3.length d3) ∧ W.cell? ⟨(ad.add (i * 5)).block, (ad.add (i * 5)).off + 4, none⟩ = some (.slice a4 (rd_T49 ks i).f4.length d4)) ∧
      Kd.V Kd.string 9 w w.heap.size P (.slice a3 (rd_T49 ks i).f3.length d3) (rd_T49 ks i).f3 ∧ Kd.V k49 49 w w.heap.size P (.slice a4 (rd_T49 ks i).f4.length d4) (rd_T49 ks i).f4 := by
  obtain ⟨ad, a3, d3, a4, d4, e, h0, h1, h2, h3, h4, _⟩ := at_T49 (Kd.V_reads' hs).2.2 (i : Int) (by omega) (by omega)
  subst e
  obtain ⟨ce, hce, hMe, hcc⟩ := Kd.V_get hs z49 (i : Int) (by omega) (by omega)
  obtain ⟨ua3, uc3, ua4, uc4, rfl, ul3, ge3, ul4, ge4⟩ := k49_openF hMe
  have hv3 := hcc 3 _ rfl
  rw [add_field _ _ 3 (by omega)] at hv3
  replace hv3 := Option.some.inj (hv3.symm.trans h3)
  injection hv3 with q1 q2 q3
  subst q1 q3
  have hv4 := hcc 4 _ rfl
  rw [add_field _ _ 4 (by omega)] at hv4
  replace hv4 := Option.some.inj (hv4.symm.trans h4)
  injection hv4 with q1 q2 q3
  subst q1 q3
  have q : ∀ {W a v}, Below w.heap.size w W → w.cell? a = .some v → W.cell? a = .some v := fun {W a v} hb e => (hb.cell (World.block_lt_of_cell? w _ e)).trans e
  exact ⟨ad, _, _, _, _, rfl, fun W hb => ⟨q hb h0, q hb h1, q hb h2, q hb h3, q hb h4⟩, Kd.V_mk ul3 ge3, Kd.V_mk ul4 ge4⟩
end Go.Proofs.YtdbfhbnlheankaaGreatDoor.VT
