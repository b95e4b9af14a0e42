import Derived.Test.YtemamcbdjfabnaaGreatDoorICVLB
import Derived.Test.YtemamcbdjfabnaaGreatDoorICVQD
import Derived.Test.YtemamcbdjfabnaaGreatDoorICVQF
/- A law walked: clean_law. Conditions: the powers of ten stand in memory. -/
namespace Go.Proofs.YtemamcbdjfabnaaGreatDoor.VT
open Go.RowKit Go.Proofs.YtemamcbdjfabnaaGreatDoor.PVG Go.Proofs.YtemamcbdjfabnaaGreatDoorW.PrintWords Go.Proofs.YtemamcbdjfabnaaGreatDoorW.PrintLast Go.Proofs.YtemamcbdjfabnaaGreatDoorW.PrintMore
set_option linter.unusedVariables false
set_option linter.unusedSimpArgs false
set_option maxRecDepth 100000 in
set_option maxHeartbeats 4000000 in
theorem clean_law (hcl : ∀ t, ClCall t) (A : Option Addr) (c : Nat) (l : List S90) (w : World) (ht : HT w) (hf : Fits l) (hr : Kd.C k90 w A l.length l) (hc : l.length ≤ c) : Calls Tryz.prog 10 #[.agg #[.slice A l.length c]] w fun e w' => e = .returned (.bool true) ∧ Below w.heap.size w w' := by
  have HTT := Aside0.mk ht
  have HR := Aside0.mk hr
  have HC := Aside0.mk hc
  obtain ⟨r, hr2, hz⟩ := sz_c hf
  have HZ := Aside0.mk hz
  have HB1 := Aside0.mk (below_alloc (Below.refl w.heap.size w) (.cells #[.slice A l.length c] 32))
  have K1 := Aside0.mk (blk_new w (.cells #[.slice A l.length c] 32))
  clear ht hr hc hz
  cases hr0 : decide (r < 0) with
  | true =>
    clear hr2
    go_enter Tryz.func10, Tryz.ntmps10
    go_wp2_with (first | (go_at_call 18; (with_reducible refine (HZ.out A c _ (Kd.C_alloc HR.out _) HC.out).mono ?_); rintro e w2 ⟨rfl, hb⟩; have HB2 := Aside0.mk (below_step HB1.out hb); clear hb))
    go_ret
    exact ⟨rfl, HB2.out⟩
  | false =>
    obtain ⟨hS, hL⟩ := hr2 (by simpa using hr0)
    have SM := Aside0.mk hS
    have LL := Aside0.mk hL
    have LT := Aside0.mk (show (tov l).length ≤ 1048576 by rw [tov_len]; exact hL)
    obtain ⟨s, hs⟩ : ∃ s, (match valT (tov l) with | none => false | some t => isClean t) = s := ⟨_, rfl⟩
    obtain ⟨g, hg⟩ : ∃ g, (valT (tov l)).isSome = g := ⟨_, rfl⟩
    have SC := Aside0.mk (show ∀ (B : Option Addr) (d : Nat) (W : World), Kd.C k54 W B (tov l).length (tov l) → (tov l).length ≤ d → Calls Tryz.prog 35 #[.agg #[.slice B (tov l).length d]] W fun e w' => e = .returned (.tuple #[.bool s, .bool g]) ∧ Below W.heap.size W w' from
      fun B d W h1 h2 => by rw [← hs, ← hg]; exact sclean_c SM.out B d W h1 h2)
    have IC := Aside0.mk (show ∀ (B : Option Addr) (d : Nat) (W : World), Below w.heap.size w W → Kd.C k54 W B (tov l).length (tov l) → (tov l).length ≤ d → Calls Tryz.prog 36 #[.agg #[.slice B (tov l).length d]] W fun e w' => e = .returned (.tuple #[.bool s, .bool g]) ∧ Below W.heap.size W w' from
      fun B d W h0 h1 h2 => by rw [← hs, ← hg]; exact isClean_c' hcl (tov l) B d W (HTT.out.below h0) h1 h2)
    clear hS hL hr2 hs hg
    go_enter Tryz.func10, Tryz.ntmps10
    go_upto_region 5 with (first | (go_at_call 18; (with_reducible refine (HZ.out A c _ (Kd.C_alloc HR.out _) HC.out).mono ?_); rintro e w2 ⟨rfl, hb⟩; have HB2 := Aside0.mk (below_step HB1.out hb); have K2 := Aside0.mk (blk_below K1.out hb); have p0 : w2.cell? ⟨w.heap.size, 0, none⟩ = some (.slice A l.length c) := (blk_cell K2.out 0).trans rfl; clear hb))
    go_upto_region 6 with (first | (go_at_call 20; (with_reducible refine (to_c LL.out A c _ (Kd.C_below HR.out HB2.out) HC.out).mono ?_); rintro e w3 ⟨B3, d3, rfl, e3, R3, hb⟩; have E3 := Aside0.mk e3; have RR3 := Aside0.mk R3; have HB3 := Aside0.mk (below_step HB2.out hb); have K3 := Aside0.mk (blk_below K2.out hb); clear e3 R3 hb) | (go_at_call 35; (with_reducible refine (SC.out B3 d3 _ RR3.out E3.out).mono ?_); rintro e w4 ⟨rfl, hb⟩; have HB4 := Aside0.mk (below_step HB3.out hb); have K4 := Aside0.mk (blk_below K3.out hb); have p1 : w4.cell? ⟨w.heap.size, 0, none⟩ = some (.slice A l.length c) := (blk_cell K4.out 0).trans rfl; clear hb))
    go_upto_region 7 with (first | (go_at_call 20; (with_reducible refine (to_c LL.out A c _ (Kd.C_below HR.out HB4.out) HC.out).mono ?_); rintro e w5 ⟨B5, d5, rfl, e5, R5, hb⟩; have E5 := Aside0.mk e5; have RR5 := Aside0.mk R5; have HB5 := Aside0.mk (below_step HB4.out hb); have K5 := Aside0.mk (blk_below K4.out hb); clear e5 R5 hb))
    obtain ⟨W6, hW6⟩ : ∃ W6, W6 = w5.alloc (.cells #[.slice B5 (tov l).length d5] 24) := ⟨_, rfl⟩
    obtain ⟨gb, hgb⟩ : ∃ gb, gb = w5.heap.size := ⟨_, rfl⟩
    have hal : Below w5.heap.size w5 W6 := by rw [hW6]; exact below_alloc (Below.refl _ _) _
    have HB6 := Aside0.mk (below_step HB5.out hal)
    have RR6 := Aside0.mk (Kd.C_below RR5.out hal)
    have K6 := Aside0.mk (blk_below K5.out hal)
    have G6 := Aside0.mk (show W6.heap[gb]? = some (.cells #[.slice B5 (tov l).length d5] 24 (0, 0)) by rw [hW6, hgb]; exact blk_new w5 _)
    rw [← hW6, ← hgb]
    clear hal hW6 hgb p0 p1
    have p0 : W6.cell? ⟨gb, 0, none⟩ = some (.slice B5 (tov l).length d5) := (blk_cell G6.out 0).trans rfl
    go_upto_region 8 with (first | (go_at_call 36; (with_reducible refine (IC.out B5 d5 _ HB6.out RR6.out E5.out).mono ?_); rintro e w7 ⟨rfl, hb⟩; have HB7 := Aside0.mk (below_step HB6.out hb); have RR7 := Aside0.mk (Kd.C_below RR6.out hb); have K7 := Aside0.mk (blk_below K6.out hb); have G7 := Aside0.mk (blk_below G6.out hb); have p1 : w7.cell? ⟨gb, 0, none⟩ = some (.slice B5 (tov l).length d5) := (blk_cell G7.out 0).trans rfl; have p2 : w7.cell? ⟨w.heap.size, 0, none⟩ = some (.slice A l.length c) := (blk_cell K7.out 0).trans rfl; clear hb))
    clear p0
    cases s <;> cases g
    all_goals
      go_upto_region 10 with fail
      go_region_held3 (fun w' => w'.cell? ⟨gb, 0, none⟩ = some (.slice B5 (tov l).length d5) ∧ w'.cell? ⟨w.heap.size, 0, none⟩ = some (.slice A l.length c)) (go_keep) (first | (go_at_call 20; (with_reducible refine (to_c LL.out A c _ (Kd.C_below HR.out (below_drew1 HB7.out)) HC.out).mono ?_); rintro e w8 ⟨B8, d8, rfl, e8, R8, hb⟩; have E8 := Aside0.mk e8; have RR8 := Aside0.mk R8; have HB8 := Aside0.mk (below_step (below_drew1 HB7.out) hb); have RX8 := Aside0.mk (Kd.C_below RR7.out ((below_drew1 (Below.refl _ _)).trans hb)); have K8 := Aside0.mk (blk_below (blk_drewN K7.out _) hb); have G8 := Aside0.mk (blk_below (blk_drewN G7.out _) hb); clear e8 R8 hb; have z0 : w8.cell? ⟨gb, 0, none⟩ = some (.slice B5 (tov l).length d5) := (blk_cell G8.out 0).trans rfl; have z1 : w8.cell? ⟨w.heap.size, 0, none⟩ = some (.slice A l.length c) := (blk_cell K8.out 0).trans rfl) | (go_at_call 15; (with_reducible refine (eq_c LT.out B5 d5 B8 d8 _ RX8.out E5.out RR8.out E8.out).mono ?_); rintro e w9 ⟨rfl, hb⟩; have HB9 := Aside0.mk (below_step HB8.out hb); have y0 : w9.cell? ⟨gb, 0, none⟩ = some (.slice B5 (tov l).length d5) := (blk_cell (blk_below G8.out hb) 0).trans rfl; have y1 : w9.cell? ⟨w.heap.size, 0, none⟩ = some (.slice A l.length c) := (blk_cell (blk_below K8.out hb) 0).trans rfl; clear hb))
      all_goals
        go_wp2_with fail
        go_ret
        exact ⟨rfl, HB9.out⟩
end Go.Proofs.YtemamcbdjfabnaaGreatDoor.VT
/- The law of IsClean, walked. Conditions: the powers of ten stand in memory. -/
namespace Go.Proofs.YtemamcbdjfabnaaGreatDoor.VT
open Go.RowKit Go.Proofs.YtemamcbdjfabnaaGreatDoor.PVG Go.Proofs.YtemamcbdjfabnaaGreatDoorW.PrintWords Go.Proofs.YtemamcbdjfabnaaGreatDoorW.PrintLast Go.Proofs.YtemamcbdjfabnaaGreatDoorW.PrintMore
theorem clean_all (A : Option Addr) (c : Nat) (l : List S90) (w : World) (ht : HT w) (hf : Fits l) (hr : Kd.C k90 w A l.length l) (hc : l.length ≤ c) : Calls Tryz.prog 10 #[.agg #[.slice A l.length c]] w fun e w' => e = .returned (.bool true) ∧ Below w.heap.size w w' :=
  clean_law clean_c A c l w ht hf hr hc
end Go.Proofs.YtemamcbdjfabnaaGreatDoor.VT
