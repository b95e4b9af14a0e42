import Derived.Test.YtemamcbdjfabnaaGreatDoorCVVLF
import Derived.Test.YtemamcbdjfabnaaGreatDoorCVVPE
/- A law walked: cmpv_law. Conditions: the powers of ten stand in memory. -/
namespace Go.Proofs.YtemamcbdjfabnaaGreatDoor.VT
open Go.RowKit Go.Proofs.YtemamcbdjfabnaaGreatDoor.PVG Go.Proofs.YtemamcbdjfabnaaGreatDoorW.PrintWords Go.Proofs.YtemamcbdjfabnaaGreatDoorW.PrintLast Go.Proofs.YtemamcbdjfabnaaGreatDoorW.PrintMore
set_option linter.unusedVariables false
set_option linter.unusedSimpArgs false
set_option maxRecDepth 100000 in
set_option maxHeartbeats 8000000 in
theorem cmpv_law (A : Option Addr) (c : Nat) (la : List S90) (B : Option Addr) (d : Nat) (lb : List S90) (w : World) (ht : HT w) (hf : Fits la) (hr : Kd.C k90 w A la.length la) (hc : la.length ≤ c) (hf2 : Fits lb) (hr2 : Kd.C k90 w B lb.length lb) (hc2 : lb.length ≤ d) :
    Calls Tryz.prog 11 #[.agg #[.slice A la.length c], .agg #[.slice B lb.length d]] w fun e w' => e = .returned (.bool true) ∧ Below w.heap.size w w' := by
  have HTT := Aside0.mk ht
  have HR1 := Aside0.mk hr
  have HC1 := Aside0.mk hc
  have HR2 := Aside0.mk hr2
  have HC2 := Aside0.mk hc2
  obtain ⟨r1, hr1, hs1, hz1⟩ := sz_c2 hf (n := 1048576) (by omega)
  have HZ1 := Aside0.mk hz1
  have B2 := Aside0.mk (below_alloc (below_alloc (Below.refl w.heap.size w) (.cells #[.slice A la.length c] 32)) (.cells #[.slice B lb.length d] 32))
  have KA := Aside0.mk (blk_below (blk_new w (.cells #[.slice A la.length c] 32)) (below_alloc (Below.refl _ _) (.cells #[.slice B lb.length d] 32)))
  have KB := Aside0.mk (blk_new (w.alloc (.cells #[.slice A la.length c] 32)) (.cells #[.slice B lb.length d] 32))
  clear ht hr hc hr2 hc2 hz1
  cases e1 : decide (r1 < 0) with
  | true =>
    go_enter Tryz.func11, Tryz.ntmps11
    go_upto_region 1 with fail
    obtain ⟨W2, hW2⟩ : ∃ W2, W2 = (w.alloc (.cells #[.slice A la.length c] 32)).alloc (.cells #[.slice B lb.length d] 32) := ⟨_, rfl⟩
    obtain ⟨ga, hga⟩ : ∃ g, g = w.heap.size := ⟨_, rfl⟩
    obtain ⟨gb, hgb⟩ : ∃ g, g = w.heap.size + 1 := ⟨_, rfl⟩
    have BX := B2.out
    have KAX := KA.out
    have KBX := KB.out
    clear B2 KA KB
    rw [← hW2] at BX KAX KBX
    have B2 := Aside0.mk BX
    have KB := Aside0.mk (show W2.heap[gb]? = some (.cells #[.slice B lb.length d] 32 (0, 0)) by rw [hgb]; rw [show (w.alloc (.cells #[.slice A la.length c] 32)).heap.size = w.heap.size + 1 by simp] at KBX; exact KBX)
    have KA := Aside0.mk (show W2.heap[ga]? = some (.cells #[.slice A la.length c] 32 (0, 0)) by rw [hga]; exact KAX)
    rw [← hW2, ← hgb]
    simp only [show w.heap.size = ga from hga.symm]
    clear BX KAX KBX hgb hga hW2
    have p0 : W2.cell? ⟨ga, 0, none⟩ = some (.slice A la.length c) := (blk_cell KA.out 0).trans rfl
    have p1 : W2.cell? ⟨gb, 0, none⟩ = some (.slice B lb.length d) := (blk_cell KB.out 0).trans rfl
    go_wp2_with (first | (go_at_call 18; (with_reducible refine (HZ1.out A c _ (Kd.C_below HR1.out B2.out) HC1.out).mono ?_); rintro e w1 ⟨rfl, hb⟩; have BS1 := Aside0.mk (below_step B2.out hb); have KA1 := Aside0.mk (blk_below KA.out hb); have KB1 := Aside0.mk (blk_below KB.out hb); clear hb; have u0 : w1.cell? ⟨ga, 0, none⟩ = some (.slice A la.length c) := (blk_cell KA1.out 0).trans rfl; have u1 : w1.cell? ⟨gb, 0, none⟩ = some (.slice B lb.length d) := (blk_cell KB1.out 0).trans rfl))
    go_ret
    exact ⟨rfl, BS1.out⟩
  | false =>
    have hr10 : 0 ≤ r1 := by simpa using e1
    obtain ⟨hS1, hL1⟩ := hs1 hr10
    obtain ⟨r2, hr2, hs2, hz2⟩ := sz_c2 hf2 (n := r1) (by omega)
    have HZ2 := Aside0.mk hz2
    clear hs1 hr1 hr10 hz2
    cases e2 : decide (r2 < 0) with
    | true =>
      go_enter Tryz.func11, Tryz.ntmps11
      go_upto_region 1 with fail
      obtain ⟨W2, hW2⟩ : ∃ W2, W2 = (w.alloc (.cells #[.slice A la.length c] 32)).alloc (.cells #[.slice B lb.length d] 32) := ⟨_, rfl⟩
      obtain ⟨ga, hga⟩ : ∃ g, g = w.heap.size := ⟨_, rfl⟩
      obtain ⟨gb, hgb⟩ : ∃ g, g = w.heap.size + 1 := ⟨_, rfl⟩
      have BX := B2.out
      have KAX := KA.out
      have KBX := KB.out
      clear B2 KA KB
      rw [← hW2] at BX KAX KBX
      have B2 := Aside0.mk BX
      have KB := Aside0.mk (show W2.heap[gb]? = some (.cells #[.slice B lb.length d] 32 (0, 0)) by rw [hgb]; rw [show (w.alloc (.cells #[.slice A la.length c] 32)).heap.size = w.heap.size + 1 by simp] at KBX; exact KBX)
      have KA := Aside0.mk (show W2.heap[ga]? = some (.cells #[.slice A la.length c] 32 (0, 0)) by rw [hga]; exact KAX)
      rw [← hW2, ← hgb]
      simp only [show w.heap.size = ga from hga.symm]
      clear BX KAX KBX hgb hga hW2
      have p0 : W2.cell? ⟨ga, 0, none⟩ = some (.slice A la.length c) := (blk_cell KA.out 0).trans rfl
      have p1 : W2.cell? ⟨gb, 0, none⟩ = some (.slice B lb.length d) := (blk_cell KB.out 0).trans rfl
      go_wp2_with (first | (go_at_call 18; (with_reducible refine (HZ1.out A c _ (Kd.C_below HR1.out B2.out) HC1.out).mono ?_); rintro e w1 ⟨rfl, hb⟩; have BS1 := Aside0.mk (below_step B2.out hb); have KA1 := Aside0.mk (blk_below KA.out hb); have KB1 := Aside0.mk (blk_below KB.out hb); clear hb; have u0 : w1.cell? ⟨ga, 0, none⟩ = some (.slice A la.length c) := (blk_cell KA1.out 0).trans rfl; have u1 : w1.cell? ⟨gb, 0, none⟩ = some (.slice B lb.length d) := (blk_cell KB1.out 0).trans rfl) | (go_at_call 18; (with_reducible refine (HZ2.out B d _ (Kd.C_below HR2.out BS1.out) HC2.out).mono ?_); rintro e w2 ⟨rfl, hb⟩; have BS2 := Aside0.mk (below_step BS1.out hb); clear hb))
      go_ret
      exact ⟨rfl, BS2.out⟩
    | false =>
      obtain ⟨hS2, hL2⟩ := hs2 (by simpa using e2)
      have SM1 := Aside0.mk hS1
      have SM2 := Aside0.mk hS2
      have LL1 := Aside0.mk hL1
      have LL2 := Aside0.mk hL2
      have LT1 := Aside0.mk (show (tov la).length ≤ 1048576 by rw [tov_len]; exact hL1)
      have LT2 := Aside0.mk (show (tov lb).length ≤ 1048576 by rw [tov_len]; exact hL2)
      obtain ⟨s, hs⟩ : ∃ s, (cmpV (valT (tov la)) (valT (tov lb))) = s := ⟨_, rfl⟩
      obtain ⟨g, hg⟩ : ∃ g, ((valT (tov la)).isSome && (valT (tov lb)).isSome) = g := ⟨_, rfl⟩
      have SC := Aside0.mk (show ∀ (P : Option Addr) (i : Nat) (Q : Option Addr) (j : Nat) (W : World), Kd.C k54 W P (tov la).length (tov la) → (tov la).length ≤ i → Kd.C k54 W Q (tov lb).length (tov lb) → (tov lb).length ≤ j → Calls Tryz.prog 37 #[.agg #[.slice P (tov la).length i], .agg #[.slice Q (tov lb).length j]] W fun e w' => e = .returned (.tuple #[.int .i64 s, .bool g]) ∧ Below W.heap.size W w' from
        fun P i Q j W h1 h2 h3 h4 => by rw [← hs, ← hg]; exact scmp_c SM1.out SM2.out P i Q j W h1 h2 h3 h4)
      have IC := Aside0.mk (show ∀ (P : Option Addr) (i : Nat) (Q : Option Addr) (j : Nat) (W : World), Below w.heap.size w W → Kd.C k54 W P (tov la).length (tov la) → (tov la).length ≤ i → Kd.C k54 W Q (tov lb).length (tov lb) → (tov lb).length ≤ j → Calls Tryz.prog 38 #[.agg #[.slice P (tov la).length i], .agg #[.slice Q (tov lb).length j]] W fun e w' => e = .returned (.tuple #[.int .i64 s, .bool g]) ∧ Below W.heap.size W w' from
        fun P i Q j W h0 h1 h2 h3 h4 => by rw [← hs, ← hg]; exact compareValue_c (tov la) P i (tov lb) Q j W (HTT.out.below h0) h1 h2 h3 h4)
      clear hS1 hS2 hL1 hL2 hs2 hr2 hs hg
      go_enter Tryz.func11, Tryz.ntmps11
      go_upto_region 1 with fail
      obtain ⟨W2, hW2⟩ : ∃ W2, W2 = (w.alloc (.cells #[.slice A la.length c] 32)).alloc (.cells #[.slice B lb.length d] 32) := ⟨_, rfl⟩
      obtain ⟨ga, hga⟩ : ∃ g, g = w.heap.size := ⟨_, rfl⟩
      obtain ⟨gb, hgb⟩ : ∃ g, g = w.heap.size + 1 := ⟨_, rfl⟩
      have BX := B2.out
      have KAX := KA.out
      have KBX := KB.out
      clear B2 KA KB
      rw [← hW2] at BX KAX KBX
      have B2 := Aside0.mk BX
      have KB := Aside0.mk (show W2.heap[gb]? = some (.cells #[.slice B lb.length d] 32 (0, 0)) by rw [hgb]; rw [show (w.alloc (.cells #[.slice A la.length c] 32)).heap.size = w.heap.size + 1 by simp] at KBX; exact KBX)
      have KA := Aside0.mk (show W2.heap[ga]? = some (.cells #[.slice A la.length c] 32 (0, 0)) by rw [hga]; exact KAX)
      rw [← hW2, ← hgb]
      simp only [show w.heap.size = ga from hga.symm]
      clear BX KAX KBX hgb hga hW2
      have p0 : W2.cell? ⟨ga, 0, none⟩ = some (.slice A la.length c) := (blk_cell KA.out 0).trans rfl
      have p1 : W2.cell? ⟨gb, 0, none⟩ = some (.slice B lb.length d) := (blk_cell KB.out 0).trans rfl
      go_upto_region 8 with (first | (go_at_call 18; (with_reducible refine (HZ1.out A c _ (Kd.C_below HR1.out B2.out) HC1.out).mono ?_); rintro e w1 ⟨rfl, hb⟩; have BS1 := Aside0.mk (below_step B2.out hb); have KA1 := Aside0.mk (blk_below KA.out hb); have KB1 := Aside0.mk (blk_below KB.out hb); clear hb; have u0 : w1.cell? ⟨ga, 0, none⟩ = some (.slice A la.length c) := (blk_cell KA1.out 0).trans rfl; have u1 : w1.cell? ⟨gb, 0, none⟩ = some (.slice B lb.length d) := (blk_cell KB1.out 0).trans rfl) | (go_at_call 18; (with_reducible refine (HZ2.out B d _ (Kd.C_below HR2.out BS1.out) HC2.out).mono ?_); rintro e w2 ⟨rfl, hb⟩; have BS2 := Aside0.mk (below_step BS1.out hb); have KA2 := Aside0.mk (blk_below KA1.out hb); have KB2 := Aside0.mk (blk_below KB1.out hb); clear hb; have v0 : w2.cell? ⟨ga, 0, none⟩ = some (.slice A la.length c) := (blk_cell KA2.out 0).trans rfl; have v1 : w2.cell? ⟨gb, 0, none⟩ = some (.slice B lb.length d) := (blk_cell KB2.out 0).trans rfl))
      -- the reference's answer
      go_region_held3 (fun w' => w'.cell? ⟨ga, 0, none⟩ = some (.slice A la.length c) ∧ w'.cell? ⟨gb, 0, none⟩ = some (.slice B lb.length d)) (go_keep) (first | (go_at_call 20; (with_reducible refine (to_c LL1.out A c _ (Kd.C_below HR1.out (below_drew1 BS2.out)) HC1.out).mono ?_); rintro e w3 ⟨P3, i3, rfl, e3, R3, hb⟩; have E3 := Aside0.mk e3; have RR3 := Aside0.mk R3; have BS3 := Aside0.mk (below_step (below_drew1 BS2.out) hb); have KA3 := Aside0.mk (blk_below (blk_drewN KA2.out _) hb); have KB3 := Aside0.mk (blk_below (blk_drewN KB2.out _) hb); clear e3 R3 hb; have x0 : w3.cell? ⟨ga, 0, none⟩ = some (.slice A la.length c) := (blk_cell KA3.out 0).trans rfl; have x1 : w3.cell? ⟨gb, 0, none⟩ = some (.slice B lb.length d) := (blk_cell KB3.out 0).trans rfl) | (go_at_call 20; (with_reducible refine (to_c LL2.out B d _ (Kd.C_below HR2.out BS3.out) HC2.out).mono ?_); rintro e w4 ⟨P4, i4, rfl, e4, R4, hb⟩; have E4 := Aside0.mk e4; have RR4 := Aside0.mk R4; have RR34 := Aside0.mk (Kd.C_below RR3.out hb); have BS4 := Aside0.mk (below_step BS3.out hb); have KA4 := Aside0.mk (blk_below KA3.out hb); have KB4 := Aside0.mk (blk_below KB3.out hb); clear e4 R4 hb; have y0 : w4.cell? ⟨ga, 0, none⟩ = some (.slice A la.length c) := (blk_cell KA4.out 0).trans rfl; have y1 : w4.cell? ⟨gb, 0, none⟩ = some (.slice B lb.length d) := (blk_cell KB4.out 0).trans rfl) | (go_at_call 37; (with_reducible refine (SC.out P3 i3 P4 i4 _ RR34.out E3.out RR4.out E4.out).mono ?_); rintro e w5 ⟨rfl, hb⟩; have BS5 := Aside0.mk (below_step BS4.out hb); have KA5 := Aside0.mk (blk_below KA4.out hb); have KB5 := Aside0.mk (blk_below KB4.out hb); clear hb; have z0 : w5.cell? ⟨ga, 0, none⟩ = some (.slice A la.length c) := (blk_cell KA5.out 0).trans rfl; have z1 : w5.cell? ⟨gb, 0, none⟩ = some (.slice B lb.length d) := (blk_cell KB5.out 0).trans rfl))
      go_upto_region 10 with (first | (go_at_call 20; (with_reducible refine (to_c LL1.out A c _ (Kd.C_below HR1.out BS5.out) HC1.out).mono ?_); rintro e w6 ⟨P6, i6, rfl, e6, R6, hb⟩; have E6 := Aside0.mk e6; have RR6 := Aside0.mk R6; have BS6 := Aside0.mk (below_step BS5.out hb); have KA6 := Aside0.mk (blk_below KA5.out hb); have KB6 := Aside0.mk (blk_below KB5.out hb); clear e6 R6 hb))
      obtain ⟨W7, hW7⟩ : ∃ W7, W7 = w6.alloc (.cells #[.slice P6 (tov la).length i6] 24) := ⟨_, rfl⟩
      obtain ⟨gc, hgc⟩ : ∃ g, g = w6.heap.size := ⟨_, rfl⟩
      have hal : Below w6.heap.size w6 W7 := by rw [hW7]; exact below_alloc (Below.refl _ _) _
      have BS7 := Aside0.mk (below_step BS6.out hal)
      have RR7 := Aside0.mk (Kd.C_below RR6.out hal)
      have KA7 := Aside0.mk (blk_below KA6.out hal)
      have KB7 := Aside0.mk (blk_below KB6.out hal)
      have KC7 := Aside0.mk (show W7.heap[gc]? = some (.cells #[.slice P6 (tov la).length i6] 24 (0, 0)) by rw [hW7, hgc]; exact blk_new w6 _)
      rw [← hW7, ← hgc]
      clear hal hW7 hgc
      have q1 : W7.cell? ⟨gb, 0, none⟩ = some (.slice B lb.length d) := (blk_cell KB7.out 0).trans rfl
      go_upto_region 11 with (first | (go_at_call 20; (with_reducible refine (to_c LL2.out B d _ (Kd.C_below HR2.out BS7.out) HC2.out).mono ?_); rintro e w8 ⟨P8, i8, rfl, e8, R8, hb⟩; have E8 := Aside0.mk e8; have RR8 := Aside0.mk R8; have RR78 := Aside0.mk (Kd.C_below RR7.out hb); have BS8 := Aside0.mk (below_step BS7.out hb); have KA8 := Aside0.mk (blk_below KA7.out hb); have KB8 := Aside0.mk (blk_below KB7.out hb); have KC8 := Aside0.mk (blk_below KC7.out hb); clear e8 R8 hb))
      clear q1
      obtain ⟨W9, hW9⟩ : ∃ W9, W9 = w8.alloc (.cells #[.slice P8 (tov lb).length i8] 24) := ⟨_, rfl⟩
      obtain ⟨gd, hgd⟩ : ∃ g, g = w8.heap.size := ⟨_, rfl⟩
      have hal : Below w8.heap.size w8 W9 := by rw [hW9]; exact below_alloc (Below.refl _ _) _
      have BS9 := Aside0.mk (below_step BS8.out hal)
      have RA9 := Aside0.mk (Kd.C_below RR78.out hal)
      have RB9 := Aside0.mk (Kd.C_below RR8.out hal)
      have KA9 := Aside0.mk (blk_below KA8.out hal)
      have KB9 := Aside0.mk (blk_below KB8.out hal)
      have KC9 := Aside0.mk (blk_below KC8.out hal)
      have KD9 := Aside0.mk (show W9.heap[gd]? = some (.cells #[.slice P8 (tov lb).length i8] 24 (0, 0)) by rw [hW9, hgd]; exact blk_new w8 _)
      rw [← hW9, ← hgd]
      clear hal hW9 hgd
      have q0 : W9.cell? ⟨gc, 0, none⟩ = some (.slice P6 (tov la).length i6) := (blk_cell KC9.out 0).trans rfl
      have q1 : W9.cell? ⟨gd, 0, none⟩ = some (.slice P8 (tov lb).length i8) := (blk_cell KD9.out 0).trans rfl
      go_upto_region 12 with (first | (go_at_call 38; (with_reducible refine (IC.out P6 i6 P8 i8 _ BS9.out RA9.out E6.out RB9.out E8.out).mono ?_); rintro e w10 ⟨rfl, hb⟩; have BS10 := Aside0.mk (below_step BS9.out hb); have RA10 := Aside0.mk (Kd.C_below RA9.out hb); have RB10 := Aside0.mk (Kd.C_below RB9.out hb); have KA10 := Aside0.mk (blk_below KA9.out hb); have KB10 := Aside0.mk (blk_below KB9.out hb); have KC10 := Aside0.mk (blk_below KC9.out hb); have KD10 := Aside0.mk (blk_below KD9.out hb); clear hb))
      clear q0 q1
      have q0 : w10.cell? ⟨gc, 0, none⟩ = some (.slice P6 (tov la).length i6) := (blk_cell KC10.out 0).trans rfl
      have q1 : w10.cell? ⟨ga, 0, none⟩ = some (.slice A la.length c) := (blk_cell KA10.out 0).trans rfl
      cases g
      all_goals
        go_upto_region 14 with fail
        go_region_held3 (fun w' => w'.cell? ⟨gc, 0, none⟩ = some (.slice P6 (tov la).length i6) ∧ w'.cell? ⟨ga, 0, none⟩ = some (.slice A la.length c)) (go_keep) (first | (go_at_call 20; (with_reducible refine (to_c LL1.out A c _ (Kd.C_below HR1.out (below_drew1 BS10.out)) HC1.out).mono ?_); rintro e w11 ⟨P11, i11, rfl, e11, R11, hb⟩; have E11 := Aside0.mk e11; have RR11 := Aside0.mk R11; have BS11 := Aside0.mk (below_step (below_drew1 BS10.out) hb); have RA11 := Aside0.mk (Kd.C_below RA10.out ((below_drew1 (Below.refl _ _)).trans hb)); have RB11 := Aside0.mk (Kd.C_below RB10.out ((below_drew1 (Below.refl _ _)).trans hb)); have KA11 := Aside0.mk (blk_below (blk_drewN KA10.out _) hb); have KB11 := Aside0.mk (blk_below (blk_drewN KB10.out _) hb); have KC11 := Aside0.mk (blk_below (blk_drewN KC10.out _) hb); have KD11 := Aside0.mk (blk_below (blk_drewN KD10.out _) hb); clear e11 R11 hb; have z0 : w11.cell? ⟨gc, 0, none⟩ = some (.slice P6 (tov la).length i6) := (blk_cell KC11.out 0).trans rfl; have z1 : w11.cell? ⟨ga, 0, none⟩ = some (.slice A la.length c) := (blk_cell KA11.out 0).trans rfl) | (go_at_call 15; (with_reducible refine (eq_c LT1.out P6 i6 P11 i11 _ RA11.out E6.out RR11.out E11.out).mono ?_); rintro e w12 ⟨rfl, hb⟩; have BS12 := Aside0.mk (below_step BS11.out hb); have RB12 := Aside0.mk (Kd.C_below RB11.out hb); have KB12 := Aside0.mk (blk_below KB11.out hb); have KD12 := Aside0.mk (blk_below KD11.out hb); have y0 : w12.cell? ⟨gc, 0, none⟩ = some (.slice P6 (tov la).length i6) := (blk_cell (blk_below KC11.out hb) 0).trans rfl; have y1 : w12.cell? ⟨ga, 0, none⟩ = some (.slice A la.length c) := (blk_cell (blk_below KA11.out hb) 0).trans rfl; clear hb))
        all_goals
          clear q0 q1
          go_upto_region 16 with fail
          have q2 : w12.cell? ⟨gd, 0, none⟩ = some (.slice P8 (tov lb).length i8) := (blk_cell KD12.out 0).trans rfl
          have q3 : w12.cell? ⟨gb, 0, none⟩ = some (.slice B lb.length d) := (blk_cell KB12.out 0).trans rfl
          go_region_held3 (fun w' => w'.cell? ⟨gd, 0, none⟩ = some (.slice P8 (tov lb).length i8) ∧ w'.cell? ⟨gb, 0, none⟩ = some (.slice B lb.length d)) (go_keep) (first | (go_at_call 20; (with_reducible refine (to_c LL2.out B d _ (Kd.C_below HR2.out (below_drew1 BS12.out)) HC2.out).mono ?_); rintro e w13 ⟨P13, i13, rfl, e13, R13, hb⟩; have E13 := Aside0.mk e13; have RR13 := Aside0.mk R13; have BS13 := Aside0.mk (below_step (below_drew1 BS12.out) hb); have RB13 := Aside0.mk (Kd.C_below RB12.out ((below_drew1 (Below.refl _ _)).trans hb)); have KB13 := Aside0.mk (blk_below (blk_drewN KB12.out _) hb); have KD13 := Aside0.mk (blk_below (blk_drewN KD12.out _) hb); clear e13 R13 hb; have x0 : w13.cell? ⟨gd, 0, none⟩ = some (.slice P8 (tov lb).length i8) := (blk_cell KD13.out 0).trans rfl; have x1 : w13.cell? ⟨gb, 0, none⟩ = some (.slice B lb.length d) := (blk_cell KB13.out 0).trans rfl) | (go_at_call 15; (with_reducible refine (eq_c LT2.out P8 i8 P13 i13 _ RB13.out E8.out RR13.out E13.out).mono ?_); rintro e w14 ⟨rfl, hb⟩; have BS14 := Aside0.mk (below_step BS13.out hb); have v0 : w14.cell? ⟨gd, 0, none⟩ = some (.slice P8 (tov lb).length i8) := (blk_cell (blk_below KD13.out hb) 0).trans rfl; have v1 : w14.cell? ⟨gb, 0, none⟩ = some (.slice B lb.length d) := (blk_cell (blk_below KB13.out hb) 0).trans rfl; clear hb))
          all_goals
            go_wp2_with fail
            go_ret
            exact ⟨rfl, BS14.out⟩
end Go.Proofs.YtemamcbdjfabnaaGreatDoor.VT
