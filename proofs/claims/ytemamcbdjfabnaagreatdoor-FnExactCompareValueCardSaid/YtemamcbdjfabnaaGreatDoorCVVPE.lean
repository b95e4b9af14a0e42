import Derived.Test.YtemamcbdjfabnaaGreatDoorCVVPD
/- CompareValue: the program's. Conditions: the powers of ten stand in memory. -/
namespace Go.Proofs.YtemamcbdjfabnaaGreatDoor.VT
open Go.RowKit Go.Proofs.YtemamcbdjfabnaaGreatDoor.PVG Go.Proofs.YtemamcbdjfabnaaGreatDoorW.PrintWords Go.Proofs.YtemamcbdjfabnaaGreatDoorW.PrintLast Go.Proofs.YtemamcbdjfabnaaGreatDoorW.PrintMore
set_option linter.unusedVariables false
set_option linter.unusedSimpArgs false
set_option maxRecDepth 100000 in
set_option maxHeartbeats 8000000 in
theorem compareValue_c (la : List S54) (A : Option Addr) (c : Nat) (lb : List S54) (B : Option Addr) (d : Nat) (w : World) (ht : HT w) (hr : Kd.C k54 w A la.length la) (hc : la.length ≤ c) (hr2 : Kd.C k54 w B lb.length lb) (hc2 : lb.length ≤ d) :
    Calls Tryz.prog 38 #[.agg #[.slice A la.length c], .agg #[.slice B lb.length d]] w fun e w' => e = .returned (.tuple #[.int .i64 (cmpV (valT la) (valT lb)), .bool ((valT la).isSome && (valT lb).isSome)]) ∧ Below w.heap.size w w' := by
  have VA := Aside0.mk (show ∀ W, Below w.heap.size w W → Calls Tryz.prog 50 #[.agg #[.slice A la.length c]] W (VoPost la W) from fun W hb => valOf_c la A c W (ht.below hb) (Kd.C_below hr hb) hc)
  have VB := Aside0.mk (show ∀ W, Below w.heap.size w W → Calls Tryz.prog 50 #[.agg #[.slice B lb.length d]] W (VoPost lb W) from fun W hb => valOf_c lb B d W (ht.below hb) (Kd.C_below hr2 hb) hc2)
  have GT := Aside0.mk (show ∀ l t, valT l = some t → wf t = true ∧ cnt t ≤ 1073741824 ∧ cnt t ≤ 80 from fun l t h => ⟨(valT_wf h).1, (valT_wf h).2, (valT_iff.1 h).2.2.2.1⟩)
  have HTT := Aside0.mk ht
  have B2 := Aside0.mk (below_alloc (below_alloc (Below.refl w.heap.size w) (.cells #[.slice A la.length c] 24)) (.cells #[.slice B lb.length d] 24))
  have KA := Aside0.mk (blk_below (blk_new w (.cells #[.slice A la.length c] 24)) (below_alloc (Below.refl _ _) (.cells #[.slice B lb.length d] 24)))
  have KB := Aside0.mk (blk_new (w.alloc (.cells #[.slice A la.length c] 24)) (.cells #[.slice B lb.length d] 24))
  clear ht hr hc hr2 hc2
  cases hp : valT la with
  | none =>
    cases hq : valT lb with
    | none =>
      have HP := Aside0.mk hp
      have HQ := Aside0.mk hq
      clear hp hq
      go_enter Tryz.func38, Tryz.ntmps38
      go_upto_region 1 with fail
      obtain ⟨W2, hW2⟩ : ∃ W2, W2 = (w.alloc (.cells #[.slice A la.length c] 24)).alloc (.cells #[.slice B lb.length d] 24) := ⟨_, rfl⟩
      obtain ⟨ga, hga⟩ : ∃ g, g = w.heap.size := ⟨_, rfl⟩
      obtain ⟨gb, hgb⟩ : ∃ g, g = w.heap.size + 1 := ⟨_, rfl⟩
      have BX := B2.out
      have KAX := KA.out
      have KBX := KB.out
      clear B2 KA KB
      rw [← hW2] at BX KAX KBX
      have B2 := Aside0.mk BX
      have KB := Aside0.mk (show W2.heap[gb]? = some (.cells #[.slice B lb.length d] 24 (0, 0)) by rw [hgb]; rw [show (w.alloc (.cells #[.slice A la.length c] 24)).heap.size = w.heap.size + 1 by simp] at KBX; exact KBX)
      have KA := Aside0.mk (show W2.heap[ga]? = some (.cells #[.slice A la.length c] 24 (0, 0)) by rw [hga]; exact KAX)
      rw [← hW2, ← hgb]
      simp only [show w.heap.size = ga from hga.symm]
      clear BX KAX KBX hgb hga hW2
      have p0 : W2.cell? ⟨ga, 0, none⟩ = some (.slice A la.length c) := (blk_cell KA.out 0).trans rfl
      have p1 : W2.cell? ⟨gb, 0, none⟩ = some (.slice B lb.length d) := (blk_cell KB.out 0).trans rfl
      go_region_held3 (fun w' => w'.cell? ⟨ga, 0, none⟩ = some (.slice A la.length c) ∧ w'.cell? ⟨gb, 0, none⟩ = some (.slice B lb.length d)) (go_keep) (first | (go_at_call 50; (with_reducible refine (VoPost.no (VA.out _ (below_drew1 B2.out)) HP.out).mono ?_); rintro e wa ⟨rfl, hb⟩; have BWa := Aside0.mk (below_step (below_drew1 B2.out) hb); have KA1 := Aside0.mk (blk_below (blk_drewN KA.out _) hb); have KB1 := Aside0.mk (blk_below (blk_drewN KB.out _) hb); clear hb; have z0 : wa.cell? ⟨ga, 0, none⟩ = some (.slice A la.length c) := (blk_cell KA1.out 0).trans rfl; have z1 : wa.cell? ⟨gb, 0, none⟩ = some (.slice B lb.length d) := (blk_cell KB1.out 0).trans rfl) | (go_at_call 50; (with_reducible refine (VoPost.no (VB.out _ BWa.out) HQ.out).mono ?_); rintro e wb ⟨rfl, hb⟩; have BWb := Aside0.mk (below_step BWa.out hb); have y0 : wb.cell? ⟨ga, 0, none⟩ = some (.slice A la.length c) := (blk_cell (blk_below KA1.out hb) 0).trans rfl; have y1 : wb.cell? ⟨gb, 0, none⟩ = some (.slice B lb.length d) := (blk_cell (blk_below KB1.out hb) 0).trans rfl; clear hb))
      all_goals
        go_wp2_with fail
        go_ret2
        exact ⟨rfl, BWb.out⟩
    | some u =>
      have HP := Aside0.mk hp
      have HQ := Aside0.mk hq
      clear hp hq
      go_enter Tryz.func38, Tryz.ntmps38
      go_upto_region 1 with fail
      obtain ⟨W2, hW2⟩ : ∃ W2, W2 = (w.alloc (.cells #[.slice A la.length c] 24)).alloc (.cells #[.slice B lb.length d] 24) := ⟨_, rfl⟩
      obtain ⟨ga, hga⟩ : ∃ g, g = w.heap.size := ⟨_, rfl⟩
      obtain ⟨gb, hgb⟩ : ∃ g, g = w.heap.size + 1 := ⟨_, rfl⟩
      have BX := B2.out
      have KAX := KA.out
      have KBX := KB.out
      clear B2 KA KB
      rw [← hW2] at BX KAX KBX
      have B2 := Aside0.mk BX
      have KB := Aside0.mk (show W2.heap[gb]? = some (.cells #[.slice B lb.length d] 24 (0, 0)) by rw [hgb]; rw [show (w.alloc (.cells #[.slice A la.length c] 24)).heap.size = w.heap.size + 1 by simp] at KBX; exact KBX)
      have KA := Aside0.mk (show W2.heap[ga]? = some (.cells #[.slice A la.length c] 24 (0, 0)) by rw [hga]; exact KAX)
      rw [← hW2, ← hgb]
      simp only [show w.heap.size = ga from hga.symm]
      clear BX KAX KBX hgb hga hW2
      have p0 : W2.cell? ⟨ga, 0, none⟩ = some (.slice A la.length c) := (blk_cell KA.out 0).trans rfl
      have p1 : W2.cell? ⟨gb, 0, none⟩ = some (.slice B lb.length d) := (blk_cell KB.out 0).trans rfl
      go_region_held3 (fun w' => w'.cell? ⟨ga, 0, none⟩ = some (.slice A la.length c) ∧ w'.cell? ⟨gb, 0, none⟩ = some (.slice B lb.length d)) (go_keep) (first | (go_at_call 50; (with_reducible refine (VoPost.no (VA.out _ (below_drew1 B2.out)) HP.out).mono ?_); rintro e wa ⟨rfl, hb⟩; have BWa := Aside0.mk (below_step (below_drew1 B2.out) hb); have KA1 := Aside0.mk (blk_below (blk_drewN KA.out _) hb); have KB1 := Aside0.mk (blk_below (blk_drewN KB.out _) hb); clear hb; have z0 : wa.cell? ⟨ga, 0, none⟩ = some (.slice A la.length c) := (blk_cell KA1.out 0).trans rfl; have z1 : wa.cell? ⟨gb, 0, none⟩ = some (.slice B lb.length d) := (blk_cell KB1.out 0).trans rfl) | (go_at_call 50; (with_reducible refine (VoPost.yes (VB.out _ BWa.out) HQ.out).mono ?_); rintro e wb ⟨gu, rfl, hb, hv⟩; have BWb := Aside0.mk (below_step BWa.out hb); have VUb := Aside0.mk hv; clear hv; have y0 : wb.cell? ⟨ga, 0, none⟩ = some (.slice A la.length c) := (blk_cell (blk_below KA1.out hb) 0).trans rfl; have y1 : wb.cell? ⟨gb, 0, none⟩ = some (.slice B lb.length d) := (blk_cell (blk_below KB1.out hb) 0).trans rfl; clear hb))
      all_goals
        go_wp2_with fail
        go_ret2
        exact ⟨rfl, BWb.out⟩
  | some t =>
    cases hq : valT lb with
    | none =>
      have HP := Aside0.mk hp
      have HQ := Aside0.mk hq
      clear hp hq
      go_enter Tryz.func38, Tryz.ntmps38
      go_upto_region 1 with fail
      obtain ⟨W2, hW2⟩ : ∃ W2, W2 = (w.alloc (.cells #[.slice A la.length c] 24)).alloc (.cells #[.slice B lb.length d] 24) := ⟨_, rfl⟩
      obtain ⟨ga, hga⟩ : ∃ g, g = w.heap.size := ⟨_, rfl⟩
      obtain ⟨gb, hgb⟩ : ∃ g, g = w.heap.size + 1 := ⟨_, rfl⟩
      have BX := B2.out
      have KAX := KA.out
      have KBX := KB.out
      clear B2 KA KB
      rw [← hW2] at BX KAX KBX
      have B2 := Aside0.mk BX
      have KB := Aside0.mk (show W2.heap[gb]? = some (.cells #[.slice B lb.length d] 24 (0, 0)) by rw [hgb]; rw [show (w.alloc (.cells #[.slice A la.length c] 24)).heap.size = w.heap.size + 1 by simp] at KBX; exact KBX)
      have KA := Aside0.mk (show W2.heap[ga]? = some (.cells #[.slice A la.length c] 24 (0, 0)) by rw [hga]; exact KAX)
      rw [← hW2, ← hgb]
      simp only [show w.heap.size = ga from hga.symm]
      clear BX KAX KBX hgb hga hW2
      have p0 : W2.cell? ⟨ga, 0, none⟩ = some (.slice A la.length c) := (blk_cell KA.out 0).trans rfl
      have p1 : W2.cell? ⟨gb, 0, none⟩ = some (.slice B lb.length d) := (blk_cell KB.out 0).trans rfl
      go_region_held3 (fun w' => w'.cell? ⟨ga, 0, none⟩ = some (.slice A la.length c) ∧ w'.cell? ⟨gb, 0, none⟩ = some (.slice B lb.length d)) (go_keep) (first | (go_at_call 50; (with_reducible refine (VoPost.yes (VA.out _ (below_drew1 B2.out)) HP.out).mono ?_); rintro e wa ⟨gt, rfl, hb, hv⟩; have BWa := Aside0.mk (below_step (below_drew1 B2.out) hb); have KA1 := Aside0.mk (blk_below (blk_drewN KA.out _) hb); have KB1 := Aside0.mk (blk_below (blk_drewN KB.out _) hb); have VTa := Aside0.mk hv; clear hv; clear hb; have z0 : wa.cell? ⟨ga, 0, none⟩ = some (.slice A la.length c) := (blk_cell KA1.out 0).trans rfl; have z1 : wa.cell? ⟨gb, 0, none⟩ = some (.slice B lb.length d) := (blk_cell KB1.out 0).trans rfl) | (go_at_call 50; (with_reducible refine (VoPost.no (VB.out _ BWa.out) HQ.out).mono ?_); rintro e wb ⟨rfl, hb⟩; have BWb := Aside0.mk (below_step BWa.out hb); have VTb := Aside0.mk (VTa.out.below hb); have y0 : wb.cell? ⟨ga, 0, none⟩ = some (.slice A la.length c) := (blk_cell (blk_below KA1.out hb) 0).trans rfl; have y1 : wb.cell? ⟨gb, 0, none⟩ = some (.slice B lb.length d) := (blk_cell (blk_below KB1.out hb) 0).trans rfl; clear hb))
      all_goals
        go_wp2_with fail
        go_ret2
        exact ⟨rfl, BWb.out⟩
    | some u =>
      have HP := Aside0.mk hp
      have HQ := Aside0.mk hq
      have FA := Aside0.mk (And.intro (wf_fit t (GT.out la t hp).1) (GT.out la t hp).2)
      have FB := Aside0.mk (And.intro (wf_fit u (GT.out lb u hq).1) (GT.out lb u hq).2)
      clear hp hq
      go_enter Tryz.func38, Tryz.ntmps38
      go_upto_region 1 with fail
      obtain ⟨W2, hW2⟩ : ∃ W2, W2 = (w.alloc (.cells #[.slice A la.length c] 24)).alloc (.cells #[.slice B lb.length d] 24) := ⟨_, rfl⟩
      obtain ⟨ga, hga⟩ : ∃ g, g = w.heap.size := ⟨_, rfl⟩
      obtain ⟨gb, hgb⟩ : ∃ g, g = w.heap.size + 1 := ⟨_, rfl⟩
      have BX := B2.out
      have KAX := KA.out
      have KBX := KB.out
      clear B2 KA KB
      rw [← hW2] at BX KAX KBX
      have B2 := Aside0.mk BX
      have KB := Aside0.mk (show W2.heap[gb]? = some (.cells #[.slice B lb.length d] 24 (0, 0)) by rw [hgb]; rw [show (w.alloc (.cells #[.slice A la.length c] 24)).heap.size = w.heap.size + 1 by simp] at KBX; exact KBX)
      have KA := Aside0.mk (show W2.heap[ga]? = some (.cells #[.slice A la.length c] 24 (0, 0)) by rw [hga]; exact KAX)
      rw [← hW2, ← hgb]
      simp only [show w.heap.size = ga from hga.symm]
      clear BX KAX KBX hgb hga hW2
      have p0 : W2.cell? ⟨ga, 0, none⟩ = some (.slice A la.length c) := (blk_cell KA.out 0).trans rfl
      have p1 : W2.cell? ⟨gb, 0, none⟩ = some (.slice B lb.length d) := (blk_cell KB.out 0).trans rfl
      go_region_held3 (fun w' => w'.cell? ⟨ga, 0, none⟩ = some (.slice A la.length c) ∧ w'.cell? ⟨gb, 0, none⟩ = some (.slice B lb.length d)) (go_keep) (first | (go_at_call 50; (with_reducible refine (VoPost.yes (VA.out _ (below_drew1 B2.out)) HP.out).mono ?_); rintro e wa ⟨gt, rfl, hb, hv⟩; have BWa := Aside0.mk (below_step (below_drew1 B2.out) hb); have KA1 := Aside0.mk (blk_below (blk_drewN KA.out _) hb); have KB1 := Aside0.mk (blk_below (blk_drewN KB.out _) hb); have VTa := Aside0.mk hv; clear hv; clear hb; have z0 : wa.cell? ⟨ga, 0, none⟩ = some (.slice A la.length c) := (blk_cell KA1.out 0).trans rfl; have z1 : wa.cell? ⟨gb, 0, none⟩ = some (.slice B lb.length d) := (blk_cell KB1.out 0).trans rfl) | (go_at_call 50; (with_reducible refine (VoPost.yes (VB.out _ BWa.out) HQ.out).mono ?_); rintro e wb ⟨gu, rfl, hb, hv⟩; have BWb := Aside0.mk (below_step BWa.out hb); have VTb := Aside0.mk (VTa.out.below hb); have VUb := Aside0.mk hv; clear hv; have y0 : wb.cell? ⟨ga, 0, none⟩ = some (.slice A la.length c) := (blk_cell (blk_below KA1.out hb) 0).trans rfl; have y1 : wb.cell? ⟨gb, 0, none⟩ = some (.slice B lb.length d) := (blk_cell (blk_below KB1.out hb) 0).trans rfl; clear hb))
      all_goals
        go_wp2_with (first | (go_at_call 64; (with_reducible refine ((cmp_c t).go u _ gt gu VTb.out VUb.out FA.out.1 FB.out.1 FA.out.2.1 FB.out.2.1).mono ?_); rintro e w5 ⟨rfl, hb⟩; have B5 := Aside0.mk (below_step BWb.out hb); clear hb))
        go_ret2
        exact ⟨rfl, B5.out⟩
end Go.Proofs.YtemamcbdjfabnaaGreatDoor.VT
