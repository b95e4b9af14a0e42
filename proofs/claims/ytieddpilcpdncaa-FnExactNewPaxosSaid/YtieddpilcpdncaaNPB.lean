import Derived.Test.YtieddpilcpdncaaNPA
import Derived.Deep.RegionWith
/- What holds the marks of the askers of a case. Conditions: they are marked so, and have heard nobody. -/
namespace Go.Proofs.Ytieddpilcpdncaa.PNP
open Go.RowKit Go.Proofs.YtieddpilcpdncaaW.PrintWords Go.Proofs.YtieddpilcpdncaaW.PrintLast Go.Proofs.YtieddpilcpdncaaW.PrintMore
set_option linter.unusedVariables false
set_option linter.unusedSimpArgs false
theorem heldIntS_nil (A : Option Addr) (c : Nat) (z : Int) (w : World) : Calls Try.prog 89 #[.slice A 0 c, .int .i64 z] w fun e w' => e = .returned (.int .i64 z) ∧ Below w.heap.size w w' := by
  go_enter Try.func89, Try.ntmps89
  go_wp2
  go_loop [1, 5] (fun v1 v5 => v1 = .int .i64 z ∧ v5 = .int .i64 0) (fun _ _ => 0)
  case atStart => exact ⟨rfl, rfl⟩
  case round =>
    obtain ⟨rfl, rfl⟩ := hrel
    go_wp2
    go_ret
    exact ⟨rfl, Below.refl _ _⟩
set_option maxRecDepth 100000 in
set_option maxHeartbeats 4000000 in
theorem heldAsk_c (T : Int → ByteArray) (ht : ∀ z, 0 ≤ z → z ≤ 10000 → ∃ k, laws_markText.f k z = some (T z)) (A : Option Addr) (c : Nat) (l : List S107) (a1 : Int) (ha0 : 0 ≤ a1) (ha1 : a1 ≤ 1000) (hll : l.length ≤ 1000)
    (hm : ∀ j : Int, 0 ≤ j → j < l.length → (rd_T107 l j).f3 = [] ∧ rd_T107 l j = mkA T (a1 + 6 * j) (rd_T107 l j)) (w : World) (hr : Kd.C k107 w A l.length l) :
    Calls Try.prog 49 #[.slice A l.length c, .int .i64 a1] w fun e w' => e = .returned (.int .i64 (a1 + 6 * l.length)) ∧ Below w.heap.size w w' := by
  have HL := Aside0.mk hr
  have HT := Aside0.mk ht
  have HM := Aside0.mk hm
  clear hr ht hm
  go_enter Try.func49, Try.ntmps49
  go_wp2
  go_loopw [1, 5] (fun v1 v5 wr => ∃ x : Int, 0 ≤ x ∧ x ≤ (l.length : Int) ∧ v5 = .int .i64 x ∧ v1 = .int .i64 (a1 + 6 * x) ∧ Aside0 (Below w.heap.size w wr)) (fun _ v _ => (l.length - intOf v).toNat)
  case atStart => exact ⟨0, by omega, by omega, rfl, by simp, ⟨Below.refl _ _⟩⟩
  case round =>
    obtain ⟨x, h0, hx, rfl, rfl, HB⟩ := hrel
    by_cases hlt : x < (l.length : Int)
    · obtain ⟨ad, A3, c3, e1, c0, c1, c2, d3, c4, c5, c6, _, _⟩ := at_T107 HL.out x h0 hlt
      cases e1
      obtain ⟨hf3, hmk⟩ := HM.out x h0 hlt
      rw [hf3] at d3
      rw [hmk] at c0 c1 c2 c4 c5 c6
      simp only [mkA] at c0 c1 c2 c4 c5 c6
      clear hf3 hmk
      obtain ⟨k1, t1⟩ := HT.out (a1 + 6 * x + 1 + 1) (by omega) (by omega)
      obtain ⟨k2, t2⟩ := HT.out (a1 + 6 * x + 1 + 1 + 1 + 1) (by omega) (by omega)
      have T1 := Aside0.mk t1
      have T2 := Aside0.mk t2
      have G3 := Aside0.mk d3
      have G4 := Aside0.mk c4
      have G5 := Aside0.mk c5
      have G6 := Aside0.mk c6
      have q0 := (HB.out.cell (World.block_lt_of_cell? w _ c0)).trans c0
      have q1 := (HB.out.cell (World.block_lt_of_cell? w _ c1)).trans c1
      have q2 := (HB.out.cell (World.block_lt_of_cell? w _ c2)).trans c2
      have G2 := Aside0.mk c2
      clear t1 t2 c0 c1 c2 d3 c4 c5 c6
      go_upto_region 10 with fail
      go_cut [37] (fun s37 wx => s37 = .bool false ∧ Aside0 (Below w.heap.size w wx))
      case first =>
        go_region_held3 (fun w' => w'.cell? ⟨(ad.add (x.toNat * 7)).block, (ad.add (x.toNat * 7)).off + 2, none⟩ = some (.string (T (a1 + 6 * x + 1 + 1)))) (go_keep) (first | (go_at_call 63; refine (laws_markText.calls k1 (a1 + 6 * x + 1 + 1) _ _ T1.out).mono ?_; rintro e w2 ⟨rfl, hb⟩; have HB2 := Aside0.mk (below_step (by repeat (first | exact HB.out | apply below_drew1)) hb); clear hb; have z2 := (HB2.out.cell (World.block_lt_of_cell? w _ G2.out)).trans G2.out))
        all_goals (go_wp2_with fail; go_meet; exact ⟨by first | rfl | simp, HB2⟩)
      case rest =>
        obtain ⟨rfl, HB2⟩ := hcut
        clear q0 q1 q2
        have z3 := (HB2.out.cell (World.block_lt_of_cell? w _ G3.out)).trans G3.out
        go_upto_region 14 with (first | (go_at_call 89; refine (heldIntS_nil A3 c3 (a1 + 6 * x + 1 + 1 + 1) _).mono ?_; rintro e w3 ⟨rfl, hb⟩; have HB3 := Aside0.mk (below_step HB2.out hb); clear hb))
        have z4 := (HB3.out.cell (World.block_lt_of_cell? w _ G4.out)).trans G4.out
        have z5 := (HB3.out.cell (World.block_lt_of_cell? w _ G5.out)).trans G5.out
        go_upto_region 19 with fail
        go_cut [65] (fun s65 wx => s65 = .bool false ∧ Aside0 (Below w.heap.size w wx))
        case first =>
          go_region_held3 (fun w' => w'.cell? ⟨(ad.add (x.toNat * 7)).block, (ad.add (x.toNat * 7)).off + 5, none⟩ = some (.string (T (a1 + 6 * x + 1 + 1 + 1 + 1)))) (go_keep) (first | (go_at_call 63; refine (laws_markText.calls k2 (a1 + 6 * x + 1 + 1 + 1 + 1) _ _ T2.out).mono ?_; rintro e w5 ⟨rfl, hb⟩; have HB5 := Aside0.mk (below_step (by repeat (first | exact HB3.out | apply below_drew1)) hb); clear hb; have z7 := (HB5.out.cell (World.block_lt_of_cell? w _ G5.out)).trans G5.out))
          all_goals (go_wp2_with fail; go_meet; exact ⟨by first | rfl | simp, HB5⟩)
        case rest =>
          obtain ⟨rfl, HB5⟩ := hcut
          clear z3 z4 z5
          have z6 := (HB5.out.cell (World.block_lt_of_cell? w _ G6.out)).trans G6.out
          go_wp2
          go_roundw
          case rel => exact ⟨x + 1, by omega, by omega, by first | rfl | simp, by first | (congr 1; omega) | omega, HB5⟩
          case measure => simp [intOf]; omega
    · obtain rfl : x = (l.length : Int) := by omega
      go_wp2
      go_ret
      exact ⟨rfl, HB.out⟩
end Go.Proofs.Ytieddpilcpdncaa.PNP
