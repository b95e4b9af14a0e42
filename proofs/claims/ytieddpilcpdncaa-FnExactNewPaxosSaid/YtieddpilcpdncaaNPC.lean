import Derived.Test.YtieddpilcpdncaaNPB
import Derived.Test.YtieddpilcpdncaaPNPx6
/- A case's marks, put and held. Conditions: no notes, no votes, nobody heard. -/
namespace Go.Proofs.Ytieddpilcpdncaa.PNP
open Go.RowKit Go.Proofs.YtieddpilcpdncaaW.PrintWords Go.Proofs.YtieddpilcpdncaaW.PrintLast Go.Proofs.YtieddpilcpdncaaW.PrintMore
set_option linter.unusedVariables false
set_option linter.unusedSimpArgs false
theorem markNoteS_nil (A : Option Addr) (c : Nat) (z : Int) (w : World) : Calls Try.prog 46 #[.slice A 0 c, .int .i64 z] w fun e w' => e = .returned (.int .i64 z) ∧ Below w.heap.size w w' := by
  go_enter Try.func46, Try.ntmps46
  go_wp2
  go_loop [1, 5] (fun v1 v5 => v1 = .int .i64 z ∧ v5 = .int .i64 0) (fun _ _ => 0)
  case atStart => exact ⟨rfl, rfl⟩
  case round =>
    obtain ⟨rfl, rfl⟩ := hrel
    go_wp2
    go_ret
    exact ⟨rfl, Below.refl _ _⟩
theorem markVoteS_nil (A : Option Addr) (c : Nat) (z : Int) (w : World) : Calls Try.prog 47 #[.slice A 0 c, .int .i64 z] w fun e w' => e = .returned (.int .i64 z) ∧ Below w.heap.size w w' := by
  go_enter Try.func47, Try.ntmps47
  go_wp2
  go_loop [1, 5] (fun v1 v5 => v1 = .int .i64 z ∧ v5 = .int .i64 0) (fun _ _ => 0)
  case atStart => exact ⟨rfl, rfl⟩
  case round =>
    obtain ⟨rfl, rfl⟩ := hrel
    go_wp2
    go_ret
    exact ⟨rfl, Below.refl _ _⟩
theorem heldNoteS_nil (A : Option Addr) (c : Nat) (z : Int) (w : World) : Calls Try.prog 50 #[.slice A 0 c, .int .i64 z] w fun e w' => e = .returned (.int .i64 z) ∧ Below w.heap.size w w' := by
  go_enter Try.func50, Try.ntmps50
  go_wp2
  go_loop [1, 5] (fun v1 v5 => v1 = .int .i64 z ∧ v5 = .int .i64 0) (fun _ _ => 0)
  case atStart => exact ⟨rfl, rfl⟩
  case round =>
    obtain ⟨rfl, rfl⟩ := hrel
    go_wp2
    go_ret
    exact ⟨rfl, Below.refl _ _⟩
theorem heldVoteS_nil (A : Option Addr) (c : Nat) (z : Int) (w : World) : Calls Try.prog 51 #[.slice A 0 c, .int .i64 z] w fun e w' => e = .returned (.int .i64 z) ∧ Below w.heap.size w w' := by
  go_enter Try.func51, Try.ntmps51
  go_wp2
  go_loop [1, 5] (fun v1 v5 => v1 = .int .i64 z ∧ v5 = .int .i64 0) (fun _ _ => 0)
  case atStart => exact ⟨rfl, rfl⟩
  case round =>
    obtain ⟨rfl, rfl⟩ := hrel
    go_wp2
    go_ret
    exact ⟨rfl, Below.refl _ _⟩
set_option maxRecDepth 100000 in
set_option maxHeartbeats 4000000 in
theorem heldPax_c (T : Int → ByteArray) (ht : ∀ z, 0 ≤ z → z ≤ 10000 → ∃ k, laws_markText.f k z = some (T z)) (A0 A1 A2 A3 : Option Addr) (c0 c1 c2 c3 : Nat) (l0 : List S103) (l1 : List S107) (m0 kv : Nat) (hv : laws_heldVoterS.f kv l0 1 = some (m0 : Int)) (hm0 : m0 ≤ 1000) (hl1 : l1.length ≤ 1000)
    (hm : ∀ j : Int, 0 ≤ j → j < l1.length → (rd_T107 l1 j).f3 = [] ∧ rd_T107 l1 j = mkA T (m0 + 6 * j) (rd_T107 l1 j)) (w : World) (h0 : Kd.C k103 w A0 l0.length l0) (hc0 : l0.length ≤ c0) (h1 : Kd.C k107 w A1 l1.length l1) :
    Calls Try.prog 11 #[.agg #[.slice A0 l0.length c0, .slice A1 l1.length c1, .slice A2 0 c2, .slice A3 0 c3], .int .i64 1] w fun e w' => e = .returned (.int .i64 (m0 + 6 * l1.length)) ∧ Below w.heap.size w w' := by
  have H0 := Aside0.mk h0
  have H1 := Aside0.mk h1
  have HV := Aside0.mk hv
  have HT := Aside0.mk ht
  have HM := Aside0.mk hm
  have HC := Aside0.mk hc0
  clear h0 h1 hv ht hm hc0
  have n0 : ¬ ((m0 : Int) < 0) := by omega
  have n1 : ¬ ((m0 : Int) + 6 * l1.length < 0) := by omega
  have hbx : ∀ o : Obj, Aside0 (Below w.heap.size w (w.alloc o)) := fun o => ⟨below_alloc (Below.refl _ _) o⟩
  go_enter Try.func11, Try.ntmps11
  go_wp2_with (first | (go_at_call 48; refine (laws_heldVoterS.calls kv A0 c0 l0 1 (m0 : Int) _ (Kd.C_alloc H0.out _) HC.out HV.out).mono ?_; rintro e w2 ⟨rfl, hb⟩; have HB2 := Aside0.mk (below_step (hbx _).out hb); have BK2 := Aside0.mk (blk_below (blk_new w (.cells #[.slice A0 l0.length c0, .slice A1 l1.length c1, .slice A2 0 c2, .slice A3 0 c3] 27)) hb); clear hb; have z1 : w2.cell? ⟨w.heap.size, 1, none⟩ = some (.slice A1 l1.length c1) := (blk_cell BK2.out 1).trans rfl) | (go_at_call 49; refine (heldAsk_c T HT.out A1 c1 l1 (m0 : Int) (by omega) (by omega) hl1 HM.out _ (Kd.C_below H1.out HB2.out)).mono ?_; rintro e w3 ⟨rfl, hb⟩; have HB3 := Aside0.mk (below_step HB2.out hb); have BK3 := Aside0.mk (blk_below BK2.out hb); clear hb; have z2 : w3.cell? ⟨w.heap.size, 2, none⟩ = some (.slice A2 0 c2) := (blk_cell BK3.out 2).trans rfl) | (go_at_call 50; refine (heldNoteS_nil A2 c2 _ _).mono ?_; rintro e w4 ⟨rfl, hb⟩; have HB4 := Aside0.mk (below_step HB3.out hb); have BK4 := Aside0.mk (blk_below BK3.out hb); clear hb; have z3 : w4.cell? ⟨w.heap.size, 3, none⟩ = some (.slice A3 0 c3) := (blk_cell BK4.out 3).trans rfl) | (go_at_call 51; refine (heldVoteS_nil A3 c3 _ _).mono ?_; rintro e w5 ⟨rfl, hb⟩; have HB5 := Aside0.mk (below_step HB4.out hb); clear hb))
  go_ret
  exact ⟨rfl, HB5.out⟩
end Go.Proofs.Ytieddpilcpdncaa.PNP
