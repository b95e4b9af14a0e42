import Derived.Test.YtieddpilcpdncaaNPC
/- A case's marks are put: voters and askers lie in arrays of two types. Conditions: no notes, no votes, nobody heard. -/
namespace Go.Proofs.Ytieddpilcpdncaa.PNP
open Go.RowKit Go.Proofs.YtieddpilcpdncaaW.PrintWords Go.Proofs.YtieddpilcpdncaaW.PrintLast Go.Proofs.YtieddpilcpdncaaW.PrintMore
set_option linter.unusedVariables false
set_option linter.unusedSimpArgs false
/-- The boxes of cases are kept. -/
def K27 (w w' : World) : Prop := ∀ (g : Nat) (o : Array Value), w.heap[g]? = some (Obj.cells o 27 (0, 0)) → w'.heap[g]? = some (Obj.cells o 27 (0, 0))
/-- A block of voters. -/
def isV (W : World) (k : Nat) : Prop := ∃ cells, W.heap[k]? = some (.cells cells 103 (0, 0))
theorem voters_typed {W : World} {base : Nat} {u : Value} {l : List S103} (h : Kd.R k103 103 W base (fun _ => True) u l) : Kd.R k103 103 W base (isV W) u l :=
  Kd.R_mono (Kd.R_bound h) (fun k hk => by
    obtain ⟨_, _, _, q, hq, cells, hc⟩ := hk
    have : q = 103 := by simpa [k103, Kd.E, Kd.iso, Kd.pair, Kd.int, Kd.string, Kd.scalar] using hq
    subst this
    exact ⟨cells, hc⟩)
/-- A block of askers, or of whom they heard. -/
def isA (W : World) (k : Nat) : Prop := ∃ q cells, (q = 107 ∨ q = 3) ∧ W.heap[k]? = some (.cells cells q (0, 0))
theorem isA_notV {W : World} {k : Nat} (h : isA W k) : ¬ isV W k := by
  obtain ⟨q, cells, hq, hc⟩ := h
  rintro ⟨cells', hc'⟩
  rw [hc] at hc'
  cases Option.some.inj hc'
  rcases hq with h | h <;> cases h
theorem not27 {W : World} {k : Nat} {o : Array Value} (h : W.heap[k]? = some (.cells o 27 (0, 0))) : ¬ isV W k ∧ ¬ isA W k := by
  constructor
  · rintro ⟨cells', hc'⟩
    rw [h] at hc'
    cases Option.some.inj hc'
  · rintro ⟨q, cells', hq, hc'⟩
    rw [h] at hc'
    cases Option.some.inj hc'
    rcases hq with h | h <;> cases h
theorem askers_typed {W : World} {base : Nat} {u : Value} {l : List S107} (h : Kd.R k107 107 W base (fun _ => True) u l) : Kd.R k107 107 W base (isA W) u l :=
  Kd.R_mono (Kd.R_bound h) (fun k hk => by
    obtain ⟨_, _, _, q, hq, cells, hc⟩ := hk
    have : q = 107 ∨ q = 3 := by simpa [k107, Kd.E, Kd.iso, Kd.pair, Kd.int, Kd.string, Kd.bool, Kd.scalar, Kd.slice] using hq
    exact ⟨q, cells, this, hc⟩)
set_option maxRecDepth 100000 in
set_option maxHeartbeats 4000000 in
theorem markPax_c (T : Int → ByteArray) (ht : ∀ z, 0 ≤ z → z ≤ 10000 → ∃ k, laws_markText.f k z = some (T z)) (u0 u1 : Value) (A2 A3 : Option Addr) (c2 c3 : Nat) (l0 y0 : List S103) (l1 : List S107) (m0 kv : Nat) (hv : laws_markVoterS.f kv l0 1 = some ((m0 : Int), y0)) (hm0 : m0 ≤ 1000) (hl1 : l1.length ≤ 1000)
    (hl3 : ∀ x ∈ l1, x.f3 = []) (w0 w : World) (hB : Below w0.heap.size w0 w) (h0 : Kd.R k103 103 w w0.heap.size (fun _ => True) u0 l0) (h1 : Kd.R k107 107 w w0.heap.size (fun _ => True) u1 l1) :
    Calls Try.prog 10 #[.agg #[u0, u1, .slice A2 0 c2, .slice A3 0 c3], .int .i64 1] w fun e w' => ∃ y1 : List S107, e = .returned (.int .i64 (m0 + 6 * l1.length)) ∧ Aside0 (y1.length = l1.length ∧ ∀ j : Int, 0 ≤ j → j < l1.length → rd_T107 y1 j = mkA T (m0 + 6 * j) (rd_T107 l1 j)) ∧ Kd.R k103 103 w' w0.heap.size (fun _ => True) u0 y0 ∧ Kd.R k107 107 w' w0.heap.size (fun _ => True) u1 y1 ∧ Below w0.heap.size w0 w' ∧ (K27 w w') := by
  have hsz := hB.size
  obtain ⟨W1, hW1⟩ : ∃ W1, W1 = w.alloc (.cells #[u0, u1, .slice A2 0 c2, .slice A3 0 c3] 27) := ⟨_, rfl⟩
  have HB1 := Aside0.mk (show Below w0.heap.size w0 W1 by rw [hW1]; exact below_alloc hB _)
  have HV1 := Aside0.mk (voters_typed (W := W1) (by rw [hW1]; exact Kd.R_alloc h0 _))
  have HA1 := Aside0.mk (askers_typed (W := W1) (by rw [hW1]; exact Kd.R_alloc h1 _))
  have BK1 := Aside0.mk (show W1.heap[w.heap.size]? = some (.cells #[u0, u1, .slice A2 0 c2, .slice A3 0 c3] 27 (0, 0)) by rw [hW1]; exact blk_new w _)
  have HT := Aside0.mk ht
  have HV := Aside0.mk hv
  have HL := Aside0.mk hl3
  have hnb := not27 BK1.out
  have HK0 : Aside0 (K27 w W1) := ⟨fun g o h => by rw [hW1]; exact blk_alloc h _⟩
  have HNB := Aside0.mk hnb
  clear hB h0 h1 ht hv hl3 hnb
  go_enter Try.func10, Try.ntmps10
  go_wp2_with (first | (go_at_call 44; rw [← hW1]; refine (laws_markVoterS.calls kv (isV W1) u0 l0 1 (m0 : Int) y0 w0 W1 HB1.out HV1.out HV.out).mono ?_; rintro e w2 ⟨rfl, hR, hb, hK⟩; have HR2 := Aside0.mk (voters_typed (Kd.R_mono hR (fun _ _ => trivial))); have HA2 := Aside0.mk (askers_typed (Kd.R_mono (Kd.R_kept HA1.out hK (fun _ hk => isA_notV hk)) (fun _ _ => trivial))); have HB2 := Aside0.mk hb; have BK2 := Aside0.mk (blk_kept BK1.out hK HNB.out.1); have HK2 : Aside0 (K27 w w2) := ⟨fun g o h => blk_kept (HK0.out g o h) hK (not27 (HK0.out g o h)).1⟩; clear hR hb hK; have z1 : w2.cell? ⟨w.heap.size, 1, none⟩ = some u1 := (blk_cell BK2.out 1).trans rfl) | (go_at_call 45; refine (markAsk_c T HT.out (isA w2) u1 l1 HL.out (m0 : Int) (by omega) (by omega) hl1 w0 w2 HB2.out ?hA).mono ?_; (case hA => exact HA2.out); rintro e w3 ⟨y1, rfl, hy, hR, hb, hK⟩; have HY := hy; have HR3 := Aside0.mk (Kd.R_kept HR2.out hK (fun k hk hn => isA_notV hn hk)); have HA3 := Aside0.mk hR; have HB3 := Aside0.mk hb; have BK3 := Aside0.mk (blk_kept BK2.out hK (not27 BK2.out).2); have HK3 : Aside0 (K27 w w3) := ⟨fun g o h => blk_kept (HK2.out g o h) hK (not27 (HK2.out g o h)).2⟩; clear hR hb hK hy; have z2 : w3.cell? ⟨w.heap.size, 2, none⟩ = some (.slice A2 0 c2) := (blk_cell BK3.out 2).trans rfl) | (go_at_call 46; refine (markNoteS_nil A2 c2 _ _).mono ?_; rintro e w4 ⟨rfl, hb⟩; have HB4 := Aside0.mk (below_step HB3.out hb); have HR4 := Aside0.mk (Kd.R_below HR3.out hb); have HA4 := Aside0.mk (Kd.R_below HA3.out hb); have BK4 := Aside0.mk (blk_below BK3.out hb); have HK4 : Aside0 (K27 w w4) := ⟨fun g o h => blk_below (HK3.out g o h) hb⟩; clear hb; have z3 : w4.cell? ⟨w.heap.size, 3, none⟩ = some (.slice A3 0 c3) := (blk_cell BK4.out 3).trans rfl) | (go_at_call 47; refine (markVoteS_nil A3 c3 _ _).mono ?_; rintro e w5 ⟨rfl, hb⟩; have HB5 := Aside0.mk (below_step HB4.out hb); have HR5 := Aside0.mk (Kd.R_below HR4.out hb); have HA5 := Aside0.mk (Kd.R_below HA4.out hb); have HK5 : Aside0 (K27 w w5) := ⟨fun g o h => blk_below (HK4.out g o h) hb⟩; clear hb))
  go_ret
  first | exact ⟨rfl, y1, HY, Kd.R_mono HR5.out (fun _ _ => trivial), Kd.R_mono HA5.out (fun _ _ => trivial), HB5.out, HK5.out⟩ | exact ⟨y1, rfl, HY, Kd.R_mono HR5.out (fun _ _ => trivial), Kd.R_mono HA5.out (fun _ _ => trivial), HB5.out, HK5.out⟩
end Go.Proofs.Ytieddpilcpdncaa.PNP
