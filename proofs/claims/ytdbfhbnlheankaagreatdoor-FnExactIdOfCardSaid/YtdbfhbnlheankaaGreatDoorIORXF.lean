import Derived.Test.YtdbfhbnlheankaaGreatDoorIORXE
import Derived.Handy
import Derived.Test.YtdbfhbnlheankaaGreatDoorIOPVGx0
/- A text within its signs: strings.NewReplacer and its Replace, walked whole. Conditions: the text is of at most 2^30 bytes. -/
namespace Go.Proofs.YtdbfhbnlheankaaGreatDoor.RX
open Go.RowKit Go.Proofs.YtdbfhbnlheankaaGreatDoor.PVG Go.Proofs.YtdbfhbnlheankaaGreatDoorW.PrintWords Go.Proofs.YtdbfhbnlheankaaGreatDoorW.PrintLast Go.Proofs.YtdbfhbnlheankaaGreatDoorW.PrintMore
set_option linter.unusedVariables false
set_option linter.unusedSimpArgs false
theorem Ready.bel {w00 : World} {b : Nat} {W : World} (h : Ready w00 b W) : Below w00.heap.size w00 W := by
  obtain ⟨gB, hR, _⟩ := h.out
  exact hR.bel
set_option maxRecDepth 100000 in
set_option maxHeartbeats 1600000 in
theorem replaceAll_c (w00 : World) (b g c : Nat) (s : ByteArray) (w : World) (hb : w.heap[b]? = some (.cells #[.int .u32 0, .int .i32 0, .int .u32 0, .nilIface, .slice (some ⟨g, 0, none⟩) 4 c] 154 (0, 0))) (hA : Kd.C Kd.string w (some ⟨g, 0, none⟩) 4 old4) (hg : g ≠ b) (hB : Below w00.heap.size w00 w) (hbase : w00.heap.size ≤ b) (hs : s.size ≤ 1073741824) :
    Calls Tryz.prog 100 #[.pointer (some ⟨b, 0, none⟩), .string s] w fun e w' => e = .returned (.string ⟨(quoteL s.data.toList).toArray⟩) ∧ Below w00.heap.size w00 w' := by
  have hmf : ∀ (fn : Fn) (first cap : Array Value) (w : World), (Instr.makeFunc fn first cap).run Tryz.prog w = .ok (.func fn first cap) w := fun _ _ _ _ => rfl
  have HB := Aside0.mk hb
  have HA := Aside0.mk hA
  clear hb hA
  go_enter Tryz.func100, Tryz.ntmps100
  go_upto_region 2 with (first | (go_at_call 123; refine (do_c w00 b g c _ HB.out HA.out hg hB hbase).mono ?_; rintro e w2 ⟨rfl, HQ⟩))
  obtain ⟨gB, hR, hK⟩ := HQ.out.out
  have HR := Aside0.mk hR
  obtain ⟨k1, k2, g2, c1, c2, c3, hat⟩ := hR.at_
  have HAT := Aside0.mk hat
  have d3 : w2.cell? ⟨b, 3, none⟩ = some (.iface 207 (.pointer (some ⟨gB, 0, none⟩))) := (blk_cell hK 3).trans rfl
  clear hR hat hK HB HA
  go_wp2_with (first | (go_at_call 257; refine (replace_c gB k1 k2 g2 c1 c2 c3 s _ HAT.out hs).mono ?_; rintro e w4 ⟨rfl, hb4⟩; have B4 := Aside0.mk (below_step HR.out.bel hb4); clear hb4))
  go_ret
  exact ⟨rfl, B4.out⟩
theorem C_old4 (w : World) : Kd.C Kd.string (w.alloc (.cells #[.string ⟨#[34]⟩, .string ⟨#[92, 34]⟩, .string ⟨#[92]⟩, .string ⟨#[92, 92]⟩] 9)) (some ⟨w.heap.size, 0, none⟩) 4 old4 :=
  Kd.C_of_reads (d := ByteArray.empty) ⟨rfl, by decide, fun _ => ⟨_, rfl, fun j hj => by
    have h := blk_new w (.cells #[.string ⟨#[34]⟩, .string ⟨#[92, 34]⟩, .string ⟨#[92]⟩, .string ⟨#[92, 92]⟩] 9)
    have e : ∀ j, ((⟨w.heap.size, 0, none⟩ : Addr).add j) = ⟨w.heap.size, j, none⟩ := fun j => by
      rcases Nat.eq_zero_or_pos j with rfl | h
      · rfl
      · rw [Addr.add, if_neg (by omega)]; simp
    rw [e, blk_cell h j]
    match j, hj with
    | 0, _ => rfl
    | 1, _ => rfl
    | 2, _ => rfl
    | 3, _ => rfl⟩⟩
/-- A text within its signs. -/
def quoted (s : ByteArray) : ByteArray := ⟨#[34]⟩ ++ ⟨(quoteL s.data.toList).toArray⟩ ++ ⟨#[34]⟩
set_option maxRecDepth 100000 in
set_option maxHeartbeats 1600000 in
theorem written_c (s : ByteArray) (w : World) (hs : s.size ≤ 1073741824) :
    Calls Tryz.prog 117 #[.string s] w fun e w' => e = .returned (.string (quoted s)) ∧ Below w.heap.size w w' := by
  have hq : (quoteL s.data.toList).length ≤ 2147483648 := by have h1 := quoteL_len s.data.toList; have h2 := spn_le s.data.toList; have h3 := dlen s; omega
  have q1 : ¬ (9223372036854775807 < 1 + (quoteL s.data.toList).length) := by omega
  have q2 : ¬ (9223372036854775807 < 1 + (quoteL s.data.toList).length + 1) := by omega
  clear hq
  go_enter Tryz.func117, Tryz.ntmps117
  go_wp2_with (first | (go_at_call 99; obtain ⟨W1, hW1⟩ : ∃ W1, W1 = w.alloc (.cells #[.string ⟨#[34]⟩, .string ⟨#[92, 34]⟩, .string ⟨#[92]⟩, .string ⟨#[92, 92]⟩] 9) := ⟨_, rfl⟩; have B1 := Aside0.mk (show Below w.heap.size w W1 by rw [hW1]; exact below_alloc (Below.refl _ _) _); have C1 := Aside0.mk (show Kd.C Kd.string W1 (some ⟨w.heap.size, 0, none⟩) 4 old4 by rw [hW1]; exact C_old4 w); rw [← hW1]; clear hW1; refine (newRep_c w.heap.size 4 W1 C1.out).mono ?_; rintro e w2 ⟨b, g, c, rfl, h1, h2, h3, h4, h5⟩; have Q := Aside0.mk (And.intro h1 (And.intro h2 (And.intro h3 (And.intro (below_step B1.out h4) (Nat.le_trans B1.out.size h5))))); clear h1 h2 h3 h4 h5 C1) | (go_at_call 100; refine (replaceAll_c w b g c s w2 Q.out.1 Q.out.2.1 Q.out.2.2.1 Q.out.2.2.2.1 Q.out.2.2.2.2 hs).mono ?_; rintro e w3 ⟨rfl, hb3⟩; have B3 := Aside0.mk hb3; clear hb3))
  go_ret
  exact ⟨rfl, B3.out⟩
end Go.Proofs.YtdbfhbnlheankaaGreatDoor.RX
