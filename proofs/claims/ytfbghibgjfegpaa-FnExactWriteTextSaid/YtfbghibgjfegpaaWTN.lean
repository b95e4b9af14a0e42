import Derived.Test.YtfbghibgjfegpaaWTM
namespace Go.Proofs.Ytfbghibgjfegpaa.PWT
open Go.RowKit Go.Proofs.YtfbghibgjfegpaaW.PrintWords Go.Proofs.YtfbghibgjfegpaaW.PrintLast Go.Proofs.YtfbghibgjfegpaaW.PrintMore
set_option linter.unusedVariables false
set_option linter.unusedSimpArgs false
set_option maxRecDepth 100000 in
theorem write_long (A : Option Addr) (c : Nat) (l : List S98) (R Wt : Int) (A1 : Option Addr) (c1 : Nat) (s : List Int) (t : ByteArray) (w : World) (hn : (s.length : Int) > 1048576) :
    Calls Try.prog 11 #[.agg #[.slice A l.length c, .int .i64 R, .int .i64 Wt], .slice A1 s.length c1, .string t] w fun e w' => e = .returned (.bool true) ∧ Below w.heap.size w w' := by
  have d1 : decide (1048576 < (s.length : Int)) = true := decide_eq_true (by omega)
  have HBX := Aside0.mk (below_alloc (Below.refl w.heap.size w) (.cells #[.slice A l.length c, .int .i64 R, .int .i64 Wt] 30))
  clear hn
  go_enter Try.func11, Try.ntmps11
  go_wp2
  go_ret
  exact ⟨rfl, HBX.out⟩
set_option maxRecDepth 100000 in
theorem write_text (A : Option Addr) (c : Nat) (l : List S98) (R Wt : Int) (A1 : Option Addr) (c1 : Nat) (s : List Int) (t : ByteArray) (w : World) (hn0 : ¬ (s.length : Int) > 1048576) (hn : (t.size : Int) > 1048576) :
    Calls Try.prog 11 #[.agg #[.slice A l.length c, .int .i64 R, .int .i64 Wt], .slice A1 s.length c1, .string t] w fun e w' => e = .returned (.bool true) ∧ Below w.heap.size w w' := by
  have d1 : decide (1048576 < (s.length : Int)) = false := decide_eq_false (by omega)
  have d5 : decide (1048576 < (t.size : Int)) = true := decide_eq_true (by omega)
  have HBX := Aside0.mk (below_alloc (Below.refl w.heap.size w) (.cells #[.slice A l.length c, .int .i64 R, .int .i64 Wt] 30))
  clear hn hn0
  go_enter Try.func11, Try.ntmps11
  go_wp2
  go_ret
  exact ⟨rfl, HBX.out⟩
set_option maxRecDepth 100000 in
theorem write_big (A : Option Addr) (c : Nat) (l : List S98) (R Wt : Int) (A1 : Option Addr) (c1 : Nat) (s : List Int) (t : ByteArray) (w : World) (hr : Kd.C k98 w A l.length l) (hc : l.length ≤ c) (hn : ¬ (s.length : Int) > 1048576) (hnt : ¬ (t.size : Int) > 1048576) (kz : Nat) (r : Int) (hz : laws_szVoting.f kz l R Wt 1048576 = some r) (hr0 : r < 0) :
    Calls Try.prog 11 #[.agg #[.slice A l.length c, .int .i64 R, .int .i64 Wt], .slice A1 s.length c1, .string t] w fun e w' => e = .returned (.bool true) ∧ Below w.heap.size w w' := by
  have HR := Aside0.mk hr
  have HC := Aside0.mk hc
  have HZ := Aside0.mk hz
  have d1 : decide (1048576 < (s.length : Int)) = false := decide_eq_false (by omega)
  have d5 : decide (1048576 < (t.size : Int)) = false := decide_eq_false (by omega)
  have d2 : decide (r < 0) = true := decide_eq_true hr0
  have HBX := Aside0.mk (below_alloc (Below.refl w.heap.size w) (.cells #[.slice A l.length c, .int .i64 R, .int .i64 Wt] 30))
  clear hn hnt hr hc hz hr0
  go_enter Try.func11, Try.ntmps11
  go_wp2_with (first | (go_at_call 17; refine (laws_szVoting.calls kz A c l R Wt 1048576 r _ (Kd.C_alloc HR.out _) HC.out HZ.out).mono ?_; rintro e w2 ⟨rfl, hb⟩; have HB2 := Aside0.mk (below_step HBX.out hb); clear hb))
  go_ret
  exact ⟨rfl, HB2.out⟩
end Go.Proofs.Ytfbghibgjfegpaa.PWT
