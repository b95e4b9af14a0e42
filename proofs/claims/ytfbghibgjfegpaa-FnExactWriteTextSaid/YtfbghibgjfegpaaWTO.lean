/- The program's WriteText returns what the reference's returns, for all arguments: the pure side. Conditions: none beyond the row's own. -/
import Derived.Test.YtfbghibgjfegpaaLibWT
namespace Go.Proofs.Ytfbghibgjfegpaa.Pure
open Go.RowKit Go.Proofs.Ytfbghibgjfegpaa.PWT Go.Proofs.YtfbghibgjfegpaaW.PrintWords Go.Proofs.YtfbghibgjfegpaaW.PrintLast
set_option linter.unusedSimpArgs false
theorem wt_len (l : List S57) (R W : Int) (s : List Int) (t : ByteArray) : (writeTextV l R W s t).1.length ≤ l.length := by
  unfold writeTextV
  split
  · rw [writtenV_len]; exact Nat.le_refl _
  · simp
theorem markIntS_at (l : List Int) (hn : l.length ≤ 1073741824) (m : Int) (h0 : 0 ≤ m) (h1 : m ≤ 100000000000) : ∃ m', 0 ≤ m' ∧ ∃ y, Ev (fun k => laws_markIntS.f k l m) (m', y) :=
  markIntS_l l.length hn l.length l m 0 rfl h0 (by omega) (by omega) (by omega) (by omega)
theorem write_all (A : Option Addr) (c : Nat) (l : List S98) (R W : Int) (A1 : Option Addr) (c1 : Nat) (s : List Int) (t : ByteArray) (w : World) (hr0 : Kd.C k98 w A l.length l) (hc : l.length ≤ c) (hs1 : Kd.C (Kd.int .i64) w A1 s.length s) (hc1 : s.length ≤ c1) (hn : l.length ≤ maxLen) (hs : ∀ x ∈ l, x.f2.size ≤ maxLen) :
    Calls Try.prog 11 #[.agg #[.slice A l.length c, .int .i64 R, .int .i64 W], .slice A1 s.length c1, .string t] w fun e w' => e = .returned (.bool true) ∧ Below w.heap.size w w' := by
  by_cases h1 : (s.length : Int) > 1048576
  · exact write_long A c l R W A1 c1 s t w h1
  by_cases h2 : (t.size : Int) > 1048576
  · exact write_text A c l R W A1 c1 s t w h1 h2
  obtain ⟨r, hz, hr⟩ := szVoting_ev l R W hn hs
  obtain ⟨kz, hz⟩ := hz.rounds
  by_cases q : r < 0
  · exact write_big A c l R W A1 c1 s t w hr0 hc h1 h2 kz r hz q
  have hl : l.length ≤ 1073741824 := by have := hr q; omega
  have hsl : s.length ≤ 1073741824 := by omega
  have hcl : (cvL l).length ≤ 1073741824 := by rw [cvL_len]; exact hl
  obtain ⟨kt, hT⟩ := (toVoting_ev l R W hl).rounds
  obtain ⟨ki, hI⟩ := (toIntS_ev s hsl).rounds
  obtain ⟨kc, hE⟩ := (eqVoting_ev (cvL l) R W hcl).rounds
  obtain ⟨kei, hEI⟩ := (eqIntS_ev s hsl).rounds
  obtain ⟨ks, hS⟩ := (specWrite_ev (cvL l) R W s t hcl hsl).rounds
  have hP : impl_WriteText.f (cvL l) R W s t = some (writeTextV (cvL l) R W s t) := rfl
  have hLn := Nat.le_trans (wt_len (cvL l) R W s t) hcl
  rcases hv : writeTextV (cvL l) R W s t with ⟨L, R', W', b⟩
  rw [hv] at hS hP hLn
  obtain ⟨ke, hEL⟩ := (eqVoting_ev L R' W' hLn).rounds
  obtain ⟨yk, hMk, _⟩ := mark_at (cvL l) R W hcl
  obtain ⟨kx, hMk⟩ := hMk.rounds
  obtain ⟨mi, hmi, yi, hMI⟩ := markIntS_at s hsl (1 + 3 * ((cvL l).length : Int)) (by omega) (by omega)
  obtain ⟨km, hMI⟩ := hMI.rounds
  obtain ⟨m, y, hm, hM, hH⟩ := mark_held L R' W' hLn
  obtain ⟨kg, hM⟩ := hM.rounds
  obtain ⟨kh, hH⟩ := hH.rounds
  exact write_law A c l R W A1 c1 s w hr0 hc hs1 hc1 h1 t h2 ks kz kt ki ke kc kei kx km kg kh r hz q (cvL l) hT hI L R' W' b hS hP hEL hE hEI _ yk hMk mi yi hMI hmi m y hM hm hH
end Go.Proofs.Ytfbghibgjfegpaa.Pure
