/- The law FnExactWriteText returns true for every argument: the row. Conditions: none beyond the row's own. -/
import Derived.Test.YtfbghibgjfegpaaRows
import Derived.Test.YtfbghibgjfegpaaWTO
import Derived.Test.YtfbghibgjfegpaaOpenK
import Derived.WalkKit
import Derived.ProofKit
import Derived.OpenShut
import Derived.ShutString
import Derived.ChangeOld
import Derived.Below
import Derived.SizedLaws
import Derived.Test.YtfbghibgjfegpaaWSized
namespace Go.Proofs.Ytfbghibgjfegpaa.fnExactWriteText
open Go.ChangeShapes Go.WideShapes Go.ChangeAt Go.RowKit Go.Proofs.Ytfbghibgjfegpaa.OpenK Go.Proofs.Ytfbghibgjfegpaa.PWT Go.Proofs.YtfbghibgjfegpaaW.PrintWords
open Go.ChangeMaps (open_string shut_string)
set_option linter.unusedVariables false
theorem own : ownKnob Try.prog.godebug = none := by kernel_rfl
theorem laidOut : laidOutB Try.prog = true := by kernel_rfl
set_option maxRecDepth 100000 in
theorem copyO : Opn Try.prog 98 k98 (fun x => (Lit.int .i64 x.f0).wf = true ∧ (Lit.int .i64 x.f1).wf = true ∧ x.f2.size ≤ maxLen) :=
  Opn.iso (fun x : S98 => (x.f0, x.f1, x.f2)) (fun y => ⟨y.1, y.2.1, y.2.2⟩) (fun _ => rfl)
    (Opn.struct Try.underlying98 (by kernel_rfl) (Flds.more rfl (by kernel_rfl) (Opn.int Try.underlying3) (Flds.more rfl (by kernel_rfl) (Opn.int Try.underlying3) (Flds.one rfl (by kernel_rfl) (Opn.string Try.underlying9)))))
set_option maxRecDepth 100000 in
theorem votingO : Opn Try.prog 30 (Kd.pair (Kd.slice 98 k98) (Kd.pair (Kd.int .i64) (Kd.int .i64))) (fun x => (∀ y ∈ x.1, (Lit.int .i64 y.f0).wf = true ∧ (Lit.int .i64 y.f1).wf = true ∧ y.f2.size ≤ maxLen) ∧ (Lit.int .i64 x.2.1).wf = true ∧ (Lit.int .i64 x.2.2).wf = true) := by
  have h := Opn.struct (d := Kd.pair (Kd.slice 98 k98) (Kd.pair (Kd.int .i64) (Kd.int .i64))) Try.underlying30 (by kernel_rfl) (Flds.more rfl (by kernel_rfl) (Opn.slice Try.underlying28 (by kernel_rfl) copyO) (Flds.more rfl (by kernel_rfl) (Opn.int Try.underlying3) (Flds.one rfl (by kernel_rfl) (Opn.int Try.underlying3))))
  exact ⟨fun hx => h.op hx⟩
set_option maxRecDepth 100000 in
theorem intsO : Opn Try.prog 22 (Kd.slice 3 (Kd.int .i64)) (fun l => ∀ y ∈ l, (Lit.int .i64 y).wf = true) := Opn.slice Try.underlying22 (by kernel_rfl) (Opn.int Try.underlying3)
set_option maxRecDepth 100000 in
theorem lifted (os : Os) (started : os.Started) (H : Type) (enc : TypeId × Value → H) :
    ReturnsInHanded {} Try.checked os 11 .any (Rows.fnExactWriteTextSpec.pre6 enc Try.prog Try.f11 Rows.fnExactWriteTextRow.domain false) (Rows.fnExactWriteTextSpec.post enc Try.prog Try.f11 false true false false) := by
  refine returnsInHanded_of_change_sized (C := Try.checked) own started (by kernel_rfl) Try.func11
    (ChangeSpec.witness6 (enc := enc) (C := Try.checked) false ⟨#[], #[.agg #[.slice none 0 0, .int .i64 0, .int .i64 0], .slice none 0 0, .string ⟨#[]⟩], []⟩ 8 (by kernel_rfl) (by kernel_rfl) (by kernel_rfl) (by kernel_rfl)) ?_
  intro W base args ds gs before hval0 hW hcnd hsz0 _
  have hval : ∀ (j : Nat) t v, Try.f11.params[j]? = some t → args[j]? = some v → Value.okWide Try.prog W .any base t v := hval0
  have hW' := hW
  obtain ⟨p, q, hA0, hV, rfl, hfz, hnd⟩ := hW
  have hA : DataW.TrodAll enc Try.prog W 0 (fun _ => true) true Try.f11.params.toList args.toList ds p := hA0
  rw [Try.params11] at hA hval
  obtain ⟨v0, vs0, d0, ds0, p0, q0, hargs, rfl, rfl, h0, r0⟩ := trodAll_cons hA
  obtain ⟨v1, vs1, d1, ds1, p1, q1, rfl, rfl, rfl, h1, r1⟩ := trodAll_cons r0
  obtain ⟨v2, vs2, d2, ds2, p2, q2, rfl, rfl, rfl, h2, r2⟩ := trodAll_cons r1
  obtain ⟨rfl, rfl, rfl⟩ := trodAll_nil r2
  obtain rfl : args = #[v0, v1, v2] := by cases args; simp_all
  obtain ⟨rfl, rfl⟩ := trodVars_none hV
  obtain ⟨cs0, rfl, hcs0⟩ := okWide_struct Try.underlying30 (hval 0 30 v0 rfl rfl)
  have k0 := h0
  have lt0 : ∀ x ∈ p0, x.block < W.heap.size := by obtain ⟨m, hm⟩ := k0; exact DataW.trod_lt m _ _ _ hm
  obtain ⟨fuel0, hf0⟩ := h0
  obtain ⟨⟨l0, R0, W0⟩, ⟨_, _, he0, ⟨A0, c0, rfl, hlc0, hC0⟩, ⟨_, _, rfl, rfl, rfl⟩⟩, hq0, hR0, hW0⟩ := votingO.op hf0
  replace he0 : cs0.toList = [.slice A0 l0.length c0, .int .i64 R0, .int .i64 W0] := he0
  obtain rfl : cs0 = #[.slice A0 l0.length c0, .int .i64 R0, .int .i64 W0] := by
    cases cs0
    simpa using he0
  have hn0 : l0.length ≤ maxLen := hC0.2.1
  obtain ⟨A1', n1', c1', rfl⟩ := okWide_slice Try.underlying22 (hval 1 22 v1 rfl rfl)
  have k1 := h1
  have lt1 : ∀ x ∈ p1, x.block < W.heap.size := by obtain ⟨m, hm⟩ := k1; exact DataW.trod_lt m _ _ _ hm
  obtain ⟨fuel1, hf1⟩ := h1
  obtain ⟨l1, ⟨A1, c1, he1, hlc1, hC1⟩, hq1⟩ := intsO.op hf1
  replace he1 : [Value.slice A1' n1' c1'] = [.slice A1 l1.length c1] := he1
  obtain ⟨⟨rfl, rfl, rfl⟩, _⟩ : (A1' = A1 ∧ n1' = l1.length ∧ c1' = c1) ∧ True := by simpa using he1
  have hn1 : l1.length ≤ maxLen := hC1.2.1
  obtain ⟨s2, rfl⟩ := okWide_string Try.underlying9 (hval 2 9 v2 rfl rfl)
  have k2 := h2
  have lt2 : ∀ x ∈ p2, x.block < W.heap.size := by obtain ⟨m, hm⟩ := k2; exact DataW.trod_lt m _ _ _ hm
  clear hA0 hval0 hsz0
  refine (Pure.write_all A0 c0 l0 R0 W0 A1' c1' l1 s2 W hC0 hlc0 hC1 hlc1 hn0 (fun x hx => (hq0 x hx).2.2)).mono fun e W' ⟨he, bel⟩ => ?_
  subst he
  exact ⟨_, rfl, _, _, _, [], _, [], hW', trodAll_mk1 (shut_bool Try.underlying4 _), (trodAll_cons_mk (Below.trod laidOut (by kernel_rfl) (of_decide_eq_true (by kernel_rfl)) k0 bel lt0) (trodAll_cons_mk (Below.trod laidOut (by kernel_rfl) (of_decide_eq_true (by kernel_rfl)) k1 bel lt1) (trodAll_cons_mk (Below.trod laidOut (by kernel_rfl) (of_decide_eq_true (by kernel_rfl)) k2 bel lt2) trodAll_mk0))), rfl, bel.frame _, fun h => by cases h⟩
theorem over : Rows.fnExactWriteTextRow.holds Try.pinned (OpenSpec.ofChange Rows.fnExactWriteTextSpec) :=
  OpenClaim.holds_of_wide 11 Try.f11 rfl rfl rfl rfl rfl rfl rfl ⟨rfl, rfl, rfl, rfl, rfl⟩ rfl rfl rfl rfl rfl (by kernel_rfl) Try.func11 (by kernel_rfl)
    (of_decide_eq_true (by kernel_rfl)) (by unfold Func.isWrapper; first | (rw [if_pos (by decide +kernel)]; kernel_rfl) | (rw [if_neg (by decide +kernel)]; exact ⟨rfl, rfl⟩))
    (fun os started H enc _ => lifted os started H enc)
theorem proved : Rows.FnExactWriteTextSaid := over
end Go.Proofs.Ytfbghibgjfegpaa.fnExactWriteText
namespace Go.Proofs.Ytfbghibgjfegpaa
/-- The row, under a short name, for the claim. -/
theorem fnExactWriteText_holds : Rows.FnExactWriteTextSaid := fnExactWriteText.proved
end Go.Proofs.Ytfbghibgjfegpaa
