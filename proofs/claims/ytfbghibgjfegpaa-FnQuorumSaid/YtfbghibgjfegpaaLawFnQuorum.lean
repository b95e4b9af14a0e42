/- The law FnQuorum returns true for every argument: the row. Conditions: none beyond the row's own. -/
import Derived.Test.YtfbghibgjfegpaaRows
import Derived.Test.YtfbghibgjfegpaaRQQ
import Derived.Test.YtfbghibgjfegpaaOpenK
import Derived.WalkKit
import Derived.ProofKit
import Derived.OpenShut
import Derived.ShutString
import Derived.ChangeOld
import Derived.Below
import Derived.SizedLaws
import Derived.Test.YtfbghibgjfegpaaWSized
namespace Go.Proofs.Ytfbghibgjfegpaa.fnQuorum
open Go.ChangeShapes Go.WideShapes Go.ChangeAt Go.RowKit Go.Proofs.Ytfbghibgjfegpaa.OpenK Go.Proofs.Ytfbghibgjfegpaa.PRQ Go.Proofs.YtfbghibgjfegpaaW.PrintWords
open Go.ChangeMaps (open_string shut_string)
set_option linter.unusedVariables false
theorem byte_wf {y : Int} (h : (Lit.int .u8 y).wf = true) : 0 ≤ y ∧ y ≤ 255 := by
  simp [Lit.wf, IntKind.min, IntKind.max, IntKind.bits, IntKind.signed] at h
  omega
theorem own : ownKnob Try.prog.godebug = none := by kernel_rfl
theorem laidOut : laidOutB Try.prog = true := by kernel_rfl
set_option maxRecDepth 100000 in
theorem bytesO : Opn Try.prog 51 (Kd.slice 5 (Kd.int .u8)) (fun l => ∀ y ∈ l, (Lit.int .u8 y).wf = true) := Opn.slice Try.underlying51 (by kernel_rfl) (Opn.int Try.underlying5)
set_option maxRecDepth 100000 in
theorem lifted (os : Os) (started : os.Started) (H : Type) (enc : TypeId × Value → H) :
    ReturnsInHanded {} Try.checked os 12 .any (Rows.fnQuorumSpec.pre6 enc Try.prog Try.f12 Rows.fnQuorumRow.domain false) (Rows.fnQuorumSpec.post enc Try.prog Try.f12 false true false false) := by
  refine returnsInHanded_of_change_sized (C := Try.checked) own started (by kernel_rfl) Try.func12
    (ChangeSpec.witness6 (enc := enc) (C := Try.checked) false ⟨#[], #[.slice none 0 0, .slice none 0 0], []⟩ 8 (by kernel_rfl) (by kernel_rfl) (by kernel_rfl) (by kernel_rfl)) ?_
  intro W base args ds gs before hval0 hW hcnd hsz0 _
  have hval : ∀ (j : Nat) t v, Try.f12.params[j]? = some t → args[j]? = some v → Value.okWide Try.prog W .any base t v := hval0
  have hW' := hW
  obtain ⟨p, q, hA0, hV, rfl, hfz, hnd⟩ := hW
  have hA : DataW.TrodAll enc Try.prog W 0 (fun _ => true) true Try.f12.params.toList args.toList ds p := hA0
  rw [Try.params12] at hA hval
  obtain ⟨v0, vs0, d0, ds0, p0, q0, hargs, rfl, rfl, h0, r0⟩ := trodAll_cons hA
  obtain ⟨v1, vs1, d1, ds1, p1, q1, rfl, rfl, rfl, h1, r1⟩ := trodAll_cons r0
  obtain ⟨rfl, rfl, rfl⟩ := trodAll_nil r1
  obtain rfl : args = #[v0, v1] := by cases args; simp_all
  obtain ⟨rfl, rfl⟩ := trodVars_none hV
  obtain ⟨A0', n0', c0', rfl⟩ := okWide_slice Try.underlying51 (hval 0 51 v0 rfl rfl)
  have k0 := h0
  have lt0 : ∀ x ∈ p0, x.block < W.heap.size := by obtain ⟨m, hm⟩ := k0; exact DataW.trod_lt m _ _ _ hm
  obtain ⟨fuel0, hf0⟩ := h0
  obtain ⟨l0, ⟨A0, c0, he0, hlc0, hC0⟩, hq0⟩ := bytesO.op hf0
  replace he0 : [Value.slice A0' n0' c0'] = [.slice A0 l0.length c0] := he0
  obtain ⟨⟨rfl, rfl, rfl⟩, _⟩ : (A0' = A0 ∧ n0' = l0.length ∧ c0' = c0) ∧ True := by simpa using he0
  obtain ⟨A1', n1', c1', rfl⟩ := okWide_slice Try.underlying51 (hval 1 51 v1 rfl rfl)
  have k1 := h1
  have lt1 : ∀ x ∈ p1, x.block < W.heap.size := by obtain ⟨m, hm⟩ := k1; exact DataW.trod_lt m _ _ _ hm
  obtain ⟨fuel1, hf1⟩ := h1
  obtain ⟨l1, ⟨A1, c1, he1, hlc1, hC1⟩, hq1⟩ := bytesO.op hf1
  replace he1 : [Value.slice A1' n1' c1'] = [.slice A1 l1.length c1] := he1
  obtain ⟨⟨rfl, rfl, rfl⟩, _⟩ : (A1' = A1 ∧ n1' = l1.length ∧ c1' = c1) ∧ True := by simpa using he1
  clear hA0 hval0 hsz0
  refine (quo_all A0' c0' l0 A1' c1' l1 W hC0 (fun y hy => byte_wf (hq0 y hy)) hC1 (fun y hy => byte_wf (hq1 y hy))).mono fun e W' ⟨he, bel⟩ => ?_
  subst he
  exact ⟨_, rfl, _, _, _, [], _, [], hW', trodAll_mk1 (shut_bool Try.underlying4 _), (trodAll_cons_mk (Below.trod laidOut (by kernel_rfl) (of_decide_eq_true (by kernel_rfl)) k0 bel lt0) (trodAll_cons_mk (Below.trod laidOut (by kernel_rfl) (of_decide_eq_true (by kernel_rfl)) k1 bel lt1) trodAll_mk0)), rfl, bel.frame _, fun h => by cases h⟩
theorem over : Rows.fnQuorumRow.holds Try.pinned (OpenSpec.ofChange Rows.fnQuorumSpec) :=
  OpenClaim.holds_of_wide 12 Try.f12 rfl rfl rfl rfl rfl rfl rfl ⟨rfl, rfl, rfl, rfl, rfl⟩ rfl rfl rfl rfl rfl (by kernel_rfl) Try.func12 (by kernel_rfl)
    (of_decide_eq_true (by kernel_rfl)) (by unfold Func.isWrapper; first | (rw [if_pos (by decide +kernel)]; kernel_rfl) | (rw [if_neg (by decide +kernel)]; exact ⟨rfl, rfl⟩))
    (fun os started H enc _ => lifted os started H enc)
theorem proved : Rows.FnQuorumSaid := over
end Go.Proofs.Ytfbghibgjfegpaa.fnQuorum
namespace Go.Proofs.Ytfbghibgjfegpaa
/-- The row, under a short name, for the claim. -/
theorem fnQuorum_holds : Rows.FnQuorumSaid := fnQuorum.proved
end Go.Proofs.Ytfbghibgjfegpaa
