import Derived.Test.YtemamcbdjfabnaaGreatDoorCVVPC
import Derived.Test.YtemamcbdjfabnaaGreatDoorCVVLB
/- CompareValue: the reference's. Conditions: texts of moderate size. -/
namespace Go.Proofs.YtemamcbdjfabnaaGreatDoor.VT
open Go.RowKit Go.Proofs.YtemamcbdjfabnaaGreatDoor.PVG Go.Proofs.YtemamcbdjfabnaaGreatDoorW.PrintWords Go.Proofs.YtemamcbdjfabnaaGreatDoorW.PrintLast Go.Proofs.YtemamcbdjfabnaaGreatDoorW.PrintMore
set_option linter.unusedVariables false
set_option linter.unusedSimpArgs false
theorem lc_go (t u : Tr) (w : World) (A3 : Option Addr) (c3 : Nat) (A4 : Option Addr) (c4 : Nat) (B3 : Option Addr) (d3 : Nat) (B4 : Option Addr) (d4 : Nat) (h1 : SAt w t A3 c3 A4 c4) (h2 : SAt w u B3 d3 B4 d4) (h3 : wf t = true) (h4 : wf u = true) (h5 : cnt t ≤ 80) (h6 : cnt u ≤ 80) :
    Calls Tryz.prog 63 #[.agg #[.int .i64 t.kd, .int .i64 t.nu, .string t.tx, .slice A3 t.ns.length c3, .slice A4 t.ks.length c4], .agg #[.int .i64 u.kd, .int .i64 u.nu, .string u.tx, .slice B3 u.ns.length d3, .slice B4 u.ks.length d4]] w fun e w' => e = .returned (.int .i64 (cmpT t u)) ∧ Below w.heap.size w w' :=
  lc_c t u w A3 c3 A4 c4 B3 d3 B4 d4 h1 h2 h3 h4 h5 h6
/-- How two values stand to each other. -/
def cmpV (a b : Option Tr) : Int := match a, b with
  | some t, some u => cmpT t u
  | _, _ => 0
theorem tree_c {l : List S54} {t : Tr} (h : valT l = some t) (A : Option Addr) (c : Nat) (w : World) (hr : Kd.C k54 w A l.length l) (hc : l.length ≤ c) :
    Calls Tryz.prog 53 #[.agg #[.slice A l.length c], .int .i64 0] w fun e w' => ∃ A3 c3 A4 c4, e = .returned (.agg #[.int .i64 t.kd, .int .i64 t.nu, .string t.tx, .slice A3 t.ns.length c3, .slice A4 t.ks.length c4]) ∧ SAt w' t A3 c3 A4 c4 ∧ Below w.heap.size w w' := by
  obtain ⟨rfl, h2, h3, h4, h5⟩ := valT_iff.1 h
  obtain ⟨k, hk⟩ := (tree_ev t (Pl.root h2 h4)).rounds
  refine (spec_l1Tree.calls k A c _ 0 _ _ _ _ _ w hr hc hk).mono fun e w' hp => ?_
  obtain ⟨v3, v4, rfl, g3, g4, hb⟩ := hp
  obtain ⟨A3, c3, rfl⟩ := Kd.R_slice g3
  obtain ⟨A4, c4, rfl⟩ := Kd.R_slice g4
  have q4 := (Kd.R_reads' g4).2
  rw [toSL_len] at q4
  exact ⟨A3, c3, A4, c4, by rw [toSL_len], ⟨(Kd.R_reads' g3).2.1, (Kd.R_reads' g3).2.2, q4.1, q4.2⟩, hb⟩
set_option maxRecDepth 100000 in
set_option maxHeartbeats 8000000 in
theorem scmp_c {la lb : List S54} (hs : Small la) (hs2 : Small lb) (A : Option Addr) (c : Nat) (B : Option Addr) (d : Nat) (w : World) (hr : Kd.C k54 w A la.length la) (hc : la.length ≤ c) (hr2 : Kd.C k54 w B lb.length lb) (hc2 : lb.length ≤ d) :
    Calls Tryz.prog 37 #[.agg #[.slice A la.length c], .agg #[.slice B lb.length d]] w fun e w' => e = .returned (.tuple #[.int .i64 (cmpV (valT la) (valT lb)), .bool ((valT la).isSome && (valT lb).isSome)]) ∧ Below w.heap.size w w' := by
  have GA := Aside0.mk (show ∀ W, Below w.heap.size w W → Calls Tryz.prog 19 #[.agg #[.slice A la.length c]] W fun e w' => e = .returned (.bool (valT la).isSome) ∧ Below W.heap.size W w' from fun W hb => sgood_c hs A c W (Kd.C_below hr hb) hc)
  have GB := Aside0.mk (show ∀ W, Below w.heap.size w W → Calls Tryz.prog 19 #[.agg #[.slice B lb.length d]] W fun e w' => e = .returned (.bool (valT lb).isSome) ∧ Below W.heap.size W w' from fun W hb => sgood_c hs2 B d W (Kd.C_below hr2 hb) hc2)
  have HR := Aside0.mk hr
  have HC := Aside0.mk hc
  have HR2 := Aside0.mk hr2
  have HC2 := Aside0.mk hc2
  have B2 := Aside0.mk (below_alloc (below_alloc (Below.refl w.heap.size w) (.cells #[.slice A la.length c] 24)) (.cells #[.slice B lb.length d] 24))
  have KA := Aside0.mk (blk_below (blk_new w (.cells #[.slice A la.length c] 24)) (below_alloc (Below.refl _ _) (.cells #[.slice B lb.length d] 24)))
  have KB := Aside0.mk (blk_new (w.alloc (.cells #[.slice A la.length c] 24)) (.cells #[.slice B lb.length d] 24))
  clear hr hc hr2 hc2 hs hs2
  go_enter Tryz.func37, Tryz.ntmps37
  go_upto_region 1 with fail
  obtain ⟨W2, hW2⟩ : ∃ W2, W2 = (w.alloc (.cells #[.slice A la.length c] 24)).alloc (.cells #[.slice B lb.length d] 24) := ⟨_, rfl⟩
  obtain ⟨ga, hga⟩ : ∃ g, g = w.heap.size := ⟨_, rfl⟩
  obtain ⟨gb, hgb⟩ : ∃ g, g = w.heap.size + 1 := ⟨_, rfl⟩
  have BX := B2.out
  have KAX := KA.out
  have KBX := KB.out
  clear B2 KA KB
  rw [← hW2] at BX KAX KBX
  have B2 := Aside0.mk BX
  have KB := Aside0.mk (show W2.heap[gb]? = some (.cells #[.slice B lb.length d] 24 (0, 0)) by rw [hgb]; rw [show (w.alloc (.cells #[.slice A la.length c] 24)).heap.size = w.heap.size + 1 by simp] at KBX; exact KBX)
  have KA := Aside0.mk (show W2.heap[ga]? = some (.cells #[.slice A la.length c] 24 (0, 0)) by rw [hga]; exact KAX)
  rw [← hW2, ← hgb]
  simp only [show w.heap.size = ga from hga.symm]
  clear BX KAX KBX hgb hga hW2
  have C := Aside0.mk (show ∀ W, Below W2.heap.size W2 W → W.cell? ⟨ga, 0, none⟩ = some (.slice A la.length c) ∧ W.cell? ⟨gb, 0, none⟩ = some (.slice B lb.length d) from fun W hb => ⟨(blk_cell (blk_below KA.out hb) 0).trans rfl, (blk_cell (blk_below KB.out hb) 0).trans rfl⟩)
  obtain ⟨p0, p1⟩ := C.out W2 (Below.refl _ _)
  clear KA KB
  cases hp : valT la with
  | none =>
    have hg : (valT la).isSome = false := by rw [hp]; rfl
    have HG := Aside0.mk hg
    have R := Aside0.mk (show cmpV (valT la) (valT lb) = 0 ∧ ((valT la).isSome && (valT lb).isSome) = false by rw [hp]; exact ⟨rfl, rfl⟩)
    clear hp hg
    go_wp2_with (first | (go_at_call 19; (with_reducible refine (GA.out _ B2.out).mono ?_); rintro e w3 ⟨rfl, hb⟩; rw [HG.out]; have B3 := Aside0.mk (below_step B2.out hb); clear hb))
    go_ret2
    exact ⟨by rw [R.out.1, R.out.2]; rfl, B3.out⟩
  | some t =>
    have hg : (valT la).isSome = true := by rw [hp]; rfl
    have HG := Aside0.mk hg
    have HP := Aside0.mk hp
    clear hp hg
    cases hq : valT lb with
    | none =>
      have hg : (valT lb).isSome = false := by rw [hq]; rfl
      have HG2 := Aside0.mk hg
      have R := Aside0.mk (show cmpV (valT la) (valT lb) = 0 ∧ ((valT la).isSome && (valT lb).isSome) = false by rw [HP.out, hq]; exact ⟨rfl, rfl⟩)
      clear hq hg
      go_wp2_with (first | (go_at_call 19; (with_reducible refine (GA.out _ B2.out).mono ?_); rintro e w3 ⟨rfl, hb⟩; rw [HG.out]; have B3 := Aside0.mk (below_step B2.out hb); have q := C.out _ hb; have q0 := q.1; have q1 := q.2; clear hb q) | (go_at_call 19; (with_reducible refine (GB.out _ B3.out).mono ?_); rintro e w4 ⟨rfl, hb⟩; rw [HG2.out]; have B4 := Aside0.mk (below_step B3.out hb); clear hb))
      go_ret2
      exact ⟨by rw [R.out.1, R.out.2]; rfl, B4.out⟩
    | some u =>
      have hg : (valT lb).isSome = true := by rw [hq]; rfl
      have HG2 := Aside0.mk hg
      have R := Aside0.mk (show cmpV (valT la) (valT lb) = cmpT t u ∧ ((valT la).isSome && (valT lb).isSome) = true by rw [HP.out, hq]; exact ⟨rfl, rfl⟩)
      have HQ := Aside0.mk hq
      have FA := Aside0.mk (valT_iff.1 HP.out).2
      have FB := Aside0.mk (valT_iff.1 HQ.out).2
      clear hq hg
      go_upto_region 3 with (first | (go_at_call 19; (with_reducible refine (GA.out _ B2.out).mono ?_); rintro e w3 ⟨rfl, hb⟩; rw [HG.out]; have U3 := Aside0.mk hb; have B3 := Aside0.mk (below_step B2.out hb); have q := C.out _ hb; have q0 := q.1; have q1 := q.2; clear hb q) | (go_at_call 19; (with_reducible refine (GB.out _ B3.out).mono ?_); rintro e w4 ⟨rfl, hb⟩; rw [HG2.out]; have B4 := Aside0.mk (below_step B3.out hb); have U4 := Aside0.mk (U3.out.trans (below_B hb U3.out.size)); clear hb))
      clear p0 p1 q0 q1
      obtain ⟨p0, p1⟩ := C.out _ U4.out
      go_region_held3 (fun w' => w'.cell? ⟨ga, 0, none⟩ = some (.slice A la.length c) ∧ w'.cell? ⟨gb, 0, none⟩ = some (.slice B lb.length d)) (go_keep) (first | (go_at_call 53; (with_reducible refine (tree_c HP.out A c _ (Kd.C_below HR.out (below_drew1 B4.out)) HC.out).mono ?_); rintro e w5 ⟨A3, c3, A4, c4, rfl, s5, hb⟩; have S5 := Aside0.mk s5; have B5 := Aside0.mk (below_step (below_drew1 B4.out) hb); have U5 := Aside0.mk ((below_drew1 U4.out).trans (below_B hb (below_drew1 U4.out).size)); clear s5 hb; obtain ⟨z0, z1⟩ := C.out _ U5.out) | (go_at_call 53; (with_reducible refine (tree_c HQ.out B d _ (Kd.C_below HR2.out B5.out) HC2.out).mono ?_); rintro e w6 ⟨B3, d3, B4', d4, rfl, s6, hb⟩; have S6 := Aside0.mk s6; have S56 := Aside0.mk (S5.out.below hb); have B6 := Aside0.mk (below_step B5.out hb); have U6 := Aside0.mk (U5.out.trans (below_B hb U5.out.size)); clear s6 hb; obtain ⟨y0, y1⟩ := C.out _ U6.out) | (go_at_call 63; (with_reducible refine (lc_go t u _ A3 c3 A4 c4 B3 d3 B4' d4 S56.out S6.out FA.out.1 FB.out.1 FA.out.2.2.1 FB.out.2.2.1).mono ?_); rintro e w7 ⟨rfl, hb⟩; have B7 := Aside0.mk (below_step B6.out hb); have U7 := Aside0.mk (U6.out.trans (below_B hb U6.out.size)); clear hb; obtain ⟨x0, x1⟩ := C.out _ U7.out))
      all_goals
        go_wp2_with fail
        go_ret2
        exact ⟨by rw [R.out.1, R.out.2]; rfl, B7.out⟩
end Go.Proofs.YtemamcbdjfabnaaGreatDoor.VT
