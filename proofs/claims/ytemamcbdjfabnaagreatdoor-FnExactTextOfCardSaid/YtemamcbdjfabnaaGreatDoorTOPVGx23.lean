import Derived.Test.YtemamcbdjfabnaaGreatDoorTOPVGx0
import Derived.Test.YtemamcbdjfabnaaGreatDoorTOPVGx2
import Derived.Test.YtemamcbdjfabnaaGreatDoorTOPVGx13
import Derived.Test.YtemamcbdjfabnaaGreatDoorTOPVGx15
import Derived.Test.YtemamcbdjfabnaaGreatDoorTOPVGx22
-- Laid by this session's wip/pr.py over the kit's printer and the session's own contracts.
namespace Go.Proofs.YtemamcbdjfabnaaGreatDoor.PVG
open Go.RowKit Go.Proofs.YtemamcbdjfabnaaGreatDoorW.PrintWords Go.Proofs.YtemamcbdjfabnaaGreatDoorW.PrintLast Go.Proofs.YtemamcbdjfabnaaGreatDoorW.PrintMore
attribute [local go_sem] max2_int min2_int max_two min_two max_three min_three max_four min_four   -- for this text's walks alone
set_option linter.unusedVariables false
set_option linter.unusedSimpArgs false

/-! ### laws_FnExactTextOf: function 3 -/
mutual
def laws_FnExactTextOf.j0 : Nat → ByteArray → Bool → Bool → List (S54) → List (S54) → Option (Bool)
 | 0, _, _, _, _, _ => none
 | k + 1, x0, x4, x32, x439000, x444000 => if x32 = true then (some false) else ((laws_markValue.f k x444000 1).bind fun bt445 => ((laws_heldValue.f k bt445.2 1).bind fun t447 => (if t447 < 0 then (some false) else (if t447 = bt445.1 then ((impl_TextOf.f x0).bind fun bt448 => ((laws_eqValue.f k bt448.1 x439000).bind fun t453 => (if t453 = true then (laws_FnExactTextOf.j1 k bt445.1 (bt448.2 != x4) bt445.2) else (laws_FnExactTextOf.j1 k bt445.1 true bt445.2)))) else (some false)))))
def laws_FnExactTextOf.j1 : Nat → Int → Bool → List (S54) → Option (Bool)
 | 0, _, _, _ => none
 | k + 1, x7, x57, x444000 => if x57 = true then (some false) else ((laws_heldValue.f k x444000 1).bind fun t454 => (if t454 < 0 then (some false) else (if t454 = x7 then (some true) else (some false))))
end
def laws_FnExactTextOf.f (k : Nat) (a0 : ByteArray) : Option (Bool) := if (a0.size : Int) > 1048576 then (some true) else ((spec_TextOf.f k a0).bind fun bt434 => ((impl_TextOf.f a0).bind fun bt439 => ((laws_eqValue.f k bt439.1 bt434.1).bind fun t444 => (if t444 = true then (laws_FnExactTextOf.j0 k a0 bt434.2 (bt439.2 != bt434.2) bt434.1 bt439.1) else (laws_FnExactTextOf.j0 k a0 bt434.2 true bt434.1 bt439.1)))))
set_option maxHeartbeats 8000000 in
set_option maxRecDepth 100000 in
theorem laws_FnExactTextOf.calls (k : Nat) (a0 : ByteArray) (w : World) (htt : Go.Proofs.YtemamcbdjfabnaaGreatDoor.VT.HT w) (h : laws_FnExactTextOf.f k a0 = some true) :
  Calls Tryz.prog 3 #[.string a0] w fun e w' => e = .returned (.bool true) ∧ Below w.heap.size w w' := by
 have HTT := Aside0.mk htt
 clear htt
 have hu24 := Tryz.underlying24
 have HB := Aside0.mk (Below.refl w.heap.size w)
 have H : (if (a0.size : Int) > 1048576 then (some true) else ((spec_TextOf.f k a0).bind fun bt434 => ((impl_TextOf.f a0).bind fun bt439 => ((laws_eqValue.f k bt439.1 bt434.1).bind fun t444 => (if t444 = true then (laws_FnExactTextOf.j0 k a0 bt434.2 (bt439.2 != bt434.2) bt434.1 bt439.1) else (laws_FnExactTextOf.j0 k a0 bt434.2 true bt434.1 bt439.1)))))) = some true := h
 clear h
 by_cases c2 : (a0.size : Int) > 1048576
 ·rw [if_pos c2] at H
  have c2b0 : decide (1048576 < (a0.size : Int)) = true := decide_eq_true c2
  have c2b1 : decide (1048576 < a0.size) = true := decide_eq_true (by omega)
  clear c2
  skip
  go_enter Tryz.func3, Tryz.ntmps3
  go_wp2
  go_ret
  exact ⟨by first | rfl | (simp [errW_none, errW_some] <;> rfl) | (simp [*, errW_none, errW_some] <;> rfl), by repeat (first | (with_reducible first | exact HB.out | apply below_alloc | apply pw_below_drewN | apply below_drew1) | exact HB.out)⟩
 ·rw [if_neg c2] at H
  have c2b0 : decide (1048576 < (a0.size : Int)) = false := decide_eq_false c2
  have c2b1 : decide (1048576 < a0.size) = false := decide_eq_false (by omega)
  clear c2
  replace H := Option.bind_eq_some_iff.mp H
  obtain ⟨⟨t434, t437⟩, A30, H⟩ := H
  replace H : ((impl_TextOf.f a0).bind fun bt439 => ((laws_eqValue.f k bt439.1 t434).bind fun t444 => (if t444 = true then (laws_FnExactTextOf.j0 k a0 t437 (bt439.2 != t437) t434 bt439.1) else (laws_FnExactTextOf.j0 k a0 t437 true t434 bt439.1)))) = some true := H
  have A3 := Aside0.mk A30
  clear A30
  replace H := Option.bind_eq_some_iff.mp H
  obtain ⟨⟨t439, t442⟩, A40, H⟩ := H
  replace H : ((laws_eqValue.f k t439 t434).bind fun t444 => (if t444 = true then (laws_FnExactTextOf.j0 k a0 t437 (t442 != t437) t434 t439) else (laws_FnExactTextOf.j0 k a0 t437 true t434 t439))) = some true := H
  have A4 := Aside0.mk A40
  clear A40
  have HC5 := Aside0.mk H
  clear H
  go_enter Tryz.func3, Tryz.ntmps3
  go_upto_region 5 with (first | ((with_reducible refine gate_callee (f := 13) rfl ?_); refine goesL_ (some 16) rfl rfl Tryz.func13 (by kernel_rfl) rfl #[.string a0] rfl (by (try simp only [List.map_toArray, List.map_cons, List.map_nil]); first | done | rfl | (simp only [List.length_drop, List.length_take]; rfl)) ?_; (with_reducible refine (spec_TextOf.calls k a0 t434 t437 _ A3.out).mono ?_); rintro e w6 ⟨v435, rfl, ho0, hb⟩; refine ⟨_, rfl, ?_⟩; have n0_ := Aside0.mk (Kd.R_lower ho0 (below_size (by repeat (first | (with_reducible first | exact HB.out | apply below_alloc | apply pw_below_drewN | apply below_drew1) | exact HB.out)))); have n1_ := Aside0.mk (below_step (by repeat (first | (with_reducible first | exact HB.out | apply below_alloc | apply pw_below_drewN | apply below_drew1) | exact HB.out)) hb); clear HB; have HO436 := n0_; have HB := n1_; clear n0_ n1_; (try clear hb); (try clear hb2); (try clear hk); (try clear hi); (try clear ho0)) | ((with_reducible refine gate_dst (N := 3) rfl ?_); refine box_event ?hg (N := 3) ?hd (cs := #[.slice none 0 0]) (t := 24) ?hr ?_; (case hd => rfl); (case hg => rfl); (case hr => first | (go_simp; done) | (go_simp; rfl)); intro gb438 hg w7 hbox hb; have n0_ := Aside0.mk (Kd.R_below (by (with_reducible repeat (first | apply Kd.R_alloc | apply Kd.R_drewN | apply Kd.R_drew)); exact HO436.out) hb); have n1_ := Aside0.mk (below_step (by repeat (first | (with_reducible first | exact HB.out | apply below_alloc | apply pw_below_drewN | apply below_drew1) | exact HB.out)) hb); have n2_ := Aside0.mk (hbox); have n3_ := Aside0.mk ((by rw [hg]; exact (below_size (by repeat (first | (with_reducible first | exact HB.out | apply below_alloc | apply pw_below_drewN | apply below_drew1) | exact HB.out))) : w.heap.size ≤ gb438)); have n4_ := Aside0.mk ((by rw [hg]; exact (below_size (by repeat (first | (with_reducible first | exact HB.out | apply below_alloc | apply pw_below_drewN | apply below_drew1) | exact HB.out))) : w.heap.size ≤ gb438)); clear HO436; clear HB; have HO436 := n0_; have HB := n1_; have BK438 := n2_; have GW438 := n3_; have GE438 := n4_; clear n0_ n1_ n2_ n3_ n4_; clear hb hbox hg; obtain ⟨Ao8, co8, eo8⟩ := Kd.R_slice HO436.out; subst eo8; have hcz9_0 : w7.cell? ⟨gb438, 0, none⟩ = some (.slice none 0 0) := (blk_cell BK438.out 0).trans rfl; have hfz9_0 := blk_frozen BK438.out 0) | ((with_reducible refine gate_callee (f := 14) rfl ?_); refine goesL_ (some 21) rfl rfl Tryz.func14 (by kernel_rfl) rfl #[.string a0] rfl (by (try simp only [List.map_toArray, List.map_cons, List.map_nil]); first | done | rfl | (simp only [List.length_drop, List.length_take]; rfl)) ?_; (with_reducible refine (impl_TextOf.calls (htt := ?sideh) a0 t439 t442 _ A4.out).mono ?_); (case sideh => exact HTT.out.below (by repeat (first | (with_reducible first | exact HB.out | apply below_alloc | apply pw_below_drewN | apply below_drew1 | refine below_set ?_ GE438.out) | exact HB.out))); rintro e w10 ⟨v440, rfl, ho0, hb⟩; refine ⟨_, rfl, ?_⟩; have n0_ := Aside0.mk (Kd.R_elder' (by (with_reducible repeat (first | apply Kd.R_alloc | apply Kd.R_drewN | apply Kd.R_drew)); exact (Kd.R_mono (Kd.R_far (p := ⟨gb438, 0, none⟩) (Kd.R_types HO436.out BK438.out (by decide)) (fun _ hk => hk.2) (.slice Ao8 t434.length co8)) (fun _ h_ => h_.1))) (Kd.R_base ho0) hb); have n1_ := Aside0.mk (Kd.R_lower (Kd.R_new' ho0 (Kd.R_lt (by (with_reducible repeat (first | apply Kd.R_alloc | apply Kd.R_drewN | apply Kd.R_drew)); exact (Kd.R_mono (Kd.R_far (p := ⟨gb438, 0, none⟩) (Kd.R_types HO436.out BK438.out (by decide)) (fun _ hk => hk.2) (.slice Ao8 t434.length co8)) (fun _ h_ => h_.1))))) (below_size (by repeat (first | (with_reducible first | exact HB.out | apply below_alloc | apply pw_below_drewN | apply below_drew1 | refine below_set ?_ GE438.out) | exact HB.out)))); have n2_ := Aside0.mk (blk_below (g := gb438) (o := .cells #[.slice Ao8 t434.length co8] 24 (0, 0)) (by (with_reducible repeat (first | refine blk_drewN ?_ _ | refine blk_drew ?_ | refine blk_alloc ?_ _)); refine blk_put (cs := #[.slice none 0 0]) ?_ 0 _ rfl; (with_reducible repeat (first | refine blk_drewN ?_ _ | refine blk_drew ?_ | refine blk_alloc ?_ _)); exact BK438.out) hb); have n3_ := Aside0.mk (below_step (by repeat (first | (with_reducible first | exact HB.out | apply below_alloc | apply pw_below_drewN | apply below_drew1 | refine below_set ?_ GE438.out) | exact HB.out)) hb); clear HO436; clear BK438; clear HB; have HO436 := n0_; have HO441 := n1_; have BK438 := n2_; have HB := n3_; clear n0_ n1_ n2_ n3_; (try clear hb); (try clear hb2); (try clear hk); (try clear hi); (try clear ho0)) | ((with_reducible refine gate_dst (N := 5) rfl ?_); refine box_event ?hg (N := 5) ?hd (cs := #[.slice none 0 0]) (t := 24) ?hr ?_; (case hd => rfl); (case hg => rfl); (case hr => first | (go_simp; done) | (go_simp; rfl)); intro gb443 hg w11 hbox hb; have n0_ := Aside0.mk (Kd.R_below (by (with_reducible repeat (first | apply Kd.R_alloc | apply Kd.R_drewN | apply Kd.R_drew)); exact HO436.out) hb); have n1_ := Aside0.mk (Kd.R_below (by (with_reducible repeat (first | apply Kd.R_alloc | apply Kd.R_drewN | apply Kd.R_drew)); exact HO441.out) hb); have n2_ := Aside0.mk (blk_below (g := gb438) (o := .cells #[.slice Ao8 t434.length co8] 24 (0, 0)) (by (with_reducible repeat (first | refine blk_drewN ?_ _ | refine blk_drew ?_ | refine blk_alloc ?_ _)); exact BK438.out) hb); have n3_ := Aside0.mk (below_step (by repeat (first | (with_reducible first | exact HB.out | apply below_alloc | apply pw_below_drewN | apply below_drew1 | refine below_set ?_ GE438.out) | exact HB.out)) hb); have n4_ := Aside0.mk (hbox); have n5_ := Aside0.mk ((by rw [hg]; exact (below_size (by repeat (first | (with_reducible first | exact HB.out | apply below_alloc | apply pw_below_drewN | apply below_drew1 | refine below_set ?_ GE438.out) | exact HB.out))) : w.heap.size ≤ gb443)); have n6_ := Aside0.mk ((by rw [hg]; exact (below_size (by repeat (first | (with_reducible first | exact HB.out | apply below_alloc | apply pw_below_drewN | apply below_drew1 | refine below_set ?_ GE438.out) | exact HB.out))) : w.heap.size ≤ gb443)); have n7_ := Aside0.mk ((by rw [hg]; exact Nat.ne_of_lt (blk_lt (g := gb438) (o := .cells #[.slice Ao8 t434.length co8] 24 (0, 0)) (by (with_reducible repeat (first | refine blk_drewN ?_ _ | refine blk_drew ?_ | refine blk_alloc ?_ _)); exact BK438.out)) : gb438 ≠ gb443)); have n8_ := Aside0.mk ((by rw [hg]; exact Nat.ne_of_gt (blk_lt (g := gb438) (o := .cells #[.slice Ao8 t434.length co8] 24 (0, 0)) (by (with_reducible repeat (first | refine blk_drewN ?_ _ | refine blk_drew ?_ | refine blk_alloc ?_ _)); exact BK438.out)) : gb443 ≠ gb438)); clear HO436; clear HO441; clear BK438; clear HB; have HO436 := n0_; have HO441 := n1_; have BK438 := n2_; have HB := n3_; have BK443 := n4_; have GW443 := n5_; have GE443 := n6_; have NB438_443 := n7_; have NB443_438 := n8_; clear n0_ n1_ n2_ n3_ n4_ n5_ n6_ n7_ n8_; clear hb hbox hg; obtain ⟨Ao12, co12, eo12⟩ := Kd.R_slice HO441.out; subst eo12; have hnb13 := NB443_438.out; have hnc13 := NB438_443.out; have hcz14_0 : w11.cell? ⟨gb443, 0, none⟩ = some (.slice none 0 0) := (blk_cell BK443.out 0).trans rfl; have hfz14_0 := blk_frozen BK443.out 0))
  (try simp only [Act.put, List.setIfInBounds_toArray, List.set_cons_zero, List.set_cons_succ])
  go_cut [32] (fun v32 wc => ∃ (kq : Nat) (x32_4 : Bool), v32 = .bool x32_4 ∧ Aside0 (laws_FnExactTextOf.j0 kq a0 t437 x32_4 t434 t439 = some true) ∧ Aside0 (kq ≤ k) ∧ Aside0 (Kd.R k54 54 wc w.heap.size (fun k_ => some k_ ≠ ((.slice Ao12 t439.length co12) : Value).ownBlock) (.slice Ao8 t434.length co8) t434) ∧ Aside0 (Kd.R k54 54 wc w.heap.size (fun k_ => some k_ ≠ ((.slice Ao8 t434.length co8) : Value).ownBlock) (.slice Ao12 t439.length co12) t439) ∧ Aside0 (wc.heap[gb438]? = some (.cells #[(.slice Ao8 t434.length co8)] 24 (0, 0))) ∧ Aside0 (wc.heap[gb443]? = some (.cells #[(.slice Ao12 t439.length co12)] 24 (0, 0))) ∧ Aside0 (Below w.heap.size w wc))
  case first =>
   have H := HC5.out
   clear HC5
   replace H := Option.bind_eq_some_iff.mp H
   obtain ⟨t444, A150, H⟩ := H
   replace H : (if t444 = true then (laws_FnExactTextOf.j0 k a0 t437 (t442 != t437) t434 t439) else (laws_FnExactTextOf.j0 k a0 t437 true t434 t439)) = some true := H
   have A15 := Aside0.mk A150
   clear A150
   by_cases c16 : t444 = true
   ·subst c16
    have H1 : (laws_FnExactTextOf.j0 k a0 t437 (t442 != t437) t434 t439) = some true := by rw [if_pos rfl] at H; exact H
    clear H
    have H := H1
    clear H1
    have H' := Aside0.mk H
    clear H
    have hnb17 := NB443_438.out
    have hnc17 := NB438_443.out
    have hcz18_0 : w11.cell? ⟨gb443, 0, none⟩ = some (.slice none 0 0) := (blk_cell BK443.out 0).trans rfl
    have hfz18_0 := blk_frozen BK443.out 0
    have hcz19_0 : w11.cell? ⟨gb438, 0, none⟩ = some (.slice Ao8 t434.length co8) := (blk_cell BK438.out 0).trans rfl
    have hfz19_0 := blk_frozen BK438.out 0
    go_wp2_with (first | ((with_reducible refine gate_callee (f := 15) rfl ?_); refine goesL_ (some 26) rfl rfl Tryz.func15 (by kernel_rfl) rfl #[.agg #[.slice Ao12 t439.length co12], .agg #[.slice Ao8 t434.length co8]] rfl (by (try simp only [List.map_toArray, List.map_cons, List.map_nil]); first | done | rfl | (simp only [List.length_drop, List.length_take]; rfl)) ?_; (with_reducible refine (laws_eqValue.calls k _ _ t439 _ _ t434 true _ ?side1 ?side2 ?side3 ?side4 A15.out).mono ?_); (case side1 => refine (Kd.R_reads' (e := 54) (base := w.heap.size) (ok := fun k_ => (True ∧ some k_ ≠ (.slice Ao8 t434.length co8 : Value).ownBlock)) (n := t439.length) (c := co12) ?_).2.2; exact (by (with_reducible repeat (first | apply Kd.R_alloc | apply Kd.R_drewN | apply Kd.R_drew)); exact (Kd.R_mono (Kd.R_far (p := ⟨gb443, 0, none⟩) (Kd.R_types HO441.out BK443.out (by decide)) (fun _ hk => hk.2) (.slice Ao12 t439.length co12)) (fun _ h_ => h_.1)))); (case side2 => exact (Kd.R_reads' HO441.out).2.1); (case side3 => refine (Kd.R_reads' (e := 54) (base := w.heap.size) (ok := fun k_ => (True ∧ some k_ ≠ (.slice Ao12 t439.length co12 : Value).ownBlock)) (n := t434.length) (c := co8) ?_).2.2; exact (by (with_reducible repeat (first | apply Kd.R_alloc | apply Kd.R_drewN | apply Kd.R_drew)); exact (Kd.R_mono (Kd.R_far (p := ⟨gb443, 0, none⟩) (Kd.R_types HO436.out BK443.out (by decide)) (fun _ hk => hk.2) (.slice Ao12 t439.length co12)) (fun _ h_ => h_.1)))); (case side4 => exact (Kd.R_reads' HO436.out).2.1); rintro e w20 ⟨rfl, hb⟩; refine ⟨_, rfl, ?_⟩; have n0_ := Aside0.mk (Kd.R_below (by (with_reducible repeat (first | apply Kd.R_alloc | apply Kd.R_drewN | apply Kd.R_drew)); exact (Kd.R_mono (Kd.R_far (p := ⟨gb443, 0, none⟩) (Kd.R_types HO436.out BK443.out (by decide)) (fun _ hk => hk.2) (.slice Ao12 t439.length co12)) (fun _ h_ => h_.1))) hb); have n1_ := Aside0.mk (Kd.R_below (by (with_reducible repeat (first | apply Kd.R_alloc | apply Kd.R_drewN | apply Kd.R_drew)); exact (Kd.R_mono (Kd.R_far (p := ⟨gb443, 0, none⟩) (Kd.R_types HO441.out BK443.out (by decide)) (fun _ hk => hk.2) (.slice Ao12 t439.length co12)) (fun _ h_ => h_.1))) hb); have n2_ := Aside0.mk (blk_below (g := gb438) (o := .cells #[.slice Ao8 t434.length co8] 24 (0, 0)) (by (with_reducible repeat (first | refine blk_drewN ?_ _ | refine blk_drew ?_ | refine blk_alloc ?_ _)); refine blk_far ?_ NB438_443.out _; (with_reducible repeat (first | refine blk_drewN ?_ _ | refine blk_drew ?_ | refine blk_alloc ?_ _)); exact BK438.out) hb); have n3_ := Aside0.mk (blk_below (g := gb443) (o := .cells #[.slice Ao12 t439.length co12] 24 (0, 0)) (by (with_reducible repeat (first | refine blk_drewN ?_ _ | refine blk_drew ?_ | refine blk_alloc ?_ _)); refine blk_put (cs := #[.slice none 0 0]) ?_ 0 _ rfl; (with_reducible repeat (first | refine blk_drewN ?_ _ | refine blk_drew ?_ | refine blk_alloc ?_ _)); exact BK443.out) hb); have n4_ := Aside0.mk (below_step (by repeat (first | (with_reducible first | exact HB.out | apply below_alloc | apply pw_below_drewN | apply below_drew1 | refine below_set ?_ GE438.out | refine below_set ?_ GE443.out) | exact HB.out)) hb); clear HO436; clear HO441; clear BK438; clear BK443; clear HB; have HO436 := n0_; have HO441 := n1_; have BK438 := n2_; have BK443 := n3_; have HB := n4_; clear n0_ n1_ n2_ n3_ n4_; (try clear hb); (try clear hb2); (try clear hk); (try clear hi)))
    go_meet
    case rel => exact ⟨_, ((t442 != t437)), (by first | rfl | (simp; done) | (simp [*]; done)), H', ⟨by first | omega | exact Nat.le_refl _⟩, ⟨by (with_reducible repeat (first | apply Kd.R_alloc | apply Kd.R_drewN | apply Kd.R_drew)); exact Kd.R_mono HO436.out (fun _ hk => hk.2)⟩, ⟨by (with_reducible repeat (first | apply Kd.R_alloc | apply Kd.R_drewN | apply Kd.R_drew)); exact Kd.R_mono HO441.out (fun _ hk => hk.2)⟩, ⟨by (with_reducible repeat (first | refine blk_drewN ?_ _ | refine blk_drew ?_ | refine blk_alloc ?_ _)); exact BK438.out⟩, ⟨by (with_reducible repeat (first | refine blk_drewN ?_ _ | refine blk_drew ?_ | refine blk_alloc ?_ _)); exact BK443.out⟩, ⟨by repeat (first | (with_reducible first | exact HB.out | apply below_alloc | apply pw_below_drewN | apply below_drew1 | refine below_set ?_ GE438.out | refine below_set ?_ GE443.out) | exact HB.out)⟩⟩
   ·replace c16 := Bool.eq_false_iff.mpr c16
    subst c16
    have H1 : (laws_FnExactTextOf.j0 k a0 t437 true t434 t439) = some true := by rw [if_neg (show ¬ (false = true) by decide)] at H; exact H
    clear H
    have H := H1
    clear H1
    exact absurd H (by cases k <;> simp [laws_FnExactTextOf.j0])
  case rest =>
   clear HC5
   (try clear c1); (try clear c2); (try clear c2b0); (try clear c2b1); (try clear p2); (try clear c3); (try clear c13); (try clear c14); (try clear c15); (try clear c16); (try clear c17); (try clear c21); (try clear hcz14_0); (try clear hcz18_0); (try clear hcz19_0); (try clear hcz22_0); (try clear hcz23_0); (try clear hcz9_0); (try clear hfz14_0); (try clear hfz18_0); (try clear hfz19_0); (try clear hfz22_0); (try clear hfz23_0); (try clear hfz9_0)
   obtain ⟨kq, x32_4, rfl, HA, HJ4, HO_439000, HO_444000, BK438, BK443, HB⟩ := hcut
   cases kq with
   | zero => exact absurd HA.out (by simp [laws_FnExactTextOf.j0])
   | succ kj4 =>
    have H := HA.out
    clear HA
    simp only [laws_FnExactTextOf.j0] at H
    by_cases c25 : x32_4 = true
    ·subst c25
     have H1 : (some false) = some true := by rw [if_pos rfl] at H; exact H
     clear H
     have H := H1
     clear H1
     exact absurd (Option.some.inj H) (by simp)
    ·replace c25 := Bool.eq_false_iff.mpr c25
     subst c25
     have H1 : ((laws_markValue.f kj4 t439 1).bind fun bt445 => ((laws_heldValue.f kj4 bt445.2 1).bind fun t447 => (if t447 < 0 then (some false) else (if t447 = bt445.1 then ((impl_TextOf.f a0).bind fun bt448 => ((laws_eqValue.f kj4 bt448.1 t434).bind fun t453 => (if t453 = true then (laws_FnExactTextOf.j1 kj4 bt445.1 (bt448.2 != t437) bt445.2) else (laws_FnExactTextOf.j1 kj4 bt445.1 true bt445.2)))) else (some false))))) = some true := by rw [if_neg (show ¬ (false = true) by decide)] at H; exact H
     clear H
     have H := H1
     clear H1
     replace H := Option.bind_eq_some_iff.mp H
     obtain ⟨⟨t445, t446⟩, A260, H⟩ := H
     replace H : ((laws_heldValue.f kj4 t446 1).bind fun t447 => (if t447 < 0 then (some false) else (if t447 = t445 then ((impl_TextOf.f a0).bind fun bt448 => ((laws_eqValue.f kj4 bt448.1 t434).bind fun t453 => (if t453 = true then (laws_FnExactTextOf.j1 kj4 t445 (bt448.2 != t437) t446) else (laws_FnExactTextOf.j1 kj4 t445 true t446)))) else (some false)))) = some true := H
     have A26 := Aside0.mk A260
     clear A260
     replace H := Option.bind_eq_some_iff.mp H
     obtain ⟨t447, A270, H⟩ := H
     replace H : (if t447 < 0 then (some false) else (if t447 = t445 then ((impl_TextOf.f a0).bind fun bt448 => ((laws_eqValue.f kj4 bt448.1 t434).bind fun t453 => (if t453 = true then (laws_FnExactTextOf.j1 kj4 t445 (bt448.2 != t437) t446) else (laws_FnExactTextOf.j1 kj4 t445 true t446)))) else (some false))) = some true := H
     have A27 := Aside0.mk A270
     clear A270
     by_cases c28 : t447 < 0
     ·rw [if_pos c28] at H
      have c28b0 : decide (t447 < 0) = true := decide_eq_true c28
      clear c28
      exact absurd (Option.some.inj H) (by simp)
     ·rw [if_neg c28] at H
      have c28b0 : decide (t447 < 0) = false := decide_eq_false c28
      clear c28
      by_cases c34 : t447 = t445
      ·rw [if_pos c34] at H
       have c34b0 : (t447 == t445) = true := beq_iff_eq.mpr c34
       have c34b1 : (t447 != t445) = false := bne_eq_false_iff_eq.mpr c34
       clear c34
       replace H := Option.bind_eq_some_iff.mp H
       obtain ⟨⟨t448, t451⟩, A350, H⟩ := H
       replace H : ((laws_eqValue.f kj4 t448 t434).bind fun t453 => (if t453 = true then (laws_FnExactTextOf.j1 kj4 t445 (t451 != t437) t446) else (laws_FnExactTextOf.j1 kj4 t445 true t446))) = some true := H
       have A35 := Aside0.mk A350
       clear A350
       have HC36 := Aside0.mk H
       clear H
       have hnb37 := NB443_438.out
       have hnc37 := NB438_443.out
       have hcz38_0 : wc.cell? ⟨gb443, 0, none⟩ = some (.slice Ao12 t439.length co12) := (blk_cell BK443.out 0).trans rfl
       have hfz38_0 := blk_frozen BK443.out 0
       go_upto_region 16 with (first | ((with_reducible refine gate_callee (f := 16) rfl ?_); refine goesL_ (some 35) rfl rfl Tryz.func16 (by kernel_rfl) rfl #[.agg #[.slice Ao12 t439.length co12], .int .i64 1] rfl (by (try simp only [List.map_toArray, List.map_cons, List.map_nil]); first | done | rfl | (simp only [List.length_drop, List.length_take]; rfl)) ?_; (with_reducible refine (laws_markValue.calls kj4 (fun k_ => some k_ = (.slice Ao12 t439.length co12 : Value).ownBlock) (.slice Ao12 t439.length co12) t439 1 t445 t446 w _ ?side1 ?side2 A26.out).mono ?_); (case side1 => repeat (first | (with_reducible first | exact HB.out | apply below_alloc | apply pw_below_drewN | apply below_drew1 | refine below_set ?_ GE438.out | refine below_set ?_ GE443.out) | exact HB.out)); (case side2 => exact Kd.R_tight rfl HO_444000.out); rintro e w39 ⟨rfl, hy0, hb, hkp⟩; refine ⟨_, rfl, ?_⟩; have n0_ := Aside0.mk (Kd.R_mono (ok' := fun k_ => some k_ ≠ (.slice Ao12 t439.length co12 : Value).ownBlock) (Kd.R_keptB (HO_439000.out) hkp (fun k_ hk_ hs_ => (hk_) hs_)) (fun k_ hk_ => hk_.1)); have n1_ := Aside0.mk (Kd.R_reok rfl hy0 (fun k_ e_ => HO_444000.out.1 k_ e_)); have n2_ := Aside0.mk (blk_kept (by (with_reducible repeat (first | refine blk_drewN ?_ _ | refine blk_drew ?_ | refine blk_alloc ?_ _)); exact BK438.out) hkp (fun hs_ => (fun e_ => (Kd.R_ne HO_444000.out BK438.out (by decide)) e_) hs_)); have n3_ := Aside0.mk (blk_kept (by (with_reducible repeat (first | refine blk_drewN ?_ _ | refine blk_drew ?_ | refine blk_alloc ?_ _)); exact BK443.out) hkp (fun hs_ => (fun e_ => (Kd.R_ne HO_444000.out BK443.out (by decide)) e_) hs_)); have n4_ := Aside0.mk (hb); clear HO_439000; clear HO_444000; clear BK438; clear BK443; clear HB; have HO_439000 := n0_; have HO_444000 := n1_; have BK438 := n2_; have BK443 := n3_; have HB := n4_; clear n0_ n1_ n2_ n3_ n4_; (try clear hb); (try clear hkp); (try clear hy0); have hcz40_0 : w39.cell? ⟨gb443, 0, none⟩ = some (.slice Ao12 t439.length co12) := (blk_cell BK443.out 0).trans rfl; have hfz40_0 := blk_frozen BK443.out 0) | ((with_reducible refine gate_callee (f := 17) rfl ?_); refine goesL_ (some 38) rfl rfl Tryz.func17 (by kernel_rfl) rfl #[.agg #[.slice Ao12 t446.length co12], .int .i64 1] rfl (by (try simp only [List.map_toArray, List.map_cons, List.map_nil]); first | done | (rw [show t446.length = t439.length from (Kd.R_reads' HO_444000.out).1.symm] <;> rfl) | rfl | (simp only [List.length_drop, List.length_take]; rfl)) ?_; (with_reducible refine (laws_heldValue.calls kj4 _ _ t446 1 t447 _ ?side1 ?side2 A27.out).mono ?_); (case side1 => repeat (first | exact (Kd.R_reads' HO_444000.out).2.2 | (with_reducible refine Kd.C_alloc ?_ _) | (with_reducible refine Kd.C_drewN ?_ _) | (with_reducible refine Kd.C_drew ?_))); (case side2 => rw [show t446.length = t439.length from (Kd.R_reads' HO_444000.out).1.symm]; exact (Kd.R_reads' HO_444000.out).2.1); rintro e w41 ⟨rfl, hb⟩; refine ⟨_, rfl, ?_⟩; have n0_ := Aside0.mk (Kd.R_below (by (with_reducible repeat (first | apply Kd.R_alloc | apply Kd.R_drewN | apply Kd.R_drew)); exact HO_439000.out) hb); have n1_ := Aside0.mk (Kd.R_below (by (with_reducible repeat (first | apply Kd.R_alloc | apply Kd.R_drewN | apply Kd.R_drew)); exact HO_444000.out) hb); have n2_ := Aside0.mk (blk_below (g := gb438) (o := .cells #[.slice Ao8 t434.length co8] 24 (0, 0)) (by (with_reducible repeat (first | refine blk_drewN ?_ _ | refine blk_drew ?_ | refine blk_alloc ?_ _)); exact BK438.out) hb); have n3_ := Aside0.mk (blk_below (g := gb443) (o := .cells #[.slice Ao12 t439.length co12] 24 (0, 0)) (by (with_reducible repeat (first | refine blk_drewN ?_ _ | refine blk_drew ?_ | refine blk_alloc ?_ _)); exact BK443.out) hb); have n4_ := Aside0.mk (below_step (by repeat (first | (with_reducible first | exact HB.out | apply below_alloc | apply pw_below_drewN | apply below_drew1 | refine below_set ?_ GE438.out | refine below_set ?_ GE443.out) | exact HB.out)) hb); clear HO_439000; clear HO_444000; clear BK438; clear BK443; clear HB; have HO_439000 := n0_; have HO_444000 := n1_; have BK438 := n2_; have BK443 := n3_; have HB := n4_; clear n0_ n1_ n2_ n3_ n4_; (try clear hb); (try clear hb2); (try clear hk); (try clear hi)) | ((with_reducible refine gate_callee (f := 14) rfl ?_); refine goesL_ (some 46) rfl rfl Tryz.func14 (by kernel_rfl) rfl #[.string a0] rfl (by (try simp only [List.map_toArray, List.map_cons, List.map_nil]); first | done | rfl | (simp only [List.length_drop, List.length_take]; rfl)) ?_; (with_reducible refine (impl_TextOf.calls (htt := ?sideh) a0 t448 t451 _ A35.out).mono ?_); (case sideh => exact HTT.out.below (by repeat (first | (with_reducible first | exact HB.out | apply below_alloc | apply pw_below_drewN | apply below_drew1 | refine below_set ?_ GE438.out | refine below_set ?_ GE443.out) | exact HB.out))); rintro e w42 ⟨v449, rfl, ho0, hb⟩; refine ⟨_, rfl, ?_⟩; have n0_ := Aside0.mk (Kd.R_elder' (by (with_reducible repeat (first | apply Kd.R_alloc | apply Kd.R_drewN | apply Kd.R_drew)); exact HO_439000.out) (Kd.R_base ho0) hb); have n1_ := Aside0.mk (Kd.R_elder' (by (with_reducible repeat (first | apply Kd.R_alloc | apply Kd.R_drewN | apply Kd.R_drew)); exact HO_444000.out) (Kd.R_base ho0) hb); have n2_ := Aside0.mk (Kd.R_lower (Kd.R_new' (Kd.R_new' ho0 (Kd.R_lt (by (with_reducible repeat (first | apply Kd.R_alloc | apply Kd.R_drewN | apply Kd.R_drew)); exact HO_439000.out))) (Kd.R_lt (by (with_reducible repeat (first | apply Kd.R_alloc | apply Kd.R_drewN | apply Kd.R_drew)); exact HO_444000.out))) (below_size (by repeat (first | (with_reducible first | exact HB.out | apply below_alloc | apply pw_below_drewN | apply below_drew1 | refine below_set ?_ GE438.out | refine below_set ?_ GE443.out) | exact HB.out)))); have n3_ := Aside0.mk (blk_below (g := gb438) (o := .cells #[.slice Ao8 t434.length co8] 24 (0, 0)) (by (with_reducible repeat (first | refine blk_drewN ?_ _ | refine blk_drew ?_ | refine blk_alloc ?_ _)); exact BK438.out) hb); have n4_ := Aside0.mk (blk_below (g := gb443) (o := .cells #[.slice Ao12 t439.length co12] 24 (0, 0)) (by (with_reducible repeat (first | refine blk_drewN ?_ _ | refine blk_drew ?_ | refine blk_alloc ?_ _)); exact BK443.out) hb); have n5_ := Aside0.mk (below_step (by repeat (first | (with_reducible first | exact HB.out | apply below_alloc | apply pw_below_drewN | apply below_drew1 | refine below_set ?_ GE438.out | refine below_set ?_ GE443.out) | exact HB.out)) hb); clear HO_439000; clear HO_444000; clear BK438; clear BK443; clear HB; have HO_439000 := n0_; have HO_444000 := n1_; have HO450 := n2_; have BK438 := n3_; have BK443 := n4_; have HB := n5_; clear n0_ n1_ n2_ n3_ n4_ n5_; (try clear hb); (try clear hb2); (try clear hk); (try clear hi); (try clear ho0)) | ((with_reducible refine gate_dst (N := 9) rfl ?_); refine box_event ?hg (N := 9) ?hd (cs := #[.slice none 0 0]) (t := 24) ?hr ?_; (case hd => rfl); (case hg => rfl); (case hr => first | (go_simp; done) | (go_simp; rfl)); intro gb452 hg w43 hbox hb; have n0_ := Aside0.mk (Kd.R_below (by (with_reducible repeat (first | apply Kd.R_alloc | apply Kd.R_drewN | apply Kd.R_drew)); exact HO_439000.out) hb); have n1_ := Aside0.mk (Kd.R_below (by (with_reducible repeat (first | apply Kd.R_alloc | apply Kd.R_drewN | apply Kd.R_drew)); exact HO_444000.out) hb); have n2_ := Aside0.mk (Kd.R_below (by (with_reducible repeat (first | apply Kd.R_alloc | apply Kd.R_drewN | apply Kd.R_drew)); exact HO450.out) hb); have n3_ := Aside0.mk (blk_below (g := gb438) (o := .cells #[.slice Ao8 t434.length co8] 24 (0, 0)) (by (with_reducible repeat (first | refine blk_drewN ?_ _ | refine blk_drew ?_ | refine blk_alloc ?_ _)); exact BK438.out) hb); have n4_ := Aside0.mk (blk_below (g := gb443) (o := .cells #[.slice Ao12 t439.length co12] 24 (0, 0)) (by (with_reducible repeat (first | refine blk_drewN ?_ _ | refine blk_drew ?_ | refine blk_alloc ?_ _)); exact BK443.out) hb); have n5_ := Aside0.mk (below_step (by repeat (first | (with_reducible first | exact HB.out | apply below_alloc | apply pw_below_drewN | apply below_drew1 | refine below_set ?_ GE438.out | refine below_set ?_ GE443.out) | exact HB.out)) hb); have n6_ := Aside0.mk (hbox); have n7_ := Aside0.mk ((by rw [hg]; exact (below_size (by repeat (first | (with_reducible first | exact HB.out | apply below_alloc | apply pw_below_drewN | apply below_drew1 | refine below_set ?_ GE438.out | refine below_set ?_ GE443.out) | exact HB.out))) : w.heap.size ≤ gb452)); have n8_ := Aside0.mk ((by rw [hg]; exact (below_size (by repeat (first | (with_reducible first | exact HB.out | apply below_alloc | apply pw_below_drewN | apply below_drew1 | refine below_set ?_ GE438.out | refine below_set ?_ GE443.out) | exact HB.out))) : w.heap.size ≤ gb452)); have n9_ := Aside0.mk ((by rw [hg]; exact Nat.ne_of_lt (blk_lt (g := gb438) (o := .cells #[.slice Ao8 t434.length co8] 24 (0, 0)) (by (with_reducible repeat (first | refine blk_drewN ?_ _ | refine blk_drew ?_ | refine blk_alloc ?_ _)); exact BK438.out)) : gb438 ≠ gb452)); have n10_ := Aside0.mk ((by rw [hg]; exact Nat.ne_of_gt (blk_lt (g := gb438) (o := .cells #[.slice Ao8 t434.length co8] 24 (0, 0)) (by (with_reducible repeat (first | refine blk_drewN ?_ _ | refine blk_drew ?_ | refine blk_alloc ?_ _)); exact BK438.out)) : gb452 ≠ gb438)); have n11_ := Aside0.mk ((by rw [hg]; exact Nat.ne_of_lt (blk_lt (g := gb443) (o := .cells #[.slice Ao12 t439.length co12] 24 (0, 0)) (by (with_reducible repeat (first | refine blk_drewN ?_ _ | refine blk_drew ?_ | refine blk_alloc ?_ _)); exact BK443.out)) : gb443 ≠ gb452)); have n12_ := Aside0.mk ((by rw [hg]; exact Nat.ne_of_gt (blk_lt (g := gb443) (o := .cells #[.slice Ao12 t439.length co12] 24 (0, 0)) (by (with_reducible repeat (first | refine blk_drewN ?_ _ | refine blk_drew ?_ | refine blk_alloc ?_ _)); exact BK443.out)) : gb452 ≠ gb443)); clear HO_439000; clear HO_444000; clear HO450; clear BK438; clear BK443; clear HB; have HO_439000 := n0_; have HO_444000 := n1_; have HO450 := n2_; have BK438 := n3_; have BK443 := n4_; have HB := n5_; have BK452 := n6_; have GW452 := n7_; have GE452 := n8_; have NB438_452 := n9_; have NB452_438 := n10_; have NB443_452 := n11_; have NB452_443 := n12_; clear n0_ n1_ n2_ n3_ n4_ n5_ n6_ n7_ n8_ n9_ n10_ n11_ n12_; clear hb hbox hg; obtain ⟨Ao44, co44, eo44⟩ := Kd.R_slice HO450.out; subst eo44; have hnb45 := NB452_438.out; have hnc45 := NB438_452.out; have hnb46 := NB452_443.out; have hnc46 := NB443_452.out; have hcz47_0 : w43.cell? ⟨gb452, 0, none⟩ = some (.slice none 0 0) := (blk_cell BK452.out 0).trans rfl; have hfz47_0 := blk_frozen BK452.out 0))
       (try simp only [Act.put, List.setIfInBounds_toArray, List.set_cons_zero, List.set_cons_succ])
       go_cut [57] (fun v57 wc => ∃ (kq : Nat) (x57_35 : Bool), v57 = .bool x57_35 ∧ Aside0 (laws_FnExactTextOf.j1 kq t445 x57_35 t446 = some true) ∧ Aside0 (kq ≤ kj4) ∧ Aside0 (Kd.R k54 54 wc w.heap.size (fun k_ => some k_ ≠ ((.slice Ao12 t439.length co12) : Value).ownBlock ∧ some k_ ≠ ((.slice Ao44 t448.length co44) : Value).ownBlock) (.slice Ao8 t434.length co8) t434) ∧ Aside0 (Kd.R k54 54 wc w.heap.size (fun k_ => some k_ ≠ ((.slice Ao8 t434.length co8) : Value).ownBlock ∧ some k_ ≠ ((.slice Ao44 t448.length co44) : Value).ownBlock) (.slice Ao12 t439.length co12) t446) ∧ Aside0 (Kd.R k54 54 wc w.heap.size (fun k_ => some k_ ≠ ((.slice Ao8 t434.length co8) : Value).ownBlock ∧ some k_ ≠ ((.slice Ao12 t439.length co12) : Value).ownBlock) (.slice Ao44 t448.length co44) t448) ∧ Aside0 (wc.heap[gb438]? = some (.cells #[(.slice Ao8 t434.length co8)] 24 (0, 0))) ∧ Aside0 (wc.heap[gb443]? = some (.cells #[(.slice Ao12 t439.length co12)] 24 (0, 0))) ∧ Aside0 (wc.heap[gb452]? = some (.cells #[(.slice Ao44 t448.length co44)] 24 (0, 0))) ∧ Aside0 (Below w.heap.size w wc))
       case first =>
        have H := HC36.out
        clear HC36
        replace H := Option.bind_eq_some_iff.mp H
        obtain ⟨t453, A480, H⟩ := H
        replace H : (if t453 = true then (laws_FnExactTextOf.j1 kj4 t445 (t451 != t437) t446) else (laws_FnExactTextOf.j1 kj4 t445 true t446)) = some true := H
        have A48 := Aside0.mk A480
        clear A480
        by_cases c49 : t453 = true
        ·subst c49
         have H1 : (laws_FnExactTextOf.j1 kj4 t445 (t451 != t437) t446) = some true := by rw [if_pos rfl] at H; exact H
         clear H
         have H := H1
         clear H1
         have H' := Aside0.mk H
         clear H
         have hnb50 := NB452_438.out
         have hnc50 := NB438_452.out
         have hnb51 := NB452_443.out
         have hnc51 := NB443_452.out
         have hcz52_0 : w43.cell? ⟨gb452, 0, none⟩ = some (.slice none 0 0) := (blk_cell BK452.out 0).trans rfl
         have hfz52_0 := blk_frozen BK452.out 0
         have hnb53 := NB438_443.out
         have hnc53 := NB443_438.out
         have hcz54_0 : w43.cell? ⟨gb438, 0, none⟩ = some (.slice Ao8 t434.length co8) := (blk_cell BK438.out 0).trans rfl
         have hfz54_0 := blk_frozen BK438.out 0
         go_wp2_with (first | ((with_reducible refine gate_callee (f := 15) rfl ?_); refine goesL_ (some 51) rfl rfl Tryz.func15 (by kernel_rfl) rfl #[.agg #[.slice Ao44 t448.length co44], .agg #[.slice Ao8 t434.length co8]] rfl (by (try simp only [List.map_toArray, List.map_cons, List.map_nil]); first | done | rfl | (simp only [List.length_drop, List.length_take]; rfl)) ?_; (with_reducible refine (laws_eqValue.calls kj4 _ _ t448 _ _ t434 true _ ?side1 ?side2 ?side3 ?side4 A48.out).mono ?_); (case side1 => refine (Kd.R_reads' (e := 54) (base := w.heap.size) (ok := fun k_ => ((True ∧ some k_ ≠ (.slice Ao8 t434.length co8 : Value).ownBlock) ∧ some k_ ≠ (.slice Ao12 t439.length co12 : Value).ownBlock)) (n := t448.length) (c := co44) ?_).2.2; exact (by (with_reducible repeat (first | apply Kd.R_alloc | apply Kd.R_drewN | apply Kd.R_drew)); exact (Kd.R_mono (Kd.R_far (p := ⟨gb452, 0, none⟩) (Kd.R_types HO450.out BK452.out (by decide)) (fun _ hk => hk.2) (.slice Ao44 t448.length co44)) (fun _ h_ => h_.1)))); (case side2 => exact (Kd.R_reads' HO450.out).2.1); (case side3 => refine (Kd.R_reads' (e := 54) (base := w.heap.size) (ok := fun k_ => (some k_ ≠ (.slice Ao12 t439.length co12 : Value).ownBlock ∧ some k_ ≠ (.slice Ao44 t448.length co44 : Value).ownBlock)) (n := t434.length) (c := co8) ?_).2.2; exact (by (with_reducible repeat (first | apply Kd.R_alloc | apply Kd.R_drewN | apply Kd.R_drew)); exact (Kd.R_mono (Kd.R_far (p := ⟨gb452, 0, none⟩) (Kd.R_types HO_439000.out BK452.out (by decide)) (fun _ hk => hk.2) (.slice Ao44 t448.length co44)) (fun _ h_ => h_.1)))); (case side4 => exact (Kd.R_reads' HO_439000.out).2.1); rintro e w55 ⟨rfl, hb⟩; refine ⟨_, rfl, ?_⟩; have n0_ := Aside0.mk (Kd.R_below (by (with_reducible repeat (first | apply Kd.R_alloc | apply Kd.R_drewN | apply Kd.R_drew)); exact (Kd.R_mono (Kd.R_far (p := ⟨gb452, 0, none⟩) (Kd.R_types HO_439000.out BK452.out (by decide)) (fun _ hk => hk.2) (.slice Ao44 t448.length co44)) (fun _ h_ => h_.1))) hb); have n1_ := Aside0.mk (Kd.R_below (by (with_reducible repeat (first | apply Kd.R_alloc | apply Kd.R_drewN | apply Kd.R_drew)); exact (Kd.R_mono (Kd.R_far (p := ⟨gb452, 0, none⟩) (Kd.R_types HO_444000.out BK452.out (by decide)) (fun _ hk => hk.2) (.slice Ao44 t448.length co44)) (fun _ h_ => h_.1))) hb); have n2_ := Aside0.mk (Kd.R_below (by (with_reducible repeat (first | apply Kd.R_alloc | apply Kd.R_drewN | apply Kd.R_drew)); exact (Kd.R_mono (Kd.R_far (p := ⟨gb452, 0, none⟩) (Kd.R_types HO450.out BK452.out (by decide)) (fun _ hk => hk.2) (.slice Ao44 t448.length co44)) (fun _ h_ => h_.1))) hb); have n3_ := Aside0.mk (blk_below (g := gb438) (o := .cells #[.slice Ao8 t434.length co8] 24 (0, 0)) (by (with_reducible repeat (first | refine blk_drewN ?_ _ | refine blk_drew ?_ | refine blk_alloc ?_ _)); refine blk_far ?_ NB438_452.out _; (with_reducible repeat (first | refine blk_drewN ?_ _ | refine blk_drew ?_ | refine blk_alloc ?_ _)); exact BK438.out) hb); have n4_ := Aside0.mk (blk_below (g := gb443) (o := .cells #[.slice Ao12 t439.length co12] 24 (0, 0)) (by (with_reducible repeat (first | refine blk_drewN ?_ _ | refine blk_drew ?_ | refine blk_alloc ?_ _)); refine blk_far ?_ NB443_452.out _; (with_reducible repeat (first | refine blk_drewN ?_ _ | refine blk_drew ?_ | refine blk_alloc ?_ _)); exact BK443.out) hb); have n5_ := Aside0.mk (blk_below (g := gb452) (o := .cells #[.slice Ao44 t448.length co44] 24 (0, 0)) (by (with_reducible repeat (first | refine blk_drewN ?_ _ | refine blk_drew ?_ | refine blk_alloc ?_ _)); refine blk_put (cs := #[.slice none 0 0]) ?_ 0 _ rfl; (with_reducible repeat (first | refine blk_drewN ?_ _ | refine blk_drew ?_ | refine blk_alloc ?_ _)); exact BK452.out) hb); have n6_ := Aside0.mk (below_step (by repeat (first | (with_reducible first | exact HB.out | apply below_alloc | apply pw_below_drewN | apply below_drew1 | refine below_set ?_ GE438.out | refine below_set ?_ GE443.out | refine below_set ?_ GE452.out) | exact HB.out)) hb); clear HO_439000; clear HO_444000; clear HO450; clear BK438; clear BK443; clear BK452; clear HB; have HO_439000 := n0_; have HO_444000 := n1_; have HO450 := n2_; have BK438 := n3_; have BK443 := n4_; have BK452 := n5_; have HB := n6_; clear n0_ n1_ n2_ n3_ n4_ n5_ n6_; (try clear hb); (try clear hb2); (try clear hk); (try clear hi)))
         go_meet
         case rel => exact ⟨_, ((t451 != t437)), (by first | rfl | (simp; done) | (simp [*]; done)), H', ⟨by have := HJ4.out; first | omega | exact Nat.le_refl _⟩, ⟨by (with_reducible repeat (first | apply Kd.R_alloc | apply Kd.R_drewN | apply Kd.R_drew)); exact HO_439000.out⟩, ⟨by (with_reducible repeat (first | apply Kd.R_alloc | apply Kd.R_drewN | apply Kd.R_drew)); exact HO_444000.out⟩, ⟨by (with_reducible repeat (first | apply Kd.R_alloc | apply Kd.R_drewN | apply Kd.R_drew)); exact Kd.R_mono HO450.out (fun _ hk => ⟨hk.1.2, hk.2⟩)⟩, ⟨by (with_reducible repeat (first | refine blk_drewN ?_ _ | refine blk_drew ?_ | refine blk_alloc ?_ _)); exact BK438.out⟩, ⟨by (with_reducible repeat (first | refine blk_drewN ?_ _ | refine blk_drew ?_ | refine blk_alloc ?_ _)); exact BK443.out⟩, ⟨by (with_reducible repeat (first | refine blk_drewN ?_ _ | refine blk_drew ?_ | refine blk_alloc ?_ _)); exact BK452.out⟩, ⟨by repeat (first | (with_reducible first | exact HB.out | apply below_alloc | apply pw_below_drewN | apply below_drew1 | refine below_set ?_ GE438.out | refine below_set ?_ GE443.out | refine below_set ?_ GE452.out) | exact HB.out)⟩⟩
        ·replace c49 := Bool.eq_false_iff.mpr c49
         subst c49
         have H1 : (laws_FnExactTextOf.j1 kj4 t445 true t446) = some true := by rw [if_neg (show ¬ (false = true) by decide)] at H; exact H
         clear H
         have H := H1
         clear H1
         exact absurd H (by cases kj4 <;> simp [laws_FnExactTextOf.j1])
       case rest =>
        clear HC36
        (try clear c1); (try clear c2); (try clear c2b0); (try clear c2b1); (try clear p2); (try clear c3); (try clear c4); (try clear c5); (try clear c13); (try clear c14); (try clear c15); (try clear c16); (try clear c17); (try clear c21); (try clear c25); (try clear c28); (try clear c28b0); (try clear c29); (try clear c34); (try clear c34b0); (try clear c34b1); (try clear c37); (try clear c45); (try clear c46); (try clear c49); (try clear c50); (try clear c51); (try clear c53); (try clear c56); (try clear c57); (try clear c59); (try clear hcz14_0); (try clear hcz18_0); (try clear hcz19_0); (try clear hcz22_0); (try clear hcz23_0); (try clear hcz30_0); (try clear hcz32_0); (try clear hcz38_0); (try clear hcz40_0); (try clear hcz47_0); (try clear hcz52_0); (try clear hcz54_0); (try clear hcz58_0); (try clear hcz60_0); (try clear hcz9_0); (try clear hfz14_0); (try clear hfz18_0); (try clear hfz19_0); (try clear hfz22_0); (try clear hfz23_0); (try clear hfz30_0); (try clear hfz32_0); (try clear hfz38_0); (try clear hfz40_0); (try clear hfz47_0); (try clear hfz52_0); (try clear hfz54_0); (try clear hfz58_0); (try clear hfz60_0); (try clear hfz9_0); (try clear p2)
        obtain ⟨kq, x57_35, rfl, HA, HJ35, HO_439000, HO_444000, HO_453000, BK438, BK443, BK452, HB⟩ := hcut
        have hl444000_35 := (Kd.R_reads' HO_444000.out).1
        rw [hl444000_35] at HO_444000
        (try simp only [hl444000_35])
        (try simp only [hl444000_35] at BK438)
        (try simp only [hl444000_35] at BK443)
        (try simp only [hl444000_35] at BK452)
        (try simp only [hl444000_35] at HO_439000)
        (try simp only [hl444000_35] at HO_453000)
        cases kq with
        | zero => exact absurd HA.out (by simp [laws_FnExactTextOf.j1])
        | succ kj35 =>
         have H := HA.out
         clear HA
         simp only [laws_FnExactTextOf.j1] at H
         by_cases c62 : x57_35 = true
         ·subst c62
          have H1 : (some false) = some true := by rw [if_pos rfl] at H; exact H
          clear H
          have H := H1
          clear H1
          exact absurd (Option.some.inj H) (by simp)
         ·replace c62 := Bool.eq_false_iff.mpr c62
          subst c62
          have H1 : ((laws_heldValue.f kj35 t446 1).bind fun t454 => (if t454 < 0 then (some false) else (if t454 = t445 then (some true) else (some false)))) = some true := by rw [if_neg (show ¬ (false = true) by decide)] at H; exact H
          clear H
          have H := H1
          clear H1
          replace H := Option.bind_eq_some_iff.mp H
          obtain ⟨t454, A630, H⟩ := H
          replace H : (if t454 < 0 then (some false) else (if t454 = t445 then (some true) else (some false))) = some true := H
          have A63 := Aside0.mk A630
          clear A630
          by_cases c64 : t454 < 0
          ·rw [if_pos c64] at H
           have c64b0 : decide (t454 < 0) = true := decide_eq_true c64
           clear c64
           exact absurd (Option.some.inj H) (by simp)
          ·rw [if_neg c64] at H
           have c64b0 : decide (t454 < 0) = false := decide_eq_false c64
           clear c64
           by_cases c69 : t454 = t445
           ·rw [if_pos c69] at H
            have c69b0 : (t454 == t445) = true := beq_iff_eq.mpr c69
            have c69b1 : (t454 != t445) = false := bne_eq_false_iff_eq.mpr c69
            clear c69
            skip
            have hnb70 := NB443_438.out
            have hnc70 := NB438_443.out
            have hnb71 := NB443_452.out
            have hnc71 := NB452_443.out
            have hcz72_0 : wc.cell? ⟨gb443, 0, none⟩ = some (.slice Ao12 t446.length co12) := (blk_cell BK443.out 0).trans rfl
            have hfz72_0 := blk_frozen BK443.out 0
            go_wp2_with (first | ((with_reducible refine gate_callee (f := 17) rfl ?_); refine goesL_ (some 60) rfl rfl Tryz.func17 (by kernel_rfl) rfl #[.agg #[.slice Ao12 t446.length co12], .int .i64 1] rfl (by (try simp only [List.map_toArray, List.map_cons, List.map_nil]); first | done | rfl | (simp only [List.length_drop, List.length_take]; rfl)) ?_; (with_reducible refine (laws_heldValue.calls kj35 _ _ t446 1 t454 _ ?side1 ?side2 A63.out).mono ?_); (case side1 => repeat (first | exact (Kd.R_reads' HO_444000.out).2.2 | (with_reducible refine Kd.C_alloc ?_ _) | (with_reducible refine Kd.C_drewN ?_ _) | (with_reducible refine Kd.C_drew ?_))); (case side2 => exact (Kd.R_reads' HO_444000.out).2.1); rintro e w73 ⟨rfl, hb⟩; refine ⟨_, rfl, ?_⟩; have n0_ := Aside0.mk (Kd.R_below (by (with_reducible repeat (first | apply Kd.R_alloc | apply Kd.R_drewN | apply Kd.R_drew)); exact HO_439000.out) hb); have n1_ := Aside0.mk (Kd.R_below (by (with_reducible repeat (first | apply Kd.R_alloc | apply Kd.R_drewN | apply Kd.R_drew)); exact HO_444000.out) hb); have n2_ := Aside0.mk (Kd.R_below (by (with_reducible repeat (first | apply Kd.R_alloc | apply Kd.R_drewN | apply Kd.R_drew)); exact HO_453000.out) hb); have n3_ := Aside0.mk (blk_below (g := gb438) (o := .cells #[.slice Ao8 t434.length co8] 24 (0, 0)) (by (with_reducible repeat (first | refine blk_drewN ?_ _ | refine blk_drew ?_ | refine blk_alloc ?_ _)); exact BK438.out) hb); have n4_ := Aside0.mk (blk_below (g := gb443) (o := .cells #[.slice Ao12 t446.length co12] 24 (0, 0)) (by (with_reducible repeat (first | refine blk_drewN ?_ _ | refine blk_drew ?_ | refine blk_alloc ?_ _)); exact BK443.out) hb); have n5_ := Aside0.mk (blk_below (g := gb452) (o := .cells #[.slice Ao44 t448.length co44] 24 (0, 0)) (by (with_reducible repeat (first | refine blk_drewN ?_ _ | refine blk_drew ?_ | refine blk_alloc ?_ _)); exact BK452.out) hb); have n6_ := Aside0.mk (below_step (by repeat (first | (with_reducible first | exact HB.out | apply below_alloc | apply pw_below_drewN | apply below_drew1 | refine below_set ?_ GE438.out | refine below_set ?_ GE443.out | refine below_set ?_ GE452.out) | exact HB.out)) hb); clear HO_439000; clear HO_444000; clear HO_453000; clear BK438; clear BK443; clear BK452; clear HB; have HO_439000 := n0_; have HO_444000 := n1_; have HO_453000 := n2_; have BK438 := n3_; have BK443 := n4_; have BK452 := n5_; have HB := n6_; clear n0_ n1_ n2_ n3_ n4_ n5_ n6_; (try clear hb); (try clear hb2); (try clear hk); (try clear hi)))
            go_ret
            exact ⟨by first | rfl | (simp [errW_none, errW_some] <;> rfl) | (simp [*, errW_none, errW_some] <;> rfl), by repeat (first | (with_reducible first | exact HB.out | apply below_alloc | apply pw_below_drewN | apply below_drew1 | refine below_set ?_ GE438.out | refine below_set ?_ GE443.out | refine below_set ?_ GE452.out) | exact HB.out)⟩
           ·rw [if_neg c69] at H
            have c69b0 : (t454 == t445) = false := beq_eq_false_iff_ne.mpr c69
            have c69b1 : (t454 != t445) = true := bne_iff_ne.mpr c69
            exact absurd (Option.some.inj H) (by simp)
      ·rw [if_neg c34] at H
       have c34b0 : (t447 == t445) = false := beq_eq_false_iff_ne.mpr c34
       have c34b1 : (t447 != t445) = true := bne_iff_ne.mpr c34
       exact absurd (Option.some.inj H) (by simp)

end Go.Proofs.YtemamcbdjfabnaaGreatDoor.PVG
