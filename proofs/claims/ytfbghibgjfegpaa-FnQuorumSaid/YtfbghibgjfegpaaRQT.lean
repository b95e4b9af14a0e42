import Derived.Test.YtfbghibgjfegpaaRQD
/- The reference's ReadText reads what the program's does. Conditions: lists of at most 2^30. -/
namespace Go.Proofs.Ytfbghibgjfegpaa.PRQ
open Go.RowKit Go.Proofs.YtfbghibgjfegpaaW.PrintWords Go.Proofs.YtfbghibgjfegpaaW.PrintLast Go.Proofs.YtfbghibgjfegpaaW.PrintMore Go.Proofs.Ytfbghibgjfegpaa.Pure
set_option linter.unusedVariables false
set_option linter.unusedSimpArgs false
set_option maxRecDepth 100000 in
set_option maxHeartbeats 4000000 in
theorem sread_1 (A : Option Addr) (c : Nat) (l : List S57) (R W : Int) (A1 : Option Addr) (c1 : Nat) (s : List Int) (w : World) (hr : Kd.C k57 w A l.length l) (hc : l.length ≤ c) (hs : Kd.C (Kd.int .i64) w A1 s.length s) (hc1 : s.length ≤ c1) (hl : l.length ≤ 1073741824) (hsl : s.length ≤ 1073741824) (b : goodV l R W = false) :
    Calls Try.prog 31 #[.agg #[.slice A l.length c, .int .i64 R, .int .i64 W], .slice A1 s.length c1] w fun e w' => e = .returned (.tuple #[.string (readV l R W s).1, .int .i64 (readV l R W s).2.1, .bool (readV l R W s).2.2]) ∧ Below w.heap.size w w' := by
  have HV0 := Aside0.mk (VS.new w A c l R W hr)
  have HC := Aside0.mk hc
  have HC1 := Aside0.mk hc1
  have HS := Aside0.mk hs
  obtain ⟨kg, hg⟩ := (specGood_ev l R W hl).rounds
  rw [b] at hg
  have HE := Aside0.mk hg
  have HF : Aside0 (readV l R W s = ((⟨#[]⟩ : ByteArray), 0, false)) := ⟨by simp [readV, someV, b]⟩
  clear hr hc hs hc1 hg
  obtain ⟨v0, v1, v2⟩ := boxV_cells HV0.out.blk
  go_enter Try.func31, Try.ntmps31
  go_wp2
  first | (go_region_with (first | (go_at_call 18; refine (spec_GoodVoting.calls kg _ _ l R W false _ HV0.out.drew.row HC.out HE.out).mono ?_; rintro e w2 ⟨rfl, hb⟩; have HV2 := Aside0.mk (HV0.out.drew.below hb); clear hb; obtain ⟨k0, k1, k2⟩ := boxV_cells HV2.out.blk))) | fail
  all_goals go_wp2
  all_goals go_ret3
  all_goals exact ⟨by rw [HF.out]; first | done | rfl, HV2.out.bel⟩
set_option maxRecDepth 100000 in
set_option maxHeartbeats 1000000 in
theorem sread_2 (A : Option Addr) (c : Nat) (l : List S57) (R W : Int) (A1 : Option Addr) (c1 : Nat) (s : List Int) (w : World) (hr : Kd.C k57 w A l.length l) (hc : l.length ≤ c) (hs : Kd.C (Kd.int .i64) w A1 s.length s) (hc1 : s.length ≤ c1) (hl : l.length ≤ 1073741824) (hsl : s.length ≤ 1073741824) (b : goodV l R W = true) (b2 : risingV s (l.length : Int) = false) :
    Calls Try.prog 31 #[.agg #[.slice A l.length c, .int .i64 R, .int .i64 W], .slice A1 s.length c1] w fun e w' => e = .returned (.tuple #[.string (readV l R W s).1, .int .i64 (readV l R W s).2.1, .bool (readV l R W s).2.2]) ∧ Below w.heap.size w w' := by
  have HV0 := Aside0.mk (VS.new w A c l R W hr)
  have HC := Aside0.mk hc
  have HC1 := Aside0.mk hc1
  have HS := Aside0.mk hs
  obtain ⟨kg, hg⟩ := (specGood_ev l R W hl).rounds
  rw [b] at hg
  have HE := Aside0.mk hg
  obtain ⟨ks, hk⟩ := (some_ev s (l.length : Int) hsl (by omega) (by omega)).rounds
  rw [b2] at hk
  have HK := Aside0.mk hk
  have HF : Aside0 (readV l R W s = ((⟨#[]⟩ : ByteArray), 0, false)) := ⟨by simp [readV, someV, b2]⟩
  clear hr hc hs hc1 hg hk
  obtain ⟨v0, v1, v2⟩ := boxV_cells HV0.out.blk
  go_enter Try.func31, Try.ntmps31
  go_wp2
  first | (go_region_with (first | (go_at_call 18; refine (spec_GoodVoting.calls kg _ _ l R W true _ HV0.out.drew.row HC.out HE.out).mono ?_; rintro e w2 ⟨rfl, hb⟩; have HV2 := Aside0.mk (HV0.out.drew.below hb); clear hb; obtain ⟨k0, k1, k2⟩ := boxV_cells HV2.out.blk) | (go_at_call 42; refine (spec_l14Some.calls ks _ _ s (l.length : Int) false _ (Kd.C_below HS.out HV2.out.bel) HC1.out HK.out).mono ?_; rintro e w4 ⟨rfl, hd⟩; have HV4 := Aside0.mk (HV2.out.below hd.below); clear hd; obtain ⟨m0, m1, m2⟩ := boxV_cells HV4.out.blk))) | fail
  all_goals go_wp2
  all_goals go_ret3
  all_goals exact ⟨by rw [HF.out]; first | done | rfl, HV4.out.bel⟩
set_option maxRecDepth 100000 in
set_option maxHeartbeats 1000000 in
theorem sread_3 (A : Option Addr) (c : Nat) (l : List S57) (R W : Int) (A1 : Option Addr) (c1 : Nat) (s : List Int) (w : World) (hr : Kd.C k57 w A l.length l) (hc : l.length ≤ c) (hs : Kd.C (Kd.int .i64) w A1 s.length s) (hc1 : s.length ≤ c1) (hl : l.length ≤ 1073741824) (hsl : s.length ≤ 1073741824) (b : goodV l R W = true) (b2 : risingV s (l.length : Int) = true) (q : vSum l s < R) :
    Calls Try.prog 31 #[.agg #[.slice A l.length c, .int .i64 R, .int .i64 W], .slice A1 s.length c1] w fun e w' => e = .returned (.tuple #[.string (readV l R W s).1, .int .i64 (readV l R W s).2.1, .bool (readV l R W s).2.2]) ∧ Below w.heap.size w w' := by
  have HV0 := Aside0.mk (VS.new w A c l R W hr)
  have HC := Aside0.mk hc
  have HC1 := Aside0.mk hc1
  have HS := Aside0.mk hs
  obtain ⟨kg, hg⟩ := (specGood_ev l R W hl).rounds
  rw [b] at hg
  have HE := Aside0.mk hg
  obtain ⟨ks, hk⟩ := (some_ev s (l.length : Int) hsl (by omega) (by omega)).rounds
  rw [b2] at hk
  have HK := Aside0.mk hk
  obtain ⟨kw, hw⟩ := (weight_ev l R W s hsl (risingV_in s _ b2)).rounds
  have HW := Aside0.mk hw
  have HF : Aside0 (readV l R W s = ((⟨#[]⟩ : ByteArray), 0, false)) := ⟨by simp [readV, someV, q]⟩
  have q1 := decide_eq_true q
  clear hr hc hs hc1 hg hk hw q
  obtain ⟨v0, v1, v2⟩ := boxV_cells HV0.out.blk
  go_enter Try.func31, Try.ntmps31
  go_wp2
  go_region_held3 (fun w' => w'.cell? ⟨w.heap.size, 0, none⟩ = some (.slice A l.length c) ∧ w'.cell? ⟨w.heap.size, 1, none⟩ = some (.int .i64 R) ∧ w'.cell? ⟨w.heap.size, 2, none⟩ = some (.int .i64 W)) (go_keep) (first | (go_at_call 18; refine (spec_GoodVoting.calls kg _ _ l R W true _ HV0.out.drew.row HC.out HE.out).mono ?_; rintro e w2 ⟨rfl, hb⟩; have HV2 := Aside0.mk (HV0.out.drew.below hb); clear hb; obtain ⟨k0, k1, k2⟩ := boxV_cells HV2.out.blk) | (go_at_call 42; refine (spec_l14Some.calls ks _ _ s (l.length : Int) true _ (Kd.C_below HS.out HV2.out.bel) HC1.out HK.out).mono ?_; rintro e w4 ⟨rfl, hd⟩; have HV4 := Aside0.mk (HV2.out.below hd.below); clear hd; obtain ⟨m0, m1, m2⟩ := boxV_cells HV4.out.blk) | (go_at_call 64; refine (spec_l14Weight.calls kw _ _ l R W _ _ s _ _ HV4.out.row HC.out (Kd.C_below HS.out HV4.out.bel) HC1.out HW.out).mono ?_; rintro e w6 ⟨rfl, hb⟩; have HV6 := Aside0.mk (HV4.out.below hb); clear hb; obtain ⟨g0, g1, g2⟩ := boxV_cells HV6.out.blk))
  all_goals go_wp2
  all_goals go_ret3
  all_goals exact ⟨by rw [HF.out]; first | done | rfl, HV6.out.bel⟩
set_option maxRecDepth 100000 in
set_option maxHeartbeats 1000000 in
theorem sread_4 (A : Option Addr) (c : Nat) (l : List S57) (R W : Int) (A1 : Option Addr) (c1 : Nat) (s : List Int) (w : World) (hr : Kd.C k57 w A l.length l) (hc : l.length ≤ c) (hs : Kd.C (Kd.int .i64) w A1 s.length s) (hc1 : s.length ≤ c1) (hl : l.length ≤ 1073741824) (hsl : s.length ≤ 1073741824) (b : goodV l R W = true) (b2 : risingV s (l.length : Int) = true) (q : ¬ (vSum l s < R)) :
    Calls Try.prog 31 #[.agg #[.slice A l.length c, .int .i64 R, .int .i64 W], .slice A1 s.length c1] w fun e w' => e = .returned (.tuple #[.string (readV l R W s).1, .int .i64 (readV l R W s).2.1, .bool (readV l R W s).2.2]) ∧ Below w.heap.size w w' := by
  have HV0 := Aside0.mk (VS.new w A c l R W hr)
  have HC := Aside0.mk hc
  have HC1 := Aside0.mk hc1
  have HS := Aside0.mk hs
  obtain ⟨kg, hg⟩ := (specGood_ev l R W hl).rounds
  rw [b] at hg
  have HE := Aside0.mk hg
  obtain ⟨ks, hk⟩ := (some_ev s (l.length : Int) hsl (by omega) (by omega)).rounds
  rw [b2] at hk
  have HK := Aside0.mk hk
  obtain ⟨kw, hw⟩ := (weight_ev l R W s hsl (risingV_in s _ b2)).rounds
  have HW := Aside0.mk hw
  obtain ⟨_, hp, hR⟩ := good_parts l R W b
  obtain ⟨bi, ⟨hb0, hb1⟩, eb, hB⟩ := best_ev l R W s hsl (risingV_in s _ b2) hp (by rintro rfl; have : vSum l [] = 0 := rfl; omega)
  obtain ⟨kb, hB⟩ := hB.rounds
  have HB := Aside0.mk hB
  have HF : Aside0 (readV l R W s = ((rd_T57 l bi).f2, (rd_T57 l bi).f1, true)) := ⟨by simp [readV, someV, b, b2, q, eb]⟩
  have q1 := decide_eq_false q
  obtain ⟨ad, e1, _, _, _⟩ := at_T57 hr bi hb0 hb1
  subst e1
  clear hr hc hs hc1 hg hk hw hB hp eb q
  obtain ⟨v0, v1, v2⟩ := boxV_cells HV0.out.blk
  go_enter Try.func31, Try.ntmps31
  go_wp2
  go_region_held3 (fun w' => w'.cell? ⟨w.heap.size, 0, none⟩ = some (.slice (some ad) l.length c) ∧ w'.cell? ⟨w.heap.size, 1, none⟩ = some (.int .i64 R) ∧ w'.cell? ⟨w.heap.size, 2, none⟩ = some (.int .i64 W)) (go_keep) (first | (go_at_call 18; refine (spec_GoodVoting.calls kg _ _ l R W true _ HV0.out.drew.row HC.out HE.out).mono ?_; rintro e w2 ⟨rfl, hb⟩; have HV2 := Aside0.mk (HV0.out.drew.below hb); clear hb; obtain ⟨k0, k1, k2⟩ := boxV_cells HV2.out.blk) | (go_at_call 42; refine (spec_l14Some.calls ks _ _ s (l.length : Int) true _ (Kd.C_below HS.out HV2.out.bel) HC1.out HK.out).mono ?_; rintro e w4 ⟨rfl, hd⟩; have HV4 := Aside0.mk (HV2.out.below hd.below); clear hd; obtain ⟨m0, m1, m2⟩ := boxV_cells HV4.out.blk) | (go_at_call 64; refine (spec_l14Weight.calls kw _ _ l R W _ _ s _ _ HV4.out.row HC.out (Kd.C_below HS.out HV4.out.bel) HC1.out HW.out).mono ?_; rintro e w6 ⟨rfl, hb⟩; have HV6 := Aside0.mk (HV4.out.below hb); clear hb; obtain ⟨g0, g1, g2⟩ := boxV_cells HV6.out.blk))
  all_goals go_upto_region 3 with (fail)
  all_goals clear v0 v1 v2 k0 k1 k2 m0 m1 m2
  all_goals (obtain ⟨ad3, e3, t1, t2, t3⟩ := at_T57 HV6.out.row bi hb0 hb1; cases e3; have nn1 : w6.heap.size ≠ w.heap.size := (Nat.ne_of_lt (blk_lt HV6.out.blk)).symm; have nn2 : w.heap.size ≠ w6.heap.size := nn1.symm; have nn3 := World.new_ne w6 _ t1; have nn4 := nn3.symm)
  all_goals go_region_held3 (fun w' => w'.cell? ⟨w.heap.size, 0, none⟩ = some (.slice (some ad) l.length c) ∧ w'.cell? ⟨w.heap.size, 1, none⟩ = some (.int .i64 R) ∧ w'.cell? ⟨w.heap.size, 2, none⟩ = some (.int .i64 W) ∧ w'.cell? (ad.add (bi.toNat * 3)) = some (.int .i64 (rd_T57 l bi).f0) ∧ w'.cell? ⟨(ad.add (bi.toNat * 3)).block, (ad.add (bi.toNat * 3)).off + 1, none⟩ = some (.int .i64 (rd_T57 l bi).f1) ∧ w'.cell? ⟨(ad.add (bi.toNat * 3)).block, (ad.add (bi.toNat * 3)).off + 2, none⟩ = some (.string (rd_T57 l bi).f2)) (go_keep) (first | (go_at_call 66; with_reducible refine (spec_l14Best.calls kb (some ad) c l R W A1 c1 s bi w6.drew HV6.out.drew.row HC.out (Kd.C_below HS.out HV6.out.drew.bel) HC1.out HB.out).mono ?_; rintro e w8 ⟨rfl, hb⟩; have HV8 := Aside0.mk (HV6.out.drew.below hb); clear hb; obtain ⟨n0, n1, n2⟩ := boxV_cells HV8.out.blk; obtain ⟨ad2, e2, d1, d2, d3⟩ := at_T57 HV8.out.row bi hb0 hb1; cases e2) | (go_at_call 66; have HVA := Aside0.mk (HV6.out.alloc (.cells #[.int .i64 0, .int .i64 0, .string ⟨#[]⟩] 57)).drew; have KA := Aside0.mk (show (w6.alloc (.cells #[.int .i64 0, .int .i64 0, .string ⟨#[]⟩] 57)).drew.heap[w6.heap.size]? = some (.cells #[.int .i64 0, .int .i64 0, .string ⟨#[]⟩] 57 (0, 0)) from blk_new w6 _); refine (spec_l14Best.calls kb (some ad) c l R W A1 c1 s bi _ HVA.out.row HC.out (Kd.C_below HS.out HVA.out.bel) HC1.out HB.out).mono ?_; rintro e w8 ⟨rfl, hb⟩; have HV8 := Aside0.mk (HVA.out.below hb); have K8 := Aside0.mk (blk_below KA.out hb); clear hb; have u0 : w8.cell? ⟨w6.heap.size, 0, none⟩ = some (.int .i64 0) := (blk_cell K8.out 0).trans rfl; have u1 : w8.cell? ⟨w6.heap.size, 1, none⟩ = some (.int .i64 0) := (blk_cell K8.out 1).trans rfl; have u2 : w8.cell? ⟨w6.heap.size, 2, none⟩ = some (.string ⟨#[]⟩) := (blk_cell K8.out 2).trans rfl; have f0 := blk_frozen K8.out 0; have f1 := blk_frozen K8.out 1; have f2 := blk_frozen K8.out 2; obtain ⟨n0, n1, n2⟩ := boxV_cells HV8.out.blk; obtain ⟨ad2, e2, d1, d2, d3⟩ := at_T57 HV8.out.row bi hb0 hb1; cases e2))
  all_goals go_upto_region 4 with (fail)
  · obtain ⟨W9, hW9⟩ : ∃ W9, W9 = w8.alloc (.cells #[.int .i64 (rd_T57 l bi).f0, .int .i64 (rd_T57 l bi).f1, .string (rd_T57 l bi).f2] 57) := ⟨_, rfl⟩
    have B9 := Aside0.mk (show Below w.heap.size w W9 by rw [hW9]; exact (HV8.out.alloc _).bel)
    have K9 := Aside0.mk (show W9.heap[w8.heap.size]? = some (.cells #[.int .i64 (rd_T57 l bi).f0, .int .i64 (rd_T57 l bi).f1, .string (rd_T57 l bi).f2] 57 (0, 0)) by rw [hW9]; exact blk_new w8 _)
    rw [← hW9]
    clear hW9 g0 g1 g2 n0 n1 n2 d1 d2 d3 t1 t2 t3 nn1 nn2 nn3 nn4
    have x1 : W9.cell? ⟨w8.heap.size, 1, none⟩ = some (.int .i64 (rd_T57 l bi).f1) := (blk_cell K9.out 1).trans rfl
    have x2 : W9.cell? ⟨w8.heap.size, 2, none⟩ = some (.string (rd_T57 l bi).f2) := (blk_cell K9.out 2).trans rfl
    go_quiet (fail)
    go_wp2
    go_ret3
    exact ⟨by rw [HF.out]; first | done | rfl, pw_below_drewN B9.out _⟩
  · obtain ⟨W9, hW9⟩ : ∃ W9, W9 = (((w8.setCell ⟨w6.heap.size, 0, none⟩ (.int .i64 (rd_T57 l bi).f0)).setCell ⟨w6.heap.size, 1, none⟩ (.int .i64 (rd_T57 l bi).f1)).setCell ⟨w6.heap.size, 2, none⟩ (.string (rd_T57 l bi).f2)) := ⟨_, rfl⟩
    have h6 := HV6.out.bel.size
    have B9 := Aside0.mk (show Below w.heap.size w W9 by rw [hW9]; exact below_set (below_set (below_set HV8.out.bel h6) h6) h6)
    have K9 := Aside0.mk (show W9.heap[w6.heap.size]? = some (.cells #[.int .i64 (rd_T57 l bi).f0, .int .i64 (rd_T57 l bi).f1, .string (rd_T57 l bi).f2] 57 (0, 0)) by rw [hW9]; simpa using blk_set (blk_set (blk_set K8.out 0 (.int .i64 (rd_T57 l bi).f0)) 1 (.int .i64 (rd_T57 l bi).f1)) 2 (.string (rd_T57 l bi).f2))
    rw [← hW9]
    clear hW9 g0 g1 g2 n0 n1 n2 d1 d2 d3 t1 t2 t3 nn1 nn2 nn3 nn4 u0 u1 u2 f0 f1 f2 h6
    have x1 : W9.cell? ⟨w6.heap.size, 1, none⟩ = some (.int .i64 (rd_T57 l bi).f1) := (blk_cell K9.out 1).trans rfl
    have x2 : W9.cell? ⟨w6.heap.size, 2, none⟩ = some (.string (rd_T57 l bi).f2) := (blk_cell K9.out 2).trans rfl
    go_quiet (fail)
    go_wp2
    go_ret3
    exact ⟨by rw [HF.out]; first | done | rfl, pw_below_drewN B9.out _⟩
theorem sread_c (A : Option Addr) (c : Nat) (l : List S57) (R W : Int) (A1 : Option Addr) (c1 : Nat) (s : List Int) (w : World) (hr : Kd.C k57 w A l.length l) (hc : l.length ≤ c) (hs : Kd.C (Kd.int .i64) w A1 s.length s) (hc1 : s.length ≤ c1) (hl : l.length ≤ 1073741824) (hsl : s.length ≤ 1073741824) :
    Calls Try.prog 31 #[.agg #[.slice A l.length c, .int .i64 R, .int .i64 W], .slice A1 s.length c1] w fun e w' => e = .returned (.tuple #[.string (readV l R W s).1, .int .i64 (readV l R W s).2.1, .bool (readV l R W s).2.2]) ∧ Below w.heap.size w w' := by
  cases b : goodV l R W with
  | false => exact sread_1 A c l R W A1 c1 s w hr hc hs hc1 hl hsl b
  | true =>
    cases b2 : risingV s (l.length : Int) with
    | false => exact sread_2 A c l R W A1 c1 s w hr hc hs hc1 hl hsl b b2
    | true =>
      by_cases q : vSum l s < R
      · exact sread_3 A c l R W A1 c1 s w hr hc hs hc1 hl hsl b b2 q
      · exact sread_4 A c l R W A1 c1 s w hr hc hs hc1 hl hsl b b2 q
end Go.Proofs.Ytfbghibgjfegpaa.PRQ
