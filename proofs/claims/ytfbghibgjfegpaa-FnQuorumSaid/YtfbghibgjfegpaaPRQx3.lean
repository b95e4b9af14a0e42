-- Laid by this session's wip/pr.py over the kit's printer and the session's own contracts.
import Derived.Test.YtfbghibgjfegpaaPRQx0
import Derived.Test.YtfbghibgjfegpaaPRQx2
namespace Go.Proofs.Ytfbghibgjfegpaa.PRQ
open Go.RowKit Go.Proofs.YtfbghibgjfegpaaW.PrintWords Go.Proofs.YtfbghibgjfegpaaW.PrintLast Go.Proofs.YtfbghibgjfegpaaW.PrintMore
attribute [local go_sem] max2_int min2_int max_two min_two max_three min_three max_four min_four   -- for this text's walks alone
set_option linter.unusedVariables false
set_option linter.unusedSimpArgs false

/-! ### impl_GoodVoting: function 20, a contract by hand -/
/-- What numbers of copies weigh together. -/
def vSum (l : List S57) (s : List Int) : Int := s.foldl (fun t k => wrap64 (t + (rd_T57 l k).f0)) 0
theorem rd_take (s : List Int) (x : Int) (h0 : 0 ≤ x) (h : x < (s.length : Int)) : s.take (x + 1).toNat = s.take x.toNat ++ [rd s x] := by
 rw [show (x + 1).toNat = x.toNat + 1 by omega, List.take_succ_eq_append_getElem (by omega)]
 simp [rd, List.getD_eq_getElem?_getD, show x.toNat < s.length by omega]
theorem rd_mem (s : List Int) (x : Int) (h0 : 0 ≤ x) (h : x < (s.length : Int)) : rd s x ∈ s := by
 unfold rd
 rw [List.getD_eq_getElem?_getD, List.getElem?_eq_getElem (by omega)]
 exact List.getElem_mem _
set_option maxRecDepth 100000 in
set_option maxHeartbeats 1000000 in
theorem vSum_c (g : Nat) (A : Option Addr) (c : Nat) (l : List S57) (A1 : Option Addr) (c1 : Nat) (s : List Int) (w : World)
  (hg : w.cell? ⟨g, 0, none⟩ = some (.slice A l.length c)) (hl : Kd.C k57 w A l.length l) (hs : Kd.C (Kd.int .i64) w A1 s.length s) (hin : ∀ k ∈ s, 0 ≤ k ∧ k < (l.length : Int)) :
  Calls Try.prog 57 #[.pointer (some ⟨g, 0, none⟩), .slice A1 s.length c1] w fun e w' => e = .returned (.int .i64 (vSum l s)) ∧ Below w.heap.size w w' := by
 have HL := Aside0.mk hl
 have HS := Aside0.mk hs
 have HI := Aside0.mk hin
 have hm := Kd.C_max hs
 clear hl hs hin
 go_enter Try.func57, Try.ntmps57
 go_wp2
 go_loop [5, 7, 10] (fun v5 v7 v10 => ∃ x : Int, 0 ≤ x ∧ x ≤ (s.length : Int) ∧ v10 = .int .i64 x ∧ v5 = .int .i64 (vSum l (s.take x.toNat))) (fun _ _ v => (s.length - intOf v).toNat)
 case atStart => exact ⟨0, by omega, by omega, rfl, rfl⟩
 case round =>
  obtain ⟨x, h0, hx, rfl, rfl⟩ := hrel
  by_cases hlt : x < (s.length : Int)
  ·obtain ⟨ad, e1, c1⟩ := Kd.at_int HS.out x h0 hlt
   cases e1
   have hk := HI.out _ (rd_mem s x h0 hlt)
   obtain ⟨h3, h4⟩ := hk
   obtain ⟨ad2, e2, d1, d2, d3⟩ := at_T57 HL.out (rd s x) h3 h4
   cases e2
   go_wp2
   go_round
   case rel => exact ⟨x + 1, by omega, by omega, by first | rfl | simp, by rw [rd_take s x h0 hlt]; simp [vSum]⟩
   case measure => simp [intOf]; omega
  ·go_wp2
   go_ret
   have e : s.take x.toNat = s := List.take_of_length_le (by omega)
   exact ⟨by rw [e]; first | done | rfl, Below.refl _ _⟩

/-- The numbers of all copies. -/
def vAll (n : Nat) : List Int := (List.range n).map Int.ofNat
theorem vAll_get (xs : List Int) (n : Nat) (hl : xs.length = n) (h : ∀ j : Nat, j < n → rd xs (j : Int) = j) : xs = vAll n := by
 apply List.ext_getElem (by simp [vAll, hl])
 intro i h1 h2
 have := h i (by omega)
 simp [rd, List.getD_eq_getElem?_getD, h1] at this
 simp [vAll, this]
theorem rd_set (xs : List Int) (x : Int) (j : Nat) (v : Int) (h0 : 0 ≤ x) (h : x < (xs.length : Int)) : rd (xs.set x.toNat v) (j : Int) = if (j : Int) = x then v else rd xs (j : Int) := by
 simp only [rd, List.getD_eq_getElem?_getD, List.getElem?_set]
 by_cases e : (j : Int) = x
 ·rw [if_pos e, if_pos (by omega), if_pos (by omega)]; rfl
 ·rw [if_neg e, if_neg (by omega)]
theorem vAll_step (xs : List Int) (n : Nat) (x : Int) (h0 : 0 ≤ x) (hlt : x < (n : Int)) (h : xs.length = n ∧ ∀ j : Nat, (j : Int) < x → rd xs (j : Int) = j) :
  (xs.set x.toNat x).length = n ∧ ∀ j : Nat, (j : Int) < x + 1 → rd (xs.set x.toNat x) (j : Int) = j := by
 refine ⟨by simpa using h.1, fun j hj => ?_⟩
 rw [rd_set xs x j x h0 (by omega)]
 by_cases e : (j : Int) = x
 ·rw [if_pos e]; exact e.symm
 ·rw [if_neg e]; exact h.2 j (by omega)
/-- A row of numbers is handed back, which is read alone. -/
structure RetInts (xs : List Int) (w : World) (e : Ending) (w' : World) : Prop where mk :: (out : ∃ A c, e = .returned (.slice A xs.length c) ∧ Kd.C (Kd.int .i64) w' A xs.length xs ∧ Below w.heap.size w w')
theorem vAll_len (n : Nat) : (vAll n).length = n := by simp [vAll]
set_option maxRecDepth 100000 in
set_option maxHeartbeats 1000000 in
theorem vAll_c (g : Nat) (A : Option Addr) (c : Nat) (l : List S57) (w : World) (hg : w.cell? ⟨g, 0, none⟩ = some (.slice A l.length c)) (hn : l.length ≤ 1000) :
  Calls Try.prog 58 #[.pointer (some ⟨g, 0, none⟩)] w (RetInts (vAll l.length) w) := by
 have h00 : (0 : Int) ≤ (l.length : Int) := by omega
 go_enter Try.func58, Try.ntmps58
 go_wp2_with ((with_reducible refine gate_dst (N := 10) rfl ?_); refine Kd.R_make (Kd.int .i64) w.heap.size 3 rfl (N := 10) rfl 22 _ _ rfl (l.length : Int) rfl rfl Try.underlying22 (.int .i64 0) 8 info3 rfl (by decide) (by omega) 0 (ok := fun _ => True) (okp := fun _ => True) rfl (fun _ hk => hk) trivial h00 (by omega) (Below.refl _ _) (Nat.le_refl _) ?_; intro v1 w1 ho hb hg_ hnew_; clear hg_ hnew_; have HO := Aside0.mk ho; have HB := Aside0.mk hb; clear ho hb; obtain ⟨Ao, co, eo⟩ := Kd.R_slice HO.out; rw [List.length_replicate, Int.toNat_natCast] at eo; subst eo)
 go_loopw [4, 13] (fun v4 v13 wr => ∃ (x : Int) (xs : List Int), 0 ≤ x ∧ x ≤ (l.length : Int) ∧ v13 = .int .i64 x ∧ Aside0 (xs.length = l.length ∧ ∀ j : Nat, (j : Int) < x → rd xs (j : Int) = j) ∧ Aside0 (Kd.R (Kd.int .i64) 3 wr w.heap.size (fun _ => True) (.slice Ao l.length co) xs) ∧ Aside0 (Below w.heap.size w wr)) (fun _ v _ => (l.length - intOf v).toNat)
 case atStart => exact ⟨0, _, by omega, by omega, rfl, ⟨by simp, fun j hj => by omega⟩, HO, HB⟩
 case round =>
  obtain ⟨x, xs, h0, hx, rfl, HA, HO, HB⟩ := hrel
  by_cases hlt : x < (l.length : Int)
  ·obtain ⟨go, cc, eo, gb, gl, cl, HG⟩ := Kd.R_form HO.out (by have := HA.out.1; omega)
   (first | cases eo | (injection eo with ea_ en_ ec_; (first | subst ea_ | (injection ea_ with ea_; subst ea_)); subst ec_; clear en_))
   obtain ⟨hx0, hf0⟩ := Kd.R_celln 0 HO.out x h0 hlt
   have HP := Kd.R_putg HO.out x x
   have HG2 := Aside0.mk HP
   clear HP HG
   go_wp2
   go_roundw
   case rel => exact ⟨x + 1, _, by omega, by omega, by first | rfl | simp, ⟨vAll_step xs l.length x h0 hlt HA.out⟩, ⟨HG2.out.1⟩, ⟨HB.out.setCell gb _⟩⟩
   case measure => simp [intOf]; omega
  ·go_wp2
   go_ret
   have e : xs = vAll l.length := vAll_get xs _ HA.out.1 fun j hj => HA.out.2 j (by omega)
   obtain ⟨e1, e2, e3⟩ := Kd.R_reads' HO.out
   exact ⟨⟨Ao, co, by rw [vAll_len]; rfl, by rw [← e]; exact e3, HB.out⟩⟩

/-- The greatest Version of some, and a copy that has it. -/
def vBest (l : List S57) (s : List Int) : S57 := s.foldl (fun b k => if (rd_T57 l k).f1 > b.f1 then rd_T57 l k else b) ⟨0, -1, ⟨#[]⟩⟩
theorem blk_new2 (w : World) (o1 o2 : Obj) : ((w.alloc o1).alloc o2).heap[w.heap.size + 1]? = some o2 := by simpa using blk_new (w.alloc o1) o2
def cells57 (x : S57) : Array Value := #[.int .i64 x.f0, .int .i64 x.f1, .string x.f2]
theorem vBest_snoc (l : List S57) (s : List Int) (x : Int) (h0 : 0 ≤ x) (h : x < (s.length : Int)) :
  vBest l (s.take (x + 1).toNat) = if (rd_T57 l (rd s x)).f1 > (vBest l (s.take x.toNat)).f1 then rd_T57 l (rd s x) else vBest l (s.take x.toNat) := by
 rw [rd_take s x h0 h]; simp [vBest]
set_option maxRecDepth 100000 in
set_option maxHeartbeats 1000000 in
theorem vBest_c (g : Nat) (A : Option Addr) (c : Nat) (l : List S57) (A1 : Option Addr) (c1 : Nat) (s : List Int) (w : World)
  (hg : w.cell? ⟨g, 0, none⟩ = some (.slice A l.length c)) (hl : Kd.C k57 w A l.length l) (hs : Kd.C (Kd.int .i64) w A1 s.length s) (hin : ∀ k ∈ s, 0 ≤ k ∧ k < (l.length : Int)) :
  Calls Try.prog 59 #[.pointer (some ⟨g, 0, none⟩), .slice A1 s.length c1] w fun e w' => e = .returned (.agg #[.int .i64 (vBest l s).f0, .int .i64 (vBest l s).f1, .string (vBest l s).f2]) ∧ Below w.heap.size w w' := by
 have HL := Aside0.mk hl
 have HS := Aside0.mk hs
 have HI := Aside0.mk hin
 have HG := Aside0.mk hg
 have hm := Kd.C_max hs
 clear hl hs hin hg
 go_enter Try.func59, Try.ntmps59
 go_wp2
 go_loopw [7, 11] (fun v7 v11 wr => ∃ x : Int, 0 ≤ x ∧ x ≤ (s.length : Int) ∧ v11 = .int .i64 x ∧ Aside0 (wr.heap[w.heap.size]? = some (.cells (cells57 z57) 57 (0, 0))) ∧ Aside0 (wr.heap[w.heap.size + 1]? = some (.cells (cells57 (vBest l (s.take x.toNat))) 57 (0, 0))) ∧ Aside0 (Below w.heap.size w wr)) (fun _ v _ => (s.length - intOf v).toNat)
 case atStart => exact ⟨0, by omega, by omega, rfl, ⟨blk_alloc (blk_new w _) _⟩, ⟨blk_new2 w _ _⟩, ⟨below_alloc (below_alloc (Below.refl _ _) _) _⟩⟩
 case round =>
  obtain ⟨x, h0, hx, rfl, HA, HC, HB⟩ := hrel
  have hc0 : wr.cell? ⟨w.heap.size + 1, 0, none⟩ = some (.int .i64 (vBest l (s.take x.toNat)).f0) := (blk_cell HC.out 0).trans rfl
  have hc1 : wr.cell? ⟨w.heap.size + 1, 1, none⟩ = some (.int .i64 (vBest l (s.take x.toNat)).f1) := (blk_cell HC.out 1).trans rfl
  have hc2 : wr.cell? ⟨w.heap.size + 1, 2, none⟩ = some (.string (vBest l (s.take x.toNat)).f2) := (blk_cell HC.out 2).trans rfl
  have hf0 := blk_frozen HC.out 0
  have hf1 := blk_frozen HC.out 1
  have hf2 := blk_frozen HC.out 2
  by_cases hlt : x < (s.length : Int)
  ·obtain ⟨ad, e1, c1⟩ := Kd.at_int HS.out x h0 hlt
   cases e1
   obtain ⟨h3, h4⟩ := HI.out _ (rd_mem s x h0 hlt)
   obtain ⟨ad2, e2, d1, d2, d3⟩ := at_T57 HL.out (rd s x) h3 h4
   cases e2
   have hg := (HB.out.cell (World.block_lt_of_cell? w _ HG.out)).trans HG.out
   replace c1 := (HB.out.cell (World.block_lt_of_cell? w _ c1)).trans c1
   replace d1 := (HB.out.cell (World.block_lt_of_cell? w _ d1)).trans d1
   replace d2 := (HB.out.cell (World.block_lt_of_cell? w _ d2)).trans d2
   replace d3 := (HB.out.cell (World.block_lt_of_cell? w _ d3)).trans d3
   have HV := Aside0.mk (vBest_snoc l s x h0 hlt)
   by_cases hgt : (rd_T57 l (rd s x)).f1 > (vBest l (s.take x.toNat)).f1
   ·have hb1 : decide ((vBest l (s.take x.toNat)).f1 < (rd_T57 l (rd s x)).f1) = true := decide_eq_true hgt
    replace HV := HV.out
    rw [if_pos hgt] at HV
    replace HV := Aside0.mk HV
    clear hgt
    go_wp2
    go_quiet (fail)
    go_wp2
    go_roundw
    case rel => exact ⟨x + 1, by omega, by omega, by first | rfl | simp, ⟨by repeat (first | exact HA.out | refine blk_far ?_ (by simp) _ | refine blk_drewN ?_ _)⟩, ⟨by rw [HV.out]; simpa [cells57] using blk_set (blk_set (blk_set (blk_drewN HC.out _) 0 (.int .i64 (rd_T57 l (rd s x)).f0)) 1 (.int .i64 (rd_T57 l (rd s x)).f1)) 2 (.string (rd_T57 l (rd s x)).f2)⟩, ⟨by repeat (first | exact HB.out | refine below_set ?_ (by simp) | refine pw_below_drewN ?_ _)⟩⟩
    case measure => simp [intOf]; omega
   ·have hb1 : decide ((vBest l (s.take x.toNat)).f1 < (rd_T57 l (rd s x)).f1) = false := decide_eq_false hgt
    replace HV := HV.out
    rw [if_neg hgt] at HV
    replace HV := Aside0.mk HV
    clear hgt
    go_wp2
    go_quiet (fail)
    go_wp2
    go_roundw
    case rel => exact ⟨x + 1, by omega, by omega, by first | rfl | simp, ⟨HA.out⟩, ⟨by rw [HV.out]; exact HC.out⟩, ⟨pw_below_drewN HB.out _⟩⟩
    case measure => simp [intOf]; omega
  ·have e : s.take x.toNat = s := List.take_of_length_le (by omega)
   rw [e] at hc0 hc1 hc2
   have E := Aside0.mk e
   clear e
   have ha0 : wr.cell? ⟨w.heap.size, 0, none⟩ = some (.int .i64 0) := (blk_cell HA.out 0).trans rfl
   have ha1 : wr.cell? ⟨w.heap.size, 1, none⟩ = some (.int .i64 0) := (blk_cell HA.out 1).trans rfl
   have ha2 : wr.cell? ⟨w.heap.size, 2, none⟩ = some (.string ⟨#[]⟩) := (blk_cell HA.out 2).trans rfl
   have hz0 := blk_frozen HA.out 0
   have hz1 := blk_frozen HA.out 1
   have hz2 := blk_frozen HA.out 2
   go_wp2
   refine bodyPost_ret (results_cell_row rfl _ _ w.heap.size 57 (cells57 (vBest l s)) (0, 0) _ rfl (by simpa [cells57] using blk_set (blk_set (blk_set HA.out 0 (.int .i64 (vBest l s).f0)) 1 (.int .i64 (vBest l s).f1)) 2 (.string (vBest l s).f2)) Try.underlying57 rfl (by kernel_rfl)) rfl ?_
   exact ⟨rfl, by repeat (first | exact HB.out | refine below_set ?_ (by simp) | refine pw_below_drewN ?_ _)⟩
theorem rdT57_take (s : List S57) (x : Int) (h0 : 0 ≤ x) (h : x < (s.length : Int)) : s.take (x + 1).toNat = s.take x.toNat ++ [rd_T57 s x] := by
 rw [show (x + 1).toNat = x.toNat + 1 by omega, List.take_succ_eq_append_getElem (by omega)]
 simp [rd_T57, List.getD_eq_getElem?_getD, show x.toNat < s.length by omega]
/-- What the copies of a Version weigh together. -/
def vWeigh (l : List S57) (v : Int) : Int := l.foldl (fun t x => if x.f1 = v then wrap64 (t + x.f0) else t) 0
set_option maxRecDepth 100000 in
set_option maxHeartbeats 1000000 in
theorem vWeigh_c (g : Nat) (A : Option Addr) (c : Nat) (l : List S57) (v : Int) (w : World)
  (hg : w.cell? ⟨g, 0, none⟩ = some (.slice A l.length c)) (hl : Kd.C k57 w A l.length l) :
  Calls Try.prog 60 #[.pointer (some ⟨g, 0, none⟩), .int .i64 v] w fun e w' => e = .returned (.int .i64 (vWeigh l v)) ∧ Below w.heap.size w w' := by
 have HL := Aside0.mk hl
 have hm := Kd.C_max hl
 clear hl
 go_enter Try.func60, Try.ntmps60
 go_wp2
 go_loopw [5, 13] (fun v5 v13 wr => ∃ x : Int, 0 ≤ x ∧ x ≤ (l.length : Int) ∧ v13 = .int .i64 x ∧ v5 = .int .i64 (vWeigh (l.take x.toNat) v) ∧ Aside0 (Below w.heap.size w wr)) (fun _ v _ => (l.length - intOf v).toNat)
 case atStart => exact ⟨0, by omega, by omega, rfl, rfl, ⟨Below.refl _ _⟩⟩
 case round =>
  obtain ⟨x, h0, hx, rfl, rfl, HB⟩ := hrel
  by_cases hlt : x < (l.length : Int)
  ·obtain ⟨ad, e1, c1, c2, c3⟩ := at_T57 HL.out x h0 hlt
   cases e1
   replace c1 := (HB.out.cell (World.block_lt_of_cell? w _ c1)).trans c1
   replace c2 := (HB.out.cell (World.block_lt_of_cell? w _ c2)).trans c2
   replace c3 := (HB.out.cell (World.block_lt_of_cell? w _ c3)).trans c3
   have HV : Aside0 (vWeigh (l.take (x + 1).toNat) v = if (rd_T57 l x).f1 = v then wrap64 (vWeigh (l.take x.toNat) v + (rd_T57 l x).f0) else vWeigh (l.take x.toNat) v) := ⟨by rw [rdT57_take l x h0 hlt]; simp [vWeigh]⟩
   have hz := HB.out.size
   by_cases hgt : (rd_T57 l x).f1 = v
   ·have hb1 : ((rd_T57 l x).f1 == v) = true := beq_iff_eq.2 hgt
    replace HV := HV.out
    rw [if_pos hgt] at HV
    replace HV := Aside0.mk HV
    clear hgt
    go_wp2
    go_roundw
    case rel => exact ⟨x + 1, by omega, by omega, by first | rfl | simp, by rw [HV.out], ⟨below_alloc HB.out _⟩⟩
    case measure => simp [intOf]; omega
   ·have hb1 : ((rd_T57 l x).f1 == v) = false := beq_eq_false_iff_ne.2 hgt
    replace HV := HV.out
    rw [if_neg hgt] at HV
    replace HV := Aside0.mk HV
    clear hgt
    go_wp2
    go_roundw
    case rel => exact ⟨x + 1, by omega, by omega, by first | rfl | simp, by rw [HV.out], ⟨below_alloc HB.out _⟩⟩
    case measure => simp [intOf]; omega
  ·have e : l.take x.toNat = l := List.take_of_length_le (by omega)
   rw [e]
   clear e
   go_wp2
   go_ret
   exact ⟨rfl, HB.out⟩
def inB (n lo hi : Int) : Bool := decide (lo ≤ n ∧ n ≤ hi)
theorem inB_some (n lo hi : Int) : impl_within.f n lo hi = some (inB n lo hi) := by
 unfold impl_within.f inB
 by_cases h : n ≥ lo
 ·rw [if_pos h]; simp [show lo ≤ n from h]
 ·rw [if_neg h]; simp [show ¬ lo ≤ n from h]
theorem inB_c (n lo hi : Int) (b : Bool) (w : World) (h : inB n lo hi = b) : Calls Try.prog 53 #[.int .i64 n, .int .i64 lo, .int .i64 hi] w fun e w' => e = .returned (.bool b) ∧ Drawn0 w w' := impl_within.calls n lo hi b w (by rw [inB_some, h])
def cpP (x : S57) : Bool := (impl_GoodVoting_1.f x.f0 x.f1 x.f2).getD true
theorem cpP_some (x : S57) : impl_GoodVoting_1.f x.f0 x.f1 x.f2 = some (cpP x) := by
 unfold cpP impl_GoodVoting_1.f impl_copyOK.f impl_within.f
 by_cases h1 : x.f0 ≥ 1 <;> by_cases h2 : x.f0 ≤ 10 <;> by_cases h3 : x.f1 ≥ 0 <;> by_cases h4 : x.f1 ≤ 1000000 <;> simp [h1, h2, h3, h4]
theorem any_take_succ {α : Type} (p : α → Bool) (l : List α) (k : Nat) (z : α) (h : k < l.length) : (l.take (k + 1)).any p = ((l.take k).any p || p (l.getD k z)) := by
 rw [List.take_succ_eq_append_getElem h, List.any_append]
 simp [List.getD_eq_getElem?_getD, h]
theorem any_of_get {α : Type} (p : α → Bool) (l : List α) (k : Nat) (z : α) (h : k < l.length) (hp : p (l.getD k z) = true) : l.any p = true := by
 rw [List.any_eq_true]
 refine ⟨l[k], List.getElem_mem h, ?_⟩
 simpa [List.getD_eq_getElem?_getD, h] using hp
set_option maxRecDepth 100000 in
set_option maxHeartbeats 1000000 in
theorem cpIdx_c (A0 : Option Addr) (c0 : Nat) (l0 : List S57) (w : World) (hr0 : Kd.C k57 w A0 l0.length l0) (hl : l0.length ≤ 1000) :
  Calls Try.prog 79 #[.slice A0 l0.length c0, .func (.func 55) #[] #[]] w fun e w' => ∃ r : Int, e = .returned (.int .i64 r) ∧ decide (r ≥ 0) = l0.any cpP ∧ Below w.heap.size w w' := by
 have HR := Aside0.mk hr0
 clear hr0
 go_enter Try.func79, Try.ntmps79
 go_wp2
 go_loopw [5, 8] (fun v5 v8 wr => ∃ x : Int, 0 ≤ x ∧ x ≤ (l0.length : Int) ∧ v8 = .int .i64 x ∧ Aside0 ((l0.take x.toNat).any cpP = false) ∧ Aside0 (Below w.heap.size w wr)) (fun _ v8 _ => (l0.length - intOf v8).toNat)
 case atStart => exact ⟨0, by omega, by omega, rfl, ⟨by simp⟩, ⟨Below.refl _ _⟩⟩
 case round =>
  obtain ⟨x, h0, hx, rfl, HA, HB⟩ := hrel
  by_cases hlt : x < (l0.length : Int)
  ·obtain ⟨ad, rfl, c1, c2, c3⟩ := at_T57 HR.out x h0 hlt
   replace c1 := (HB.out.cell (World.block_lt_of_cell? w _ c1)).trans c1
   replace c2 := (HB.out.cell (World.block_lt_of_cell? w _ c2)).trans c2
   replace c3 := (HB.out.cell (World.block_lt_of_cell? w _ c3)).trans c3
   cases hp : cpP (rd_T57 l0 x) with
   | true =>
    have H1 := Aside0.mk hp
    clear hp
    go_wp2_with (go_at_call 55; refine (impl_GoodVoting_1.calls _ _ _ _ _ (cpP_some _)).mono ?_; rw [H1.out]; rintro e w' ⟨rfl, hb⟩)
    go_ret
    exact ⟨x, rfl, by rw [any_of_get cpP l0 x.toNat z57 (by omega) H1.out]; simpa using h0, below_step HB.out hb⟩
   | false =>
    have H1 := Aside0.mk hp
    clear hp
    go_wp2_with (go_at_call 55; refine (impl_GoodVoting_1.calls _ _ _ _ _ (cpP_some _)).mono ?_; rw [H1.out]; rintro e w' ⟨rfl, hb⟩)
    go_roundw
    case rel => exact ⟨x + 1, by omega, by omega, by first | rfl | simp, ⟨by rw [show (x + 1).toNat = x.toNat + 1 by omega, any_take_succ cpP l0 x.toNat z57 (by omega), HA.out]; exact H1.out⟩, ⟨below_step HB.out hb⟩⟩
    case measure => simp [intOf]; omega
  ·go_wp2
   go_ret
   refine ⟨-1, rfl, ?_, HB.out⟩
   have := HA.out
   rw [List.take_of_length_le (by omega)] at this
   rw [this]; rfl
theorem cpAny_c (A0 : Option Addr) (c0 : Nat) (l0 : List S57) (w : World) (b : Bool) (hb : l0.any cpP = b) (hr0 : Kd.C k57 w A0 l0.length l0) (hl : l0.length ≤ 1000) :
  Calls Try.prog 54 #[.slice A0 l0.length c0, .func (.func 55) #[] #[]] w fun e w' => e = .returned (.bool b) ∧ Below w.heap.size w w' := by
 subst hb
 go_enter Try.func54, Try.ntmps54
 go_wp2_with (go_at_call 79; refine (cpIdx_c _ _ _ _ hr0 hl).mono ?_; rintro e w' ⟨r, rfl, hr, hb⟩; have HH := Aside0.mk hr; clear hr)
 go_ret
 exact ⟨by have := HH.out; simp only [ge_iff_le] at this; simp [this], hb⟩
/-- Two copies with one Version have one Text. -/
def vClash (a b : S57) : Bool := a.f1 == b.f1 && !(a.f2.toList == b.f2.toList)
def vClashes (l : List S57) (n : Nat) : Bool := (List.range n).any fun i => (l.take i).any fun b => vClash (rd_T57 l (i : Int)) b
def vTot (l : List S57) : Int := vSum l (vAll l.length)
def vTop (l : List S57) : Int := (vBest l (vAll l.length)).f1
def goodV (l : List S57) (R W : Int) : Bool :=
 inB l.length 1 7 && !l.any cpP && inB R 1 (vTot l) && inB W 1 (vTot l) && !decide (wrap64 (R + W) ≤ vTot l) && !decide (wrap64 (2 * W) ≤ vTot l) && !vClashes l l.length
  && (vTop l == 0 || decide (vWeigh l (vTop l) ≥ W))
theorem vAll_in (n : Nat) : ∀ k ∈ vAll n, 0 ≤ k ∧ k < (n : Int) := by
 intro k hk
 obtain ⟨j, hj, rfl⟩ := List.mem_map.1 hk
 have := List.mem_range.1 hj
 exact ⟨Int.natCast_nonneg _, by show (j : Int) < n; omega⟩
theorem vClashes_succ (l : List S57) (x : Int) (h0 : 0 ≤ x) : vClashes l (x + 1).toNat = (vClashes l x.toNat || (l.take x.toNat).any fun b => vClash (rd_T57 l x) b) := by
 rw [show (x + 1).toNat = x.toNat + 1 by omega]
 unfold vClashes
 rw [List.range_succ, List.any_append]
 simp [show ((x.toNat : Nat) : Int) = x by omega]
theorem vClashes_mono (l : List S57) (n m : Nat) (h : n ≤ m) (hn : vClashes l n = true) : vClashes l m = true := by
 unfold vClashes at *
 rw [List.any_eq_true] at *
 obtain ⟨i, hi, hp⟩ := hn
 exact ⟨i, List.mem_range.2 (by have := List.mem_range.1 hi; omega), hp⟩
def boxV (A : Option Addr) (n c : Nat) (R W : Int) : Obj := .cells #[.slice A n c, .int .i64 R, .int .i64 W] 35 (0, 0)
theorem boxV_cells {w : World} {g : Nat} {A : Option Addr} {n c : Nat} {R W : Int} (h : w.heap[g]? = some (boxV A n c R W)) :
  w.cell? ⟨g, 0, none⟩ = some (.slice A n c) ∧ w.cell? ⟨g, 1, none⟩ = some (.int .i64 R) ∧ w.cell? ⟨g, 2, none⟩ = some (.int .i64 W) :=
 ⟨(blk_cell h 0).trans rfl, (blk_cell h 1).trans rfl, (blk_cell h 2).trans rfl⟩
/-- Where a voting lies in a variable: its block and what has been before. -/
structure VS (w : World) (g : Nat) (A : Option Addr) (c : Nat) (l : List S57) (R W : Int) (w1 : World) : Prop where
 blk : w1.heap[g]? = some (boxV A l.length c R W)
 row : Kd.C k57 w1 A l.length l
 bel : Below w.heap.size w w1
 ge : w.heap.size ≤ g
theorem VS.below {w w1 w2 : World} {g c : Nat} {A : Option Addr} {l : List S57} {R W : Int} (h : VS w g A c l R W w1) (hb : Below w1.heap.size w1 w2) : VS w g A c l R W w2 :=
 ⟨blk_below h.blk hb, Kd.C_below h.row hb, below_step h.bel hb, h.ge⟩
theorem VS.new (w : World) (A : Option Addr) (c : Nat) (l : List S57) (R W : Int) (hl : Kd.C k57 w A l.length l) : VS w w.heap.size A c l R W (w.alloc (.cells #[.slice A l.length c, .int .i64 R, .int .i64 W] 35)) :=
 ⟨blk_new w _, Kd.C_alloc hl _, below_alloc (Below.refl _ _) _, Nat.le_refl _⟩
theorem VS.drewN {w w1 : World} {g c : Nat} {A : Option Addr} {l : List S57} {R W : Int} (h : VS w g A c l R W w1) (n : Nat) : VS w g A c l R W (w1.drewN n) := h.below (pw_below_drewN (Below.refl _ _) n)
theorem VS.alloc {w w1 : World} {g c : Nat} {A : Option Addr} {l : List S57} {R W : Int} (h : VS w g A c l R W w1) (o : Obj) : VS w g A c l R W (w1.alloc o) := h.below (below_alloc (Below.refl _ _) o)
theorem VS.drew {w w1 : World} {g c : Nat} {A : Option Addr} {l : List S57} {R W : Int} (h : VS w g A c l R W w1) : VS w g A c l R W w1.drew := h.below (below_drew1 (Below.refl _ _))
theorem drewN_le (w : World) (n : Nat) : (w.drewN n).heap.size = w.heap.size := rfl
theorem any_take_take (p : S57 → Bool) (l : List S57) (x y : Int) (hx : x ≤ (l.length : Int)) (y0 : 0 ≤ y) (hy : y < x) (h : ((l.take x.toNat).take y.toNat).any p = false) (hp : p (rd_T57 l y) = false) :
  ((l.take x.toNat).take (y + 1).toNat).any p = false := by
 rw [show (y + 1).toNat = y.toNat + 1 by omega, any_take_succ p _ _ z57 (by rw [List.length_take]; omega), h]
 rw [List.getD_eq_getElem?_getD, List.getElem?_take_of_lt (by omega), ← List.getD_eq_getElem?_getD]
 simpa [rd_T57] using hp
theorem clash_hit (l : List S57) (x y : Int) (h0 : 0 ≤ x) (hx : x < (l.length : Int)) (y0 : 0 ≤ y) (hy : y < x) (h : vClash (rd_T57 l x) (rd_T57 l y) = true) : vClashes l l.length = true := by
 refine vClashes_mono l (x + 1).toNat _ (by omega) ?_
 rw [vClashes_succ l x h0]
 rw [Bool.or_eq_true]
 right
 refine any_of_get _ _ y.toNat z57 (by rw [List.length_take]; omega) ?_
 rw [List.getD_eq_getElem?_getD, List.getElem?_take_of_lt (by omega), ← List.getD_eq_getElem?_getD]
 exact h
theorem clash_none (l : List S57) (x y : Int) (h0 : 0 ≤ x) (hx : x ≤ (l.length : Int)) (hy : y ≤ x) (hn : ¬ y < x) (h1 : vClashes l x.toNat = false) (h2 : ((l.take x.toNat).take y.toNat).any (vClash (rd_T57 l x)) = false) : vClashes l (x + 1).toNat = false := by
 obtain rfl : y = x := by omega
 rw [vClashes_succ l y h0, h1]
 rw [List.take_take, Nat.min_self] at h2
 rw [h2]; rfl
set_option maxRecDepth 100000 in
set_option maxHeartbeats 2000000 in
theorem goodV_c (A : Option Addr) (c : Nat) (l : List S57) (R W : Int) (w : World) (hr : Kd.C k57 w A l.length l) (hc : l.length ≤ c) :
  Calls Try.prog 20 #[.agg #[.slice A l.length c, .int .i64 R, .int .i64 W]] w fun e w' => e = .returned (.bool (goodV l R W)) ∧ Below w.heap.size w w' := by
 have HV0 := Aside0.mk (VS.new w A c l R W hr)
 have HC := Aside0.mk hc
 clear hr hc
 by_cases b1 : inB l.length 1 7 = true
 case neg =>
  have HF : Aside0 (goodV l R W = false) := ⟨by simp [goodV, b1]⟩
  replace b1 : inB l.length 1 7 = false := by simpa using b1
  go_enter Try.func20, Try.ntmps20
  go_wp2_with (first | (go_at_call 53; refine (inB_c _ _ _ _ _ rfl).mono ?_; rintro e w' ⟨rfl, ⟨nd, rfl⟩⟩))
  go_ret
  exact ⟨by rw [HF.out]; first | done | rfl, (HV0.out.drewN _).bel⟩
 have hl7 : l.length ≤ 7 := by unfold inB at b1; simp at b1; omega
 by_cases b2 : l.any cpP = true
 case pos =>
  have HF : Aside0 (goodV l R W = false) := ⟨by simp [goodV, b2]⟩
  have B2 := Aside0.mk b2
  clear b2
  go_enter Try.func20, Try.ntmps20
  go_wp2_with (first | (go_at_call 53; refine (inB_c _ _ _ _ _ rfl).mono ?_; rintro e w' ⟨rfl, ⟨nd, rfl⟩⟩) | (go_at_call 54; refine (cpAny_c _ _ _ _ true B2.out (HV0.out.drewN _).row (by omega)).mono ?_; rintro e w2 ⟨rfl, hb⟩; have HV := Aside0.mk ((HV0.out.drewN _).below hb); clear hb))
  go_ret
  exact ⟨by rw [HF.out]; first | done | rfl, HV.out.bel⟩
 have B2 : Aside0 (l.any cpP = false) := ⟨by simpa using b2⟩
 clear b2
 by_cases b3 : inB R 1 (vSum l (vAll l.length)) = true
 case neg =>
  have HF : Aside0 (goodV l R W = false) := ⟨by simp [goodV, vTot, b3]⟩
  replace b3 : inB R 1 (vSum l (vAll l.length)) = false := by simpa using b3
  go_enter Try.func20, Try.ntmps20
  go_wp2_with (first | (go_at_call 53; refine (inB_c _ _ _ _ _ rfl).mono ?_; rintro e w' ⟨rfl, ⟨nd, rfl⟩⟩) | (go_at_call 54; refine (cpAny_c _ _ _ _ false B2.out (HV0.out.drewN _).row (by omega)).mono ?_; rintro e w2 ⟨rfl, hb⟩; have HV2 := Aside0.mk ((HV0.out.drewN _).below hb); clear hb) | (go_at_call 58; refine (vAll_c w.heap.size A c l _ (boxV_cells HV2.out.blk).1 (by omega)).mono ?_; rintro e w3 ⟨A1, c1, rfl, hA1, hb⟩; have HV3 := Aside0.mk (HV2.out.below hb); have HA1 := Aside0.mk hA1; clear hb hA1) | (go_at_call 57; refine (vSum_c w.heap.size A c l A1 c1 (vAll l.length) _ (boxV_cells HV3.out.blk).1 HV3.out.row HA1.out (vAll_in _)).mono ?_; rintro e w4 ⟨rfl, hb⟩; have HV4 := Aside0.mk (HV3.out.below hb); clear hb; obtain ⟨k0, k1, k2⟩ := boxV_cells HV4.out.blk))
  go_ret
  exact ⟨by rw [HF.out]; first | done | rfl, (HV4.out.drewN _).bel⟩
 by_cases b4 : inB W 1 (vSum l (vAll l.length)) = true
 case neg =>
  have HF : Aside0 (goodV l R W = false) := ⟨by simp [goodV, vTot, b4]⟩
  replace b4 : inB W 1 (vSum l (vAll l.length)) = false := by simpa using b4
  go_enter Try.func20, Try.ntmps20
  go_wp2_with (first | (go_at_call 53; refine (inB_c _ _ _ _ _ rfl).mono ?_; rintro e w' ⟨rfl, ⟨nd, rfl⟩⟩) | (go_at_call 54; refine (cpAny_c _ _ _ _ false B2.out (HV0.out.drewN _).row (by omega)).mono ?_; rintro e w2 ⟨rfl, hb⟩; have HV2 := Aside0.mk ((HV0.out.drewN _).below hb); clear hb) | (go_at_call 58; refine (vAll_c w.heap.size A c l _ (boxV_cells HV2.out.blk).1 (by omega)).mono ?_; rintro e w3 ⟨A1, c1, rfl, hA1, hb⟩; have HV3 := Aside0.mk (HV2.out.below hb); have HA1 := Aside0.mk hA1; clear hb hA1) | (go_at_call 57; refine (vSum_c w.heap.size A c l A1 c1 (vAll l.length) _ (boxV_cells HV3.out.blk).1 HV3.out.row HA1.out (vAll_in _)).mono ?_; rintro e w4 ⟨rfl, hb⟩; have HV4 := Aside0.mk (HV3.out.below hb); clear hb; obtain ⟨k0, k1, k2⟩ := boxV_cells HV4.out.blk))
  go_ret
  exact ⟨by rw [HF.out]; first | done | rfl, (HV4.out.drewN _).bel⟩
 by_cases b5 : wrap64 (R + W) ≤ (vSum l (vAll l.length))
 case pos =>
  have HF : Aside0 (goodV l R W = false) := ⟨by simp [goodV, vTot, b5]⟩
  replace b5 : decide (wrap64 (R + W) ≤ (vSum l (vAll l.length))) = true := decide_eq_true b5
  go_enter Try.func20, Try.ntmps20
  go_wp2_with (first | (go_at_call 53; refine (inB_c _ _ _ _ _ rfl).mono ?_; rintro e w' ⟨rfl, ⟨nd, rfl⟩⟩) | (go_at_call 54; refine (cpAny_c _ _ _ _ false B2.out (HV0.out.drewN _).row (by omega)).mono ?_; rintro e w2 ⟨rfl, hb⟩; have HV2 := Aside0.mk ((HV0.out.drewN _).below hb); clear hb) | (go_at_call 58; refine (vAll_c w.heap.size A c l _ (boxV_cells HV2.out.blk).1 (by omega)).mono ?_; rintro e w3 ⟨A1, c1, rfl, hA1, hb⟩; have HV3 := Aside0.mk (HV2.out.below hb); have HA1 := Aside0.mk hA1; clear hb hA1) | (go_at_call 57; refine (vSum_c w.heap.size A c l A1 c1 (vAll l.length) _ (boxV_cells HV3.out.blk).1 HV3.out.row HA1.out (vAll_in _)).mono ?_; rintro e w4 ⟨rfl, hb⟩; have HV4 := Aside0.mk (HV3.out.below hb); clear hb; obtain ⟨k0, k1, k2⟩ := boxV_cells HV4.out.blk))
  go_ret
  exact ⟨by rw [HF.out]; first | done | rfl, (HV4.out.drewN _).bel⟩
 replace b5 : decide (wrap64 (R + W) ≤ (vSum l (vAll l.length))) = false := decide_eq_false b5
 by_cases b6 : wrap64 (2 * W) ≤ (vSum l (vAll l.length))
 case pos =>
  have HF : Aside0 (goodV l R W = false) := ⟨by simp [goodV, vTot, b6]⟩
  replace b6 : decide (wrap64 (2 * W) ≤ (vSum l (vAll l.length))) = true := decide_eq_true b6
  go_enter Try.func20, Try.ntmps20
  go_wp2_with (first | (go_at_call 53; refine (inB_c _ _ _ _ _ rfl).mono ?_; rintro e w' ⟨rfl, ⟨nd, rfl⟩⟩) | (go_at_call 54; refine (cpAny_c _ _ _ _ false B2.out (HV0.out.drewN _).row (by omega)).mono ?_; rintro e w2 ⟨rfl, hb⟩; have HV2 := Aside0.mk ((HV0.out.drewN _).below hb); clear hb) | (go_at_call 58; refine (vAll_c w.heap.size A c l _ (boxV_cells HV2.out.blk).1 (by omega)).mono ?_; rintro e w3 ⟨A1, c1, rfl, hA1, hb⟩; have HV3 := Aside0.mk (HV2.out.below hb); have HA1 := Aside0.mk hA1; clear hb hA1) | (go_at_call 57; refine (vSum_c w.heap.size A c l A1 c1 (vAll l.length) _ (boxV_cells HV3.out.blk).1 HV3.out.row HA1.out (vAll_in _)).mono ?_; rintro e w4 ⟨rfl, hb⟩; have HV4 := Aside0.mk (HV3.out.below hb); clear hb; obtain ⟨k0, k1, k2⟩ := boxV_cells HV4.out.blk))
  go_ret
  exact ⟨by rw [HF.out]; first | done | rfl, (HV4.out.drewN _).bel⟩
 replace b6 : decide (wrap64 (2 * W) ≤ (vSum l (vAll l.length))) = false := decide_eq_false b6
 have HF : Aside0 (goodV l R W = (!vClashes l l.length && (vTop l == 0 || decide (vWeigh l (vTop l) ≥ W)))) := ⟨by unfold goodV vTot; rw [b1, B2.out, b3, b4, b5, b6]; rfl⟩
 go_enter Try.func20, Try.ntmps20
 go_wp2_with (first | (go_at_call 53; refine (inB_c _ _ _ _ _ rfl).mono ?_; rintro e w' ⟨rfl, ⟨nd, rfl⟩⟩) | (go_at_call 54; refine (cpAny_c _ _ _ _ false B2.out (HV0.out.drewN _).row (by omega)).mono ?_; rintro e w2 ⟨rfl, hb⟩; have HV2 := Aside0.mk ((HV0.out.drewN _).below hb); clear hb) | (go_at_call 58; refine (vAll_c w.heap.size A c l _ (boxV_cells HV2.out.blk).1 (by omega)).mono ?_; rintro e w3 ⟨A1, c1, rfl, hA1, hb⟩; have HV3 := Aside0.mk (HV2.out.below hb); have HA1 := Aside0.mk hA1; clear hb hA1) | (go_at_call 57; refine (vSum_c w.heap.size A c l A1 c1 (vAll l.length) _ (boxV_cells HV3.out.blk).1 HV3.out.row HA1.out (vAll_in _)).mono ?_; rintro e w4 ⟨rfl, hb⟩; have HV4 := Aside0.mk (HV3.out.below hb); clear hb; obtain ⟨k0, k1, k2⟩ := boxV_cells HV4.out.blk))
 clear b3 b4 b5 b6 b1
 go_loopw [52] (fun v52 wr => ∃ x : Int, 0 ≤ x ∧ x ≤ (l.length : Int) ∧ v52 = .int .i64 x ∧ Aside0 (vClashes l x.toNat = false) ∧ Aside0 (VS w w.heap.size A c l R W wr)) (fun v _ => (l.length - intOf v).toNat)
 case atStart => exact ⟨0, by omega, by omega, rfl, ⟨by simp [vClashes]⟩, ⟨HV4.out.drewN _⟩⟩
 case round =>
  obtain ⟨x, h0, hx, rfl, HX, HV⟩ := hrel
  clear k0 k1 k2 HV4 HV3 HA1 HV2 HV0
  obtain ⟨k0, k1, k2⟩ := boxV_cells HV.out.blk
  by_cases hlt : x < (l.length : Int)
  ·obtain ⟨ad, e1, d1, d2, d3⟩ := at_T57 HV.out.row x h0 hlt
   cases e1
   have hcap := HC.out
   have hz := blk_lt HV.out.blk
   have hmx : max x 0 = x := by omega
   go_wp2
   obtain ⟨wo, rfl⟩ : ∃ wo : World, wo = wr := ⟨_, rfl⟩
   go_loopw [62] (fun v62 wi => ∃ y : Int, 0 ≤ y ∧ y ≤ x ∧ v62 = .int .i64 y ∧ Aside0 (((l.take x.toNat).take y.toNat).any (vClash (rd_T57 l x)) = false) ∧ Aside0 (VS w w.heap.size (some ad) c l R W wi) ∧ Aside0 (wi.heap[wo.heap.size]? = some (.cells (cells57 (rd_T57 l x)) 57 (0, 0)))) (fun v _ => (x - intOf v).toNat)
   case atStart => exact ⟨0, by omega, by omega, rfl, ⟨by simp⟩, ⟨HV.out.alloc _⟩, ⟨blk_new wo _⟩⟩
   case round =>
    obtain ⟨y, y0, hy, rfl, HY, HV, HO⟩ := hrel
    clear k0 k1 k2 d1 d2 d3
    by_cases hyt : y < x
    ·obtain ⟨ad2, e2, d1, d2, d3⟩ := at_T57 HV.out.row y y0 (by omega)
     cases e2
     have o0 : wr.cell? ⟨wo.heap.size, 0, none⟩ = some (.int .i64 (rd_T57 l x).f0) := (blk_cell HO.out 0).trans rfl
     have o1 : wr.cell? ⟨wo.heap.size, 1, none⟩ = some (.int .i64 (rd_T57 l x).f1) := (blk_cell HO.out 1).trans rfl
     have o2 : wr.cell? ⟨wo.heap.size, 2, none⟩ = some (.string (rd_T57 l x).f2) := (blk_cell HO.out 2).trans rfl
     have hzo := blk_lt HO.out
     cases q1 : ((rd_T57 l x).f1 == (rd_T57 l y).f1) with
     | false =>
      have HQ : Aside0 (vClash (rd_T57 l x) (rd_T57 l y) = false) := ⟨by unfold vClash; rw [q1]; rfl⟩
      go_wp2
      go_roundw
      case rel => exact ⟨y + 1, by omega, by omega, by first | rfl | simp, ⟨any_take_take _ l x y hx y0 hyt HY.out HQ.out⟩, ⟨HV.out.alloc _⟩, ⟨blk_alloc HO.out _⟩⟩
      case measure => simp [intOf]; omega
     | true =>
      cases q2 : ((rd_T57 l x).f2.toList == (rd_T57 l y).f2.toList) with
      | true =>
       have HQ : Aside0 (vClash (rd_T57 l x) (rd_T57 l y) = false) := ⟨by unfold vClash; rw [q1, q2]; rfl⟩
       go_wp2
       go_roundw
       case rel => exact ⟨y + 1, by omega, by omega, by first | rfl | simp, ⟨any_take_take _ l x y hx y0 hyt HY.out HQ.out⟩, ⟨HV.out.alloc _⟩, ⟨blk_alloc HO.out _⟩⟩
       case measure => simp [intOf]; omega
      | false =>
       have HQ : Aside0 (vClash (rd_T57 l x) (rd_T57 l y) = true) := ⟨by unfold vClash; rw [q1, q2]; rfl⟩
       replace HF : Aside0 (goodV l R W = false) := ⟨by rw [HF.out, clash_hit l x y h0 hlt y0 hyt HQ.out]; rfl⟩
       go_wp2
       go_ret
       exact ⟨by rw [HF.out]; first | done | rfl, (HV.out.alloc _).bel⟩
    ·go_wp2
     go_roundw
     case rel => exact ⟨x + 1, by omega, by omega, by first | rfl | simp, ⟨clash_none l x y h0 hx hy hyt HX.out HY.out⟩, HV⟩
     case measure => simp [intOf]; omega
  ·have hfl : ∀ (a b : Int) (s : ByteArray) (W : World), (Instr.field 57 (.agg #[.int .i64 a, .int .i64 b, .string s]) 1).run Try.prog W = .ok (.int .i64 b) W := fun _ _ _ _ => by rfl
   go_wp2_with (first | (go_at_call 58; refine (vAll_c w.heap.size A c l _ (boxV_cells HV.out.blk).1 (by omega)).mono ?_; rintro e w5 ⟨A2, c2, rfl, hA2, hb⟩; have HV5 := Aside0.mk (HV.out.below hb); have HA2 := Aside0.mk hA2; clear hb hA2) | (go_at_call 59; refine (vBest_c w.heap.size A c l A2 c2 (vAll l.length) _ (boxV_cells HV5.out.blk).1 HV5.out.row HA2.out (vAll_in _)).mono ?_; rintro e w6 ⟨rfl, hb⟩; have HV6 := Aside0.mk (HV5.out.below hb); clear hb; obtain ⟨m0, m1, m2⟩ := boxV_cells HV6.out.blk))
   have HT : Aside0 ((vBest l (vAll l.length)).f1 = vTop l) := ⟨rfl⟩
   rw [HT.out]
   have e : x = (l.length : Int) := by omega
   have HX2 : Aside0 (vClashes l l.length = false) := ⟨by have := HX.out; rwa [e, Int.toNat_natCast] at this⟩
   clear e HX
   cases q : (vTop l == 0) with
   | true =>
    replace HF : Aside0 (goodV l R W = true) := ⟨by rw [HF.out, HX2.out, q]; rfl⟩
    go_quiet (fail)
    go_wp2
    go_ret
    exact ⟨by rw [HF.out]; first | done | rfl, (HV6.out.drewN _).bel⟩
   | false =>
    replace HF : Aside0 (goodV l R W = decide (vWeigh l (vTop l) ≥ W)) := ⟨by rw [HF.out, HX2.out, q]; simp⟩
    go_region_with (first | (go_at_call 60; refine (vWeigh_c w.heap.size A c l (vTop l) _ ?hA ?hB).mono ?_; (case hA => exact (boxV_cells HV6.out.blk).1); (case hB => exact HV6.out.row); rintro e w7 ⟨rfl, hb⟩; have HV7 := Aside0.mk (HV6.out.drew.below hb); clear hb; obtain ⟨n0, n1, n2⟩ := boxV_cells HV7.out.blk))
    all_goals (go_wp2; go_ret; exact ⟨by rw [HF.out]; first | done | rfl, HV7.out.bel⟩)
def newestV (l : List S57) (R W : Int) : Int × Int × Bool := if goodV l R W = true then (vTop l, vWeigh l (vTop l), true) else (0, 0, false)
set_option maxRecDepth 100000 in
set_option maxHeartbeats 1000000 in
theorem newestV_c (A : Option Addr) (c : Nat) (l : List S57) (R W : Int) (w : World) (hr : Kd.C k57 w A l.length l) (hc : l.length ≤ c) :
  Calls Try.prog 23 #[.agg #[.slice A l.length c, .int .i64 R, .int .i64 W]] w fun e w' => e = .returned (.tuple #[.int .i64 (newestV l R W).1, .int .i64 (newestV l R W).2.1, .bool (newestV l R W).2.2]) ∧ Below w.heap.size w w' := by
 have HV0 := Aside0.mk (VS.new w A c l R W hr)
 have HC := Aside0.mk hc
 clear hr hc
 have hfl : ∀ (a b : Int) (s : ByteArray) (W : World), (Instr.field 57 (.agg #[.int .i64 a, .int .i64 b, .string s]) 1).run Try.prog W = .ok (.int .i64 b) W := fun _ _ _ _ => by rfl
 cases b : goodV l R W with
 | false =>
  have HF : Aside0 (newestV l R W = (0, 0, false)) := ⟨by simp [newestV, b]⟩
  go_enter Try.func23, Try.ntmps23
  go_wp2_with (first | (go_at_call 20; refine (goodV_c _ _ _ _ _ _ HV0.out.row HC.out).mono ?_; rintro e w2 ⟨rfl, hb⟩; have HV2 := Aside0.mk (HV0.out.below hb); clear hb))
  go_ret3
  exact ⟨by rw [HF.out]; first | done | rfl, HV2.out.bel⟩
 | true =>
  have HF : Aside0 (newestV l R W = (vTop l, vWeigh l (vTop l), true)) := ⟨by simp [newestV, b]⟩
  have hlen : l.length ≤ 7 := by
   have h := b
   unfold goodV inB at h
   simp at h
   omega
  go_enter Try.func23, Try.ntmps23
  go_wp2_with (first | (go_at_call 20; refine (goodV_c _ _ _ _ _ _ HV0.out.row HC.out).mono ?_; rintro e w2 ⟨rfl, hb⟩; have HV2 := Aside0.mk (HV0.out.below hb); clear hb) | (go_at_call 58; refine (vAll_c w.heap.size A c l _ (boxV_cells HV2.out.blk).1 (by omega)).mono ?_; rintro e w3 ⟨A1, c1, rfl, hA1, hb⟩; have HV3 := Aside0.mk (HV2.out.below hb); have HA1 := Aside0.mk hA1; clear hb hA1) | (go_at_call 59; refine (vBest_c w.heap.size A c l A1 c1 (vAll l.length) _ (boxV_cells HV3.out.blk).1 HV3.out.row HA1.out (vAll_in _)).mono ?_; rintro e w4 ⟨rfl, hb⟩; have HV4 := Aside0.mk (HV3.out.below hb); clear hb) | (go_at_call 60; refine (vWeigh_c w.heap.size A c l _ _ (boxV_cells HV4.out.blk).1 HV4.out.row).mono ?_; rintro e w5 ⟨rfl, hb⟩; have HV5 := Aside0.mk (HV4.out.below hb); clear hb))
  go_ret3
  exact ⟨by rw [HF.out]; first | done | rfl, HV5.out.bel⟩
/-- Numbers that rise, from 0 below n. -/
def risingFrom (n : Int) : Int → List Int → Bool
 | _, [] => true
 | b, k :: l => inB k (b + 1) (n - 1) && risingFrom n k l
def risingV (l : List Int) (n : Int) : Bool := risingFrom n (-1) l
theorem drop_rd (s : List Int) (x : Int) (h0 : 0 ≤ x) (h : x < (s.length : Int)) : s.drop x.toNat = rd s x :: s.drop (x + 1).toNat := by
 rw [show (x + 1).toNat = x.toNat + 1 by omega, List.drop_eq_getElem_cons (by omega)]
 simp [rd, List.getD_eq_getElem?_getD, show x.toNat < s.length by omega]
set_option maxRecDepth 100000 in
set_option maxHeartbeats 1000000 in
theorem risingV_c (A1 : Option Addr) (c1 : Nat) (s : List Int) (n : Int) (w : World) (hs : Kd.C (Kd.int .i64) w A1 s.length s) (hn0 : 0 ≤ n) (hn : n ≤ 1000) :
  Calls Try.prog 44 #[.slice A1 s.length c1, .int .i64 n] w fun e w' => e = .returned (.bool (risingV s n)) ∧ Below w.heap.size w w' := by
 have HS := Aside0.mk hs
 have hm := Kd.C_max hs
 clear hs
 go_enter Try.func44, Try.ntmps44
 go_wp2
 go_loopw [5, 7, 10] (fun v5 v7 v10 wr => ∃ x b : Int, 0 ≤ x ∧ x ≤ (s.length : Int) ∧ v10 = .int .i64 x ∧ v5 = .int .i64 b ∧ -1 ≤ b ∧ b ≤ 1000 ∧ Aside0 (risingV s n = risingFrom n b (s.drop x.toNat)) ∧ Aside0 (Below w.heap.size w wr)) (fun _ _ v _ => (s.length - intOf v).toNat)
 case atStart => exact ⟨0, -1, by omega, by omega, rfl, rfl, by omega, by omega, ⟨rfl⟩, ⟨Below.refl _ _⟩⟩
 case round =>
  obtain ⟨x, b, h0, hx, rfl, rfl, hb0, hb1, HR, HB⟩ := hrel
  by_cases hlt : x < (s.length : Int)
  ·obtain ⟨ad, e1, d1⟩ := Kd.at_int HS.out x h0 hlt
   cases e1
   replace d1 := (HB.out.cell (World.block_lt_of_cell? w _ d1)).trans d1
   have HD := Aside0.mk (drop_rd s x h0 hlt)
   cases q : inB (rd s x) (b + 1) (n - 1) with
   | false =>
    have HF : Aside0 (risingV s n = false) := ⟨by rw [HR.out, HD.out]; simp [risingFrom, q]⟩
    go_wp2_with (first | (go_at_call 53; refine (inB_c _ _ _ _ _ rfl).mono ?_; rintro e w' ⟨rfl, ⟨nd, rfl⟩⟩))
    go_ret
    exact ⟨by rw [HF.out]; first | done | rfl, pw_below_drewN HB.out _⟩
   | true =>
    have HQ : Aside0 (b + 1 ≤ rd s x ∧ rd s x ≤ n - 1) := ⟨by unfold inB at q; simpa using q⟩
    replace HR : Aside0 (risingV s n = risingFrom n (rd s x) (s.drop (x + 1).toNat)) := ⟨by rw [HR.out, HD.out]; simp [risingFrom, q]⟩
    go_wp2_with (first | (go_at_call 53; refine (inB_c _ _ _ _ _ rfl).mono ?_; rintro e w' ⟨rfl, ⟨nd, rfl⟩⟩))
    go_roundw
    case rel => exact ⟨x + 1, rd s x, by omega, by omega, by first | rfl | simp, rfl, by have := HQ.out; omega, by have := HQ.out; omega, HR, ⟨pw_below_drewN HB.out _⟩⟩
    case measure => simp [intOf]; omega
  ·have HF : Aside0 (risingV s n = true) := ⟨by rw [HR.out, List.drop_eq_nil_of_le (by omega)]; rfl⟩
   go_wp2
   go_ret
   exact ⟨by rw [HF.out]; first | done | rfl, HB.out⟩
theorem rising_in (n : Int) : ∀ (l : List Int) (b : Int), -1 ≤ b → risingFrom n b l = true → ∀ k ∈ l, 0 ≤ k ∧ k < n
 | [], _, _, _ => by simp
 | a :: l, b, hb, h => by
  simp only [risingFrom, Bool.and_eq_true] at h
  obtain ⟨h1, h2⟩ := h
  have h1' : b + 1 ≤ a ∧ a ≤ n - 1 := by unfold inB at h1; simpa using h1
  intro k hk
  rcases List.mem_cons.1 hk with rfl | hk
  ·omega
  ·exact rising_in n l a (by omega) h2 k hk
theorem risingV_in (s : List Int) (n : Int) (h : risingV s n = true) : ∀ k ∈ s, 0 ≤ k ∧ k < n := rising_in n s (-1) (by omega) h
theorem goodV_len (l : List S57) (R W : Int) (h : goodV l R W = true) : 1 ≤ l.length ∧ l.length ≤ 7 := by
 unfold goodV inB at h
 simp at h
 omega
/-- Numbers that are some of a good voting. -/
def someV (l : List S57) (R W : Int) (s : List Int) : Bool := goodV l R W && risingV s l.length
set_option maxRecDepth 100000 in
set_option maxHeartbeats 1000000 in
theorem someV_c (A : Option Addr) (c : Nat) (l : List S57) (R W : Int) (A1 : Option Addr) (c1 : Nat) (s : List Int) (w : World) (hr : Kd.C k57 w A l.length l) (hc : l.length ≤ c) (hs : Kd.C (Kd.int .i64) w A1 s.length s) :
  Calls Try.prog 65 #[.agg #[.slice A l.length c, .int .i64 R, .int .i64 W], .slice A1 s.length c1] w fun e w' => e = .returned (.bool (someV l R W s)) ∧ Below w.heap.size w w' := by
 have HV0 := Aside0.mk (VS.new w A c l R W hr)
 have HC := Aside0.mk hc
 have HS := Aside0.mk hs
 clear hr hc hs
 cases b : goodV l R W with
 | false =>
  have HF : Aside0 (someV l R W s = false) := ⟨by simp [someV, b]⟩
  go_enter Try.func65, Try.ntmps65
  go_wp2_with (first | (go_at_call 20; refine (goodV_c _ _ _ _ _ _ HV0.out.row HC.out).mono ?_; rintro e w2 ⟨rfl, hb⟩; have HV2 := Aside0.mk (HV0.out.below hb); clear hb))
  go_ret
  exact ⟨by rw [HF.out]; first | done | rfl, HV2.out.bel⟩
 | true =>
  have HF : Aside0 (someV l R W s = risingV s l.length) := ⟨by simp [someV, b]⟩
  have hlen := (goodV_len l R W b).2
  go_enter Try.func65, Try.ntmps65
  go_wp2_with (first | (go_at_call 20; refine (goodV_c _ _ _ _ _ _ HV0.out.row HC.out).mono ?_; rintro e w2 ⟨rfl, hb⟩; have HV2 := Aside0.mk (HV0.out.below hb); clear hb; obtain ⟨k0, k1, k2⟩ := boxV_cells HV2.out.blk) | (go_at_call 44; refine (risingV_c _ _ _ _ _ (Kd.C_below HS.out HV2.out.bel) (by omega) (by omega)).mono ?_; rintro e w3 ⟨rfl, hb⟩; have HV3 := Aside0.mk (HV2.out.below hb); clear hb))
  go_ret
  exact ⟨by rw [HF.out]; first | done | rfl, HV3.out.bel⟩
def weightInV (l : List S57) (R W : Int) (s : List Int) : Int × Bool := if someV l R W s = true then (vSum l s, true) else (0, false)
theorem someV_in (l : List S57) (R W : Int) (s : List Int) (h : someV l R W s = true) : ∀ k ∈ s, 0 ≤ k ∧ k < (l.length : Int) := by
 unfold someV at h
 rw [Bool.and_eq_true] at h
 exact risingV_in s _ h.2
set_option maxRecDepth 100000 in
set_option maxHeartbeats 1000000 in
theorem weightInV_c (A : Option Addr) (c : Nat) (l : List S57) (R W : Int) (A1 : Option Addr) (c1 : Nat) (s : List Int) (w : World) (hr : Kd.C k57 w A l.length l) (hc : l.length ≤ c) (hs : Kd.C (Kd.int .i64) w A1 s.length s) :
  Calls Try.prog 30 #[.agg #[.slice A l.length c, .int .i64 R, .int .i64 W], .slice A1 s.length c1] w fun e w' => e = .returned (.tuple #[.int .i64 (weightInV l R W s).1, .bool (weightInV l R W s).2]) ∧ Below w.heap.size w w' := by
 have HV0 := Aside0.mk (VS.new w A c l R W hr)
 have HC := Aside0.mk hc
 have HS := Aside0.mk hs
 clear hr hc hs
 cases b : someV l R W s with
 | false =>
  have HF : Aside0 (weightInV l R W s = (0, false)) := ⟨by simp [weightInV, b]⟩
  go_enter Try.func30, Try.ntmps30
  go_wp2_with (first | (go_at_call 65; refine (someV_c _ _ _ _ _ _ _ _ _ HV0.out.row HC.out (Kd.C_alloc HS.out _)).mono ?_; rintro e w2 ⟨rfl, hb⟩; have HV2 := Aside0.mk (HV0.out.below hb); clear hb))
  go_ret2
  exact ⟨by rw [HF.out]; first | done | rfl, HV2.out.bel⟩
 | true =>
  have HF : Aside0 (weightInV l R W s = (vSum l s, true)) := ⟨by simp [weightInV, b]⟩
  have HI := Aside0.mk (someV_in l R W s b)
  go_enter Try.func30, Try.ntmps30
  go_wp2_with (first | (go_at_call 65; refine (someV_c _ _ _ _ _ _ _ _ _ HV0.out.row HC.out (Kd.C_alloc HS.out _)).mono ?_; rintro e w2 ⟨rfl, hb⟩; have HV2 := Aside0.mk (HV0.out.below hb); clear hb) | (go_at_call 57; refine (vSum_c w.heap.size A c l _ _ s _ (boxV_cells HV2.out.blk).1 HV2.out.row (Kd.C_below HS.out HV2.out.bel) HI.out).mono ?_; rintro e w4 ⟨rfl, hb⟩; have HV4 := Aside0.mk (HV2.out.below hb); clear hb))
  go_ret2
  exact ⟨by rw [HF.out]; first | done | rfl, HV4.out.bel⟩
def readV (l : List S57) (R W : Int) (s : List Int) : ByteArray × Int × Bool := if someV l R W s = true ∧ ¬ (vSum l s < R) then ((vBest l s).f2, (vBest l s).f1, true) else (⟨#[]⟩, 0, false)
set_option maxRecDepth 100000 in
set_option maxHeartbeats 2000000 in
theorem readV_c (A : Option Addr) (c : Nat) (l : List S57) (R W : Int) (A1 : Option Addr) (c1 : Nat) (s : List Int) (w : World) (hr : Kd.C k57 w A l.length l) (hc : l.length ≤ c) (hs : Kd.C (Kd.int .i64) w A1 s.length s) :
  Calls Try.prog 32 #[.agg #[.slice A l.length c, .int .i64 R, .int .i64 W], .slice A1 s.length c1] w fun e w' => e = .returned (.tuple #[.string (readV l R W s).1, .int .i64 (readV l R W s).2.1, .bool (readV l R W s).2.2]) ∧ Below w.heap.size w w' := by
 have HV0 := Aside0.mk (VS.new w A c l R W hr)
 have HC := Aside0.mk hc
 have HS := Aside0.mk hs
 clear hr hc hs
 cases b : someV l R W s with
 | false =>
  have HF : Aside0 (readV l R W s = (⟨#[]⟩, 0, false)) := ⟨by simp [readV, b]⟩
  go_enter Try.func32, Try.ntmps32
  go_wp2
  first | (go_region_with (first | (go_at_call 65; refine (someV_c _ _ _ _ _ _ _ _ _ HV0.out.drew.row HC.out (Kd.C_drew (Kd.C_alloc HS.out _))).mono ?_; rw [b]; rintro e w2 ⟨rfl, hb⟩; have HV2 := Aside0.mk (HV0.out.drew.below hb); clear hb))) | fail
  all_goals (go_wp2; go_ret3; exact ⟨by rw [HF.out]; first | done | rfl, HV2.out.bel⟩)
 | true =>
  have HI := Aside0.mk (someV_in l R W s b)
  by_cases q : vSum l s < R
  ·have q1 := decide_eq_true q
   have HF : Aside0 (readV l R W s = (⟨#[]⟩, 0, false)) := ⟨by simp [readV, q]⟩
   go_enter Try.func32, Try.ntmps32
   go_wp2
   go_region_with (first | (go_at_call 65; refine (someV_c _ _ _ _ _ _ _ _ _ HV0.out.drew.row HC.out (Kd.C_drew (Kd.C_alloc HS.out _))).mono ?_; rw [b]; rintro e w2 ⟨rfl, hb⟩; have HV2 := Aside0.mk (HV0.out.drew.below hb); clear hb; obtain ⟨k0, k1, k2⟩ := boxV_cells HV2.out.blk) | (go_at_call 57; refine (vSum_c w.heap.size A c l _ _ s _ (boxV_cells HV2.out.blk).1 HV2.out.row (Kd.C_below HS.out HV2.out.bel) HI.out).mono ?_; rintro e w4 ⟨rfl, hb⟩; have HV4 := Aside0.mk (HV2.out.below hb); clear hb; obtain ⟨m0, m1, m2⟩ := boxV_cells HV4.out.blk))
   all_goals (go_wp2; go_ret3; exact ⟨by rw [HF.out]; first | done | rfl, HV4.out.bel⟩)
  ·have q1 := decide_eq_false q
   have HF : Aside0 (readV l R W s = ((vBest l s).f2, (vBest l s).f1, true)) := ⟨by simp only [readV, b, q]; simp⟩
   go_enter Try.func32, Try.ntmps32
   go_wp2
   go_region_with (first | (go_at_call 65; refine (someV_c _ _ _ _ _ _ _ _ _ HV0.out.drew.row HC.out (Kd.C_drew (Kd.C_alloc HS.out _))).mono ?_; rw [b]; rintro e w2 ⟨rfl, hb⟩; have HV2 := Aside0.mk (HV0.out.drew.below hb); clear hb; obtain ⟨k0, k1, k2⟩ := boxV_cells HV2.out.blk) | (go_at_call 57; refine (vSum_c w.heap.size A c l _ _ s _ (boxV_cells HV2.out.blk).1 HV2.out.row (Kd.C_below HS.out HV2.out.bel) HI.out).mono ?_; rintro e w4 ⟨rfl, hb⟩; have HV4 := Aside0.mk (HV2.out.below hb); clear hb; obtain ⟨m0, m1, m2⟩ := boxV_cells HV4.out.blk))
   all_goals
    clear HV0 HV2
    go_wp2_with (first | (go_at_call 59; refine (vBest_c w.heap.size A c l _ _ s _ (boxV_cells HV4.out.blk).1 HV4.out.row (Kd.C_below HS.out HV4.out.bel) HI.out).mono ?_; rintro e w5 ⟨rfl, hb⟩; have HV5 := Aside0.mk (HV4.out.below hb); clear hb))
    go_quiet (fail)
    go_wp2
    go_ret3
    exact ⟨by rw [HF.out]; first | done | rfl, ((HV5.out.alloc _).drewN _).bel⟩
/-! AlwaysMeet -/
theorem hasInt_any (b : List Int) (k : Int) : b.contains k = b.any (k == ·) := by
 rw [List.contains_eq_any_beq]
set_option maxRecDepth 100000 in
set_option maxHeartbeats 1000000 in
theorem indexI_c (A0 : Option Addr) (c0 : Nat) (l : List Int) (v : Int) (w : World) (hr0 : Kd.C (Kd.int .i64) w A0 l.length l) :
  Calls Try.prog 76 #[.slice A0 l.length c0, .int .i64 v] w fun e w' => ∃ r : Int, e = .returned (.int .i64 r) ∧ decide (r ≥ 0) = l.any (v == ·) ∧ w = w' := by
 have HR := Aside0.mk hr0
 have hm := Kd.C_max hr0
 clear hr0
 go_enter Try.func76, Try.ntmps76
 go_wp2
 go_loop [5, 8] (fun v5 v8 => ∃ x : Int, 0 ≤ x ∧ x ≤ (l.length : Int) ∧ v8 = .int .i64 x ∧ Aside0 ((l.take x.toNat).any (v == ·) = false)) (fun _ v8 => (l.length - intOf v8).toNat)
 case atStart => exact ⟨0, by omega, by omega, rfl, ⟨by simp⟩⟩
 case round =>
  obtain ⟨x, h0, hx, rfl, HA⟩ := hrel
  by_cases hlt : x < (l.length : Int)
  ·obtain ⟨ad, rfl, c1⟩ := Kd.at_int HR.out x h0 hlt
   cases hp : (v == rd l x) with
   | true =>
    have H1 := Aside0.mk hp
    go_wp2
    go_ret
    exact ⟨x, rfl, by rw [any_of_get (v == ·) l x.toNat 0 (by omega) H1.out]; simpa using h0, rfl⟩
   | false =>
    have H1 := Aside0.mk hp
    go_wp2
    go_round
    case rel => exact ⟨x + 1, by omega, by omega, by first | rfl | simp, ⟨by rw [show (x + 1).toNat = x.toNat + 1 by omega, any_take_succ (v == ·) l x.toNat 0 (by omega), HA.out]; exact H1.out⟩⟩
    case measure => simp [intOf]; omega
  ·go_wp2
   go_ret
   refine ⟨-1, rfl, ?_, rfl⟩
   have := HA.out
   rw [List.take_of_length_le (by omega)] at this
   rw [this]; rfl
theorem containsI_c (A0 : Option Addr) (c0 : Nat) (l : List Int) (v : Int) (w : World) (hr0 : Kd.C (Kd.int .i64) w A0 l.length l) :
  Calls Try.prog 47 #[.slice A0 l.length c0, .int .i64 v] w fun e w' => e = .returned (.bool (l.any (v == ·))) ∧ w = w' := by
 go_enter Try.func47, Try.ntmps47
 go_wp2_with (go_at_call 76; refine (indexI_c _ _ _ _ _ hr0).mono ?_; rintro e w' ⟨r, rfl, hr, rfl⟩; have HH := Aside0.mk hr; clear hr)
 go_ret
 exact ⟨by have := HH.out; simp only [ge_iff_le] at this; simp [this], rfl⟩
theorem meet1_c (g : Nat) (B : Option Addr) (cb : Nat) (b : List Int) (k : Int) (w : World) (hg : w.cell? ⟨g, 0, none⟩ = some (.slice B b.length cb)) (hr0 : Kd.C (Kd.int .i64) w B b.length b) :
  Calls Try.prog 46 #[.int .i64 k, .pointer (some ⟨g, 0, none⟩)] w fun e w' => e = .returned (.bool (b.any (k == ·))) ∧ w = w' := by
 go_enter Try.func46, Try.ntmps46
 go_wp2_with (go_at_call 47; refine (containsI_c _ _ _ _ _ hr0).mono ?_; rintro e w' ⟨rfl, rfl⟩)
 go_ret
 exact ⟨rfl, rfl⟩
set_option maxRecDepth 100000 in
set_option maxHeartbeats 1000000 in
theorem meetIdx_c (A0 : Option Addr) (c0 : Nat) (l : List Int) (g : Nat) (B : Option Addr) (cb : Nat) (b : List Int) (w : World) (hr0 : Kd.C (Kd.int .i64) w A0 l.length l) (hg : w.cell? ⟨g, 0, none⟩ = some (.slice B b.length cb)) (hrb : Kd.C (Kd.int .i64) w B b.length b) :
  Calls Try.prog 75 #[.slice A0 l.length c0, .func (.func 46) #[] #[.pointer (some ⟨g, 0, none⟩)]] w fun e w' => ∃ r : Int, e = .returned (.int .i64 r) ∧ decide (r ≥ 0) = l.any (fun k => b.any (k == ·)) ∧ w = w' := by
 have HR := Aside0.mk hr0
 have HB := Aside0.mk hrb
 have hm := Kd.C_max hr0
 clear hr0 hrb
 go_enter Try.func75, Try.ntmps75
 go_wp2
 go_loop [5, 8] (fun v5 v8 => ∃ x : Int, 0 ≤ x ∧ x ≤ (l.length : Int) ∧ v8 = .int .i64 x ∧ Aside0 ((l.take x.toNat).any (fun k => b.any (k == ·)) = false)) (fun _ v8 => (l.length - intOf v8).toNat)
 case atStart => exact ⟨0, by omega, by omega, rfl, ⟨by simp⟩⟩
 case round =>
  obtain ⟨x, h0, hx, rfl, HA⟩ := hrel
  by_cases hlt : x < (l.length : Int)
  ·obtain ⟨ad, rfl, c1⟩ := Kd.at_int HR.out x h0 hlt
   cases hp : (b.any (rd l x == ·)) with
   | true =>
    have H1 := Aside0.mk hp
    clear hp
    go_wp2_with (go_at_call 46; refine (meet1_c _ _ _ _ _ _ hg HB.out).mono ?_; rw [H1.out]; rintro e w' ⟨rfl, rfl⟩)
    go_ret
    exact ⟨x, rfl, by rw [any_of_get (fun k => b.any (k == ·)) l x.toNat 0 (by omega) H1.out]; simpa using h0, rfl⟩
   | false =>
    have H1 := Aside0.mk hp
    clear hp
    go_wp2_with (go_at_call 46; refine (meet1_c _ _ _ _ _ _ hg HB.out).mono ?_; rw [H1.out]; rintro e w' ⟨rfl, rfl⟩)
    go_round
    case rel => exact ⟨x + 1, by omega, by omega, by first | rfl | simp, ⟨by rw [show (x + 1).toNat = x.toNat + 1 by omega, any_take_succ (fun k => b.any (k == ·)) l x.toNat 0 (by omega), HA.out]; exact H1.out⟩⟩
    case measure => simp [intOf]; omega
  ·go_wp2
   go_ret
   refine ⟨-1, rfl, ?_, rfl⟩
   have := HA.out
   rw [List.take_of_length_le (by omega)] at this
   rw [this]; rfl
theorem meetAny_c (A0 : Option Addr) (c0 : Nat) (l : List Int) (g : Nat) (B : Option Addr) (cb : Nat) (b : List Int) (w : World) (hr0 : Kd.C (Kd.int .i64) w A0 l.length l) (hg : w.cell? ⟨g, 0, none⟩ = some (.slice B b.length cb)) (hrb : Kd.C (Kd.int .i64) w B b.length b) :
  Calls Try.prog 45 #[.slice A0 l.length c0, .func (.func 46) #[] #[.pointer (some ⟨g, 0, none⟩)]] w fun e w' => e = .returned (.bool (l.any (fun k => b.any (k == ·)))) ∧ w = w' := by
 go_enter Try.func45, Try.ntmps45
 go_wp2_with (go_at_call 75; refine (meetIdx_c _ _ _ _ _ _ _ _ hr0 hg hrb).mono ?_; rintro e w' ⟨r, rfl, hr, rfl⟩; have HH := Aside0.mk hr; clear hr)
 go_ret
 exact ⟨by have := HH.out; simp only [ge_iff_le] at this; simp [this], rfl⟩
def meetV (a b : List Int) (n : Nat) : Bool × Bool := if n ≤ 7 ∧ risingV a n = true ∧ risingV b n = true then (a.any (fun k => b.any (k == ·)), true) else (false, false)
set_option maxRecDepth 100000 in
set_option maxHeartbeats 1000000 in
theorem meetV_c (A B C : Option Addr) (ca cb cc : Nat) (a b ws : List Int) (w : World) (ha : Kd.C (Kd.int .i64) w A a.length a) (hb : Kd.C (Kd.int .i64) w B b.length b) :
  Calls Try.prog 15 #[.slice A a.length ca, .slice B b.length cb, .slice C ws.length cc] w fun e w' => e = .returned (.tuple #[.bool (meetV a b ws.length).1, .bool (meetV a b ws.length).2]) ∧ Below w.heap.size w w' := by
 have HA := Aside0.mk ha
 have HB := Aside0.mk hb
 clear ha hb
 have H0 := Aside0.mk (below_alloc (Below.refl w.heap.size w) (.cells #[.slice B b.length cb] 22 (0, 0)))
 have HG := Aside0.mk (blk_new w (.cells #[.slice B b.length cb] 22 (0, 0)))
 by_cases h7 : ws.length ≤ 7
 case neg =>
  have HF : Aside0 (meetV a b ws.length = (false, false)) := ⟨by simp [meetV, h7]⟩
  go_enter Try.func15, Try.ntmps15
  go_wp2
  go_ret2
  exact ⟨by rw [HF.out]; first | done | rfl, H0.out⟩
 cases q1 : risingV a ws.length with
 | false =>
  have Q1 := Aside0.mk q1
  have HF : Aside0 (meetV a b ws.length = (false, false)) := ⟨by simp [meetV, q1]⟩
  go_enter Try.func15, Try.ntmps15
  go_wp2_with (first | (go_at_call 44; refine (risingV_c _ _ _ _ _ (Kd.C_below HA.out H0.out) (by omega) (by omega)).mono ?_; rintro e w2 ⟨rfl, hb⟩; have H1 := Aside0.mk (below_step H0.out hb); clear hb))
  go_ret2
  exact ⟨by rw [HF.out]; first | done | rfl, H1.out⟩
 | true =>
  cases q2 : risingV b ws.length with
  | false =>
   have HF : Aside0 (meetV a b ws.length = (false, false)) := ⟨by simp [meetV, q2]⟩
   go_enter Try.func15, Try.ntmps15
   go_wp2_with (first | (go_at_call_of 44 A; refine (risingV_c A _ a _ _ (Kd.C_below HA.out H0.out) (by omega) (by omega)).mono ?_; rintro e w2 ⟨rfl, hb⟩; have H1 := Aside0.mk (below_step H0.out hb); have HG1 := Aside0.mk (blk_below HG.out hb); clear hb; have hc := (blk_cell HG1.out 0).trans rfl) | (go_at_call_of 44 B; refine (risingV_c B _ b _ _ (Kd.C_below HB.out H1.out) (by omega) (by omega)).mono ?_; rintro e w3 ⟨rfl, hb⟩; have H2 := Aside0.mk (below_step H1.out hb); have HG2 := Aside0.mk (blk_below HG1.out hb); clear hb))
   go_ret2
   exact ⟨by rw [HF.out]; first | done | rfl, H2.out⟩
  | true =>
   have HF : Aside0 (meetV a b ws.length = (a.any (fun k => b.any (k == ·)), true)) := ⟨by simp [meetV, h7, q1, q2]⟩
   go_enter Try.func15, Try.ntmps15
   go_wp2_with (first | (go_at_call_of 44 A; refine (risingV_c A _ a _ _ (Kd.C_below HA.out H0.out) (by omega) (by omega)).mono ?_; rintro e w2 ⟨rfl, hb⟩; have H1 := Aside0.mk (below_step H0.out hb); have HG1 := Aside0.mk (blk_below HG.out hb); clear hb; have hc := (blk_cell HG1.out 0).trans rfl) | (go_at_call_of 44 B; refine (risingV_c B _ b _ _ (Kd.C_below HB.out H1.out) (by omega) (by omega)).mono ?_; rintro e w3 ⟨rfl, hb⟩; have H2 := Aside0.mk (below_step H1.out hb); have HG2 := Aside0.mk (blk_below HG1.out hb); clear hb) | (go_at_call 45; refine (meetAny_c _ _ a _ B cb b _ (Kd.C_below HA.out H2.out) ((blk_cell HG2.out 0).trans rfl) (Kd.C_below HB.out H2.out)).mono ?_; rintro e w4 ⟨rfl, rfl⟩))
   go_ret2
   exact ⟨by rw [HF.out]; first | done | rfl, H2.out⟩
theorem M_of_K57 (w : World) (base : Nat) (x : S57) (cs : List Value) (h : k57.K w x cs) : k57.M w base (fun _ => False) x cs := by
 obtain rfl := k57_open h
 exact k57_mkM _ _ _ x
set_option maxRecDepth 100000 in
set_option maxHeartbeats 1000000 in
theorem cloneC_c (ad : Addr) (c : Nat) (l : List S57) (w : World) (hr : Kd.C k57 w (some ad) l.length l) (hl : l.length ≤ 1000) :
  Calls Try.prog 82 #[.slice (some ad) l.length c] w fun e w' => ∃ v0_ : Value, e = .returned v0_ ∧ Kd.R k57 57 w' w.heap.size (fun _ => True) v0_ l ∧ Below w.heap.size w w' := by
 have HR := Aside0.mk hr
 clear hr
 have he : ∀ W, (binOp .eql 33 (.slice (some ad) l.length c) (.slice none 0 0)).run Try.prog W = .ok (.bool false) W := fun W => by simpa using Lib.run_eql_slice_nil (P := Try.prog) W 33 57 (some ad) l.length c 0 0 Try.underlying33
 go_enter Try.func82, Try.ntmps82
 go_wp2_with (first | ((with_reducible refine gate_dst (N := 5) rfl ?_); refine Kd.R_lit (w0 := w) k57 w.heap.size 57 ?hg (N := 5) ?hd (xs := ([] : List (S57))) (inner := []) (ok := fun _ => True) (okp := fun _ => True) ?hr ?hp (fun _ hk => hk) trivial (Below.refl _ _) (Nat.le_refl _) (by simp) ?_; (case hd => rfl); (case hg => rfl); (case hr => first | (go_simp; done) | (go_simp; rfl)); (case hp => exact (Reps.none _ _)); intro v1 w1 ho hb hg_ hnew_; clear hg_ hnew_; have HO := Aside0.mk ho; have HB := Aside0.mk hb; clear ho hb) | ((with_reducible refine gate_builtin (b := .append) (xs := #[.tmp 5, .tmp 6]) rfl ?_); at_builtin; refine Kd.R_append_rows k57 (w0 := w) w.heap.size rfl (.tmp 5) (.tmp 6) 33 57 (.agg #[(.int .i64 0), (.int .i64 0), (.string ⟨#[]⟩)]) 32 rfl Try.underlying33 info57 rfl (by decide) (by omega) v1 [] l _ _ _ (fun _ => True) (fun _ => False) rfl rfl ?aO ?aR (M_of_K57 _ _) (fun _ h => h.elim) ?aF ?aB ?aS ?aL ?_; (case aR => exact Kd.C_below HR.out HB.out); (case aB => exact HB.out); (case aF => exact (fun _ _ => trivial)); (case aO => exact HO.out); (case aS => exact HB.out.size); (case aL => simp; omega); intro v2 w2 ho hb hg hat; clear hg hat; have HO2 := Aside0.mk ho; have HB2 := Aside0.mk hb; clear ho hb))
 go_ret
 exact ⟨_, rfl, by simpa using HO2.out, HB2.out⟩
theorem bcell {W w1 : World} (hb : Below W.heap.size W w1) : (∀ b o, b < W.heap.size → w1.cell? ⟨b, o, none⟩ = W.cell? ⟨b, o, none⟩) ∧ (∀ b o, b < W.heap.size → w1.frozen? ⟨b, o, none⟩ = W.frozen? ⟨b, o, none⟩) :=
 ⟨fun b o h => hb.cell (p := ⟨b, o, none⟩) h, fun b o h => hb.frozen (p := ⟨b, o, none⟩) h⟩
def wStep (v : Int) (t : ByteArray) (p : List S57 × Int) (k : Int) : List S57 × Int :=
 (p.1.set k.toNat ⟨(rd_T57 p.1 k).f0, v, t⟩, if (rd_T57 p.1 k).f1 = v ∧ (rd_T57 p.1 k).f2.toList = t.toList then p.2 else p.2 + 1)
/-- Some have a text with a version; how many were changed. -/
def writtenV (l : List S57) (s : List Int) (v : Int) (t : ByteArray) : List S57 × Int := s.foldl (wStep v t) (l, 0)
theorem elem57 {e base g n cap : Nat} {w : World} {xs : List S57} (h : Kd.R k57 e w base (fun _ => True) (.slice (some ⟨g, 0, none⟩) n cap) xs) (i : Int) (h0 : 0 ≤ i) (h1 : i < (n : Int)) (hx : xs.length = n) (v : Int) (t : ByteArray) :
  w.cell? ⟨g, i.toNat * 3, none⟩ = some (.int .i64 (rd_T57 xs i).f0) ∧ w.cell? ⟨g, i.toNat * 3 + 1, none⟩ = some (.int .i64 (rd_T57 xs i).f1) ∧ w.cell? ⟨g, i.toNat * 3 + 2, none⟩ = some (.string (rd_T57 xs i).f2) ∧
  w.frozen? ⟨g, i.toNat * 3, none⟩ = false ∧ w.frozen? ⟨g, i.toNat * 3 + 1, none⟩ = false ∧ w.frozen? ⟨g, i.toNat * 3 + 2, none⟩ = false ∧
  (Kd.R k57 e ((w.setCell ⟨g, i.toNat * 3 + 1, none⟩ (.int .i64 v)).setCell ⟨g, i.toNat * 3 + 2, none⟩ (.string t)) base (fun _ => True) (.slice (some ⟨g, 0, none⟩) n cap) (xs.set i.toNat ⟨(rd_T57 xs i).f0, v, t⟩) ∧ True) := by
 obtain ⟨ce, hcl, hM, hcc, hfr⟩ := Kd.R_elem h z57 i h0 h1
 obtain rfl := k57_openM hM
 refine ⟨hcc 0 _ rfl, hcc 1 _ rfl, hcc 2 _ rfl, hfr 0, hfr 1, hfr 2, ?_, trivial⟩
 exact (Kd.R_seg h i h0 h1 (seg := [.int .i64 v, .string t]) (j := 1) hcl hcc (show 3 ≤ 3 from by decide) (x' := (⟨(rd_T57 xs i).f0, v, t⟩ : S57)) (k57_mkM _ _ _ (⟨(rd_T57 xs i).f0, v, t⟩ : S57)) (fun _ hk => hk)).1
theorem R_ge {e base g n cap : Nat} {w : World} {xs : List S57} (h : Kd.R k57 e w base (fun _ => True) (.slice (some ⟨g, 0, none⟩) n cap) xs) (hp : 0 < xs.length) : base ≤ g := by
 obtain ⟨g2, c2, e, hb, _⟩ := Kd.R_form h hp
 cases e
 exact hb
theorem meetA (w w2 : World) (go co : Nat) (ad : Addr) (c : Nat) (l : List S57) (R W : Int)
  (hR : Kd.R k57 57 w2 ((w.alloc (.cells #[.slice none 0 0, .int .i64 0, .int .i64 0] 35)).drew).heap.size (fun _ => True) (.slice (some ⟨go, 0, none⟩) l.length co) l)
  (hb : Below ((w.alloc (.cells #[.slice none 0 0, .int .i64 0, .int .i64 0] 35)).drew).heap.size ((w.alloc (.cells #[.slice none 0 0, .int .i64 0, .int .i64 0] 35)).drew) w2) (hw : Below w.heap.size w w2) :
  ∃ g10 go_1 co_1, Value.pointer (some { block := w2.heap.size, off := 0 }) = Value.pointer (some { block := g10, off := 0 }) ∧ Value.int IntKind.i64 0 = Value.int IntKind.i64 0 ∧
   Aside0 ((w2.alloc (Obj.cells #[Value.slice (some { block := go, off := 0 }) l.length co, Value.int IntKind.i64 R, Value.int IntKind.i64 W] 35)).heap[g10]? = some (Obj.cells #[Value.slice (some { block := go_1, off := 0 }) l.length co_1, Value.int IntKind.i64 R, Value.int IntKind.i64 W] 35)) ∧
   Aside0 ((w2.alloc (Obj.cells #[Value.slice (some { block := go, off := 0 }) l.length co, Value.int IntKind.i64 R, Value.int IntKind.i64 W] 35)).heap[w.heap.size]? = some (Obj.cells #[Value.slice none 0 0, Value.int IntKind.i64 0, Value.int IntKind.i64 0] 35)) ∧
   Aside0 (k57.R 57 (w2.alloc (Obj.cells #[Value.slice (some { block := go, off := 0 }) l.length co, Value.int IntKind.i64 R, Value.int IntKind.i64 W] 35)) w.heap.size (fun x => True) (Value.slice (some { block := go_1, off := 0 }) l.length co_1) l) ∧
   Aside0 (Below w.heap.size w (w2.alloc (Obj.cells #[Value.slice (some { block := go, off := 0 }) l.length co, Value.int IntKind.i64 R, Value.int IntKind.i64 W] 35))) ∧ Aside0 (g10 ≠ w.heap.size ∧ w.heap.size ≤ g10) := by
 have hz := (below_drew1 (below_alloc (Below.refl w.heap.size w) (.cells #[.slice none 0 0, .int .i64 0, .int .i64 0] 35))).size
 have hlt := blk_lt (blk_below (blk_drew (blk_new w (.cells #[.slice none 0 0, .int .i64 0, .int .i64 0] 35))) hb)
 exact ⟨w2.heap.size, go, co, rfl, rfl, ⟨blk_new w2 _⟩, ⟨blk_alloc (blk_below (blk_drew (blk_new w _)) hb) _⟩, ⟨Kd.R_alloc (Kd.R_lower hR hz) _⟩, ⟨below_alloc hw _⟩, ⟨by omega, by omega⟩⟩
theorem meetB (w w2 : World) (go co : Nat) (ad : Addr) (c : Nat) (l : List S57) (R W : Int) (oZ : Obj) (hoZ : oZ = .cells #[.slice none 0 0, .int .i64 0, .int .i64 0] 35)
  (hR : Kd.R k57 57 w2 (((w.alloc oZ).alloc oZ).drew).heap.size (fun _ => True) (.slice (some ⟨go, 0, none⟩) l.length co) l)
  (hb : Below (((w.alloc oZ).alloc oZ).drew).heap.size (((w.alloc oZ).alloc oZ).drew) w2) (hw : Below w.heap.size w w2) :
  ∃ g10 go_1 co_1, Value.pointer (some { block := w.heap.size + 1, off := 0 }) = Value.pointer (some { block := g10, off := 0 }) ∧ Value.int IntKind.i64 0 = Value.int IntKind.i64 0 ∧
   Aside0 ((((w2.setCell { block := w.heap.size + 1, off := 0 } (Value.slice (some { block := go, off := 0 }) l.length co)).setCell { block := w.heap.size + 1, off := 1 } (Value.int IntKind.i64 R)).setCell { block := w.heap.size + 1, off := 2 } (Value.int IntKind.i64 W)).heap[g10]? = some (Obj.cells #[Value.slice (some { block := go_1, off := 0 }) l.length co_1, Value.int IntKind.i64 R, Value.int IntKind.i64 W] 35)) ∧
   Aside0 ((((w2.setCell { block := w.heap.size + 1, off := 0 } (Value.slice (some { block := go, off := 0 }) l.length co)).setCell { block := w.heap.size + 1, off := 1 } (Value.int IntKind.i64 R)).setCell { block := w.heap.size + 1, off := 2 } (Value.int IntKind.i64 W)).heap[w.heap.size]? = some (Obj.cells #[Value.slice none 0 0, Value.int IntKind.i64 0, Value.int IntKind.i64 0] 35)) ∧
   Aside0 (k57.R 57 (((w2.setCell { block := w.heap.size + 1, off := 0 } (Value.slice (some { block := go, off := 0 }) l.length co)).setCell { block := w.heap.size + 1, off := 1 } (Value.int IntKind.i64 R)).setCell { block := w.heap.size + 1, off := 2 } (Value.int IntKind.i64 W)) w.heap.size (fun x => True) (Value.slice (some { block := go_1, off := 0 }) l.length co_1) l) ∧
   Aside0 (Below w.heap.size w (((w2.setCell { block := w.heap.size + 1, off := 0 } (Value.slice (some { block := go, off := 0 }) l.length co)).setCell { block := w.heap.size + 1, off := 1 } (Value.int IntKind.i64 R)).setCell { block := w.heap.size + 1, off := 2 } (Value.int IntKind.i64 W))) ∧ Aside0 (g10 ≠ w.heap.size ∧ w.heap.size ≤ g10) := by
 have hz := (below_drew1 (below_alloc (below_alloc (Below.refl w.heap.size w) oZ) oZ)).size
 have hB := blk_below (blk_drew (blk_new2 w oZ oZ)) hb
 have hA := blk_below (blk_drew (blk_alloc (blk_new w oZ) oZ)) hb
 subst hoZ
 refine ⟨w.heap.size + 1, go, co, rfl, rfl, ⟨by simpa using blk_set (blk_set (blk_set hB 0 (.slice (some ⟨go, 0, none⟩) l.length co)) 1 (.int .i64 R)) 2 (.int .i64 W)⟩, ⟨blk_far (blk_far (blk_far hA (by simp) _) (by simp) _) (by simp) _⟩, ⟨?_⟩, ⟨below_set (below_set (below_set hw (by omega)) (by omega)) (by omega)⟩, ⟨by omega, by omega⟩⟩
 exact Kd.R_mono (Kd.R_far (Kd.R_far (Kd.R_far (Kd.R_types (Kd.R_lower hR hz) hB (by decide)) (fun _ hk => hk.2) _) (fun _ hk => hk.2) _) (fun _ hk => hk.2) _) (fun _ hk => trivial)
set_option maxRecDepth 100000 in
set_option maxHeartbeats 2000000 in
theorem writtenV_c (g : Nat) (ad : Addr) (c : Nat) (l : List S57) (R W : Int) (A1 : Option Addr) (c1 : Nat) (s : List Int) (v : Int) (t : ByteArray) (w : World)
  (hg : w.heap[g]? = some (boxV (some ad) l.length c R W)) (hl : Kd.C k57 w (some ad) l.length l) (hl7 : l.length ≤ 1000) (hl1 : 1 ≤ l.length) (hs : Kd.C (Kd.int .i64) w A1 s.length s) (hin : ∀ k ∈ s, 0 ≤ k ∧ k < (l.length : Int)) :
  Calls Try.prog 68 #[.pointer (some ⟨g, 0, none⟩), .slice A1 s.length c1, .int .i64 v, .string t] w fun e w' => ∃ v0_ : Value, e = .returned (.tuple #[.agg #[v0_, .int .i64 R, .int .i64 W], .int .i64 (writtenV l s v t).2]) ∧ Kd.R k57 57 w' w.heap.size (fun _ => True) v0_ (writtenV l s v t).1 ∧ Below w.heap.size w w' := by
 have HL := Aside0.mk hl
 have HS := Aside0.mk hs
 have HI := Aside0.mk hin
 have HG := Aside0.mk hg
 have hm := Kd.C_max hs
 have hlt := blk_lt hg
 obtain ⟨k0, k1, k2⟩ := boxV_cells hg
 clear hl hs hin hg
 have hn1 : g ≠ w.heap.size := by omega
 have hn2 : w.heap.size + 1 ≠ g := by omega
 have hn4 : w.heap.size ≠ g := by omega
 go_enter Try.func68, Try.ntmps68
 go_upto_region 1 with fail
 go_cut [10, 11] (fun s10 s11 wx => ∃ g10 go co : Nat, s10 = .pointer (some ⟨g10, 0, none⟩) ∧ s11 = .int .i64 0 ∧ Aside0 (wx.heap[g10]? = some (.cells #[.slice (some ⟨go, 0, none⟩) l.length co, .int .i64 R, .int .i64 W] 35 (0, 0))) ∧ Aside0 (wx.heap[w.heap.size]? = some (.cells #[.slice none 0 0, .int .i64 0, .int .i64 0] 35 (0, 0))) ∧ Aside0 (Kd.R k57 57 wx w.heap.size (fun _ => True) (.slice (some ⟨go, 0, none⟩) l.length co) l) ∧ Aside0 (Below w.heap.size w wx) ∧ Aside0 (g10 ≠ w.heap.size ∧ w.heap.size ≤ g10))
 case first =>
  go_region_held3 (fun w' => w'.cell? ⟨g, 0, none⟩ = some (.slice (some ad) l.length c) ∧ w'.cell? ⟨g, 1, none⟩ = some (.int .i64 R) ∧ w'.cell? ⟨g, 2, none⟩ = some (.int .i64 W)) (go_keep)
   (first | (go_at_call 82; refine (cloneC_c ad c l _ ?hC hl7).mono ?_; (case hC => exact Kd.C_below HL.out (by repeat (first | exact Below.refl _ _ | apply below_drew1 | apply below_alloc))); rintro e w2 ⟨v0, rfl, hR, hb⟩; obtain ⟨go, co, ev, gb, gl, cl2, hG⟩ := Kd.R_form hR (by omega); subst ev; clear hG cl2; have HR2 := Aside0.mk hR; have HB2 := Aside0.mk hb; obtain ⟨hcc, hff⟩ := bcell hb; have hsz := hb.size; have HBW := Aside0.mk (below_step (w := w) (by repeat (first | exact Below.refl _ _ | apply below_drew1 | apply below_alloc)) hb); have z0 := (HBW.out.cell (p := ⟨g, 0, none⟩) hlt).trans k0; have z1 := (HBW.out.cell (p := ⟨g, 1, none⟩) hlt).trans k1; have z2 := (HBW.out.cell (p := ⟨g, 2, none⟩) hlt).trans k2; have hn3 : g < w2.heap.size := (by have := HBW.out.size; omega); have hn5 : w2.heap.size ≠ g := (by have := HBW.out.size; omega); clear hR hb))
  all_goals go_wp2_with fail
  all_goals go_meet
  all_goals first | exact meetA w w2 go co ad c l R W HR2.out HB2.out HBW.out | exact meetB w w2 go co ad c l R W _ rfl HR2.out HB2.out HBW.out
 case rest =>
  obtain ⟨g10, go, co, rfl, rfl, H10, HZ, HO, HB, HN⟩ := hcut
  clear k0 k1 k2
  have hg1 := HN.out.1
  have hg2 := HN.out.2
  go_wp2
  go_loopw [11, 13, 14, 31] (fun v11 v13 v14 v31 wr => ∃ (x n : Int) (xs : List S57), 0 ≤ x ∧ x ≤ (s.length : Int) ∧ v31 = .int .i64 x ∧ v11 = .int .i64 n ∧ 0 ≤ n ∧ n ≤ x ∧ Aside0 ((s.take x.toNat).foldl (wStep v t) (l, 0) = (xs, n)) ∧ Aside0 (xs.length = l.length) ∧ Aside0 (Kd.R k57 57 wr w.heap.size (fun _ => True) (.slice (some ⟨go, 0, none⟩) l.length co) xs) ∧ Aside0 (wr.heap[g10]? = some (.cells #[.slice (some ⟨go, 0, none⟩) l.length co, .int .i64 R, .int .i64 W] 35 (0, 0))) ∧ Aside0 (wr.heap[w.heap.size]? = some (.cells #[.slice none 0 0, .int .i64 0, .int .i64 0] 35 (0, 0))) ∧ Aside0 (Below w.heap.size w wr)) (fun _ _ _ v _ => (s.length - intOf v).toNat)
  case atStart => exact ⟨0, 0, l, by omega, by omega, rfl, rfl, by omega, by omega, ⟨rfl⟩, ⟨rfl⟩, HO, H10, HZ, HB⟩
  case round =>
   obtain ⟨x, n, xs, h0, hx, rfl, rfl, hn0, hnx, HF, HX, HO, H10, HZ, HB⟩ := hrel
   have q0 : wr.cell? ⟨g10, 0, none⟩ = some (.slice (some ⟨go, 0, none⟩) l.length co) := (blk_cell H10.out 0).trans rfl
   have q1 : wr.cell? ⟨g10, 1, none⟩ = some (.int .i64 R) := (blk_cell H10.out 1).trans rfl
   have q2 : wr.cell? ⟨g10, 2, none⟩ = some (.int .i64 W) := (blk_cell H10.out 2).trans rfl
   by_cases hlts : x < (s.length : Int)
   ·obtain ⟨ad3, e1, d1⟩ := Kd.at_int HS.out x h0 hlts
    cases e1
    replace d1 := (HB.out.cell (World.block_lt_of_cell? w _ d1)).trans d1
    obtain ⟨h3, h4⟩ := HI.out _ (rd_mem s x h0 hlts)
    obtain ⟨c0, c1, c2, f0, f1, f2, hput⟩ := elem57 HO.out (rd s x) h3 h4 HX.out v t
    have HP := Aside0.mk hput
    have hne : go ≠ g10 := Ne.symm (by simpa [Value.ownBlock] using Kd.R_ne HO.out H10.out (by decide))
    have hne2 : go ≠ w.heap.size := Ne.symm (by simpa [Value.ownBlock] using Kd.R_ne HO.out HZ.out (by decide))
    have hgo : w.heap.size ≤ go := R_ge HO.out (by have := HX.out; omega)
    clear hput
    have HS1 : Aside0 ((s.take (x + 1).toNat).foldl (wStep v t) (l, 0) = wStep v t (xs, n) (rd s x)) := ⟨by rw [rd_take s x h0 hlts, List.foldl_append, HF.out]; rfl⟩
    by_cases e1 : (rd_T57 xs (rd s x)).f1 = v
    ·have b1 : ((rd_T57 xs (rd s x)).f1 != v) = false := bne_eq_false_iff_eq.2 e1
     by_cases e2 : (rd_T57 xs (rd s x)).f2.toList = t.toList
     ·have b2 : ((rd_T57 xs (rd s x)).f2.toList == t.toList) = true := beq_iff_eq.2 e2
      replace HS1 : Aside0 ((s.take (x + 1).toNat).foldl (wStep v t) (l, 0) = (xs.set (rd s x).toNat ⟨(rd_T57 xs (rd s x)).f0, v, t⟩, n)) := ⟨by rw [HS1.out]; simp [wStep, e1, e2]⟩
      clear e1 e2
      go_wp2
      go_roundw
      case rel => exact ⟨x + 1, n, _, by omega, by omega, by first | rfl | simp, rfl, by omega, by omega, HS1, ⟨by simpa using HX.out⟩, ⟨HP.out.1⟩, ⟨blk_far (blk_far H10.out (by simpa using Ne.symm hne) _) (by simpa using Ne.symm hne) _⟩, ⟨blk_far (blk_far HZ.out (by simpa using Ne.symm hne2) _) (by simpa using Ne.symm hne2) _⟩, ⟨below_set (below_set HB.out hgo) hgo⟩⟩
      case measure => simp [intOf]; omega
     ·have b2 : ((rd_T57 xs (rd s x)).f2.toList == t.toList) = false := beq_eq_false_iff_ne.2 e2
      replace HS1 : Aside0 ((s.take (x + 1).toNat).foldl (wStep v t) (l, 0) = (xs.set (rd s x).toNat ⟨(rd_T57 xs (rd s x)).f0, v, t⟩, n + 1)) := ⟨by rw [HS1.out]; simp [wStep, e2]⟩
      clear e1 e2
      go_wp2
      go_roundw
      case rel => exact ⟨x + 1, n + 1, _, by omega, by omega, by first | rfl | simp, rfl, by omega, by omega, HS1, ⟨by simpa using HX.out⟩, ⟨HP.out.1⟩, ⟨blk_far (blk_far H10.out (by simpa using Ne.symm hne) _) (by simpa using Ne.symm hne) _⟩, ⟨blk_far (blk_far HZ.out (by simpa using Ne.symm hne2) _) (by simpa using Ne.symm hne2) _⟩, ⟨below_set (below_set HB.out hgo) hgo⟩⟩
      case measure => simp [intOf]; omega
    ·have b1 : ((rd_T57 xs (rd s x)).f1 != v) = true := bne_iff_ne.2 e1
     replace HS1 : Aside0 ((s.take (x + 1).toNat).foldl (wStep v t) (l, 0) = (xs.set (rd s x).toNat ⟨(rd_T57 xs (rd s x)).f0, v, t⟩, n + 1)) := ⟨by rw [HS1.out]; simp [wStep, e1]⟩
     clear e1
     go_wp2
     go_roundw
     case rel => exact ⟨x + 1, n + 1, _, by omega, by omega, by first | rfl | simp, rfl, by omega, by omega, HS1, ⟨by simpa using HX.out⟩, ⟨HP.out.1⟩, ⟨blk_far (blk_far H10.out (by simpa using Ne.symm hne) _) (by simpa using Ne.symm hne) _⟩, ⟨blk_far (blk_far HZ.out (by simpa using Ne.symm hne2) _) (by simpa using Ne.symm hne2) _⟩, ⟨below_set (below_set HB.out hgo) hgo⟩⟩
     case measure => simp [intOf]; omega
   ·have e : s.take x.toNat = s := List.take_of_length_le (by omega)
    have HV : Aside0 (writtenV l s v t = (xs, n)) := ⟨by have := HF.out; rw [e] at this; exact this⟩
    clear e
    have z0 : wr.cell? ⟨w.heap.size, 0, none⟩ = some (.slice none 0 0) := (blk_cell HZ.out 0).trans rfl
    have z1 : wr.cell? ⟨w.heap.size, 1, none⟩ = some (.int .i64 0) := (blk_cell HZ.out 1).trans rfl
    have z2 : wr.cell? ⟨w.heap.size, 2, none⟩ = some (.int .i64 0) := (blk_cell HZ.out 2).trans rfl
    have y0 := blk_frozen HZ.out 0
    have y1 := blk_frozen HZ.out 1
    have y2 := blk_frozen HZ.out 2
    go_wp2
    refine bodyPost_ret (results_ct rfl _ _ w.heap.size 35 #[.slice (some ⟨go, 0, none⟩) l.length co, .int .i64 R, .int .i64 W] (0, 0) _ rfl (by simpa using blk_set (blk_set (blk_set HZ.out 0 (.slice (some ⟨go, 0, none⟩) l.length co)) 1 (.int .i64 R)) 2 (.int .i64 W)) Try.underlying35 rfl (by kernel_rfl)) rfl ?_
    exact ⟨_, by rw [HV.out]; first | done | rfl, by rw [HV.out]; exact Kd.R_mono (Kd.R_far (Kd.R_far (Kd.R_far (Kd.R_types HO.out HZ.out (by decide)) (fun _ hk => hk.2) _) (fun _ hk => hk.2) _) (fun _ hk => hk.2) _) (fun _ hk => trivial), below_set (below_set (below_set HB.out (Nat.le_refl _)) (Nat.le_refl _)) (Nat.le_refl _)⟩
/-- A voting in a variable, and an empty one in the result's own. -/
structure VZ (w : World) (g z : Nat) (A : Option Addr) (c : Nat) (l : List S57) (R W : Int) (w1 : World) : Prop where
 vs : VS w g A c l R W w1
 zb : w1.heap[z]? = some (.cells #[.slice none 0 0, .int .i64 0, .int .i64 0] 35 (0, 0))
theorem VZ.below {w w1 w2 : World} {g z c : Nat} {A : Option Addr} {l : List S57} {R W : Int} (h : VZ w g z A c l R W w1) (hb : Below w1.heap.size w1 w2) : VZ w g z A c l R W w2 := ⟨h.vs.below hb, blk_below h.zb hb⟩
theorem VZ.drew {w w1 : World} {g z c : Nat} {A : Option Addr} {l : List S57} {R W : Int} (h : VZ w g z A c l R W w1) : VZ w g z A c l R W w1.drew := h.below (below_drew1 (Below.refl _ _))
theorem VZ.drewN {w w1 : World} {g z c : Nat} {A : Option Addr} {l : List S57} {R W : Int} (h : VZ w g z A c l R W w1) (n : Nat) : VZ w g z A c l R W (w1.drewN n) := h.below (pw_below_drewN (Below.refl _ _) n)
theorem VZ.alloc {w w1 : World} {g z c : Nat} {A : Option Addr} {l : List S57} {R W : Int} (h : VZ w g z A c l R W w1) (o : Obj) : VZ w g z A c l R W (w1.alloc o) := h.below (below_alloc (Below.refl _ _) o)
theorem VZ.new (w : World) (A : Option Addr) (c : Nat) (l : List S57) (R W : Int) (hl : Kd.C k57 w A l.length l) : VZ w w.heap.size (w.heap.size + 1) A c l R W ((w.alloc (.cells #[.slice A l.length c, .int .i64 R, .int .i64 W] 35)).alloc (.cells #[.slice none 0 0, .int .i64 0, .int .i64 0] 35)) :=
 ⟨(VS.new w A c l R W hl).alloc _, blk_new2 w _ _⟩
theorem boxZ_cells {w : World} {g : Nat} (h : w.heap[g]? = some (.cells #[.slice none 0 0, .int .i64 0, .int .i64 0] 35 (0, 0))) :
  (w.cell? ⟨g, 0, none⟩ = some (.slice none 0 0) ∧ w.cell? ⟨g, 1, none⟩ = some (.int .i64 0) ∧ w.cell? ⟨g, 2, none⟩ = some (.int .i64 0)) ∧ w.frozen? ⟨g, 0, none⟩ = false ∧ w.frozen? ⟨g, 1, none⟩ = false ∧ w.frozen? ⟨g, 2, none⟩ = false :=
 ⟨⟨(blk_cell h 0).trans rfl, (blk_cell h 1).trans rfl, (blk_cell h 2).trans rfl⟩, blk_frozen h 0, blk_frozen h 1, blk_frozen h 2⟩
theorem z_again {w : World} {g : Nat} (h : w.heap[g]? = some (.cells #[.slice none 0 0, .int .i64 0, .int .i64 0] 35 (0, 0))) :
  (((w.setCell ⟨g, 0, none⟩ (.slice none 0 0)).setCell ⟨g, 1, none⟩ (.int .i64 0)).setCell ⟨g, 2, none⟩ (.int .i64 0)).heap[g]? = some (.cells #[.slice none 0 0, .int .i64 0, .int .i64 0] 35 (0, 0)) := by
 simpa using blk_set (blk_set (blk_set h 0 (.slice none 0 0)) 1 (.int .i64 0)) 2 (.int .i64 0)
theorem z_put {w : World} {g : Nat} (h : w.heap[g]? = some (.cells #[.slice none 0 0, .int .i64 0, .int .i64 0] 35 (0, 0))) (u : Value) (R W : Int) :
  (((w.setCell ⟨g, 0, none⟩ u).setCell ⟨g, 1, none⟩ (.int .i64 R)).setCell ⟨g, 2, none⟩ (.int .i64 W)).heap[g]? = some (.cells #[u, .int .i64 R, .int .i64 W] 35 (0, 0)) := by
 simpa using blk_set (blk_set (blk_set h 0 u) 1 (.int .i64 R)) 2 (.int .i64 W)

theorem writtenV_fold (v : Int) (t : ByteArray) (s : List Int) : ∀ p : List S57 × Int, (s.foldl (wStep v t) p).1.length = p.1.length := by
 induction s with
 | nil => intro p; rfl
 | cons k s ih => intro p; rw [List.foldl_cons, ih]; simp [wStep]
theorem writtenV_len (l : List S57) (s : List Int) (v : Int) (t : ByteArray) : (writtenV l s v t).1.length = l.length := writtenV_fold v t s (l, 0)
def writeTextV (l : List S57) (R W : Int) (s : List Int) (t : ByteArray) : List S57 × Int × Int × Bool :=
 if someV l R W s = true ∧ ¬ (vSum l s < W) ∧ ¬ (12 < (t.size : Int)) ∧ goodV (writtenV l s (wrap64 ((vBest l s).f1 + 1)) t).1 R W = true then ((writtenV l s (wrap64 ((vBest l s).f1 + 1)) t).1, R, W, true) else ([], 0, 0, false)
set_option maxRecDepth 100000 in
set_option maxHeartbeats 4000000 in
theorem writeTextV_1 (A : Option Addr) (c : Nat) (l : List S57) (R W : Int) (A1 : Option Addr) (c1 : Nat) (s : List Int) (t : ByteArray) (w : World) (hr : Kd.C k57 w A l.length l) (hc : l.length ≤ c) (hs : Kd.C (Kd.int .i64) w A1 s.length s) (b : someV l R W s = false) :
  Calls Try.prog 39 #[.agg #[.slice A l.length c, .int .i64 R, .int .i64 W], .slice A1 s.length c1, .string t] w fun e w' => ∃ v0_ : Value, e = .returned (.tuple #[.agg #[v0_, .int .i64 (writeTextV l R W s t).2.1, .int .i64 (writeTextV l R W s t).2.2.1], .bool (writeTextV l R W s t).2.2.2]) ∧ Kd.R k57 57 w' w.heap.size (fun _ => True) v0_ (writeTextV l R W s t).1 ∧ Below w.heap.size w w' := by
 have HV0 := Aside0.mk (VZ.new w A c l R W hr)
 have HC := Aside0.mk hc
 have HS := Aside0.mk hs
 clear hr hc hs
 have HF : Aside0 (writeTextV l R W s t = ([], 0, 0, false)) := ⟨by simp [writeTextV, b]⟩
 go_enter Try.func39, Try.ntmps39
 go_wp2
 first | (go_region_with (first | (go_at_call 65; refine (someV_c _ _ _ _ _ _ _ _ _ HV0.out.drew.vs.row HC.out (Kd.C_drew (Kd.C_alloc (Kd.C_alloc HS.out _) _))).mono ?_; rw [b]; rintro e w2 ⟨rfl, hb⟩; have HV2 := Aside0.mk (HV0.out.drew.below hb); clear hb; obtain ⟨k0, k1, k2⟩ := boxV_cells HV2.out.vs.blk; obtain ⟨⟨z0, z1, z2⟩, y0, y1, y2⟩ := boxZ_cells HV2.out.zb))) | fail
 all_goals
   go_wp2
   refine bodyPost_ret (results_ct rfl _ _ (w.heap.size + 1) 35 #[.slice none 0 0, .int .i64 0, .int .i64 0] (0, 0) _ rfl (z_again HV2.out.zb) Try.underlying35 rfl (by kernel_rfl)) rfl ?_
   exact ⟨_, by rw [HF.out]; first | done | rfl, by rw [HF.out]; exact Kd.R_nil _ _ _ _ _, below_set (below_set (below_set HV2.out.vs.bel (by omega)) (by omega)) (by omega)⟩
set_option maxRecDepth 100000 in
set_option maxHeartbeats 4000000 in
theorem writeTextV_2 (A : Option Addr) (c : Nat) (l : List S57) (R W : Int) (A1 : Option Addr) (c1 : Nat) (s : List Int) (t : ByteArray) (w : World) (hr : Kd.C k57 w A l.length l) (hc : l.length ≤ c) (hs : Kd.C (Kd.int .i64) w A1 s.length s) (b : someV l R W s = true) (q : vSum l s < W) :
  Calls Try.prog 39 #[.agg #[.slice A l.length c, .int .i64 R, .int .i64 W], .slice A1 s.length c1, .string t] w fun e w' => ∃ v0_ : Value, e = .returned (.tuple #[.agg #[v0_, .int .i64 (writeTextV l R W s t).2.1, .int .i64 (writeTextV l R W s t).2.2.1], .bool (writeTextV l R W s t).2.2.2]) ∧ Kd.R k57 57 w' w.heap.size (fun _ => True) v0_ (writeTextV l R W s t).1 ∧ Below w.heap.size w w' := by
 have HV0 := Aside0.mk (VZ.new w A c l R W hr)
 have HC := Aside0.mk hc
 have HS := Aside0.mk hs
 clear hr hc hs
 have HI := Aside0.mk (someV_in l R W s b)
 have HF : Aside0 (writeTextV l R W s t = ([], 0, 0, false)) := ⟨by simp [writeTextV, q]⟩
 have q1 := decide_eq_true q
 go_enter Try.func39, Try.ntmps39
 go_wp2
 first | (go_region_with (first | (go_at_call 65; refine (someV_c _ _ _ _ _ _ _ _ _ HV0.out.drew.vs.row HC.out (Kd.C_drew (Kd.C_alloc (Kd.C_alloc HS.out _) _))).mono ?_; rw [b]; rintro e w2 ⟨rfl, hb⟩; have HV2 := Aside0.mk (HV0.out.drew.below hb); clear hb; obtain ⟨k0, k1, k2⟩ := boxV_cells HV2.out.vs.blk; obtain ⟨⟨z0, z1, z2⟩, y0, y1, y2⟩ := boxZ_cells HV2.out.zb) | (go_at_call 57; refine (vSum_c w.heap.size _ c l _ _ s _ (boxV_cells HV2.out.vs.blk).1 HV2.out.vs.row (Kd.C_below HS.out HV2.out.vs.bel) HI.out).mono ?_; rintro e w4 ⟨rfl, hb⟩; have HV4 := Aside0.mk (HV2.out.below hb); clear hb; obtain ⟨m0, m1, m2⟩ := boxV_cells HV4.out.vs.blk; obtain ⟨⟨x0, x1, x2⟩, n0, n1, n2⟩ := boxZ_cells HV4.out.zb))) | fail
 all_goals
   go_wp2
   refine bodyPost_ret (results_ct rfl _ _ (w.heap.size + 1) 35 #[.slice none 0 0, .int .i64 0, .int .i64 0] (0, 0) _ rfl (z_again HV4.out.zb) Try.underlying35 rfl (by kernel_rfl)) rfl ?_
   exact ⟨_, by rw [HF.out]; first | done | rfl, by rw [HF.out]; exact Kd.R_nil _ _ _ _ _, below_set (below_set (below_set HV4.out.vs.bel (by omega)) (by omega)) (by omega)⟩
set_option maxRecDepth 100000 in
set_option maxHeartbeats 4000000 in
theorem writeTextV_3 (A : Option Addr) (c : Nat) (l : List S57) (R W : Int) (A1 : Option Addr) (c1 : Nat) (s : List Int) (t : ByteArray) (w : World) (hr : Kd.C k57 w A l.length l) (hc : l.length ≤ c) (hs : Kd.C (Kd.int .i64) w A1 s.length s) (b : someV l R W s = true) (q : ¬ (vSum l s < W)) (q2 : 12 < (t.size : Int)) :
  Calls Try.prog 39 #[.agg #[.slice A l.length c, .int .i64 R, .int .i64 W], .slice A1 s.length c1, .string t] w fun e w' => ∃ v0_ : Value, e = .returned (.tuple #[.agg #[v0_, .int .i64 (writeTextV l R W s t).2.1, .int .i64 (writeTextV l R W s t).2.2.1], .bool (writeTextV l R W s t).2.2.2]) ∧ Kd.R k57 57 w' w.heap.size (fun _ => True) v0_ (writeTextV l R W s t).1 ∧ Below w.heap.size w w' := by
 have HV0 := Aside0.mk (VZ.new w A c l R W hr)
 have HC := Aside0.mk hc
 have HS := Aside0.mk hs
 clear hr hc hs
 have HI := Aside0.mk (someV_in l R W s b)
 have HF : Aside0 (writeTextV l R W s t = ([], 0, 0, false)) := ⟨by simp only [writeTextV, q2]; simp⟩
 have q1 := decide_eq_false q
 go_enter Try.func39, Try.ntmps39
 go_wp2
 first | (go_region_held3 (fun w' => w'.cell? ⟨w.heap.size, 0, none⟩ = some (.slice A l.length c) ∧ w'.cell? ⟨w.heap.size, 1, none⟩ = some (.int .i64 R) ∧ w'.cell? ⟨w.heap.size, 2, none⟩ = some (.int .i64 W)) (go_keep) (first | (go_at_call 65; refine (someV_c _ _ _ _ _ _ _ _ _ HV0.out.drew.vs.row HC.out (Kd.C_drew (Kd.C_alloc (Kd.C_alloc HS.out _) _))).mono ?_; rw [b]; rintro e w2 ⟨rfl, hb⟩; have HV2 := Aside0.mk (HV0.out.drew.below hb); clear hb; obtain ⟨k0, k1, k2⟩ := boxV_cells HV2.out.vs.blk; obtain ⟨⟨z0, z1, z2⟩, y0, y1, y2⟩ := boxZ_cells HV2.out.zb) | (go_at_call 57; refine (vSum_c w.heap.size _ c l _ _ s _ (boxV_cells HV2.out.vs.blk).1 HV2.out.vs.row (Kd.C_below HS.out HV2.out.vs.bel) HI.out).mono ?_; rintro e w4 ⟨rfl, hb⟩; have HV4 := Aside0.mk (HV2.out.below hb); clear hb; obtain ⟨m0, m1, m2⟩ := boxV_cells HV4.out.vs.blk; obtain ⟨⟨x0, x1, x2⟩, n0, n1, n2⟩ := boxZ_cells HV4.out.zb))) | fail
 all_goals
   go_wp2
   refine bodyPost_ret (results_ct rfl _ _ (w.heap.size + 1) 35 #[.slice none 0 0, .int .i64 0, .int .i64 0] (0, 0) _ rfl (z_again HV4.out.zb) Try.underlying35 rfl (by kernel_rfl)) rfl ?_
   exact ⟨_, by rw [HF.out]; first | done | rfl, by rw [HF.out]; exact Kd.R_nil _ _ _ _ _, below_set (below_set (below_set HV4.out.vs.bel (by omega)) (by omega)) (by omega)⟩
set_option maxRecDepth 100000 in
set_option maxHeartbeats 4000000 in
theorem writeTextV_4 (A : Option Addr) (c : Nat) (l : List S57) (R W : Int) (A1 : Option Addr) (c1 : Nat) (s : List Int) (t : ByteArray) (w : World) (hr : Kd.C k57 w A l.length l) (hc : l.length ≤ c) (hs : Kd.C (Kd.int .i64) w A1 s.length s) (b : someV l R W s = true) (q : ¬ (vSum l s < W)) (q2 : ¬ 12 < (t.size : Int)) :
  Calls Try.prog 39 #[.agg #[.slice A l.length c, .int .i64 R, .int .i64 W], .slice A1 s.length c1, .string t] w fun e w' => ∃ v0_ : Value, e = .returned (.tuple #[.agg #[v0_, .int .i64 (writeTextV l R W s t).2.1, .int .i64 (writeTextV l R W s t).2.2.1], .bool (writeTextV l R W s t).2.2.2]) ∧ Kd.R k57 57 w' w.heap.size (fun _ => True) v0_ (writeTextV l R W s t).1 ∧ Below w.heap.size w w' := by
 have HV0 := Aside0.mk (VZ.new w A c l R W hr)
 have HC := Aside0.mk hc
 have HS := Aside0.mk hs
 clear hr hc hs
 have HI := Aside0.mk (someV_in l R W s b)
 have HG := Aside0.mk (show goodV l R W = true by unfold someV at b; rw [Bool.and_eq_true] at b; exact b.1)
 have HQ := Aside0.mk (And.intro q q2)
 have hln := goodV_len l R W HG.out
 have q1 := decide_eq_false q
 have hfl : ∀ (a b : Int) (s : ByteArray) (W : World), (Instr.field 57 (.agg #[.int .i64 a, .int .i64 b, .string s]) 1).run Try.prog W = .ok (.int .i64 b) W := fun _ _ _ _ => by rfl
 obtain ⟨ad, rfl⟩ : ∃ ad, A = some ad := by
  obtain ⟨ad, e, _⟩ := at_T57 HV0.out.vs.row 0 (by omega) (by omega)
  exact ⟨ad, e⟩
 go_enter Try.func39, Try.ntmps39
 go_upto_region 1 with fail
 go_cut [25] (fun s25 wx => s25 = .bool false ∧ Aside0 (VZ w w.heap.size (w.heap.size + 1) (some ad) c l R W wx))
 case first =>
  go_region_held3 (fun w' => w'.cell? ⟨w.heap.size, 0, none⟩ = some (.slice (some ad) l.length c) ∧ w'.cell? ⟨w.heap.size, 1, none⟩ = some (.int .i64 R) ∧ w'.cell? ⟨w.heap.size, 2, none⟩ = some (.int .i64 W)) (go_keep) (first | (go_at_call 65; refine (someV_c _ _ _ _ _ _ _ _ _ HV0.out.drew.vs.row HC.out (Kd.C_drew (Kd.C_alloc (Kd.C_alloc HS.out _) _))).mono ?_; rw [b]; rintro e w2 ⟨rfl, hb⟩; have HV2 := Aside0.mk (HV0.out.drew.below hb); clear hb; obtain ⟨k0, k1, k2⟩ := boxV_cells HV2.out.vs.blk; obtain ⟨⟨z0, z1, z2⟩, y0, y1, y2⟩ := boxZ_cells HV2.out.zb) | (go_at_call 57; refine (vSum_c w.heap.size _ c l _ _ s _ (boxV_cells HV2.out.vs.blk).1 HV2.out.vs.row (Kd.C_below HS.out HV2.out.vs.bel) HI.out).mono ?_; rintro e w4 ⟨rfl, hb⟩; have HV4 := Aside0.mk (HV2.out.below hb); clear hb; obtain ⟨m0, m1, m2⟩ := boxV_cells HV4.out.vs.blk; obtain ⟨⟨x0, x1, x2⟩, n0, n1, n2⟩ := boxZ_cells HV4.out.zb))
  all_goals (go_wp2_with fail; go_meet; exact ⟨by first | rfl | simp [*], HV4⟩)
 case rest =>
  obtain ⟨rfl, HV4⟩ := hcut
  have hle0 : w.heap.size ≤ wc.heap.size := HV4.out.vs.bel.size
  cases gg : goodV (writtenV l s (wrap64 ((vBest l s).f1 + 1)) t).1 R W with
  | false =>
   have HF : Aside0 (writeTextV l R W s t = ([], 0, 0, false)) := ⟨by simp [writeTextV, gg]⟩
   go_wp2_with (first | (go_at_call 59; refine (vBest_c w.heap.size _ c l _ _ s _ (boxV_cells HV4.out.vs.blk).1 HV4.out.vs.row (Kd.C_below HS.out HV4.out.vs.bel) HI.out).mono ?_; rintro e w5 ⟨rfl, hb⟩; have HV5 := Aside0.mk (HV4.out.below hb); clear hb) | (go_at_call 68; refine (writtenV_c w.heap.size ad c l R W _ _ s _ _ _ HV5.out.vs.blk HV5.out.vs.row (by omega) (by omega) (Kd.C_below HS.out HV5.out.vs.bel) HI.out).mono ?_; rintro e w6 ⟨v0, rfl, hR, hb⟩; have HV6 := Aside0.mk (HV5.out.below hb); obtain ⟨go, co, ev, gb, gl, cl2, hG⟩ := Kd.R_form hR (by rw [writtenV_len]; omega); subst ev; have HR6 := Aside0.mk (Kd.R_lower hR HV5.out.vs.bel.size); clear hR hb gb gl hG cl2) | (go_at_call 20; refine (goodV_c _ _ _ _ _ _ (Kd.C_alloc (Kd.R_reads' HR6.out).2.2 _) (Kd.R_reads' HR6.out).2.1).mono ?_; rw [gg]; rintro e w7 ⟨rfl, hb⟩; have HV7 := Aside0.mk ((HV6.out.alloc _).below hb); have HR7 := Aside0.mk (Kd.R_below (Kd.R_alloc HR6.out _) hb); have HB8 := Aside0.mk (blk_below (blk_new _ _) hb); obtain ⟨p0, p1, p2⟩ := boxV_cells HB8.out; obtain ⟨⟨z0, z1, z2⟩, y0, y1, y2⟩ := boxZ_cells HV7.out.zb; clear hb))
   refine bodyPost_ret (results_ct rfl _ _ (w.heap.size + 1) 35 #[.slice none 0 0, .int .i64 0, .int .i64 0] (0, 0) _ rfl (z_again HV7.out.zb) Try.underlying35 rfl (by kernel_rfl)) rfl ?_
   exact ⟨_, by rw [HF.out]; first | done | rfl, by rw [HF.out]; exact Kd.R_nil _ _ _ _ _, below_set (below_set (below_set HV7.out.vs.bel (by omega)) (by omega)) (by omega)⟩
  | true =>
   have HF : Aside0 (writeTextV l R W s t = ((writtenV l s (wrap64 ((vBest l s).f1 + 1)) t).1, R, W, true)) := ⟨by simp only [writeTextV, gg, b, HQ.out]; simp⟩
   go_wp2_with (first | (go_at_call 59; refine (vBest_c w.heap.size _ c l _ _ s _ (boxV_cells HV4.out.vs.blk).1 HV4.out.vs.row (Kd.C_below HS.out HV4.out.vs.bel) HI.out).mono ?_; rintro e w5 ⟨rfl, hb⟩; have HV5 := Aside0.mk (HV4.out.below hb); clear hb) | (go_at_call 68; refine (writtenV_c w.heap.size ad c l R W _ _ s _ _ _ HV5.out.vs.blk HV5.out.vs.row (by omega) (by omega) (Kd.C_below HS.out HV5.out.vs.bel) HI.out).mono ?_; rintro e w6 ⟨v0, rfl, hR, hb⟩; have HV6 := Aside0.mk (HV5.out.below hb); obtain ⟨go, co, ev, gb, gl, cl2, hG⟩ := Kd.R_form hR (by rw [writtenV_len]; omega); subst ev; have HR6 := Aside0.mk (Kd.R_lower hR HV5.out.vs.bel.size); clear hR hb gb gl hG cl2) | (go_at_call 20; refine (goodV_c _ _ _ _ _ _ (Kd.C_alloc (Kd.R_reads' HR6.out).2.2 _) (Kd.R_reads' HR6.out).2.1).mono ?_; rw [gg]; rintro e w7 ⟨rfl, hb⟩; have HV7 := Aside0.mk ((HV6.out.alloc _).below hb); have HR7 := Aside0.mk (Kd.R_below (Kd.R_alloc HR6.out _) hb); have HB8 := Aside0.mk (blk_below (blk_new _ _) hb); obtain ⟨p0, p1, p2⟩ := boxV_cells HB8.out; obtain ⟨⟨z0, z1, z2⟩, y0, y1, y2⟩ := boxZ_cells HV7.out.zb; clear hb))
   refine bodyPost_ret (results_ct rfl _ _ (w.heap.size + 1) 35 _ (0, 0) _ rfl (z_put HV7.out.zb _ R W) Try.underlying35 rfl (by kernel_rfl)) rfl ?_
   exact ⟨_, by rw [HF.out]; first | done | rfl, by rw [HF.out]; exact Kd.R_mono (Kd.R_far (Kd.R_far (Kd.R_far (Kd.R_types HR7.out HV7.out.zb (by decide)) (fun _ hk => hk.2) _) (fun _ hk => hk.2) _) (fun _ hk => hk.2) _) (fun _ hk => trivial), below_set (below_set (below_set HV7.out.vs.bel (by omega)) (by omega)) (by omega)⟩
theorem writeTextV_c (A : Option Addr) (c : Nat) (l : List S57) (R W : Int) (A1 : Option Addr) (c1 : Nat) (s : List Int) (t : ByteArray) (w : World) (hr : Kd.C k57 w A l.length l) (hc : l.length ≤ c) (hs : Kd.C (Kd.int .i64) w A1 s.length s) :
  Calls Try.prog 39 #[.agg #[.slice A l.length c, .int .i64 R, .int .i64 W], .slice A1 s.length c1, .string t] w fun e w' => ∃ v0_ : Value, e = .returned (.tuple #[.agg #[v0_, .int .i64 (writeTextV l R W s t).2.1, .int .i64 (writeTextV l R W s t).2.2.1], .bool (writeTextV l R W s t).2.2.2]) ∧ Kd.R k57 57 w' w.heap.size (fun _ => True) v0_ (writeTextV l R W s t).1 ∧ Below w.heap.size w w' := by
 cases b : someV l R W s with
 | false => exact writeTextV_1 A c l R W A1 c1 s t w hr hc hs b
 | true =>
  by_cases q : vSum l s < W
  ·exact writeTextV_2 A c l R W A1 c1 s t w hr hc hs b q
  ·by_cases q2 : 12 < (t.size : Int)
   ·exact writeTextV_3 A c l R W A1 c1 s t w hr hc hs b q q2
   ·exact writeTextV_4 A c l R W A1 c1 s t w hr hc hs b q q2
def repairV (l : List S57) (R W : Int) (s : List Int) : List S57 × Int × Int × Int × Bool :=
 if someV l R W s = true ∧ ¬ (vSum l s < R) then ((writtenV l s (vBest l s).f1 (vBest l s).f2).1, R, W, (writtenV l s (vBest l s).f1 (vBest l s).f2).2, true) else ([], 0, 0, 0, false)
set_option maxRecDepth 100000 in
set_option maxHeartbeats 4000000 in
theorem repairV_1 (A : Option Addr) (c : Nat) (l : List S57) (R W : Int) (A1 : Option Addr) (c1 : Nat) (s : List Int) (w : World) (hr : Kd.C k57 w A l.length l) (hc : l.length ≤ c) (hs : Kd.C (Kd.int .i64) w A1 s.length s) (b : someV l R W s = false) :
  Calls Try.prog 34 #[.agg #[.slice A l.length c, .int .i64 R, .int .i64 W], .slice A1 s.length c1] w fun e w' => ∃ v0_ : Value, e = .returned (.tuple #[.agg #[v0_, .int .i64 (repairV l R W s).2.1, .int .i64 (repairV l R W s).2.2.1], .int .i64 (repairV l R W s).2.2.2.1, .bool (repairV l R W s).2.2.2.2]) ∧ Kd.R k57 57 w' w.heap.size (fun _ => True) v0_ (repairV l R W s).1 ∧ Below w.heap.size w w' := by
 have HV0 := Aside0.mk (VZ.new w A c l R W hr)
 have HC := Aside0.mk hc
 have HS := Aside0.mk hs
 clear hr hc hs
 have HF : Aside0 (repairV l R W s = ([], 0, 0, 0, false)) := ⟨by simp [repairV, b]⟩
 go_enter Try.func34, Try.ntmps34
 go_wp2
 first | (go_region_with (first | (go_at_call 65; refine (someV_c _ _ _ _ _ _ _ _ _ HV0.out.drew.vs.row HC.out (Kd.C_drew (Kd.C_alloc (Kd.C_alloc HS.out _) _))).mono ?_; rw [b]; rintro e w2 ⟨rfl, hb⟩; have HV2 := Aside0.mk (HV0.out.drew.below hb); clear hb; obtain ⟨k0, k1, k2⟩ := boxV_cells HV2.out.vs.blk; obtain ⟨⟨z0, z1, z2⟩, y0, y1, y2⟩ := boxZ_cells HV2.out.zb))) | fail
 all_goals
   go_wp2
   refine bodyPost_ret (results_ctt rfl _ _ (w.heap.size + 1) 35 #[.slice none 0 0, .int .i64 0, .int .i64 0] (0, 0) _ rfl (z_again HV2.out.zb) Try.underlying35 rfl (by kernel_rfl)) rfl ?_
   exact ⟨_, by rw [HF.out]; first | done | rfl, by rw [HF.out]; exact Kd.R_nil _ _ _ _ _, below_set (below_set (below_set HV2.out.vs.bel (by omega)) (by omega)) (by omega)⟩
set_option maxRecDepth 100000 in
set_option maxHeartbeats 4000000 in
theorem repairV_2 (A : Option Addr) (c : Nat) (l : List S57) (R W : Int) (A1 : Option Addr) (c1 : Nat) (s : List Int) (w : World) (hr : Kd.C k57 w A l.length l) (hc : l.length ≤ c) (hs : Kd.C (Kd.int .i64) w A1 s.length s) (b : someV l R W s = true) (q : vSum l s < R) :
  Calls Try.prog 34 #[.agg #[.slice A l.length c, .int .i64 R, .int .i64 W], .slice A1 s.length c1] w fun e w' => ∃ v0_ : Value, e = .returned (.tuple #[.agg #[v0_, .int .i64 (repairV l R W s).2.1, .int .i64 (repairV l R W s).2.2.1], .int .i64 (repairV l R W s).2.2.2.1, .bool (repairV l R W s).2.2.2.2]) ∧ Kd.R k57 57 w' w.heap.size (fun _ => True) v0_ (repairV l R W s).1 ∧ Below w.heap.size w w' := by
 have HV0 := Aside0.mk (VZ.new w A c l R W hr)
 have HC := Aside0.mk hc
 have HS := Aside0.mk hs
 clear hr hc hs
 have HI := Aside0.mk (someV_in l R W s b)
 have HF : Aside0 (repairV l R W s = ([], 0, 0, 0, false)) := ⟨by simp [repairV, q]⟩
 have q1 := decide_eq_true q
 go_enter Try.func34, Try.ntmps34
 go_wp2
 go_region_held3 (fun w' => w'.cell? ⟨w.heap.size, 0, none⟩ = some (.slice A l.length c) ∧ w'.cell? ⟨w.heap.size, 1, none⟩ = some (.int .i64 R) ∧ w'.cell? ⟨w.heap.size, 2, none⟩ = some (.int .i64 W)) (go_keep) (first | (go_at_call 65; refine (someV_c _ _ _ _ _ _ _ _ _ HV0.out.drew.vs.row HC.out (Kd.C_drew (Kd.C_alloc (Kd.C_alloc HS.out _) _))).mono ?_; rw [b]; rintro e w2 ⟨rfl, hb⟩; have HV2 := Aside0.mk (HV0.out.drew.below hb); clear hb; obtain ⟨k0, k1, k2⟩ := boxV_cells HV2.out.vs.blk; obtain ⟨⟨z0, z1, z2⟩, y0, y1, y2⟩ := boxZ_cells HV2.out.zb) | (go_at_call 57; refine (vSum_c w.heap.size _ c l _ _ s _ (boxV_cells HV2.out.vs.blk).1 HV2.out.vs.row (Kd.C_below HS.out HV2.out.vs.bel) HI.out).mono ?_; rintro e w4 ⟨rfl, hb⟩; have HV4 := Aside0.mk (HV2.out.below hb); clear hb; obtain ⟨m0, m1, m2⟩ := boxV_cells HV4.out.vs.blk; obtain ⟨⟨x0, x1, x2⟩, n0, n1, n2⟩ := boxZ_cells HV4.out.zb))
 all_goals
   go_wp2
   refine bodyPost_ret (results_ctt rfl _ _ (w.heap.size + 1) 35 #[.slice none 0 0, .int .i64 0, .int .i64 0] (0, 0) _ rfl (z_again HV4.out.zb) Try.underlying35 rfl (by kernel_rfl)) rfl ?_
   exact ⟨_, by rw [HF.out]; first | done | rfl, by rw [HF.out]; exact Kd.R_nil _ _ _ _ _, below_set (below_set (below_set HV4.out.vs.bel (by omega)) (by omega)) (by omega)⟩
set_option maxRecDepth 100000 in
set_option maxHeartbeats 4000000 in
theorem repairV_3 (A : Option Addr) (c : Nat) (l : List S57) (R W : Int) (A1 : Option Addr) (c1 : Nat) (s : List Int) (w : World) (hr : Kd.C k57 w A l.length l) (hc : l.length ≤ c) (hs : Kd.C (Kd.int .i64) w A1 s.length s) (b : someV l R W s = true) (q : ¬ (vSum l s < R)) :
  Calls Try.prog 34 #[.agg #[.slice A l.length c, .int .i64 R, .int .i64 W], .slice A1 s.length c1] w fun e w' => ∃ v0_ : Value, e = .returned (.tuple #[.agg #[v0_, .int .i64 (repairV l R W s).2.1, .int .i64 (repairV l R W s).2.2.1], .int .i64 (repairV l R W s).2.2.2.1, .bool (repairV l R W s).2.2.2.2]) ∧ Kd.R k57 57 w' w.heap.size (fun _ => True) v0_ (repairV l R W s).1 ∧ Below w.heap.size w w' := by
 have HV0 := Aside0.mk (VZ.new w A c l R W hr)
 have HC := Aside0.mk hc
 have HS := Aside0.mk hs
 clear hr hc hs
 have HI := Aside0.mk (someV_in l R W s b)
 have HG := Aside0.mk (show goodV l R W = true by unfold someV at b; rw [Bool.and_eq_true] at b; exact b.1)
 have HF : Aside0 (repairV l R W s = ((writtenV l s (vBest l s).f1 (vBest l s).f2).1, R, W, (writtenV l s (vBest l s).f1 (vBest l s).f2).2, true)) := ⟨by simp only [repairV, b, q]; simp⟩
 have hln := goodV_len l R W HG.out
 have q1 := decide_eq_false q
 clear q
 obtain ⟨ad, rfl⟩ : ∃ ad, A = some ad := by
  obtain ⟨ad, e, _⟩ := at_T57 HV0.out.vs.row 0 (by omega) (by omega)
  exact ⟨ad, e⟩
 go_enter Try.func34, Try.ntmps34
 go_upto_region 1 with fail
 go_cut [20] (fun s20 wx => s20 = .bool false ∧ Aside0 (VZ w w.heap.size (w.heap.size + 1) (some ad) c l R W wx))
 case first =>
  go_region_held3 (fun w' => w'.cell? ⟨w.heap.size, 0, none⟩ = some (.slice (some ad) l.length c) ∧ w'.cell? ⟨w.heap.size, 1, none⟩ = some (.int .i64 R) ∧ w'.cell? ⟨w.heap.size, 2, none⟩ = some (.int .i64 W)) (go_keep) (first | (go_at_call 65; refine (someV_c _ _ _ _ _ _ _ _ _ HV0.out.drew.vs.row HC.out (Kd.C_drew (Kd.C_alloc (Kd.C_alloc HS.out _) _))).mono ?_; rw [b]; rintro e w2 ⟨rfl, hb⟩; have HV2 := Aside0.mk (HV0.out.drew.below hb); clear hb; obtain ⟨k0, k1, k2⟩ := boxV_cells HV2.out.vs.blk; obtain ⟨⟨z0, z1, z2⟩, y0, y1, y2⟩ := boxZ_cells HV2.out.zb) | (go_at_call 57; refine (vSum_c w.heap.size _ c l _ _ s _ (boxV_cells HV2.out.vs.blk).1 HV2.out.vs.row (Kd.C_below HS.out HV2.out.vs.bel) HI.out).mono ?_; rintro e w4 ⟨rfl, hb⟩; have HV4 := Aside0.mk (HV2.out.below hb); clear hb; obtain ⟨m0, m1, m2⟩ := boxV_cells HV4.out.vs.blk; obtain ⟨⟨x0, x1, x2⟩, n0, n1, n2⟩ := boxZ_cells HV4.out.zb))
  all_goals (go_wp2_with fail; go_meet; exact ⟨by first | rfl | simp [*], HV4⟩)
 case rest =>
  obtain ⟨rfl, HV4⟩ := hcut
  go_wp2_with (first | (go_at_call 59; refine (vBest_c w.heap.size _ c l _ _ s _ (boxV_cells HV4.out.vs.blk).1 HV4.out.vs.row (Kd.C_below HS.out HV4.out.vs.bel) HI.out).mono ?_; rintro e w5 ⟨rfl, hb⟩; have HV5 := Aside0.mk (HV4.out.below hb); clear hb) | (go_at_call 68; refine (writtenV_c w.heap.size ad c l R W _ _ s _ _ _ (HV5.out.alloc _).vs.blk (HV5.out.alloc _).vs.row (by omega) (by omega) (Kd.C_below HS.out (HV5.out.alloc _).vs.bel) HI.out).mono ?_; rintro e w6 ⟨v0, rfl, hR, hb⟩; have HV6 := Aside0.mk ((HV5.out.alloc _).below hb); obtain ⟨go, co, ev, gb, gl, cl2, hG⟩ := Kd.R_form hR (by rw [writtenV_len]; omega); subst ev; have HR6 := Aside0.mk (Kd.R_lower hR (HV5.out.alloc _).vs.bel.size); obtain ⟨⟨x0, x1, x2⟩, n0, n1, n2⟩ := boxZ_cells HV6.out.zb; have hz6 := blk_lt HV6.out.zb; clear hR hb gb gl hG cl2))
  refine bodyPost_ret (results_ctt rfl _ _ (w.heap.size + 1) 35 _ (0, 0) _ rfl (blk_alloc (z_put HV6.out.zb _ R W) _) Try.underlying35 rfl (by kernel_rfl)) rfl ?_
  exact ⟨_, by rw [HF.out]; first | done | rfl, by rw [HF.out]; exact Kd.R_alloc (Kd.R_mono (Kd.R_far (Kd.R_far (Kd.R_far (Kd.R_types HR6.out HV6.out.zb (by decide)) (fun _ hk => hk.2) _) (fun _ hk => hk.2) _) (fun _ hk => hk.2) _) (fun _ hk => trivial)) _, below_alloc (below_set (below_set (below_set HV6.out.vs.bel (by omega)) (by omega)) (by omega)) _⟩
theorem repairV_c (A : Option Addr) (c : Nat) (l : List S57) (R W : Int) (A1 : Option Addr) (c1 : Nat) (s : List Int) (w : World) (hr : Kd.C k57 w A l.length l) (hc : l.length ≤ c) (hs : Kd.C (Kd.int .i64) w A1 s.length s) :
  Calls Try.prog 34 #[.agg #[.slice A l.length c, .int .i64 R, .int .i64 W], .slice A1 s.length c1] w fun e w' => ∃ v0_ : Value, e = .returned (.tuple #[.agg #[v0_, .int .i64 (repairV l R W s).2.1, .int .i64 (repairV l R W s).2.2.1], .int .i64 (repairV l R W s).2.2.2.1, .bool (repairV l R W s).2.2.2.2]) ∧ Kd.R k57 57 w' w.heap.size (fun _ => True) v0_ (repairV l R W s).1 ∧ Below w.heap.size w w' := by
 cases b : someV l R W s with
 | false => exact repairV_1 A c l R W A1 c1 s w hr hc hs b
 | true =>
  by_cases q : vSum l s < R
  ·exact repairV_2 A c l R W A1 c1 s w hr hc hs b q
  ·exact repairV_3 A c l R W A1 c1 s w hr hc hs b q
def impl_GoodVoting.f (l0_0 : List (S57)) (a0_1 : Int) (a0_2 : Int) : Option (Bool) := some (goodV l0_0 a0_1 a0_2)
theorem impl_GoodVoting.calls (A0_0 : Option Addr) (c0_0 : Nat) (l0_0 : List (S57)) (a0_1 : Int) (a0_2 : Int) (r : Bool) (w : World) (hr0_0 : Kd.C k57 w A0_0 l0_0.length l0_0) (hc0_0 : l0_0.length ≤ c0_0) (h : impl_GoodVoting.f l0_0 a0_1 a0_2 = some r) :
  Calls Try.prog 20 #[.agg #[.slice A0_0 l0_0.length c0_0, .int .i64 a0_1, .int .i64 a0_2]] w fun e w' => e = .returned (.bool r) ∧ Below w.heap.size w w' := by
 obtain rfl := Option.some.inj h
 exact goodV_c A0_0 c0_0 l0_0 a0_1 a0_2 w hr0_0 hc0_0

end Go.Proofs.Ytfbghibgjfegpaa.PRQ
