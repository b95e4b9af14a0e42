import Derived.Test.YtfbghibgjfegpaaPWTx0
import Derived.WalkKit
import Derived.Deep.RegionWith
/- What the law of WriteText holds, walked along the way that answers true. Conditions: what its functions compute, told as hypotheses. -/
namespace Go.Proofs.Ytfbghibgjfegpaa.PWT
open Go.RowKit Go.Proofs.YtfbghibgjfegpaaW.PrintWords Go.Proofs.YtfbghibgjfegpaaW.PrintLast Go.Proofs.YtfbghibgjfegpaaW.PrintMore
set_option linter.unusedVariables false
set_option linter.unusedSimpArgs false
/-- All that the law holds: its argument, the boxes, the four rows of its own, apart from one another. -/
structure St (w : World) (A : Option Addr) (c nl : Nat) (R Wt : Int) (b2 b6 b9 b11 : Nat) (AS AX AI AG : Option Addr) (cS cX cI cG nS nX nI nG : Nat) (R1 W1 R2 W2 : Int) (LS LX LG : List S57) (I : List Int) (W : World) : Prop where
  bel : Below w.heap.size w W
  k2 : W.heap[b2]? = some (.cells #[.slice A nl c, .int .i64 R, .int .i64 Wt] 30 (0, 0))
  k6 : W.heap[b6]? = some (.cells #[.slice AS nS cS, .int .i64 R1, .int .i64 W1] 35 (0, 0))
  k9 : W.heap[b9]? = some (.cells #[.slice AX nX cX, .int .i64 R, .int .i64 Wt] 35 (0, 0))
  k11 : W.heap[b11]? = some (.cells #[.slice AG nG cG, .int .i64 R2, .int .i64 W2] 35 (0, 0))
  rS : Kd.R k57 57 W w.heap.size (fun k => some k ≠ (Value.slice AX nX cX).ownBlock ∧ some k ≠ (Value.slice AG nG cG).ownBlock) (.slice AS nS cS) LS
  rX : Kd.R k57 57 W w.heap.size (fun k => some k = (Value.slice AX nX cX).ownBlock) (.slice AX nX cX) LX
  rG : Kd.R k57 57 W w.heap.size (fun k => some k = (Value.slice AG nG cG).ownBlock ∧ some k ≠ (Value.slice AX nX cX).ownBlock) (.slice AG nG cG) LG
  rI : Kd.R (Kd.int .i64) 3 W w.heap.size (fun k => some k ≠ (Value.slice AX nX cX).ownBlock ∧ some k ≠ (Value.slice AG nG cG).ownBlock) (.slice AI nI cI) I
theorem St.below {w : World} {A : Option Addr} {c nl : Nat} {R Wt : Int} {b2 b6 b9 b11 : Nat} {AS AX AI AG : Option Addr} {cS cX cI cG nS nX nI nG : Nat} {R1 W1 R2 W2 : Int} {LS LX LG : List S57} {I : List Int} {W W' : World} (h : St w A c nl R Wt b2 b6 b9 b11 AS AX AI AG cS cX cI cG nS nX nI nG R1 W1 R2 W2 LS LX LG I W) (hb : Below W.heap.size W W') :
    St w A c nl R Wt b2 b6 b9 b11 AS AX AI AG cS cX cI cG nS nX nI nG R1 W1 R2 W2 LS LX LG I W' :=
  ⟨below_step h.bel hb, blk_below h.k2 hb, blk_below h.k6 hb, blk_below h.k9 hb, blk_below h.k11 hb, Kd.R_below h.rS hb, Kd.R_below h.rX hb, Kd.R_below h.rG hb, Kd.R_below h.rI hb⟩
/-- x0's marks are put: all else is kept. -/
theorem St.markX {w : World} {A : Option Addr} {c nl : Nat} {R Wt : Int} {b2 b6 b9 b11 : Nat} {AS AX AI AG : Option Addr} {cS cX cI cG nS nX nI nG : Nat} {R1 W1 R2 W2 : Int} {LS LX LG : List S57} {I : List Int} {W W' : World} (h : St w A c nl R Wt b2 b6 b9 b11 AS AX AI AG cS cX cI cG nS nX nI nG R1 W1 R2 W2 LS LX LG I W) {X' : List S57} (hR : Kd.R k57 57 W' w.heap.size (fun k => some k = (Value.slice AX nX cX).ownBlock ∨ W.heap.size ≤ k) (.slice AX nX cX) X') (hB : Below w.heap.size w W') (hK : Kept W W' (fun k => some k = (Value.slice AX nX cX).ownBlock)) : St w A c nl R Wt b2 b6 b9 b11 AS AX AI AG cS cX cI cG nS nX nI nG R1 W1 R2 W2 LS X' LG I W' :=
  ⟨hB, blk_kept h.k2 hK (Kd.R_ne h.rX h.k2 (by decide)), blk_kept h.k6 hK (Kd.R_ne h.rX h.k6 (by decide)), blk_kept h.k9 hK (Kd.R_ne h.rX h.k9 (by decide)), blk_kept h.k11 hK (Kd.R_ne h.rX h.k11 (by decide)),
    Kd.R_kept h.rS hK (fun _ hk => hk.1), Kd.R_tight rfl hR, Kd.R_kept h.rG hK (fun _ hk => hk.2), Kd.R_kept h.rI hK (fun _ hk => hk.1)⟩
/-- g0's marks are put: all else is kept. -/
theorem St.markG {w : World} {A : Option Addr} {c nl : Nat} {R Wt : Int} {b2 b6 b9 b11 : Nat} {AS AX AI AG : Option Addr} {cS cX cI cG nS nX nI nG : Nat} {R1 W1 R2 W2 : Int} {LS LX LG : List S57} {I : List Int} {W W' : World} (h : St w A c nl R Wt b2 b6 b9 b11 AS AX AI AG cS cX cI cG nS nX nI nG R1 W1 R2 W2 LS LX LG I W) {G' : List S57} (hR : Kd.R k57 57 W' w.heap.size (fun k => some k = (Value.slice AG nG cG).ownBlock ∨ W.heap.size ≤ k) (.slice AG nG cG) G') (hB : Below w.heap.size w W') (hK : Kept W W' (fun k => some k = (Value.slice AG nG cG).ownBlock)) : St w A c nl R Wt b2 b6 b9 b11 AS AX AI AG cS cX cI cG nS nX nI nG R1 W1 R2 W2 LS LX G' I W' :=
  have hn : ∀ k, some k = (Value.slice AG nG cG).ownBlock → some k ≠ (Value.slice AX nX cX).ownBlock := fun k hk => (h.rG.1 k hk.symm).2
  ⟨hB, blk_kept h.k2 hK (Kd.R_ne h.rG h.k2 (by decide)), blk_kept h.k6 hK (Kd.R_ne h.rG h.k6 (by decide)), blk_kept h.k9 hK (Kd.R_ne h.rG h.k9 (by decide)), blk_kept h.k11 hK (Kd.R_ne h.rG h.k11 (by decide)),
    Kd.R_kept h.rS hK (fun _ hk => hk.2), Kd.R_kept h.rX hK (fun k hk hg => hn k hg hk), Kd.R_mono (Kd.R_tight rfl hR) (fun k hk => ⟨hk, hn k hk⟩), Kd.R_kept h.rI hK (fun _ hk => hk.2)⟩
theorem apart3 {W : World} {base base3 : Nat} {ok ok3 : Nat → Prop} {v u : Value} {xs : List S57} {ys : List Int} (h : Kd.R k57 57 W base ok v xs) (h3 : Kd.R (Kd.int .i64) 3 W base3 ok3 u ys) : Kd.R k57 57 W base (fun k => ok k ∧ some k ≠ u.ownBlock) v xs := by
  cases hu : u.ownBlock with
  | none => exact Kd.R_mono h (fun k hk => ⟨hk, by simp⟩)
  | some g =>
    obtain ⟨_, _, _, q, hq, cells, hc⟩ := (Kd.R_bound h3).1 g hu
    have : q = 3 := by simpa [Kd.E, Kd.int, Kd.scalar] using hq
    subst this
    exact Kd.R_mono (Kd.R_types h hc (by decide)) (fun k hk => ⟨hk.1, by simpa using hk.2⟩)
/-- The numbers' marks are put: all else is kept. -/
theorem St.markI {w : World} {A : Option Addr} {c nl : Nat} {R Wt : Int} {b2 b6 b9 b11 : Nat} {AS AX AI AG : Option Addr} {cS cX cI cG nS nX nI nG : Nat} {R1 W1 R2 W2 : Int} {LS LX LG : List S57} {I : List Int} {W W' : World} (h : St w A c nl R Wt b2 b6 b9 b11 AS AX AI AG cS cX cI cG nS nX nI nG R1 W1 R2 W2 LS LX LG I W) {I' : List Int} (hR : Kd.R (Kd.int .i64) 3 W' w.heap.size (fun k => some k = (Value.slice AI nI cI).ownBlock ∨ W.heap.size ≤ k) (.slice AI nI cI) I') (hB : Below w.heap.size w W') (hK : Kept W W' (fun k => some k = (Value.slice AI nI cI).ownBlock)) : St w A c nl R Wt b2 b6 b9 b11 AS AX AI AG cS cX cI cG nS nX nI nG R1 W1 R2 W2 LS LX LG I' W' :=
  ⟨hB, blk_kept h.k2 hK (Kd.R_ne h.rI h.k2 (by decide)), blk_kept h.k6 hK (Kd.R_ne h.rI h.k6 (by decide)), blk_kept h.k9 hK (Kd.R_ne h.rI h.k9 (by decide)), blk_kept h.k11 hK (Kd.R_ne h.rI h.k11 (by decide)),
    Kd.R_mono (Kd.R_kept (apart3 h.rS h.rI) hK (fun _ hk => hk.2)) (fun _ hk => hk.1), Kd.R_mono (Kd.R_kept (apart3 h.rX h.rI) hK (fun _ hk => hk.2)) (fun _ hk => hk.1), Kd.R_mono (Kd.R_kept (apart3 h.rG h.rI) hK (fun _ hk => hk.2)) (fun _ hk => hk.1),
    Kd.R_mono (Kd.R_tight rfl hR) (fun k hk => h.rI.1 k hk.symm)⟩
end Go.Proofs.Ytfbghibgjfegpaa.PWT
