import Derived.Test.YtemamcbdjfabnaaGreatDoorGXVKA
import Derived.Test.YtemamcbdjfabnaaGreatDoorGXVTK
import Derived.Test.YtemamcbdjfabnaaGreatDoorGXVGA
/- The key of a tree, walked. Conditions: the tree's texts are right. -/
namespace Go.Proofs.YtemamcbdjfabnaaGreatDoor.VT
open Go.RowKit Go.Proofs.YtemamcbdjfabnaaGreatDoor.PVG Go.Proofs.YtemamcbdjfabnaaGreatDoorW.PrintWords Go.Proofs.YtemamcbdjfabnaaGreatDoorW.PrintLast Go.Proofs.YtemamcbdjfabnaaGreatDoorW.PrintMore
set_option linter.unusedVariables false
set_option linter.unusedSimpArgs false
structure BdU (B b : Nat) (L : List UInt8) (W : World) : Prop where
  is : Lib.BuilderAt 98 5 B b (.pointer (some ⟨b, 0, none⟩)) (Lib.byteCells L) W
  le : B ≤ W.heap.size
theorem BdU.bd {B b : Nat} {L : List UInt8} {W : World} (h : BdU B b L W) : Bd B b L W := ⟨.inr h.is, h.le⟩
theorem BdU.below {B b : Nat} {L : List UInt8} {W W' : World} (h : BdU B b L W) (hb : Below W.heap.size W W') : BdU B b L W' := ⟨BuilderAt_below h.is hb, Nat.le_trans h.le hb.size⟩
theorem wbu_i {B b : Nat} {L : List UInt8} {W : World} (h : Bd B b L W) (n : Int) (c : UInt8) (hc : (c.toNat : Int) = n) (hl : L.length + 1 ≤ 1099511627776) :
    Calls Tryz.prog 80 #[.pointer (some ⟨b, 0, none⟩), .int .u8 n] W fun e w' => e = .returned .nilIface ∧ BdU B b (L ++ [c]) w' ∧ Below B W w' := by
  subst hc
  refine (writeByte_c B b _ c.toNat W h.is (by rw [Lib.byteCells_length]; omega) h.le).mono ?_
  rintro e w' ⟨rfl, h1, h2⟩
  exact ⟨rfl, ⟨by rw [← byteCells_append]; exact h1, Nat.le_trans h.le h2.size⟩, h2⟩
theorem wbs_c {B b : Nat} {L : List UInt8} {W : World} (h : BdU B b L W) (ad : Addr) (m c : Nat) (K : List UInt8) (hm : K.length = m) (h0 : 0 < m) (hn : ∀ j u, (Lib.byteCells K)[j]? = some u → W.cell? (ad.add j) = some u) (hl : L.length + m ≤ 1099511627776) :
    Calls Tryz.prog 81 #[.pointer (some ⟨b, 0, none⟩), .slice (some ad) m c] W fun e w' => e = .returned (.tuple #[.int .i64 m, .nilIface]) ∧ Bd B b (L ++ K) w' ∧ Below B W w' := by
  refine (writeBytes_c B b _ ad m c (Lib.byteCells K) W h.is (by rw [Lib.byteCells_length, hm]) hn (by intro u hu; simp [Lib.byteCells] at hu; obtain ⟨x, _, rfl⟩ := hu; rfl) h0 (by rw [Lib.byteCells_length]; omega) h.le).mono ?_
  rintro e w' ⟨rfl, h1, h2⟩
  exact ⟨rfl, ⟨.inr (by rw [← byteCells_append]; exact h1), Nat.le_trans h.le h2.size⟩, h2⟩
def KyCall (t : Tr) : Prop := ∀ (w : World) (g : Nat), IsV w g t → fit t = true → cnt t ≤ 1073741824 →
  Calls Tryz.prog 56 #[.pointer (some ⟨g, 0, none⟩)] w fun e w' => e = .returned (.string (ofL (keyL t))) ∧ Below w.heap.size w w'
theorem KyCall.go {t : Tr} (h : KyCall t) (w : World) (g : Nat) (h1 : IsV w g t) (h2 : fit t = true) (h3 : cnt t ≤ 1073741824) :
    Calls Tryz.prog 56 #[.pointer (some ⟨g, 0, none⟩)] w fun e w' => e = .returned (.string (ofL (keyL t))) ∧ Below w.heap.size w w' := h w g h1 h2 h3
theorem by4_cells {nu : Int} (h : -1000000000 ≤ nu ∧ nu ≤ 1000000000) (w2 : World) : ∀ j u, (Lib.byteCells (by4 (nu + 1000000000)))[j]? = some u →
    (w2.alloc (.cells #[.int .u8 (wrap64 (nu + 1000000000) / 16777216 % 256), .int .u8 (wrap64 (nu + 1000000000) / 65536 % 256), .int .u8 (wrap64 (nu + 1000000000) / 256 % 256), .int .u8 (wrap64 (nu + 1000000000) % 256)] 5)).cell? ((⟨w2.heap.size, 0, none⟩ : Addr).add j) = some u := by
  have hw : wrap64 (nu + 1000000000) = nu + 1000000000 := by unfold wrap64; omega
  rw [hw]
  obtain ⟨m, hm⟩ : ∃ m, m = nu + 1000000000 := ⟨_, rfl⟩
  rw [← hm]
  have hm0 : 0 ≤ m ∧ m < 4294967296 := by omega
  have E : Lib.byteCells (by4 m) = [.int .u8 (m / 16777216 % 256), .int .u8 (m / 65536 % 256), .int .u8 (m / 256 % 256), .int .u8 (m % 256)] := by
    obtain ⟨u, rfl⟩ : ∃ u : Nat, m = (u : Int) := ⟨m.toNat, by omega⟩
    simp only [Lib.byteCells, by4, Int.toNat_natCast, List.map_cons, List.map_nil, UInt8.toNat_ofNat']
    refine List.cons_eq_cons.2 ⟨congrArg _ (by omega), List.cons_eq_cons.2 ⟨congrArg _ (by omega), List.cons_eq_cons.2 ⟨congrArg _ (by omega), List.cons_eq_cons.2 ⟨congrArg _ (by omega), rfl⟩⟩⟩⟩
  rw [E]
  intro j u hu
  have hb := blk_new w2 (.cells #[.int .u8 (m / 16777216 % 256), .int .u8 (m / 65536 % 256), .int .u8 (m / 256 % 256), .int .u8 (m % 256)] 5)
  match j, hu with
  | 0, hu => simp at hu; subst hu; exact (blk_cell hb 0).trans rfl
  | 1, hu => simp at hu; subst hu; exact (blk_cell hb 1).trans rfl
  | 2, hu => simp at hu; subst hu; exact (blk_cell hb 2).trans rfl
  | 3, hu => simp at hu; subst hu; exact (blk_cell hb 3).trans rfl
  | n + 4, hu => simp at hu
set_option maxRecDepth 100000 in
set_option maxHeartbeats 8000000 in
/-- Leaves. -/
theorem key_leaf (kd nu : Int) (tx : ByteArray) (ns : List ByteArray) (ks : List Tr) (hk : kd ≤ 5) : KyCall (.mk kd nu tx ns ks) := by
  intro w g hv hf hn
  have hf1 := fit1 hf
  obtain ⟨A3, c3, A4, c4, ha⟩ := hv.at_
  obtain ⟨k0, k1, k2, k3, k4⟩ := ha.cells
  simp only [Tr.ks, Tr.ns, Tr.kd, Tr.nu, Tr.tx] at k0 k1 k2 k3 k4
  have q : ∀ {a : Addr} {v : Value}, w.cell? a = some v → ∀ W, Below w.heap.size w W → W.cell? a = some v := fun {a v} e W hw => (hw.cell (World.block_lt_of_cell? w _ e)).trans e
  have BD := Aside0.mk (bd_new w)
  have BL := Aside0.mk (below_alloc (Below.refl w.heap.size w) (.cells #[.pointer none, .slice none 0 0] 98))
  have Q0 := Aside0.mk (q k0)
  have Q1 := Aside0.mk (q k1)
  have Q2 := Aside0.mk (q k2)
  have HNU := Aside0.mk hf1.hnu
  have HTX := Aside0.mk (prt_size hf1.htx)
  have hkd := hf1.hkd
  have LE := Aside0.mk (show ([] : List UInt8).length + 1 ≤ 1099511627776 by simp)
  clear q k0 k1 k2 k3 k4 ha hv hf1 hf hn
  obtain ⟨b, hb⟩ : ∃ b, b = w.heap.size := ⟨_, rfl⟩
  have five : kd = 1 ∨ kd = 2 ∨ kd = 3 ∨ kd = 4 ∨ kd = 5 := by omega
  clear hk hkd
  rcases five with rfl | rfl | rfl | rfl | rfl
  · have CK := Aside0.mk (show ((1 : UInt8).toNat : Int) = 1 from rfl)
    go_enter Tryz.func56, Tryz.ntmps56
    go_upto_region 2 with fail
    obtain ⟨W1, hW1⟩ : ∃ W1, W1 = w.alloc (.cells #[.pointer none, .slice none 0 0] 98) := ⟨_, rfl⟩
    rw [← hW1] at BD BL
    rw [← hW1]
    clear hW1
    have p0 := Q0.out _ BL.out
    go_wp2_with (first | (go_at_call 80; (with_reducible refine (wbu_i BD.out _ 1 CK.out LE.out).mono ?_); rintro e w2 ⟨rfl, h1, h2⟩; have BD2 := Aside0.mk h1; have B2 := Aside0.mk (below_tr BL.out h2); clear h1 h2; have p1 := Q0.out _ B2.out) | (go_at_call 78; (with_reducible refine (Tryz.Builder_String_any w.heap.size w.heap.size _ _ BD2.out.bd.is BD2.out.le).mono ?_); rintro e w3 ⟨rfl, hb⟩; have Q3 := Aside0.mk (below_tr B2.out hb); clear hb))
    go_ret
    exact ⟨by rw [keyL]; rfl, Q3.out⟩
  · have CK := Aside0.mk (show ((2 : UInt8).toNat : Int) = 2 from rfl)
    go_enter Tryz.func56, Tryz.ntmps56
    go_upto_region 2 with fail
    obtain ⟨W1, hW1⟩ : ∃ W1, W1 = w.alloc (.cells #[.pointer none, .slice none 0 0] 98) := ⟨_, rfl⟩
    rw [← hW1] at BD BL
    rw [← hW1]
    clear hW1
    have p0 := Q0.out _ BL.out
    go_wp2_with (first | (go_at_call 80; (with_reducible refine (wbu_i BD.out _ 2 CK.out LE.out).mono ?_); rintro e w2 ⟨rfl, h1, h2⟩; have BD2 := Aside0.mk h1; have B2 := Aside0.mk (below_tr BL.out h2); clear h1 h2; have p1 := Q0.out _ B2.out) | (go_at_call 78; (with_reducible refine (Tryz.Builder_String_any w.heap.size w.heap.size _ _ BD2.out.bd.is BD2.out.le).mono ?_); rintro e w3 ⟨rfl, hb⟩; have Q3 := Aside0.mk (below_tr B2.out hb); clear hb))
    go_ret
    exact ⟨by rw [keyL]; rfl, Q3.out⟩
  · have CK := Aside0.mk (show ((3 : UInt8).toNat : Int) = 3 from rfl)
    go_enter Tryz.func56, Tryz.ntmps56
    go_upto_region 2 with fail
    obtain ⟨W1, hW1⟩ : ∃ W1, W1 = w.alloc (.cells #[.pointer none, .slice none 0 0] 98) := ⟨_, rfl⟩
    rw [← hW1] at BD BL
    rw [← hW1]
    clear hW1
    have p0 := Q0.out _ BL.out
    go_wp2_with (first | (go_at_call 80; (with_reducible refine (wbu_i BD.out _ 3 CK.out LE.out).mono ?_); rintro e w2 ⟨rfl, h1, h2⟩; have BD2 := Aside0.mk h1; have B2 := Aside0.mk (below_tr BL.out h2); clear h1 h2; have p1 := Q0.out _ B2.out) | (go_at_call 78; (with_reducible refine (Tryz.Builder_String_any w.heap.size w.heap.size _ _ BD2.out.bd.is BD2.out.le).mono ?_); rintro e w3 ⟨rfl, hb⟩; have Q3 := Aside0.mk (below_tr B2.out hb); clear hb))
    go_ret
    exact ⟨by rw [keyL]; rfl, Q3.out⟩
  · have CK := Aside0.mk (show ((4 : UInt8).toNat : Int) = 4 from rfl)
    have K4 := Aside0.mk (show (by4 (nu + 1000000000)).length = 4 from rfl)
    have N4 := Aside0.mk (show 0 < 4 by omega)
    have L4 := Aside0.mk (show ([] ++ [(4 : UInt8)]).length + 4 ≤ 1099511627776 by simp)
    go_enter Tryz.func56, Tryz.ntmps56
    go_upto_region 2 with fail
    obtain ⟨W1, hW1⟩ : ∃ W1, W1 = w.alloc (.cells #[.pointer none, .slice none 0 0] 98) := ⟨_, rfl⟩
    rw [← hW1] at BD BL
    rw [← hW1]
    clear hW1
    have p0 := Q0.out _ BL.out
    go_wp2_with (first | (go_at_call 80; (with_reducible refine (wbu_i BD.out _ 4 CK.out LE.out).mono ?_); rintro e w2 ⟨rfl, h1, h2⟩; have BD2 := Aside0.mk h1; have B2 := Aside0.mk (below_tr BL.out h2); clear h1 h2; have p1 := Q0.out _ B2.out; have p2 := Q1.out _ B2.out) | (go_at_call 81; (with_reducible refine (wbs_c (BD2.out.below (below_alloc (Below.refl _ _) _)) ⟨w2.heap.size, 0, none⟩ 4 4 (by4 (nu + 1000000000)) K4.out N4.out (by4_cells HNU.out w2) L4.out).mono ?_); rintro e w3 ⟨rfl, h1, h2⟩; have BD3 := Aside0.mk h1; have B3 := Aside0.mk (below_tr (below_tr B2.out (below_B (below_alloc (Below.refl _ _) _) BD2.out.le)) h2); clear h1 h2) | (go_at_call 78; (with_reducible refine (Tryz.Builder_String_any w.heap.size w.heap.size _ _ BD3.out.is BD3.out.le).mono ?_); rintro e w4 ⟨rfl, hb⟩; have Q3 := Aside0.mk (below_tr B3.out hb); clear hb))
    go_ret
    exact ⟨by rw [keyL]; rfl, Q3.out⟩
  · have CK := Aside0.mk (show ((5 : UInt8).toNat : Int) = 5 from rfl)
    have sz1 : ¬ (9223372036854775807 < tx.size + 1) := by have := HTX.out; omega
    have e1 := Aside0.mk (show (tx ++ (⟨#[1]⟩ : ByteArray)).data.toList = tx.data.toList ++ [1] by rw [show (⟨#[1]⟩ : ByteArray) = ofL [1] from rfl, ← ofL_of tx, ofL_app, ofL_data, ofL_of])
    have e2 := Aside0.mk (show (tx ++ (⟨#[1]⟩ : ByteArray)).size = tx.size + 1 by rw [show (⟨#[1]⟩ : ByteArray) = ofL [1] from rfl, ← ofL_of tx, ofL_app, ofL_size, ofL_size]; simp)
    have L5 := Aside0.mk (show ([] ++ [(5 : UInt8)]).length + (tx ++ (⟨#[1]⟩ : ByteArray)).size ≤ 1099511627776 by have := HTX.out; rw [e2.out]; simp; omega)
    go_enter Tryz.func56, Tryz.ntmps56
    go_upto_region 2 with fail
    obtain ⟨W1, hW1⟩ : ∃ W1, W1 = w.alloc (.cells #[.pointer none, .slice none 0 0] 98) := ⟨_, rfl⟩
    rw [← hW1] at BD BL
    rw [← hW1]
    clear hW1
    have p0 := Q0.out _ BL.out
    go_wp2_with (first | (go_at_call 80; (with_reducible refine (wbu_i BD.out _ 5 CK.out LE.out).mono ?_); rintro e w2 ⟨rfl, h1, h2⟩; have BD2 := Aside0.mk h1; have B2 := Aside0.mk (below_tr BL.out h2); clear h1 h2; have p1 := Q0.out _ B2.out; have p2 := Q2.out _ B2.out) | (go_at_call 82; (with_reducible refine (ws_c BD2.out.bd _ L5.out).mono ?_); rintro e w3 ⟨rfl, h1, h2⟩; have BD3 := Aside0.mk h1; have B3 := Aside0.mk (below_tr B2.out h2); clear h1 h2) | (go_at_call 78; (with_reducible refine (Tryz.Builder_String_any w.heap.size w.heap.size _ _ BD3.out.is BD3.out.le).mono ?_); rintro e w4 ⟨rfl, hb⟩; have Q3 := Aside0.mk (below_tr B3.out hb); clear hb))
    go_ret
    exact ⟨by rw [keyL, if_neg (by decide), if_pos rfl]; rfl, Q3.out⟩
set_option maxRecDepth 100000 in
set_option maxHeartbeats 16000000 in
theorem key_list (nu : Int) (tx : ByteArray) (ns : List ByteArray) (ks : List Tr) (ih : ∀ t, t ∈ ks → KyCall t) : KyCall (.mk 6 nu tx ns ks) := by
  intro w g hv hf hn
  have hf1 := fit1 hf
  obtain ⟨A3, c3, A4, c4, ha⟩ := hv.at_
  have HA := Aside0.mk ha
  obtain ⟨k0, k1, k2, k3, k4⟩ := ha.cells
  simp only [Tr.ks, Tr.ns, Tr.kd, Tr.nu, Tr.tx] at k0 k1 k2 k3 k4
  have q : ∀ (W : World), Below w.heap.size w W → W.cell? ⟨g, 0, none⟩ = some (.int .i64 6) ∧ W.cell? ⟨g, 3, none⟩ = some (.slice A3 ns.length c3) ∧ W.cell? ⟨g, 4, none⟩ = some (.slice A4 ks.length c4) := fun W hb => ⟨(hb.cell (World.block_lt_of_cell? w _ k0)).trans k0, (hb.cell (World.block_lt_of_cell? w _ k3)).trans k3, (hb.cell (World.block_lt_of_cell? w _ k4)).trans k4⟩
  have KC := Aside0.mk q
  have BD := Aside0.mk (bd_new w)
  have BL := Aside0.mk (below_alloc (Below.refl w.heap.size w) (.cells #[.pointer none, .slice none 0 0] 98))
  have HN := Aside0.mk (show 1 + cntL ks ≤ 1073741824 by simp only [cnt] at hn; exact hn)
  have HF := Aside0.mk hf1
  have IH := Aside0.mk ih
  have PL := Aside0.mk (show ∀ i, (partsK (ks.take i) false ns).length ≤ 60 * cntL (ks.take i) from fun i => partsK_len _ ((fitL_iff _).2 fun t ht => (fitL_iff ks).1 hf1.hks t (List.mem_of_mem_take ht)) _ ns hf1.hns)
  have CK := Aside0.mk (show ((6 : UInt8).toNat : Int) = 6 from rfl)
  have LE := Aside0.mk (show ([] : List UInt8).length + 1 ≤ 1099511627776 by simp)
  have EK := Aside0.mk (show keyL (.mk 6 nu tx ns ks) = 6 :: (partsK ks false ns ++ [0]) by rw [keyL, if_neg (by decide), if_neg (by decide), if_pos (by decide)]; rfl)
  clear q k0 k1 k2 k3 k4 ha hv hf1 hf hn ih
  go_enter Tryz.func56, Tryz.ntmps56
  go_upto_region 2 with fail
  obtain ⟨W1, hW1⟩ : ∃ W1, W1 = w.alloc (.cells #[.pointer none, .slice none 0 0] 98) := ⟨_, rfl⟩
  rw [← hW1] at BD BL
  rw [← hW1]
  clear hW1
  obtain ⟨p0, p3, p4⟩ := KC.out _ BL.out
  go_wp2_with (first | (go_at_call 80; (with_reducible refine (wbu_i BD.out _ 6 CK.out LE.out).mono ?_); rintro e w2 ⟨rfl, h1, h2⟩; have BD2 := Aside0.mk h1.bd; have B2 := Aside0.mk (below_tr BL.out h2); clear h1 h2 p0 p3 p4; obtain ⟨p0, p3, p4⟩ := KC.out _ B2.out))
  clear BD BL LE CK
  go_loopg [54] ks.length (fun m v54 W => ∃ i : Nat, v54 = .int .i64 (i : Int) ∧ Aside0 (i + m = ks.length) ∧ Aside0 (Bd w.heap.size w.heap.size (6 :: partsK (ks.take i) false ns) W) ∧ Aside0 (Below w.heap.size w W))
  case atStart => exact ⟨0, rfl, ⟨by omega⟩, ⟨by have := BD2.out; simpa [partsK] using this⟩, B2⟩
  case round =>
    clear BD2 B2 p0 p3 p4
    obtain ⟨i, rfl, HI, BDi, Bi⟩ := hrel
    obtain ⟨p0, p3, p4⟩ := KC.out _ Bi.out
    have hpl := PL.out i
    have hc2 := cntL_take_le ks i
    have HAL := Aside0.mk (show ((6 : UInt8) :: partsK (ks.take i) false ns).length ≤ 1 + 60 * cntL ks by simp only [List.length_cons]; omega)
    clear hpl hc2
    cases gk with
    | zero =>
      have hlt : decide (i < ks.length) = false := decide_eq_false (by have := HI.out; omega)
      have HE := Aside0.mk (show ks.take i = ks from List.take_of_length_le (by have := HI.out; omega))
      have Z := Aside0.mk (show ((6 : UInt8) :: partsK (ks.take i) false ns).length + (⟨#[0]⟩ : ByteArray).size ≤ 1099511627776 by have := HAL.out; have := HN.out; show _ + 1 ≤ _; omega)
      go_wp2_with (first | (go_at_call 82; (with_reducible refine (ws_c BDi.out _ Z.out).mono ?_); rintro e w3 ⟨rfl, h1, h2⟩; have BD3 := Aside0.mk h1; have B3 := Aside0.mk (below_tr Bi.out h2); clear h1 h2) | (go_at_call 78; (with_reducible refine (Tryz.Builder_String_any w.heap.size w.heap.size _ _ BD3.out.is BD3.out.le).mono ?_); rintro e w4 ⟨rfl, hb⟩; have Q3 := Aside0.mk (below_tr B3.out hb); clear hb))
      go_ret
      exact ⟨by rw [EK.out, HE.out]; rfl, Q3.out⟩
    | succ m =>
      have hi : i < ks.length := by have := HI.out; omega
      obtain ⟨ad, p, rfl, kc, kv⟩ := HA.out.kid i hi
      simp only [Tr.ks] at kv
      have kc' := (Bi.out.cell (World.block_lt_of_cell? w _ kc)).trans kc
      have HFk := Aside0.mk ((fitL_iff ks).1 HF.out.hks _ (List.getElem_mem hi))
      have HIm := Aside0.mk (IH.out _ (List.getElem_mem hi))
      have KLn := Aside0.mk (keyL_len _ HFk.out)
      have hc1 := cntL_take ks i hi
      have hc3 := cntL_take_le ks (i + 1)
      have HCk := Aside0.mk (show cnt ks[i] ≤ 1073741824 by have := HN.out; omega)
      have HP := Aside0.mk (partsK_take (m := false) (ns := ns) hi)
      have b4 : (i : Int) ≤ 1073741824 := by have := HN.out; have := cnt_ge_len ks; omega
      have V0 := Aside0.mk kv
      clear hc1 hc3 kv kc
      obtain ⟨acc, hacc⟩ : ∃ acc, acc = 6 :: partsK (ks.take i) false ns := ⟨_, rfl⟩
      rw [← hacc] at BDi HAL
      have HACC := Aside0.mk hacc
      obtain ⟨kid, hkid⟩ : ∃ k, k = ks[i] := ⟨_, rfl⟩
      rw [← hkid] at V0 HFk HIm HCk HP KLn
      clear hacc hkid
      have Z4 := Aside0.mk (show acc.length + (ofL (keyL kid)).size ≤ 1099511627776 by have := HAL.out; have := HN.out; have := KLn.out; have := HCk.out; rw [ofL_size]; omega)
      have HN0 := Aside0.mk (show ∀ W, Bd w.heap.size w.heap.size (acc ++ (ofL (keyL kid)).data.toList) W → Bd w.heap.size w.heap.size (6 :: partsK (ks.take (i + 1)) false ns) W from fun W hb => by
        rw [ofL_data] at hb
        rw [HP.out, ← List.cons_append, ← HACC.out]
        simpa using hb)
      go_wp2_with (first | (go_at_call 56; (with_reducible refine (HIm.out.go _ p (V0.out.below Bi.out) HFk.out HCk.out).mono ?_); rintro e w4 ⟨rfl, hb⟩; have BD4 := Aside0.mk (BDi.out.below hb); have B4 := Aside0.mk (below_tr Bi.out (below_B hb BDi.out.le)); clear hb) | (go_at_call 82; (with_reducible refine (ws_c BD4.out _ Z4.out).mono ?_); rintro e w5 ⟨rfl, h1, h2⟩; have BD5 := Aside0.mk h1; have B5 := Aside0.mk (below_tr B4.out h2); clear h1 h2))
      go_roundg m
      case rel => exact ⟨i + 1, by go_num, ⟨by have := HI.out; omega⟩, ⟨HN0.out _ BD5.out⟩, B5⟩
      case measure => omega
set_option maxRecDepth 100000 in
set_option maxHeartbeats 16000000 in
theorem key_map (nu : Int) (tx : ByteArray) (ns : List ByteArray) (ks : List Tr) (ih : ∀ t, t ∈ ks → KyCall t) : KyCall (.mk 7 nu tx ns ks) := by
  intro w g hv hf hn
  have hf1 := fit1 hf
  obtain ⟨A3, c3, A4, c4, ha⟩ := hv.at_
  have HA := Aside0.mk ha
  obtain ⟨k0, k1, k2, k3, k4⟩ := ha.cells
  simp only [Tr.ks, Tr.ns, Tr.kd, Tr.nu, Tr.tx] at k0 k1 k2 k3 k4
  have q : ∀ (W : World), Below w.heap.size w W → W.cell? ⟨g, 0, none⟩ = some (.int .i64 7) ∧ W.cell? ⟨g, 3, none⟩ = some (.slice A3 ns.length c3) ∧ W.cell? ⟨g, 4, none⟩ = some (.slice A4 ks.length c4) := fun W hb => ⟨(hb.cell (World.block_lt_of_cell? w _ k0)).trans k0, (hb.cell (World.block_lt_of_cell? w _ k3)).trans k3, (hb.cell (World.block_lt_of_cell? w _ k4)).trans k4⟩
  have KC := Aside0.mk q
  have BD := Aside0.mk (bd_new w)
  have BL := Aside0.mk (below_alloc (Below.refl w.heap.size w) (.cells #[.pointer none, .slice none 0 0] 98))
  have HN := Aside0.mk (show 1 + cntL ks ≤ 1073741824 by simp only [cnt] at hn; exact hn)
  have HF := Aside0.mk hf1
  have IH := Aside0.mk ih
  have PL := Aside0.mk (show ∀ i, (partsK (ks.take i) true ns).length ≤ 60 * cntL (ks.take i) from fun i => partsK_len _ ((fitL_iff _).2 fun t ht => (fitL_iff ks).1 hf1.hks t (List.mem_of_mem_take ht)) _ ns hf1.hns)
  have CK := Aside0.mk (show ((7 : UInt8).toNat : Int) = 7 from rfl)
  have LE := Aside0.mk (show ([] : List UInt8).length + 1 ≤ 1099511627776 by simp)
  have EK := Aside0.mk (show keyL (.mk 7 nu tx ns ks) = 7 :: (partsK ks true ns ++ [0]) by rw [keyL, if_neg (by decide), if_neg (by decide), if_pos (by decide)]; rfl)
  clear q k0 k1 k2 k3 k4 ha hv hf1 hf hn ih
  go_enter Tryz.func56, Tryz.ntmps56
  go_upto_region 2 with fail
  obtain ⟨W1, hW1⟩ : ∃ W1, W1 = w.alloc (.cells #[.pointer none, .slice none 0 0] 98) := ⟨_, rfl⟩
  rw [← hW1] at BD BL
  rw [← hW1]
  clear hW1
  obtain ⟨p0, p3, p4⟩ := KC.out _ BL.out
  go_wp2_with (first | (go_at_call 80; (with_reducible refine (wbu_i BD.out _ 7 CK.out LE.out).mono ?_); rintro e w2 ⟨rfl, h1, h2⟩; have BD2 := Aside0.mk h1.bd; have B2 := Aside0.mk (below_tr BL.out h2); clear h1 h2 p0 p3 p4; obtain ⟨p0, p3, p4⟩ := KC.out _ B2.out))
  clear BD BL LE CK
  go_loopg [54] ks.length (fun m v54 W => ∃ i : Nat, v54 = .int .i64 (i : Int) ∧ Aside0 (i + m = ks.length) ∧ Aside0 (Bd w.heap.size w.heap.size (7 :: partsK (ks.take i) true ns) W) ∧ Aside0 (Below w.heap.size w W))
  case atStart => exact ⟨0, rfl, ⟨by omega⟩, ⟨by have := BD2.out; simpa [partsK] using this⟩, B2⟩
  case round =>
    clear BD2 B2 p0 p3 p4
    obtain ⟨i, rfl, HI, BDi, Bi⟩ := hrel
    obtain ⟨p0, p3, p4⟩ := KC.out _ Bi.out
    have hpl := PL.out i
    have hc2 := cntL_take_le ks i
    have HAL := Aside0.mk (show ((7 : UInt8) :: partsK (ks.take i) true ns).length ≤ 1 + 60 * cntL ks by simp only [List.length_cons]; omega)
    clear hpl hc2
    cases gk with
    | zero =>
      have hlt : decide (i < ks.length) = false := decide_eq_false (by have := HI.out; omega)
      have HE := Aside0.mk (show ks.take i = ks from List.take_of_length_le (by have := HI.out; omega))
      have Z := Aside0.mk (show ((7 : UInt8) :: partsK (ks.take i) true ns).length + (⟨#[0]⟩ : ByteArray).size ≤ 1099511627776 by have := HAL.out; have := HN.out; show _ + 1 ≤ _; omega)
      go_wp2_with (first | (go_at_call 82; (with_reducible refine (ws_c BDi.out _ Z.out).mono ?_); rintro e w3 ⟨rfl, h1, h2⟩; have BD3 := Aside0.mk h1; have B3 := Aside0.mk (below_tr Bi.out h2); clear h1 h2) | (go_at_call 78; (with_reducible refine (Tryz.Builder_String_any w.heap.size w.heap.size _ _ BD3.out.is BD3.out.le).mono ?_); rintro e w4 ⟨rfl, hb⟩; have Q3 := Aside0.mk (below_tr B3.out hb); clear hb))
      go_ret
      exact ⟨by rw [EK.out, HE.out]; rfl, Q3.out⟩
    | succ m =>
      have hi : i < ks.length := by have := HI.out; omega
      obtain ⟨ad, p, rfl, kc, kv⟩ := HA.out.kid i hi
      simp only [Tr.ks] at kv
      have kc' := (Bi.out.cell (World.block_lt_of_cell? w _ kc)).trans kc
      have HFk := Aside0.mk ((fitL_iff ks).1 HF.out.hks _ (List.getElem_mem hi))
      have HIm := Aside0.mk (IH.out _ (List.getElem_mem hi))
      have KLn := Aside0.mk (keyL_len _ HFk.out)
      have hc1 := cntL_take ks i hi
      have hc3 := cntL_take_le ks (i + 1)
      have HCk := Aside0.mk (show cnt ks[i] ≤ 1073741824 by have := HN.out; omega)
      have HP := Aside0.mk (partsK_take (m := true) (ns := ns) hi)
      have b4 : (i : Int) ≤ 1073741824 := by have := HN.out; have := cnt_ge_len ks; omega
      have V0 := Aside0.mk kv
      clear hc1 hc3 kv kc
      obtain ⟨acc, hacc⟩ : ∃ acc, acc = 7 :: partsK (ks.take i) true ns := ⟨_, rfl⟩
      rw [← hacc] at BDi HAL
      have HACC := Aside0.mk hacc
      obtain ⟨kid, hkid⟩ : ∃ k, k = ks[i] := ⟨_, rfl⟩
      rw [← hkid] at V0 HFk HIm HCk HP KLn
      clear hacc hkid
      have hni : i < ns.length := by have := HF.out.hlen rfl; omega
      obtain ⟨ad3, e3, kn⟩ := HA.out.name i hni
      simp only [Tr.ns] at kn
      subst e3
      have NP := Aside0.mk (prt_size (HF.out.hns _ (List.getElem_mem hni)))
      have kn' := (Bi.out.cell (World.block_lt_of_cell? w _ kn)).trans kn
      have HQn := Aside0.mk (show (ns.drop i).headD nil_ = ns[i] by rw [List.drop_eq_getElem_cons hni]; rfl)
      clear kn
      rw [HQn.out] at HP
      obtain ⟨nm, hnm⟩ : ∃ s, s = ns[i] := ⟨_, rfl⟩
      rw [← hnm] at HP NP HQn kn'
      clear hnm HQn
      have e2 := Aside0.mk (show (((⟨#[2]⟩ : ByteArray) ++ nm) ++ (⟨#[1]⟩ : ByteArray)).data.toList = nameK nm by
        rw [show (⟨#[2]⟩ : ByteArray) = ofL [2] from rfl, show (⟨#[1]⟩ : ByteArray) = ofL [1] from rfl, ← ofL_of nm, ofL_app, ofL_app, ofL_of, ofL_data]
        simp [nameK])
      have e3 : ((⟨#[2]⟩ : ByteArray) ++ nm).size = nm.size + 1 := by
        rw [show (⟨#[2]⟩ : ByteArray) = ofL [2] from rfl, ← ofL_of nm, ofL_app, ofL_size, ofL_size]; simp
      have e4 := Aside0.mk (show (((⟨#[2]⟩ : ByteArray) ++ nm) ++ (⟨#[1]⟩ : ByteArray)).size = nm.size + 2 by rw [← dsz, e2.out, nameK_len])
      have sz1 : ¬ (9223372036854775807 < 1 + nm.size) := by have := NP.out; omega
      have sz2 : ¬ (9223372036854775807 < 1 + nm.size + 1) := by have := NP.out; omega
      clear e3
      have Z3 := Aside0.mk (show acc.length + (((⟨#[2]⟩ : ByteArray) ++ nm) ++ (⟨#[1]⟩ : ByteArray)).size ≤ 1099511627776 by have := HAL.out; have := HN.out; have := NP.out; rw [e4.out]; omega)
      have Z4 := Aside0.mk (show (acc ++ (((⟨#[2]⟩ : ByteArray) ++ nm) ++ (⟨#[1]⟩ : ByteArray)).data.toList).length + (ofL (keyL kid)).size ≤ 1099511627776 by have := HAL.out; have := HN.out; have := NP.out; have := KLn.out; have := HCk.out; rw [List.length_append, dsz, e4.out, ofL_size]; omega)
      have HN0 := Aside0.mk (show ∀ W, Bd w.heap.size w.heap.size (acc ++ (((⟨#[2]⟩ : ByteArray) ++ nm) ++ (⟨#[1]⟩ : ByteArray)).data.toList ++ (ofL (keyL kid)).data.toList) W → Bd w.heap.size w.heap.size (7 :: partsK (ks.take (i + 1)) true ns) W from fun W hb => by
        rw [e2.out, ofL_data] at hb
        rw [HP.out, ← List.cons_append, ← HACC.out]
        simpa using hb)
      clear e2 e4
      go_wp2_with (first | (go_at_call 82; (with_reducible refine (ws_c BDi.out _ Z3.out).mono ?_); rintro e w3 ⟨rfl, h1, h2⟩; have BD3 := Aside0.mk h1; have B3 := Aside0.mk (below_tr Bi.out h2); clear h1 h2) | (go_at_call 56; (with_reducible refine (HIm.out.go _ p (V0.out.below B3.out) HFk.out HCk.out).mono ?_); rintro e w4 ⟨rfl, hb⟩; have BD4 := Aside0.mk (BD3.out.below hb); have B4 := Aside0.mk (below_tr B3.out (below_B hb BD3.out.le)); clear hb) | (go_at_call 82; (with_reducible refine (ws_c BD4.out _ Z4.out).mono ?_); rintro e w5 ⟨rfl, h1, h2⟩; have BD5 := Aside0.mk h1; have B5 := Aside0.mk (below_tr B4.out h2); clear h1 h2))
      go_roundg m
      case rel => exact ⟨i + 1, by go_num, ⟨by have := HI.out; omega⟩, ⟨HN0.out _ BD5.out⟩, B5⟩
      case measure => omega
/-- The key of a tree. -/
theorem key_c (t : Tr) : KyCall t := by
  refine Tr.ind (P := KyCall) ?_ t
  intro kd nu tx ns ks ih
  by_cases h5 : kd ≤ 5
  · exact key_leaf kd nu tx ns ks h5
  · by_cases h6 : kd = 6
    · subst h6
      exact key_list nu tx ns ks ih
    · by_cases h7 : kd = 7
      · subst h7
        exact key_map nu tx ns ks ih
      · intro w g hv hf
        have := (fit1 hf).hkd
        omega
end Go.Proofs.YtemamcbdjfabnaaGreatDoor.VT
