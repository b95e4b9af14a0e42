import Derived.Test.YtemamcbdjfabnaaGreatDoorGXVTI
import Derived.Test.YtemamcbdjfabnaaGreatDoorGXVWA
import Derived.Test.YtemamcbdjfabnaaGreatDoorGXPVGx8
import Derived.Test.YtemamcbdjfabnaaGreatDoorGXPVGx9
/- Keys of values: what they are, what the reference answers. Conditions: none. -/
namespace Go.Proofs.YtemamcbdjfabnaaGreatDoor.VT
open Go.RowKit Go.Proofs.YtemamcbdjfabnaaGreatDoor.PVG Go.Proofs.YtemamcbdjfabnaaGreatDoorW.PrintWords
set_option linter.unusedVariables false
set_option linter.unusedSimpArgs false
def by4 (n : Int) : List UInt8 := [UInt8.ofNat (n.toNat / 16777216), UInt8.ofNat (n.toNat / 65536), UInt8.ofNat (n.toNat / 256), UInt8.ofNat n.toNat]
def nameK (s : ByteArray) : List UInt8 := 2 :: (s.data.toList ++ [1])
mutual
def keyL : Tr → List UInt8
  | .mk kd nu tx ns ks => UInt8.ofNat kd.toNat :: (if kd = 4 then by4 (nu + 1000000000) else if kd = 5 then tx.data.toList ++ [1] else if holdsB kd = true then partsK ks (kd == 7) ns ++ [0] else [])
def partsK : List Tr → Bool → List ByteArray → List UInt8
  | [], _, _ => []
  | t :: ts, m, ns => (if m then nameK (ns.headD nil_) else []) ++ (keyL t ++ partsK ts m ns.tail)
end
theorem partsK_append : ∀ (a b : List Tr) (m : Bool) (ns : List ByteArray), partsK (a ++ b) m ns = partsK a m ns ++ partsK b m (ns.drop a.length)
  | [], b, m, ns => by simp [partsK]
  | t :: ts, b, m, ns => by
    simp only [List.cons_append, partsK, partsK_append ts, List.append_assoc, List.length_cons]
    have : ns.tail.drop ts.length = ns.drop (ts.length + 1) := by rw [← List.drop_one, List.drop_drop]; congr 1; omega
    rw [this]
theorem dsz (s : ByteArray) : s.data.toList.length = s.size := by rw [Array.length_toList]; rfl
theorem nameK_len (s : ByteArray) : (nameK s).length = s.size + 2 := by simp only [nameK, List.length_cons, List.length_append, dsz, List.length_nil]
theorem strNums (l : List UInt8) : strOfNums (l.map fun b => (b.toNat : Int)) = ofL l := by
  unfold strOfNums ofL
  congr 2
  rw [List.map_map]
  conv => rhs; rw [← List.map_id l]
  apply List.map_congr_left
  intro b _
  simp
mutual
theorem keyL_len : ∀ t : Tr, fit t = true → (keyL t).length + 30 ≤ 60 * cnt t
  | .mk kd nu tx ns ks, h => by
    have hf := fit1 h
    have ht := prt_size hf.htx
    have hk := partsK_len ks hf.hks
    simp only [cnt]
    rw [keyL]
    split
    · simp [by4]; omega
    split
    · simp only [List.length_cons, List.length_append, dsz, List.length_nil]; omega
    split
    · have := hk (kd == 7) ns hf.hns
      simp only [List.length_cons, List.length_append, List.length_nil]
      omega
    · simp; omega
theorem partsK_len : ∀ ts : List Tr, fitL ts = true → ∀ (m : Bool) (ns : List ByteArray), (∀ s, s ∈ ns → prt s = true) → (partsK ts m ns).length ≤ 60 * cntL ts
  | [], _, _, _, _ => by simp [partsK]
  | t :: ts, h, m, ns, hns => by
    simp only [fitL, Bool.and_eq_true] at h
    have h1 := keyL_len t h.1
    have h2 := partsK_len ts h.2 m ns.tail (fun s hs => hns s (List.mem_of_mem_tail hs))
    have h3 : (ns.headD nil_).size ≤ 24 := by
      cases ns with
      | nil => simp [nil_, ByteArray.size]
      | cons a r => exact prt_size (hns a (List.mem_cons_self ..))
    simp only [partsK, cntL, List.length_append]
    cases m with
    | false => simp; omega
    | true => simp only [if_true, nameK_len]; omega
end
theorem partsK_take {m : Bool} {ns : List ByteArray} {ks : List Tr} {i : Nat} (hi : i < ks.length) : partsK (ks.take (i + 1)) m ns = partsK (ks.take i) m ns ++ ((if m then nameK ((ns.drop i).headD nil_) else []) ++ keyL ks[i]) := by
  rw [List.take_succ_eq_append_getElem hi, partsK_append]
  rw [show (ks.take i).length = i by simp; omega]
  simp [partsK]
theorem by4_nums {n : Int} (h0 : 0 ≤ n) (h1 : n < 4294967296) : strOfNums [(n % 4294967296) / 16777216, ((n % 4294967296) / 65536) % 256, ((n % 4294967296) / 256) % 256, (n % 4294967296) % 256] = ofL (by4 n) := by
  obtain ⟨u, rfl⟩ : ∃ u : Nat, n = (u : Int) := ⟨n.toNat, by omega⟩
  have : ([((u : Int) % 4294967296) / 16777216, (((u : Int) % 4294967296) / 65536) % 256, (((u : Int) % 4294967296) / 256) % 256, ((u : Int) % 4294967296) % 256] : List Int) = (by4 (u : Int)).map fun b => (b.toNat : Int) := by
    simp only [by4, Int.toNat_natCast, List.map_cons, List.map_nil, UInt8.toNat_ofNat']
    refine List.cons_eq_cons.2 ⟨by omega, List.cons_eq_cons.2 ⟨by omega, List.cons_eq_cons.2 ⟨by omega, List.cons_eq_cons.2 ⟨by omega, rfl⟩⟩⟩⟩
  rw [this, strNums]
theorem key_ev : ∀ (t : Tr), wf t = true → cnt t ≤ 80 → Ev (fun f => spec_l2Key.f f t.kd t.nu t.tx t.ns (toSL t.ks)) (ofL (keyL t)) := by
  intro t
  refine Tr.ind (P := fun t => wf t = true → cnt t ≤ 80 → Ev (fun f => spec_l2Key.f f t.kd t.nu t.tx t.ns (toSL t.ks)) (ofL (keyL t))) ?_ t
  intro kd nu tx ns ks ih hw hc
  have hf := fit1 (wf_fit _ hw)
  have hc80 : cntL ks ≤ 80 := by simp only [cnt] at hc; omega
  have hks : ks.length ≤ 80 := by have := cnt_ge_len ks; omega
  have hsl := toSL_len ks
  have htx := prt_size hf.htx
  have hkd := hf.hkd
  have hnu := hf.hnu
  have hkb : strOfNums [kd % 256] = ofL [UInt8.ofNat kd.toNat] := by
    have : ([kd % 256] : List Int) = [UInt8.ofNat kd.toNat].map fun b => (b.toNat : Int) := by
      simp only [List.map_cons, List.map_nil, UInt8.toNat_ofNat']
      refine List.cons_eq_cons.2 ⟨by omega, rfl⟩
    rw [this, strNums]
  have hwf := hw
  rw [wf] at hwf
  simp only [Bool.and_eq_true] at hwf
  have hwk := (wfL_iff ks).1 hwf.2
  have hpk : ∀ a b : List Tr, ks = a ++ b → (partsK a (kd == 7) ns).length ≤ 60 * cntL a ∧ cntL a ≤ 80 := by
    intro a b he
    have h1 : fitL a = true := (fitL_iff a).2 fun t ht => wf_fit t (hwk t (by rw [he]; exact List.mem_append_left _ ht))
    have h2 : cntL ks = cntL a + cntL b := by rw [he, cntL_append]
    exact ⟨partsK_len a h1 _ ns hf.hns, by omega⟩
  have loop : holdsB kd = true → ∀ (b a : List Tr), ks = a ++ b → Ev (fun f => spec_l2Key.l0 f (ofL (UInt8.ofNat kd.toNat :: partsK a (kd == 7) ns)) (toSL ks) ((toSL ks).length : Int) (a.length : Int) kd nu tx ns (toSL ks)) (ofL (UInt8.ofNat kd.toNat :: (partsK ks (kd == 7) ns ++ [0]))) := by
    intro hh b
    induction b with
    | nil =>
      intro a he
      rw [List.append_nil] at he
      subst he
      have := hpk ks [] (by simp)
      refine Ev.step (f := fun _ => some (ofL (UInt8.ofNat kd.toNat :: (partsK ks (kd == 7) ns ++ [0])))) (fun f => ?_) (Ev.now _)
      show spec_l2Key.l0 (f + 1) _ _ _ _ _ _ _ _ _ = _
      rw [spec_l2Key.l0, if_neg (by omega), show (⟨#[0]⟩ : ByteArray) = ofL [0] from rfl, ofL_app, ofL_size, if_pos (by simp only [List.length_cons]; omega)]
      simp
    | cons t b ihb =>
      intro a he
      have hal : a.length < ks.length := by rw [he]; simp
      have hnx := ihb (a ++ [t]) (by rw [he]; simp)
      have hmem : t ∈ ks := by rw [he]; simp
      have hww : wrap64 ((a.length : Int) + 1) = ((a ++ [t]).length : Int) := by simp; unfold wrap64; omega
      have hrd : rd_T71 (toSL ks) (a.length : Int) = toS t := by
        unfold rd_T71
        rw [Int.toNat_natCast, toSL_map, he, List.getD_eq_getElem?_getD, List.map_append, List.getElem?_append_right (by simp)]
        simp
      have hct : cnt t ≤ 80 := by
        have : cntL ks = cntL a + cnt t + cntL b := by rw [he, cntL_mid]
        omega
      have iht := ih t hmem (hwk t hmem) hct
      have hkl := keyL_len t (wf_fit t (hwk t hmem))
      have hpa := hpk a (t :: b) he
      have happ : partsK (a ++ [t]) (kd == 7) ns = partsK a (kd == 7) ns ++ ((if (kd == 7) = true then nameK ((ns.drop a.length).headD nil_) else []) ++ keyL t) := by
        rw [partsK_append]; simp [partsK]
      rw [happ] at hnx
      by_cases h7 : kd = 7
      · have b7 : (kd == 7) = true := by simpa using h7
        have hnl := hf.hlen h7
        have hnm : rdOf ByteArray.empty ns (a.length : Int) = (ns.drop a.length).headD nil_ := by
          rw [List.drop_eq_getElem_cons (by omega)]
          unfold rdOf
          rw [Int.toNat_natCast, List.getD_eq_getElem?_getD, List.getElem?_eq_getElem (by omega)]
          rfl
        have hns : ((ns.drop a.length).headD nil_).size ≤ 24 := by
          rw [List.drop_eq_getElem_cons (by omega)]
          exact prt_size (hf.hns _ (List.getElem_mem _))
        obtain ⟨nm, hnme⟩ : ∃ nm, nm = (ns.drop a.length).headD nil_ := ⟨_, rfl⟩
        rw [← hnme] at hnm hns hnx
        rw [b7] at hnx hpa ⊢
        simp only [if_true] at hnx
        have e2 : ((⟨#[2]⟩ : ByteArray) ++ nm) ++ (⟨#[1]⟩ : ByteArray) = ofL (nameK nm) := by
          rw [show (⟨#[2]⟩ : ByteArray) = ofL [2] from rfl, show (⟨#[1]⟩ : ByteArray) = ofL [1] from rfl, ← ofL_of nm, ofL_app, ofL_app, ofL_of]
          simp [nameK]
        have e3 : ((⟨#[2]⟩ : ByteArray) ++ nm).size = nm.size + 1 := by
          rw [show (⟨#[2]⟩ : ByteArray) = ofL [2] from rfl, ← ofL_of nm, ofL_app, ofL_size, ofL_size]; simp
        refine Ev.step (f := fun f => (spec_l2Key.f f t.kd t.nu t.tx t.ns (toSL t.ks)).bind fun t219 => if (ofL (UInt8.ofNat kd.toNat :: partsK a true ns ++ nameK nm)).size + t219.size ≤ 9223372036854775807 then spec_l2Key.l0 f (ofL (UInt8.ofNat kd.toNat :: partsK a true ns ++ nameK nm) ++ t219) (toSL ks) ((toSL ks).length : Int) ((a ++ [t]).length : Int) kd nu tx ns (toSL ks) else none) (fun f => ?_) (Ev.bind iht ?_)
        · show spec_l2Key.l0 (f + 1) _ _ _ _ _ _ _ _ _ = _
          rw [spec_l2Key.l0, if_pos (by omega), if_pos (by omega), if_pos (by omega), if_pos h7, if_pos (by omega), hnm, if_pos (by omega), if_pos (by rw [e3]; omega), e2, if_pos (by rw [ofL_size, ofL_size, nameK_len]; simp only [List.length_cons]; omega), hrd, hww, toS_eq, ofL_app]
        · simp only [ofL_app, ofL_size, List.length_append, List.length_cons, nameK_len]
          simp only [if_pos (show (partsK a true ns).length + 1 + (nm.size + 2) + (keyL t).length ≤ 9223372036854775807 by omega)]
          simpa using hnx
      · have b7 : (kd == 7) = false := by simpa using h7
        rw [b7] at hnx hpa ⊢
        simp only [Bool.false_eq_true, if_false, List.nil_append] at hnx
        refine Ev.step (f := fun f => (spec_l2Key.f f t.kd t.nu t.tx t.ns (toSL t.ks)).bind fun t220 => if (ofL (UInt8.ofNat kd.toNat :: partsK a false ns)).size + t220.size ≤ 9223372036854775807 then spec_l2Key.l0 f (ofL (UInt8.ofNat kd.toNat :: partsK a false ns) ++ t220) (toSL ks) ((toSL ks).length : Int) ((a ++ [t]).length : Int) kd nu tx ns (toSL ks) else none) (fun f => ?_) (Ev.bind iht ?_)
        · show spec_l2Key.l0 (f + 1) _ _ _ _ _ _ _ _ _ = _
          rw [spec_l2Key.l0, if_pos (by omega), if_pos (by omega), if_pos (by omega), if_neg h7, hrd, hww, toS_eq]
        · simp only [ofL_app, ofL_size, List.length_cons]
          simp only [if_pos (show (partsK a false ns).length + 1 + (keyL t).length ≤ 9223372036854775807 by omega)]
          simpa using hnx
  refine Ev.step (f := fun f => if kd = 4 then some (ofL (UInt8.ofNat kd.toNat :: by4 (nu + 1000000000))) else if kd = 5 then some (ofL (UInt8.ofNat kd.toNat :: (tx.data.toList ++ [1]))) else if kd = 6 then spec_l2Key.j0 f (ofL [UInt8.ofNat kd.toNat]) (kd == 6) kd nu tx ns (toSL ks) else spec_l2Key.j0 f (ofL [UInt8.ofNat kd.toNat]) (kd == 7) kd nu tx ns (toSL ks)) (fun f => ?_) ?_
  · show spec_l2Key.f (f + 1) kd nu tx ns (toSL ks) = _
    have hwr : wrap64 (nu + 1000000000) = nu + 1000000000 := by unfold wrap64; omega
    rw [spec_l2Key.f, hwr]
    simp only [Option.bind_some, hkb, by4_nums (show 0 ≤ nu + 1000000000 by omega) (show nu + 1000000000 < 4294967296 by omega)]
    rw [show (⟨#[1]⟩ : ByteArray) = ofL [1] from rfl]
    have e5 : ofL [UInt8.ofNat kd.toNat] ++ tx = ofL (UInt8.ofNat kd.toNat :: tx.data.toList) := by
      rw [← ofL_of tx, ofL_app, ofL_of]; rfl
    rw [e5, ofL_app, ofL_app, ofL_size, ofL_size, ofL_size, if_pos (show [UInt8.ofNat kd.toNat].length + (by4 (nu + 1000000000)).length ≤ 9223372036854775807 by simp [by4]), if_pos (show [UInt8.ofNat kd.toNat].length + tx.size ≤ 9223372036854775807 by simp; omega), if_pos (show (UInt8.ofNat kd.toNat :: tx.data.toList).length + 1 ≤ 9223372036854775807 by simp only [List.length_cons, dsz]; omega)]
    rfl
  · rw [keyL]
    by_cases h4 : kd = 4
    · simp only [if_pos h4]; exact Ev.now _
    · simp only [if_neg h4]
      by_cases h5 : kd = 5
      · simp only [if_pos h5]; exact Ev.now _
      · simp only [if_neg h5]
        by_cases h6 : kd = 6
        · simp only [if_pos h6]
          have hh : holdsB kd = true := by simp [holdsB, h6]
          rw [if_pos hh]
          refine Ev.step (f := fun f => spec_l2Key.l0 f (ofL [UInt8.ofNat kd.toNat]) (toSL ks) ((toSL ks).length : Int) 0 kd nu tx ns (toSL ks)) (fun f => ?_) ?_
          · show spec_l2Key.j0 (f + 1) _ _ _ _ _ _ _ = _
            rw [spec_l2Key.j0, if_pos (by simpa using h6)]
          · have := loop hh ks [] rfl
            simpa [partsK] using this
        · simp only [if_neg h6]
          by_cases h7 : kd = 7
          · have hh : holdsB kd = true := by simp [holdsB, h7]
            rw [if_pos hh]
            refine Ev.step (f := fun f => spec_l2Key.l0 f (ofL [UInt8.ofNat kd.toNat]) (toSL ks) ((toSL ks).length : Int) 0 kd nu tx ns (toSL ks)) (fun f => ?_) ?_
            · show spec_l2Key.j0 (f + 1) _ _ _ _ _ _ _ = _
              rw [spec_l2Key.j0, if_pos (by simpa using h7)]
            · have := loop hh ks [] rfl
              simpa [partsK] using this
          · have hh : ¬ holdsB kd = true := by simp [holdsB, h6, h7]
            rw [if_neg hh]
            refine Ev.step (f := fun f => some (ofL [UInt8.ofNat kd.toNat])) (fun f => ?_) (Ev.now _)
            show spec_l2Key.j0 (f + 1) _ _ _ _ _ _ _ = _
            rw [spec_l2Key.j0, if_neg (by simpa using h7)]
theorem keyOf_ev {l : List S54} (h : Small l) : Ev (fun k => spec_KeyOf.f k l) ((match valT l with | none => nil_ | some t => ofL (keyL t)), (valT l).isSome) := by
  unfold spec_KeyOf.f
  refine Ev.bind (good_ev h) ?_
  cases hv : valT l with
  | none => exact Ev.now _
  | some t =>
    obtain ⟨rfl, h2, h3, h4, h5⟩ := valT_iff.1 hv
    simp only [Option.isSome_some, if_true]
    exact Ev.bind (tree_ev t (Pl.root h2 h4)) (Ev.bind (key_ev t h2 h4) (Ev.now _))
end Go.Proofs.YtemamcbdjfabnaaGreatDoor.VT
