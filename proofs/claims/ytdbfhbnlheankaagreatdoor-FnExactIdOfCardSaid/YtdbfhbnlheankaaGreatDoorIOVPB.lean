import Derived.Test.YtdbfhbnlheankaaGreatDoorIOVTG
import Derived.Test.YtdbfhbnlheankaaGreatDoorIOVR1
import Derived.Test.YtdbfhbnlheankaaGreatDoorIORXA
import Derived.Test.YtdbfhbnlheankaaGreatDoorIORXF
import Derived.Lib.AppendIntMem
import Derived.Test.YtdbfhbnlheankaaGreatDoorIOShelf
import Derived.Test.YtdbfhbnlheankaaGreatDoorIOPVGx0
import Derived.Test.YtdbfhbnlheankaaGreatDoorIOVIA
import Derived.Test.YtdbfhbnlheankaaGreatDoorIOVK
import Derived.WalkLawsBesides
/- Trees whose text is written: what the writing asks and keeps. Conditions: none. -/
namespace Go.Proofs.YtdbfhbnlheankaaGreatDoor.VT
open Go.RowKit Go.Proofs.YtdbfhbnlheankaaGreatDoor.PVG Go.Proofs.YtdbfhbnlheankaaGreatDoorW.PrintWords Go.Proofs.YtdbfhbnlheankaaGreatDoorW.PrintLast Go.Proofs.YtdbfhbnlheankaaGreatDoorW.PrintMore
set_option linter.unusedVariables false
set_option linter.unusedSimpArgs false
mutual
/-- A tree whose text can be written. -/
def fit : Tr → Bool
  | .mk kd nu tx ns ks => inB kd 1 7 && inB nu (-1000000000) 1000000000 && prt tx && ns.all prt && (kd != 7 || decide (ns.length = ks.length)) && fitL ks
def fitL : List Tr → Bool
  | [] => true
  | t :: ts => fit t && fitL ts
end
theorem fitL_iff (a : List Tr) : fitL a = true ↔ ∀ t, t ∈ a → fit t = true := by
  induction a with
  | nil => simp [fitL]
  | cons t ts ih => simp [fitL, ih]
mutual
theorem wf_fit : ∀ t : Tr, wf t = true → fit t = true
  | .mk kd nu tx ns ks, h => by
    rw [wf] at h
    simp only [Bool.and_eq_true, nodeG] at h
    obtain ⟨⟨⟨h1, h2⟩, h3⟩, h4⟩ := h
    rw [fit]
    simp only [Bool.and_eq_true]
    by_cases h7 : kd = 7
    · rw [h7] at h2
      simp at h2
      refine ⟨⟨⟨⟨⟨h1.1.1.1.1, h1.1.1.2⟩, h1.2⟩, by simpa using h2.2⟩, by simp [h7, h2.1.1]⟩, wfL_fitL ks h4⟩
    · have : (kd == 7) = false := by simpa using h7
      rw [this] at h2
      have hns : ns = [] := by simpa using h2
      subst hns
      exact ⟨⟨⟨⟨⟨h1.1.1.1.1, h1.1.1.2⟩, h1.2⟩, rfl⟩, by simp [h7]⟩, wfL_fitL ks h4⟩
theorem wfL_fitL : ∀ ts : List Tr, wfL ts = true → fitL ts = true
  | [], _ => rfl
  | t :: ts, h => by
    simp only [wfL, Bool.and_eq_true] at h
    rw [fitL, wf_fit t h.1, wfL_fitL ts h.2]
    rfl
end
/-- What fit says of a tree's first node. -/
structure Fit1 (kd nu : Int) (tx : ByteArray) (ns : List ByteArray) (ks : List Tr) : Prop where
  hkd : 1 ≤ kd ∧ kd ≤ 7
  hnu : -1000000000 ≤ nu ∧ nu ≤ 1000000000
  htx : prt tx = true
  hns : ∀ s, s ∈ ns → prt s = true
  hlen : kd = 7 → ns.length = ks.length
  hks : fitL ks = true
theorem fit1 {kd nu : Int} {tx : ByteArray} {ns : List ByteArray} {ks : List Tr} (h : fit (.mk kd nu tx ns ks) = true) : Fit1 kd nu tx ns ks := by
  rw [fit] at h
  simp only [Bool.and_eq_true, Bool.or_eq_true, inB, decide_eq_true_eq, List.all_eq_true] at h
  obtain ⟨⟨⟨⟨⟨h1, h2⟩, h3⟩, h4⟩, h5⟩, h6⟩ := h
  refine ⟨h1, h2, h3, h4, fun h7 => ?_, h6⟩
  rcases h5 with h5 | h5
  · rw [h7] at h5; simp at h5
  · exact h5
mutual
theorem textF_len : ∀ t : Tr, fit t = true → (textL t).length + 60 ≤ 120 * cnt t
  | .mk k n tx ns ks, h => by
    have hf := fit1 h
    have ht := prt_size hf.htx
    have hk := partsF_len ks hf.hks
    have hq := quotL_len tx
    have hi := itoa_len hf.hnu.1 hf.hnu.2
    simp only [cnt]
    rw [textL]
    split
    · simp; omega
    split
    · simp; omega
    split
    · simp; omega
    split
    · omega
    split
    · omega
    split
    · rename_i h7
      have := hk true true ns (fun _ => ⟨by have := hf.hlen h7; omega, hf.hns⟩)
      simp
      omega
    · have := hk false true ns (fun h => by cases h)
      simp
      omega
theorem partsF_len : ∀ ts : List Tr, fitL ts = true → ∀ (m first : Bool) (ns : List ByteArray), (m = true → ts.length ≤ ns.length ∧ ∀ s, s ∈ ns → prt s = true) → (partsL ts m first ns).length ≤ 120 * cntL ts
  | [], _, _, _, _, _ => by simp [partsL]
  | t :: ts, h, m, first, ns, hns => by
    simp only [fitL, Bool.and_eq_true] at h
    have h1 := textF_len t h.1
    have hc := cnt_pos t
    have h3 : (if first = true then ([] : List UInt8) else [44]).length ≤ 1 := by cases first <;> simp
    cases m with
    | false =>
      have h2 := partsF_len ts h.2 false false ns.tail (fun h => by cases h)
      simp only [partsL, cntL, List.length_append]
      simp at h3 ⊢
      omega
    | true =>
      obtain ⟨g1, g2⟩ := hns rfl
      cases ns with
      | nil => simp at g1
      | cons a r =>
        have h2 := partsF_len ts h.2 true false r (fun _ => ⟨by simpa using g1, fun s hs => g2 s (List.mem_cons_of_mem _ hs)⟩)
        have h4 := quotL_len a
        have h5 := prt_size (g2 a (List.mem_cons_self ..))
        simp only [partsL, cntL, List.length_append, List.headD_cons, List.tail_cons, if_true]
        simp only [List.length_append, List.length_singleton]
        omega
end
/-- A builder that holds these bytes. -/
structure Bd (B b : Nat) (L : List UInt8) (W : World) : Prop where
  is : Lib.IsBuilder 119 5 B b (Lib.byteCells L) W
  le : B ≤ W.heap.size
theorem BuilderAt_below {B b : Nat} {p : Value} {bs : List Value} {W W' : World} (h : Lib.BuilderAt 119 5 B b p bs W) (hb : Below W.heap.size W W') : Lib.BuilderAt 119 5 B b p bs W' := by
  obtain ⟨h1, v, h2, h3, h4⟩ := h
  exact ⟨h1, v, blk_below h2 hb, pw_own_below h3 hb, h4⟩
theorem Bd.below {B b : Nat} {L : List UInt8} {W W' : World} (h : Bd B b L W) (hb : Below W.heap.size W W') : Bd B b L W' :=
  ⟨by rcases h.is with h | h
      · exact .inl (BuilderAt_below h hb)
      · exact .inr (BuilderAt_below h hb), Nat.le_trans h.le hb.size⟩
theorem byteCells_append (a b : List UInt8) : Lib.byteCells a ++ Lib.byteCells b = Lib.byteCells (a ++ b) := by simp [Lib.byteCells]
theorem ws_c {B b : Nat} {L : List UInt8} {W : World} (h : Bd B b L W) (s : ByteArray) (hl : L.length + s.size ≤ 1099511627776) :
    Calls Tryz.prog 116 #[.pointer (some ⟨b, 0, none⟩), .string s] W fun e w' => e = .returned (.tuple #[.int .i64 s.size, .nilIface]) ∧ Bd B b (L ++ s.data.toList) w' ∧ Below B W w' := by
  refine (writeString_c B b _ s W h.is (by rw [Lib.byteCells_length]; omega) h.le).mono ?_
  rintro e w' ⟨rfl, h1, h2⟩
  exact ⟨rfl, ⟨.inr (by rw [← byteCells_append]; exact h1), Nat.le_trans h.le h2.size⟩, h2⟩
theorem wb_c {B b : Nat} {L : List UInt8} {W : World} (h : Bd B b L W) (c : UInt8) (hl : L.length + 1 ≤ 1099511627776) :
    Calls Tryz.prog 118 #[.pointer (some ⟨b, 0, none⟩), .int .u8 (c.toNat : Int)] W fun e w' => e = .returned .nilIface ∧ Bd B b (L ++ [c]) w' ∧ Below B W w' := by
  refine (writeByte_c B b _ c.toNat W h.is (by rw [Lib.byteCells_length]; omega) h.le).mono ?_
  rintro e w' ⟨rfl, h1, h2⟩
  exact ⟨rfl, ⟨.inr (by rw [← byteCells_append]; exact h1), Nat.le_trans h.le h2.size⟩, h2⟩
/-- The powers of ten that strconv reads. -/
def HT (w : World) : Prop := Lib.TabIs Tryz.prog w "internal/strconv.uint64pow10" .u64 Lib.pow10Tab
theorem HT.below {w w' : World} (h : HT w) (hb : Below w.heap.size w w') : HT w' := (Lib.tabBelow_of_tabIs h) w' hb
theorem below_grow (w : World) (k : Nat) (os : Array Obj) : Below w.heap.size w (Go.Sort.grow (w.drewN k) os) := by
  have h := pw_below_drewN (Below.refl w.heap.size w) k
  refine ⟨h.os, h.tape, h.output, ?_, fun i hi => ?_⟩
  · have := h.size
    simp only [Go.Sort.grow, Array.size_append]
    omega
  · rw [← h.block i hi]
    simp only [Go.Sort.grow]
    rw [Array.getElem?_append_left (by have := h.size; omega)]
end Go.Proofs.YtdbfhbnlheankaaGreatDoor.VT
/- The package cmp's helpers, walked. Conditions: none. -/
namespace Go.Proofs.YtdbfhbnlheankaaGreatDoor.VT
open Go.RowKit Go.Proofs.YtdbfhbnlheankaaGreatDoor.PVG Go.Proofs.YtdbfhbnlheankaaGreatDoorW.PrintWords Go.Proofs.YtdbfhbnlheankaaGreatDoorW.PrintLast Go.Proofs.YtdbfhbnlheankaaGreatDoorW.PrintMore
set_option linter.unusedVariables false
set_option linter.unusedSimpArgs false
def ci (a b : Int) : Int := if a < b then -1 else if b < a then 1 else 0
def cs (a b : ByteArray) : Int := if Op.bytesLess a.toList b.toList = true then -1 else if Op.bytesLess b.toList a.toList = true then 1 else 0
/-- The first that is not nought. -/
def orL : List Int → Int
  | [] => 0
  | x :: r => if x = 0 then orL r else x
mutual
/-- How two trees stand to each other. -/
def cmpT : Tr → Tr → Int
  | .mk kd nu tx ns ks, u => if orL [ci kd u.kd, ci nu u.nu, cs tx u.tx] = 0 then cmpL ks (kd == 7) ns u.ns u.ks else orL [ci kd u.kd, ci nu u.nu, cs tx u.tx]
def cmpL : List Tr → Bool → List ByteArray → List ByteArray → List Tr → Int
  | [], _, _, _, us => if us.length = 0 then 0 else -1
  | _ :: _, _, _, _, [] => 1
  | t :: ts, m, ns, ms, u :: us => if m = true ∧ cs (ns.headD nil_) (ms.headD nil_) ≠ 0 then cs (ns.headD nil_) (ms.headD nil_) else if cmpT t u = 0 then cmpL ts m ns.tail ms.tail us else cmpT t u
end
end Go.Proofs.YtdbfhbnlheankaaGreatDoor.VT
/- Two trees compared, walked. Conditions: the trees' texts are right. -/
namespace Go.Proofs.YtdbfhbnlheankaaGreatDoor.VT
open Go.RowKit Go.Proofs.YtdbfhbnlheankaaGreatDoor.PVG Go.Proofs.YtdbfhbnlheankaaGreatDoorW.PrintWords Go.Proofs.YtdbfhbnlheankaaGreatDoorW.PrintLast Go.Proofs.YtdbfhbnlheankaaGreatDoorW.PrintMore
set_option linter.unusedVariables false
set_option linter.unusedSimpArgs false
theorem cmpT_mk {kd nu : Int} {tx : ByteArray} {ns : List ByteArray} {ks : List Tr} {kd2 nu2 : Int} {tx2 : ByteArray} {ms : List ByteArray} {us : List Tr} {o : Int} (h : orL [ci kd kd2, ci nu nu2, cs tx tx2] = o) :
    cmpT (.mk kd nu tx ns ks) (.mk kd2 nu2 tx2 ms us) = if o = 0 then cmpL ks (kd == 7) ns ms us else o := by
  subst h
  rw [cmpT]
  rfl
end Go.Proofs.YtdbfhbnlheankaaGreatDoor.VT
