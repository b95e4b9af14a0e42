import Derived.Test.YtemamcbdjfabnaaGreatDoorCVVTI
import Derived.Test.YtemamcbdjfabnaaGreatDoorCVVWA
import Derived.Test.YtemamcbdjfabnaaGreatDoorCVPVGx8
import Derived.Test.YtemamcbdjfabnaaGreatDoorCVPVGx9
/- Keys of values: what they are, what the reference answers. Conditions: none. -/
namespace Go.Proofs.YtemamcbdjfabnaaGreatDoor.VT
open Go.RowKit Go.Proofs.YtemamcbdjfabnaaGreatDoor.PVG Go.Proofs.YtemamcbdjfabnaaGreatDoorW.PrintWords
set_option linter.unusedVariables false
set_option linter.unusedSimpArgs false
def by4 (n : Int) : List UInt8 := [UInt8.ofNat (n.toNat / 16777216), UInt8.ofNat (n.toNat / 65536), UInt8.ofNat (n.toNat / 256), UInt8.ofNat n.toNat]
def nameK (s : ByteArray) : List UInt8 := 2 :: (s.data.toList ++ [1])
mutual
def keyL : Tr → List UInt8
  | .mk kd nu tx ns ks => UInt8.ofNat kd.toNat :: (if kd = 4 then by4 (nu + 1000000000) else if kd = 5 then tx.data.toList ++ [1] else if holdsB kd = true then partsK ks (kd == 7) ns ++ [0] else [])
def partsK : List Tr → Bool → List ByteArray → List UInt8
  | [], _, _ => []
  | t :: ts, m, ns => (if m then nameK (ns.headD nil_) else []) ++ (keyL t ++ partsK ts m ns.tail)
end
theorem dsz (s : ByteArray) : s.data.toList.length = s.size := by rw [Array.length_toList]; rfl
theorem nameK_len (s : ByteArray) : (nameK s).length = s.size + 2 := by simp only [nameK, List.length_cons, List.length_append, dsz, List.length_nil]
mutual
theorem keyL_len : ∀ t : Tr, fit t = true → (keyL t).length + 30 ≤ 60 * cnt t
  | .mk kd nu tx ns ks, h => by
    have hf := fit1 h
    have ht := prt_size hf.htx
    have hk := partsK_len ks hf.hks
    simp only [cnt]
    rw [keyL]
    split
    · simp [by4]; omega
    split
    · simp only [List.length_cons, List.length_append, dsz, List.length_nil]; omega
    split
    · have := hk (kd == 7) ns hf.hns
      simp only [List.length_cons, List.length_append, List.length_nil]
      omega
    · simp; omega
theorem partsK_len : ∀ ts : List Tr, fitL ts = true → ∀ (m : Bool) (ns : List ByteArray), (∀ s, s ∈ ns → prt s = true) → (partsK ts m ns).length ≤ 60 * cntL ts
  | [], _, _, _, _ => by simp [partsK]
  | t :: ts, h, m, ns, hns => by
    simp only [fitL, Bool.and_eq_true] at h
    have h1 := keyL_len t h.1
    have h2 := partsK_len ts h.2 m ns.tail (fun s hs => hns s (List.mem_of_mem_tail hs))
    have h3 : (ns.headD nil_).size ≤ 24 := by
      cases ns with
      | nil => simp [nil_, ByteArray.size]
      | cons a r => exact prt_size (hns a (List.mem_cons_self ..))
    simp only [partsK, cntL, List.length_append]
    cases m with
    | false => simp; omega
    | true => simp only [if_true, nameK_len]; omega
end
end Go.Proofs.YtemamcbdjfabnaaGreatDoor.VT
