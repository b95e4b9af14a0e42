import Derived.Test.YtoaafohpmhdjnaaGreatDoorTAVTD
import Derived.Lib.ItoaNum
import Derived.Test.YtoaafohpmhdjnaaGreatDoorTAPVGx0
/- A value's text. Conditions: none. -/
namespace Go.Proofs.YtoaafohpmhdjnaaGreatDoor.VT
open Go.Proofs.YtoaafohpmhdjnaaGreatDoor.PVG
set_option linter.unusedVariables false
set_option linter.unusedSimpArgs false
def spn:List UInt8→Nat
 | []=>0
 | c :: l=>(if c=34∨c=92 then 1 else 0)+spn l
def quoteL:List UInt8→List UInt8
 | []=>[]
 | c :: l=>if c=34∨c=92 then 92 :: c :: quoteL l else c :: quoteL l
theorem quoteL_len:∀ l,(quoteL l).length=l.length+spn l
 | []=>rfl
 | c :: l=>by
  have:=quoteL_len l
  unfold quoteL spn
  split <;> simp <;> omega
theorem quoteL_none:∀ l,spn l=0→quoteL l=l
 | [],_=>rfl
 | c :: l,h=>by
  unfold spn at h
  unfold quoteL
  split at h
  ·omega
  ·rename_i hc
   rw [if_neg hc,quoteL_none l (by omega)]
theorem spn_count:∀ l:List UInt8,spn l=l.count 92+l.count 34
 | []=>rfl
 | c :: l=>by
  have:=spn_count l
  unfold spn
  rw [List.count_cons,List.count_cons]
  by_cases h1:c=34
  ·subst h1;simp;omega
  ·by_cases h2:c=92
   ·subst h2;simp;omega
   ·simp [h1,h2];omega
theorem spn_append:∀ a b:List UInt8,spn (a++b)=spn a+spn b
 | [],b=>by simp [spn]
 | c :: a,b=>by
  have:=spn_append a b
  show (if c=34∨c=92 then 1 else 0)+spn (a++b)=(if c=34∨c=92 then 1 else 0)+spn a+spn b
  omega
theorem quoteL_append:∀ a b:List UInt8,quoteL (a++b)=quoteL a++quoteL b
 | [],b=>rfl
 | c :: a,b=>by
  have:=quoteL_append a b
  show (if c=34∨c=92 then 92 :: c :: quoteL (a++b) else c :: quoteL (a++b))=(if c=34∨c=92 then 92 :: c :: quoteL a else c :: quoteL a)++quoteL b
  split <;> simp [this]
theorem spn_le:∀ l,spn l≤l.length
 | []=>Nat.le_refl _
 | c :: l=>by
  have:=spn_le l
  unfold spn
  split <;> simp <;> omega
def quotL (s:ByteArray):List UInt8:=34 :: (quoteL s.data.toList++[34])
mutual
def textL:Tr→List UInt8
 | .mk k n tx ns ks=>if k=1 then [110,117,108,108] else if k=2 then [102,97,108,115,101] else if k=3 then [116,114,117,101] else if k=4 then Lib.itoa n else if k=5 then quotL tx else
  if k=7 then 123 :: (partsL ks true true ns++[125]) else 91 :: (partsL ks false true ns++[93])
def partsL:List Tr→Bool→Bool→List ByteArray→List UInt8
 | [],_,_,_=>[]
 | t :: ts,m,first,ns=>(if first then [] else [44])++((if m then quotL (ns.headD nil_)++[58] else [])++(textL t++partsL ts m false ns.tail))
end
theorem quotL_len (s:ByteArray):(quotL s).length≤2 * s.size+2:=by
 have h1:=quoteL_len s.data.toList
 have h2:=spn_le s.data.toList
 have h3:s.data.toList.length=s.size:=Array.length_toList
 simp [quotL]
 omega
theorem itoa_len {n:Int} (h1:-1000000000≤n) (h2:n≤1000000000):(Lib.itoa n).length≤11:=by
 have hd:∀ u:Nat,u≤1000000000→(Lib.decDigits u).length≤10:=by
  intro u hu
  rw [Lib.decDigits_length]
  rcases Nat.lt_or_ge 10 (Lib.nDigits u) with h | h
  ·exact absurd (Lib.nDigits_unique 9 u) (by
    intro hq
    rcases Nat.lt_or_ge u (10 ^ 9) with h3 | h3
    ·have:∀ k u,u < 10 ^ (k+1)→Lib.nDigits u≤k+1:=by
      intro k
      induction k with
      | zero=>intro u hu;rw [Lib.nDigits_small (by simpa using hu)];exact Nat.le_refl _
      | succ k ih =>
       intro u hu
       by_cases hu10:u < 10
       ·rw [Lib.nDigits_small hu10];omega
       ·rw [Lib.nDigits_big hu10]
        have:=ih (u / 10) (by rw [Nat.pow_succ] at hu;omega)
        omega
     have:=this 8 u h3
     omega
    ·have:=hq h3 (by omega)
     omega)
  ·exact h
 unfold Lib.itoa
 split
 ·have:=hd n.natAbs (by omega);simp;omega
 ·have:=hd n.toNat (by omega);omega
theorem prt_size {s:ByteArray} (h:prt s=true):s.size≤24:=by
 unfold prt at h
 simp only [Bool.and_eq_true,decide_eq_true_iff] at h
 exact h.2
mutual
theorem textL_len:∀ t:Tr,wf t=true→(textL t).length+60≤120 * cnt t
 | .mk k n tx ns ks,h=>by
  have hg:=wf_node h
  simp only [Tr.kd,Tr.nu,Tr.tx,nodeG,Bool.and_eq_true] at hg
  have hn:-1000000000≤n∧n≤1000000000:=by have:=hg.1.1.2;simp [inB] at this;exact this
  have ht:=prt_size hg.2
  rw [wf] at h
  simp only [Bool.and_eq_true] at h
  have hk:=partsL_len ks h.2
  have hq:=quotL_len tx
  have hi:=itoa_len hn.1 hn.2
  simp only [cnt]
  rw [textL]
  split
  ·simp;omega
  split
  ·simp;omega
  split
  ·simp;omega
  split
  ·omega
  split
  ·omega
  split
  ·rename_i h7
   subst h7
   simp at h
   have:=hk true true ns (fun _=>⟨by omega,h.1.1.2.2⟩)
   simp
   omega
  ·have:=hk false true ns (fun h=>by cases h)
   simp
   omega
theorem partsL_len:∀ ts:List Tr,wfL ts=true→∀ (m first:Bool) (ns:List ByteArray),(m=true→ts.length≤ns.length∧∀ s,s∈ns→prt s=true)→(partsL ts m first ns).length≤120 * cntL ts
 | [],_,_,_,_,_=>by simp [partsL]
 | t :: ts,h,m,first,ns,hns=>by
  simp only [wfL,Bool.and_eq_true] at h
  have h1:=textL_len t h.1
  have hc:=cnt_pos t
  have h3:(if first=true then ([]:List UInt8) else [44]).length≤1:=by cases first <;> simp
  cases m with
  | false =>
   have h2:=partsL_len ts h.2 false false ns.tail (fun h=>by cases h)
   simp only [partsL,cntL,List.length_append]
   simp at h3 ⊢
   omega
  | true =>
   obtain ⟨g1,g2⟩:=hns rfl
   cases ns with
   | nil=>simp at g1
   | cons a r =>
    have h2:=partsL_len ts h.2 true false r (fun _=>⟨by simpa using g1,fun s hs=>g2 s (List.mem_cons_of_mem _ hs)⟩)
    have h4:=quotL_len a
    have h5:=prt_size (g2 a (List.mem_cons_self ..))
    simp only [partsL,cntL,List.length_append,List.headD_cons,List.tail_cons,if_true]
    simp only [List.length_append,List.length_singleton]
    omega
end
end Go.Proofs.YtoaafohpmhdjnaaGreatDoor.VT
