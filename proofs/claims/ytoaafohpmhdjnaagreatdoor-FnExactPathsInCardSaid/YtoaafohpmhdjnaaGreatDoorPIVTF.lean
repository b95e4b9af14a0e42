import Derived.Test.YtoaafohpmhdjnaaGreatDoorPIVTE
import Derived.Lib.Strings
import Derived.Test.YtoaafohpmhdjnaaGreatDoorPIPVGx2
import Derived.Test.YtoaafohpmhdjnaaGreatDoorPIPVGx3
/- The reference's texts. Conditions: none. -/
namespace Go.Proofs.YtoaafohpmhdjnaaGreatDoor.VT
open Go.RowKit Go.Proofs.YtoaafohpmhdjnaaGreatDoor.PVG Go.Proofs.YtoaafohpmhdjnaaGreatDoorW.PrintWords
set_option linter.unusedVariables false
set_option linter.unusedSimpArgs false
def ofL (l:List UInt8):ByteArray:=⟨l.toArray⟩
theorem ofL_data (l:List UInt8):(ofL l).data.toList=l:=by simp [ofL]
theorem ofL_of (s:ByteArray):ofL s.data.toList=s:=by cases s;simp [ofL]
theorem ofL_ext {a b:ByteArray} (h:a.data.toList=b.data.toList):a=b:=by rw [←ofL_of a,←ofL_of b,h]
theorem ofL_app (a b:List UInt8):ofL a++ofL b=ofL (a++b):=ofL_ext (by simp [ofL])
theorem ofL_size (a:List UInt8):(ofL a).size=a.length:=by simp [ofL,ByteArray.size]
theorem bt_ofL (l:List UInt8) (i:Nat) (h:i < l.length):bt (ofL l) i=(l[i].toNat:Int):=by
 unfold bt
 rw [dif_pos (by rw [ofL_size];simpa using h)]
 simp [ofL]
 rfl
theorem ext_ofL (l:List UInt8) (i:Nat) (h:i < l.length):(ofL l).extract i (i+1)=ofL [l[i]]:=by
 apply ofL_ext
 rw [Lib.extract_data,ofL_data,ofL_data,show i+1 - i=1 from by omega,List.drop_eq_getElem_cons h]
 rfl
theorem u8ne {c k:UInt8} (h:¬c=k):¬((c.toNat:Int)=(k.toNat:Int)):=fun hc=>h (UInt8.toNat_inj.1 (by omega))
theorem quote_go (l:List UInt8):∀ (m i:Nat) (acc:List UInt8) (f:Nat),i+m=l.length→acc.length+2 * m+1≤1000000000→l.length≤1000000000→m < f →
  spec_l1Quote.l0 f (ofL l) (ofL acc) i=some (ofL (acc++quoteL (l.drop i)++[34]))
 | 0,i,acc,f,h1,h2,h3,hf=>by
  obtain ⟨f,rfl⟩:∃ g,f=g+1:=⟨f - 1,by omega⟩
  rw [spec_l1Quote.l0,if_neg (by rw [ofL_size];omega),if_pos (by rw [ofL_size];omega)]
  have:l.drop i=[]:=List.drop_eq_nil_of_le (by omega)
  rw [this,quoteL,List.append_nil]
  exact congrArg some (ofL_app acc [34])
 | m+1,i,acc,f,h1,h2,h3,hf=>by
  obtain ⟨f,rfl⟩:∃ g,f=g+1:=⟨f - 1,by omega⟩
  have hi:i < l.length:=by omega
  have hw:wrap64 ((i:Int)+1)=((i+1:Nat):Int):=by unfold wrap64;omega
  have hs:(⟨#[92]⟩:ByteArray)=ofL [92]:=rfl
  have hx:((i:Int)).toNat=i:=Int.toNat_natCast i
  have hx1:(((i+1:Nat):Int)).toNat=i+1:=Int.toNat_natCast _
  rw [spec_l1Quote.l0,if_pos (by rw [ofL_size];omega),if_pos (by omega),bt_ofL l i hi,hw,hx,hx1,ext_ofL l i hi,hs,ofL_app,ofL_app,ofL_app]
  simp only [ofL_size,List.length_append,List.length_singleton]
  rw [List.drop_eq_getElem_cons hi,quoteL]
  by_cases h34:l[i]=34
  ·rw [if_pos (by rw [h34];rfl),if_pos (show acc.length+1≤9223372036854775807 by omega),if_pos (show (i:Int)≤((i+1:Nat):Int) by omega),if_pos (show ((i+1:Nat):Int)≤(l.length:Int) by omega),if_pos (show acc.length+1+1≤9223372036854775807 by omega),if_pos (.inl h34),quote_go l m (i+1) (acc++[92]++[l[i]]) f (by omega) (by simp;omega) h3 (by omega)]
   simp
  ·rw [if_neg (show ¬((l[i].toNat:Int)=34) from u8ne h34)]
   by_cases h92:l[i]=92
   ·rw [if_pos (by rw [h92];rfl),if_pos (show acc.length+1≤9223372036854775807 by omega),if_pos (show (i:Int)≤((i+1:Nat):Int) by omega),if_pos (show ((i+1:Nat):Int)≤(l.length:Int) by omega),if_pos (show acc.length+1+1≤9223372036854775807 by omega),if_pos (.inr h92),quote_go l m (i+1) (acc++[92]++[l[i]]) f (by omega) (by simp;omega) h3 (by omega)]
    simp
   ·rw [if_neg (show ¬((l[i].toNat:Int)=92) from u8ne h92),if_pos (show (i:Int)≤((i+1:Nat):Int) by omega),if_pos (show ((i+1:Nat):Int)≤(l.length:Int) by omega),if_pos (show acc.length+1≤9223372036854775807 by omega),if_neg (by rintro (h | h) <;> contradiction),quote_go l m (i+1) (acc++[l[i]]) f (by omega) (by simp;omega) h3 (by omega)]
    simp
theorem quote_eq {s:ByteArray} (h:s.size≤1000):∀ f,1100≤f→spec_l1Quote.f f s=some (ofL (quotL s)):=by
 intro f hf
 have hl:s.data.toList.length=s.size:=Array.length_toList
 unfold spec_l1Quote.f
 have:=quote_go s.data.toList s.size 0 [34] f (by omega) (by simp;omega) (by omega) (by omega)
 rw [ofL_of] at this
 rw [show ((0:Nat):Int)=0 from rfl] at this
 rw [show (⟨#[34]⟩:ByteArray)=ofL [34] from rfl,this]
 rfl
theorem num_eq:∀ (f u:Nat),u < 10 ^ f→u≤1000000000000→spec_l1Num.f f u=some (ofL (Lib.decDigits u))∨f=0
 | 0,u,_,_=>.inr rfl
 | f+1,u,h,h2=>by
  left
  rw [spec_l1Num.f,Lib.decDigits]
  by_cases h10:u < 10
  ·rw [if_pos (by omega),dif_pos h10]
   have:wrap64 (48+(u:Int)) % 256=((48+u:Nat):Int):=by unfold wrap64;omega
   rw [this]
   rfl
  ·rw [if_neg (by omega),dif_neg h10]
   have e1:wrap64 (Int.tdiv (u:Int) 10)=((u / 10:Nat):Int):=by
    have:Int.tdiv (u:Int) 10=((u / 10:Nat):Int):=by
     rw [Int.tdiv_eq_ediv_of_nonneg (by omega)];omega
    rw [this];unfold wrap64;omega
   have e2:wrap64 (48+Int.tmod (u:Int) 10) % 256=((48+u % 10:Nat):Int):=by
    have:Int.tmod (u:Int) 10=((u % 10:Nat):Int):=by
     rw [Int.tmod_eq_emod_of_nonneg (by omega)];omega
    rw [this];unfold wrap64;omega
   rw [e1,e2]
   rcases num_eq f (u / 10) (by rw [Nat.pow_succ] at h;omega) (by omega) with ih | ih
   ·rw [ih]
    simp only [Option.bind_some]
    have es:strOfNums [((48+u % 10:Nat):Int)]=ofL [UInt8.ofNat (48+u % 10)]:=rfl
    have hd:(Lib.decDigits (u / 10)).length≤13:=by
     have:∀ k u,u < 10 ^ (k+1)→Lib.nDigits u≤k+1:=by
      intro k
      induction k with
      | zero=>intro u hu;rw [Lib.nDigits_small (by simpa using hu)];exact Nat.le_refl _
      | succ k ih =>
       intro u hu
       by_cases hu10:u < 10
       ·rw [Lib.nDigits_small hu10];omega
       ·rw [Lib.nDigits_big hu10]
        have:=ih (u / 10) (by rw [Nat.pow_succ] at hu;omega)
        omega
     rw [Lib.decDigits_length]
     exact this 12 _ (by omega)
    rw [es,ofL_size,ofL_size,if_pos (by simp;omega),ofL_app]
   ·subst ih
    simp at h
    omega
theorem int_eq {n:Int} (h1:-1000000000≤n) (h2:n≤1000000000):∀ f,20≤f→spec_l1Int.f f n=some (ofL (Lib.itoa n)):=by
 intro f hf
 have hp:∀ u:Nat,u≤1000000000→spec_l1Num.f f u=some (ofL (Lib.decDigits u)):=by
  intro u hu
  rcases num_eq f u (Nat.lt_of_lt_of_le (show u < 10 ^ 20 by omega) (Nat.pow_le_pow_right (by decide) hf)) (by omega) with h | h
  ·exact h
  ·omega
 unfold spec_l1Int.f Lib.itoa
 by_cases h:n < 0
 ·rw [if_pos h,if_pos h]
  have e:wrap64 (-n)=((n.natAbs:Nat):Int):=by unfold wrap64;omega
  rw [e,hp _ (by omega)]
  simp only [Option.bind_some]
  have hl:=itoa_len h1 h2
  unfold Lib.itoa at hl
  rw [if_pos h] at hl
  simp at hl
  rw [ofL_size,if_pos (by omega),show (⟨#[45]⟩:ByteArray)=ofL [45] from rfl,ofL_app]
  rfl
 ·rw [if_neg h,if_neg h]
  have e:n=((n.toNat:Nat):Int):=by omega
  have:=hp n.toNat (by omega)
  rw [←e] at this
  rw [this]
  rfl
end Go.Proofs.YtoaafohpmhdjnaaGreatDoor.VT
