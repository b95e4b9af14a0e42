import Derived.Test.YtoaafohpmhdjnaaGreatDoorTAVTE
import Derived.Lib.Strings
import Derived.Test.YtoaafohpmhdjnaaGreatDoorTAPVGx2
import Derived.Test.YtoaafohpmhdjnaaGreatDoorTAPVGx3
import Derived.Test.YtoaafohpmhdjnaaGreatDoorTAPVGx1
import Derived.Test.YtoaafohpmhdjnaaGreatDoorTAVTA
/- The reference's texts. Conditions: none. -/
namespace Go.Proofs.YtoaafohpmhdjnaaGreatDoor.VT
open Go.RowKit Go.Proofs.YtoaafohpmhdjnaaGreatDoor.PVG Go.Proofs.YtoaafohpmhdjnaaGreatDoorW.PrintWords
set_option linter.unusedVariables false
set_option linter.unusedSimpArgs false
def ofL (l:List UInt8):ByteArray:=⟨l.toArray⟩
theorem ofL_data (l:List UInt8):(ofL l).data.toList=l:=by simp [ofL]
theorem ofL_of (s:ByteArray):ofL s.data.toList=s:=by cases s;simp [ofL]
theorem ofL_ext {a b:ByteArray} (h:a.data.toList=b.data.toList):a=b:=by rw [←ofL_of a,←ofL_of b,h]
theorem ofL_app (a b:List UInt8):ofL a++ofL b=ofL (a++b):=ofL_ext (by simp [ofL])
theorem ofL_size (a:List UInt8):(ofL a).size=a.length:=by simp [ofL,ByteArray.size]
theorem bt_ofL (l:List UInt8) (i:Nat) (h:i < l.length):bt (ofL l) i=(l[i].toNat:Int):=by
 unfold bt
 rw [dif_pos (by rw [ofL_size];simpa using h)]
 simp [ofL]
 rfl
theorem ext_ofL (l:List UInt8) (i:Nat) (h:i < l.length):(ofL l).extract i (i+1)=ofL [l[i]]:=by
 apply ofL_ext
 rw [Lib.extract_data,ofL_data,ofL_data,show i+1 - i=1 from by omega,List.drop_eq_getElem_cons h]
 rfl
theorem u8ne {c k:UInt8} (h:¬c=k):¬((c.toNat:Int)=(k.toNat:Int)):=fun hc=>h (UInt8.toNat_inj.1 (by omega))
theorem quote_go (l:List UInt8):∀ (m i:Nat) (acc:List UInt8) (f:Nat),i+m=l.length→acc.length+2 * m+1≤1000000000→l.length≤1000000000→m < f →
  spec_l1Quote.l0 f (ofL l) (ofL acc) i=some (ofL (acc++quoteL (l.drop i)++[34]))
 | 0,i,acc,f,h1,h2,h3,hf=>by
  obtain ⟨f,rfl⟩:∃ g,f=g+1:=⟨f - 1,by omega⟩
  rw [spec_l1Quote.l0,if_neg (by rw [ofL_size];omega),if_pos (by rw [ofL_size];omega)]
  have:l.drop i=[]:=List.drop_eq_nil_of_le (by omega)
  rw [this,quoteL,List.append_nil]
  exact congrArg some (ofL_app acc [34])
 | m+1,i,acc,f,h1,h2,h3,hf=>by
  obtain ⟨f,rfl⟩:∃ g,f=g+1:=⟨f - 1,by omega⟩
  have hi:i < l.length:=by omega
  have hw:wrap64 ((i:Int)+1)=((i+1:Nat):Int):=by unfold wrap64;omega
  have hs:(⟨#[92]⟩:ByteArray)=ofL [92]:=rfl
  have hx:((i:Int)).toNat=i:=Int.toNat_natCast i
  have hx1:(((i+1:Nat):Int)).toNat=i+1:=Int.toNat_natCast _
  rw [spec_l1Quote.l0,if_pos (by rw [ofL_size];omega),if_pos (by omega),bt_ofL l i hi,hw,hx,hx1,ext_ofL l i hi,hs,ofL_app,ofL_app,ofL_app]
  simp only [ofL_size,List.length_append,List.length_singleton]
  rw [List.drop_eq_getElem_cons hi,quoteL]
  by_cases h34:l[i]=34
  ·rw [if_pos (by rw [h34];rfl),if_pos (show acc.length+1≤9223372036854775807 by omega),if_pos (show (i:Int)≤((i+1:Nat):Int) by omega),if_pos (show ((i+1:Nat):Int)≤(l.length:Int) by omega),if_pos (show acc.length+1+1≤9223372036854775807 by omega),if_pos (.inl h34),quote_go l m (i+1) (acc++[92]++[l[i]]) f (by omega) (by simp;omega) h3 (by omega)]
   simp
  ·rw [if_neg (show ¬((l[i].toNat:Int)=34) from u8ne h34)]
   by_cases h92:l[i]=92
   ·rw [if_pos (by rw [h92];rfl),if_pos (show acc.length+1≤9223372036854775807 by omega),if_pos (show (i:Int)≤((i+1:Nat):Int) by omega),if_pos (show ((i+1:Nat):Int)≤(l.length:Int) by omega),if_pos (show acc.length+1+1≤9223372036854775807 by omega),if_pos (.inr h92),quote_go l m (i+1) (acc++[92]++[l[i]]) f (by omega) (by simp;omega) h3 (by omega)]
    simp
   ·rw [if_neg (show ¬((l[i].toNat:Int)=92) from u8ne h92),if_pos (show (i:Int)≤((i+1:Nat):Int) by omega),if_pos (show ((i+1:Nat):Int)≤(l.length:Int) by omega),if_pos (show acc.length+1≤9223372036854775807 by omega),if_neg (by rintro (h | h) <;> contradiction),quote_go l m (i+1) (acc++[l[i]]) f (by omega) (by simp;omega) h3 (by omega)]
    simp
theorem quote_eq {s:ByteArray} (h:s.size≤1000):∀ f,1100≤f→spec_l1Quote.f f s=some (ofL (quotL s)):=by
 intro f hf
 have hl:s.data.toList.length=s.size:=Array.length_toList
 unfold spec_l1Quote.f
 have:=quote_go s.data.toList s.size 0 [34] f (by omega) (by simp;omega) (by omega) (by omega)
 rw [ofL_of] at this
 rw [show ((0:Nat):Int)=0 from rfl] at this
 rw [show (⟨#[34]⟩:ByteArray)=ofL [34] from rfl,this]
 rfl
theorem num_eq:∀ (f u:Nat),u < 10 ^ f→u≤1000000000000→spec_l1Num.f f u=some (ofL (Lib.decDigits u))∨f=0
 | 0,u,_,_=>.inr rfl
 | f+1,u,h,h2=>by
  left
  rw [spec_l1Num.f,Lib.decDigits]
  by_cases h10:u < 10
  ·rw [if_pos (by omega),dif_pos h10]
   have:wrap64 (48+(u:Int)) % 256=((48+u:Nat):Int):=by unfold wrap64;omega
   rw [this]
   rfl
  ·rw [if_neg (by omega),dif_neg h10]
   have e1:wrap64 (Int.tdiv (u:Int) 10)=((u / 10:Nat):Int):=by
    have:Int.tdiv (u:Int) 10=((u / 10:Nat):Int):=by
     rw [Int.tdiv_eq_ediv_of_nonneg (by omega)];omega
    rw [this];unfold wrap64;omega
   have e2:wrap64 (48+Int.tmod (u:Int) 10) % 256=((48+u % 10:Nat):Int):=by
    have:Int.tmod (u:Int) 10=((u % 10:Nat):Int):=by
     rw [Int.tmod_eq_emod_of_nonneg (by omega)];omega
    rw [this];unfold wrap64;omega
   rw [e1,e2]
   rcases num_eq f (u / 10) (by rw [Nat.pow_succ] at h;omega) (by omega) with ih | ih
   ·rw [ih]
    simp only [Option.bind_some]
    have es:strOfNums [((48+u % 10:Nat):Int)]=ofL [UInt8.ofNat (48+u % 10)]:=rfl
    have hd:(Lib.decDigits (u / 10)).length≤13:=by
     have:∀ k u,u < 10 ^ (k+1)→Lib.nDigits u≤k+1:=by
      intro k
      induction k with
      | zero=>intro u hu;rw [Lib.nDigits_small (by simpa using hu)];exact Nat.le_refl _
      | succ k ih =>
       intro u hu
       by_cases hu10:u < 10
       ·rw [Lib.nDigits_small hu10];omega
       ·rw [Lib.nDigits_big hu10]
        have:=ih (u / 10) (by rw [Nat.pow_succ] at hu;omega)
        omega
     rw [Lib.decDigits_length]
     exact this 12 _ (by omega)
    rw [es,ofL_size,ofL_size,if_pos (by simp;omega),ofL_app]
   ·subst ih
    simp at h
    omega
theorem int_eq {n:Int} (h1:-1000000000≤n) (h2:n≤1000000000):∀ f,20≤f→spec_l1Int.f f n=some (ofL (Lib.itoa n)):=by
 intro f hf
 have hp:∀ u:Nat,u≤1000000000→spec_l1Num.f f u=some (ofL (Lib.decDigits u)):=by
  intro u hu
  rcases num_eq f u (Nat.lt_of_lt_of_le (show u < 10 ^ 20 by omega) (Nat.pow_le_pow_right (by decide) hf)) (by omega) with h | h
  ·exact h
  ·omega
 unfold spec_l1Int.f Lib.itoa
 by_cases h:n < 0
 ·rw [if_pos h,if_pos h]
  have e:wrap64 (-n)=((n.natAbs:Nat):Int):=by unfold wrap64;omega
  rw [e,hp _ (by omega)]
  simp only [Option.bind_some]
  have hl:=itoa_len h1 h2
  unfold Lib.itoa at hl
  rw [if_pos h] at hl
  simp at hl
  rw [ofL_size,if_pos (by omega),show (⟨#[45]⟩:ByteArray)=ofL [45] from rfl,ofL_app]
  rfl
 ·rw [if_neg h,if_neg h]
  have e:n=((n.toNat:Nat):Int):=by omega
  have:=hp n.toNat (by omega)
  rw [←e] at this
  rw [this]
  rfl
end Go.Proofs.YtoaafohpmhdjnaaGreatDoor.VT
namespace Go.Proofs.YtoaafohpmhdjnaaGreatDoor.VT
open Go.RowKit Go.Proofs.YtoaafohpmhdjnaaGreatDoor.PVG Go.Proofs.YtoaafohpmhdjnaaGreatDoorW.PrintWords Go.Proofs.YtoaafohpmhdjnaaGreatDoorW.PrintLast Go.Proofs.YtoaafohpmhdjnaaGreatDoorW.PrintMore
set_option linter.unusedVariables false
set_option linter.unusedSimpArgs false
theorem in_f (a b c:Int):spec_l1In.f a b c=some (inB a b c):=by
 unfold spec_l1In.f inB
 by_cases h:a≥b
 ·rw [if_pos h];simp [h]
 ·rw [if_neg h];simp [h]
theorem within_f (a b c:Int):impl_within.f a b c=some (inB a b c):=by
 unfold impl_within.f inB
 by_cases h:a≥b
 ·rw [if_pos h];simp [h]
 ·rw [if_neg h];simp [h]
theorem num_f (a:Int):spec_l1Number.f a=some (inB a (-1000000000) 1000000000):=by
 unfold spec_l1Number.f
 rw [in_f]
 rfl
theorem sholds_f (a:Int):spec_l1Holds.f a=some (holdsB a):=by
 unfold spec_l1Holds.f holdsB
 by_cases h:a=6
 ·rw [if_pos h];simp [h]
 ·rw [if_neg h];simp [h]
theorem holds_f (a:Int):impl_holds.f a=some (holdsB a):=by
 unfold impl_holds.f holdsB
 by_cases h:a=6
 ·rw [if_pos h];simp [h]
 ·rw [if_neg h];simp [h]
def prtL (l:List UInt8):Bool:=l.all (fun c=>decide (32≤c.toNat)&&decide (c.toNat≤126))
theorem prtL_cons (c:UInt8) (l:List UInt8):prtL (c :: l)=(decide (32≤c.toNat)&&decide (c.toNat≤126)&&prtL l):=rfl
theorem prtL_no1 (c:UInt8) (l:List UInt8) (h:((c.toNat:Nat):Int) < 32):prtL (c :: l)=false:=by
 have:¬32≤c.toNat:=by omega
 rw [prtL_cons,decide_eq_false this];rfl
theorem prtL_no2 (c:UInt8) (l:List UInt8) (h:((c.toNat:Nat):Int) > 126):prtL (c :: l)=false:=by
 have:¬c.toNat≤126:=by omega
 rw [prtL_cons,decide_eq_false this,Bool.and_false];rfl
theorem prtL_yes (c:UInt8) (l:List UInt8) (h1:¬((c.toNat:Nat):Int) < 32) (h2:¬((c.toNat:Nat):Int) > 126):prtL (c :: l)=prtL l:=by
 rw [prtL_cons,decide_eq_true (show 32≤c.toNat by omega),decide_eq_true (show c.toNat≤126 by omega)];rfl
theorem sprt_go (l:List UInt8) (hl:l.length < 9223372036854775807):∀ (m i f:Nat),i+m=l.length→m < f→spec_l1Printed.l0 f (ofL l) i=some (prtL (l.drop i)&&decide (l.length≤24))
 | 0,i,f,h1,hf=>by
  obtain ⟨f,rfl⟩:∃ g,f=g+1:=⟨f - 1,by omega⟩
  have:l.drop i=[]:=List.drop_eq_nil_of_le (by omega)
  rw [spec_l1Printed.l0,if_neg (by rw [ofL_size];omega),ofL_size,this]
  simp [prtL]
  omega
 | m+1,i,f,h1,hf=>by
  obtain ⟨f,rfl⟩:∃ g,f=g+1:=⟨f - 1,by omega⟩
  have hi:i < l.length:=by omega
  have hw:wrap64 ((i:Int)+1)=((i+1:Nat):Int):=by unfold wrap64;omega
  rw [spec_l1Printed.l0,if_pos (by rw [ofL_size];omega),if_pos (by omega),bt_ofL l i hi,hw,sprt_go l hl m (i+1) f (by omega) (by omega),List.drop_eq_getElem_cons hi]
  by_cases h1:((l[i].toNat:Nat):Int) < 32
  ·rw [if_pos h1,prtL_no1 _ _ h1];rfl
  ·rw [if_neg h1]
   by_cases h2:((l[i].toNat:Nat):Int) > 126
   ·rw [if_pos h2,prtL_no2 _ _ h2];rfl
   ·rw [if_neg h2,prtL_yes _ _ h1 h2]
theorem sprt_f (s:ByteArray) (hs:s.size < 9223372036854775807):spec_l1Printed.f (s.size+1) s=some (prt s):=by
 have hl:s.data.toList.length=s.size:=Array.length_toList
 have:=sprt_go s.data.toList (by omega) s.size 0 (s.size+1) (by omega) (by omega)
 rw [ofL_of,hl] at this
 exact this
theorem iprt_go (l:List UInt8) (hl:l.length≤24):∀ (m i f:Nat),i+m=l.length→m < f→impl_stringOK.l0 f (ofL l) l.length i=some (prtL (l.drop i))
 | 0,i,f,h1,hf=>by
  obtain ⟨f,rfl⟩:∃ g,f=g+1:=⟨f - 1,by omega⟩
  have:l.drop i=[]:=List.drop_eq_nil_of_le (by omega)
  rw [impl_stringOK.l0,if_neg (by omega),this]
  simp [prtL]
 | m+1,i,f,h1,hf=>by
  obtain ⟨f,rfl⟩:∃ g,f=g+1:=⟨f - 1,by omega⟩
  have hi:i < l.length:=by omega
  have hw:wrap64 ((i:Int)+1)=((i+1:Nat):Int):=by unfold wrap64;omega
  rw [impl_stringOK.l0,if_pos (by omega),if_pos (by omega),if_pos (by rw [ofL_size];omega),bt_ofL l i hi,hw,iprt_go l hl m (i+1) f (by omega) (by omega),List.drop_eq_getElem_cons hi]
  by_cases h1:((l[i].toNat:Nat):Int) < 32
  ·rw [if_pos h1,prtL_no1 _ _ h1]
  ·rw [if_neg h1]
   by_cases h2:((l[i].toNat:Nat):Int) > 126
   ·rw [if_pos h2,prtL_no2 _ _ h2]
   ·rw [if_neg h2,prtL_yes _ _ h1 h2]
theorem iprt_f (s:ByteArray):impl_stringOK.f 30 s=some (prt s):=by
 have hl:s.data.toList.length=s.size:=Array.length_toList
 unfold impl_stringOK.f prt
 by_cases h:(s.size:Int) > 24
 ·rw [if_pos h]
  have:¬s.size≤24:=by omega
  simp [this]
 ·rw [if_neg h]
  have:=iprt_go s.data.toList (by omega) s.size 0 30 (by omega) (by omega)
  rw [ofL_of,hl] at this
  have h24:s.size≤24:=by omega
  rw [decide_eq_true h24,Bool.and_true]
  exact this
theorem in_c (a b c:Int) (r:Bool) (w:World) (h:inB a b c=r):Calls Tryz.prog 89 #[.int .i64 a,.int .i64 b,.int .i64 c] w fun e w'=>e=.returned (.bool r)∧Drawn0 w w':=spec_l1In.calls a b c r w (by rw [in_f,h])
theorem within_c (a b c:Int) (r:Bool) (w:World) (h:inB a b c=r):Calls Tryz.prog 112 #[.int .i64 a,.int .i64 b,.int .i64 c] w fun e w'=>e=.returned (.bool r)∧Drawn0 w w':=impl_within.calls a b c r w (by rw [within_f,h])
theorem num_c (a:Int) (r:Bool) (w:World) (h:inB a (-1000000000) 1000000000=r):Calls Tryz.prog 151 #[.int .i64 a] w fun e w'=>e=.returned (.bool r)∧Drawn0 w w':=spec_l1Number.calls a r w (by rw [num_f,h])
theorem sholds_c (a:Int) (r:Bool) (w:World) (h:holdsB a=r):Calls Tryz.prog 152 #[.int .i64 a] w fun e w'=>e=.returned (.bool r)∧Drawn0 w w':=spec_l1Holds.calls a r w (by rw [sholds_f,h])
theorem holds_c (a:Int) (r:Bool) (w:World) (h:holdsB a=r):Calls Tryz.prog 156 #[.int .i64 a] w fun e w'=>e=.returned (.bool r)∧Drawn0 w w':=impl_holds.calls a r w (by rw [holds_f,h])
theorem sprt_c (s:ByteArray) (r:Bool) (w:World) (hs:s.size < 9223372036854775807) (h:prt s=r):Calls Tryz.prog 119 #[.string s] w fun e w'=>e=.returned (.bool r)∧Drawn0 w w':=spec_l1Printed.calls (s.size+1) s r w (by rw [sprt_f s hs,h])
theorem prt_c (s:ByteArray) (r:Bool) (w:World) (h:prt s=r):Calls Tryz.prog 124 #[.string s] w fun e w'=>e=.returned (.bool r)∧Drawn0 w w':=impl_stringOK.calls 30 s r w (by rw [iprt_f s,h])
theorem emp_list {s:ByteArray} {r:Bool} (h:emp s=r):s.toList.isEmpty=r:=by
 rw [←h,ByteArray.toList_eq]
 have hl:s.data.toList.length=s.size:=Array.length_toList
 unfold emp
 cases hs:s.data.toList with
 | nil =>
  rw [hs] at hl
  have:s.size=0:=by simpa using hl.symm
  simp [this]
 | cons a r =>
  rw [hs] at hl
  have:¬s.size=0:=by simp at hl;omega
  simp [this]
end Go.Proofs.YtoaafohpmhdjnaaGreatDoor.VT
namespace Go.Proofs.YtoaafohpmhdjnaaGreatDoor.VT
open Go.RowKit Go.Proofs.YtoaafohpmhdjnaaGreatDoor.RY Go.Proofs.YtoaafohpmhdjnaaGreatDoor.PVG Go.Proofs.YtoaafohpmhdjnaaGreatDoorW.PrintWords Go.Proofs.YtoaafohpmhdjnaaGreatDoorW.PrintLast Go.Proofs.YtoaafohpmhdjnaaGreatDoorW.PrintMore
set_option linter.unusedVariables false
set_option linter.unusedSimpArgs false
def nmB (p:List UInt8):ByteArray:=⟨(unescL p).toArray⟩
def goodP (p:List UInt8):Bool:=okP p&&prt (nmB p)
def pathL:List UInt8→Option (List ByteArray)
 | []=>some []
 | c :: r=>if c=47 then (if (cutL r).all goodP=true then some ((cutL r).map nmB) else none) else none
def pathV (s:ByteArray):Option (List ByteArray):=if 60 < s.size then none else pathL s.data.toList
theorem pieces (s:ByteArray):(Lib.splitB ⟨#[47]⟩ 0 (Lib.countB s ⟨#[47]⟩) s).map (·.data.toList)=cutL s.data.toList:=by
 rw [Lib.splitB_data]
 exact cutL_split _ _ (Nat.le_refl _)
end Go.Proofs.YtoaafohpmhdjnaaGreatDoor.VT
