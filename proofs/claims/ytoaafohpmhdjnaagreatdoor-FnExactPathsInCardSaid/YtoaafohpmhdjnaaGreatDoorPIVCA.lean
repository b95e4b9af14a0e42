import Derived.Test.YtoaafohpmhdjnaaGreatDoorPIVTF
import Derived.Test.YtoaafohpmhdjnaaGreatDoorPIPVGx1
/- Small contracts: bounds, kinds, printed texts, one node. Conditions: a text's length is one of int. -/
namespace Go.Proofs.YtoaafohpmhdjnaaGreatDoor.VT
open Go.RowKit Go.Proofs.YtoaafohpmhdjnaaGreatDoor.PVG Go.Proofs.YtoaafohpmhdjnaaGreatDoorW.PrintWords Go.Proofs.YtoaafohpmhdjnaaGreatDoorW.PrintLast Go.Proofs.YtoaafohpmhdjnaaGreatDoorW.PrintMore
set_option linter.unusedVariables false
set_option linter.unusedSimpArgs false
theorem in_f (a b c:Int):spec_l1In.f a b c=some (inB a b c):=by
 unfold spec_l1In.f inB
 by_cases h:a≥b
 ·rw [if_pos h];simp [h]
 ·rw [if_neg h];simp [h]
theorem within_f (a b c:Int):impl_within.f a b c=some (inB a b c):=by
 unfold impl_within.f inB
 by_cases h:a≥b
 ·rw [if_pos h];simp [h]
 ·rw [if_neg h];simp [h]
theorem num_f (a:Int):spec_l1Number.f a=some (inB a (-1000000000) 1000000000):=by
 unfold spec_l1Number.f
 rw [in_f]
 rfl
theorem sholds_f (a:Int):spec_l1Holds.f a=some (holdsB a):=by
 unfold spec_l1Holds.f holdsB
 by_cases h:a=6
 ·rw [if_pos h];simp [h]
 ·rw [if_neg h];simp [h]
theorem holds_f (a:Int):impl_holds.f a=some (holdsB a):=by
 unfold impl_holds.f holdsB
 by_cases h:a=6
 ·rw [if_pos h];simp [h]
 ·rw [if_neg h];simp [h]
def prtL (l:List UInt8):Bool:=l.all (fun c=>decide (32≤c.toNat)&&decide (c.toNat≤126))
theorem prtL_cons (c:UInt8) (l:List UInt8):prtL (c :: l)=(decide (32≤c.toNat)&&decide (c.toNat≤126)&&prtL l):=rfl
theorem prtL_no1 (c:UInt8) (l:List UInt8) (h:((c.toNat:Nat):Int) < 32):prtL (c :: l)=false:=by
 have:¬32≤c.toNat:=by omega
 rw [prtL_cons,decide_eq_false this];rfl
theorem prtL_no2 (c:UInt8) (l:List UInt8) (h:((c.toNat:Nat):Int) > 126):prtL (c :: l)=false:=by
 have:¬c.toNat≤126:=by omega
 rw [prtL_cons,decide_eq_false this,Bool.and_false];rfl
theorem prtL_yes (c:UInt8) (l:List UInt8) (h1:¬((c.toNat:Nat):Int) < 32) (h2:¬((c.toNat:Nat):Int) > 126):prtL (c :: l)=prtL l:=by
 rw [prtL_cons,decide_eq_true (show 32≤c.toNat by omega),decide_eq_true (show c.toNat≤126 by omega)];rfl
theorem sprt_go (l:List UInt8) (hl:l.length < 9223372036854775807):∀ (m i f:Nat),i+m=l.length→m < f→spec_l1Printed.l0 f (ofL l) i=some (prtL (l.drop i)&&decide (l.length≤24))
 | 0,i,f,h1,hf=>by
  obtain ⟨f,rfl⟩:∃ g,f=g+1:=⟨f - 1,by omega⟩
  have:l.drop i=[]:=List.drop_eq_nil_of_le (by omega)
  rw [spec_l1Printed.l0,if_neg (by rw [ofL_size];omega),ofL_size,this]
  simp [prtL]
  omega
 | m+1,i,f,h1,hf=>by
  obtain ⟨f,rfl⟩:∃ g,f=g+1:=⟨f - 1,by omega⟩
  have hi:i < l.length:=by omega
  have hw:wrap64 ((i:Int)+1)=((i+1:Nat):Int):=by unfold wrap64;omega
  rw [spec_l1Printed.l0,if_pos (by rw [ofL_size];omega),if_pos (by omega),bt_ofL l i hi,hw,sprt_go l hl m (i+1) f (by omega) (by omega),List.drop_eq_getElem_cons hi]
  by_cases h1:((l[i].toNat:Nat):Int) < 32
  ·rw [if_pos h1,prtL_no1 _ _ h1];rfl
  ·rw [if_neg h1]
   by_cases h2:((l[i].toNat:Nat):Int) > 126
   ·rw [if_pos h2,prtL_no2 _ _ h2];rfl
   ·rw [if_neg h2,prtL_yes _ _ h1 h2]
theorem sprt_f (s:ByteArray) (hs:s.size < 9223372036854775807):spec_l1Printed.f (s.size+1) s=some (prt s):=by
 have hl:s.data.toList.length=s.size:=Array.length_toList
 have:=sprt_go s.data.toList (by omega) s.size 0 (s.size+1) (by omega) (by omega)
 rw [ofL_of,hl] at this
 exact this
theorem iprt_go (l:List UInt8) (hl:l.length≤24):∀ (m i f:Nat),i+m=l.length→m < f→impl_stringOK.l0 f (ofL l) l.length i=some (prtL (l.drop i))
 | 0,i,f,h1,hf=>by
  obtain ⟨f,rfl⟩:∃ g,f=g+1:=⟨f - 1,by omega⟩
  have:l.drop i=[]:=List.drop_eq_nil_of_le (by omega)
  rw [impl_stringOK.l0,if_neg (by omega),this]
  simp [prtL]
 | m+1,i,f,h1,hf=>by
  obtain ⟨f,rfl⟩:∃ g,f=g+1:=⟨f - 1,by omega⟩
  have hi:i < l.length:=by omega
  have hw:wrap64 ((i:Int)+1)=((i+1:Nat):Int):=by unfold wrap64;omega
  rw [impl_stringOK.l0,if_pos (by omega),if_pos (by omega),if_pos (by rw [ofL_size];omega),bt_ofL l i hi,hw,iprt_go l hl m (i+1) f (by omega) (by omega),List.drop_eq_getElem_cons hi]
  by_cases h1:((l[i].toNat:Nat):Int) < 32
  ·rw [if_pos h1,prtL_no1 _ _ h1]
  ·rw [if_neg h1]
   by_cases h2:((l[i].toNat:Nat):Int) > 126
   ·rw [if_pos h2,prtL_no2 _ _ h2]
   ·rw [if_neg h2,prtL_yes _ _ h1 h2]
theorem iprt_f (s:ByteArray):impl_stringOK.f 30 s=some (prt s):=by
 have hl:s.data.toList.length=s.size:=Array.length_toList
 unfold impl_stringOK.f prt
 by_cases h:(s.size:Int) > 24
 ·rw [if_pos h]
  have:¬s.size≤24:=by omega
  simp [this]
 ·rw [if_neg h]
  have:=iprt_go s.data.toList (by omega) s.size 0 30 (by omega) (by omega)
  rw [ofL_of,hl] at this
  have h24:s.size≤24:=by omega
  rw [decide_eq_true h24,Bool.and_true]
  exact this
theorem in_c (a b c:Int) (r:Bool) (w:World) (h:inB a b c=r):Calls Tryz.prog 89 #[.int .i64 a,.int .i64 b,.int .i64 c] w fun e w'=>e=.returned (.bool r)∧Drawn0 w w':=spec_l1In.calls a b c r w (by rw [in_f,h])
theorem within_c (a b c:Int) (r:Bool) (w:World) (h:inB a b c=r):Calls Tryz.prog 112 #[.int .i64 a,.int .i64 b,.int .i64 c] w fun e w'=>e=.returned (.bool r)∧Drawn0 w w':=impl_within.calls a b c r w (by rw [within_f,h])
theorem num_c (a:Int) (r:Bool) (w:World) (h:inB a (-1000000000) 1000000000=r):Calls Tryz.prog 151 #[.int .i64 a] w fun e w'=>e=.returned (.bool r)∧Drawn0 w w':=spec_l1Number.calls a r w (by rw [num_f,h])
theorem sholds_c (a:Int) (r:Bool) (w:World) (h:holdsB a=r):Calls Tryz.prog 152 #[.int .i64 a] w fun e w'=>e=.returned (.bool r)∧Drawn0 w w':=spec_l1Holds.calls a r w (by rw [sholds_f,h])
theorem holds_c (a:Int) (r:Bool) (w:World) (h:holdsB a=r):Calls Tryz.prog 156 #[.int .i64 a] w fun e w'=>e=.returned (.bool r)∧Drawn0 w w':=impl_holds.calls a r w (by rw [holds_f,h])
theorem sprt_c (s:ByteArray) (r:Bool) (w:World) (hs:s.size < 9223372036854775807) (h:prt s=r):Calls Tryz.prog 119 #[.string s] w fun e w'=>e=.returned (.bool r)∧Drawn0 w w':=spec_l1Printed.calls (s.size+1) s r w (by rw [sprt_f s hs,h])
theorem prt_c (s:ByteArray) (r:Bool) (w:World) (h:prt s=r):Calls Tryz.prog 124 #[.string s] w fun e w'=>e=.returned (.bool r)∧Drawn0 w w':=impl_stringOK.calls 30 s r w (by rw [iprt_f s,h])
theorem emp_list {s:ByteArray} {r:Bool} (h:emp s=r):s.toList.isEmpty=r:=by
 rw [←h,ByteArray.toList_eq]
 have hl:s.data.toList.length=s.size:=Array.length_toList
 unfold emp
 cases hs:s.data.toList with
 | nil =>
  rw [hs] at hl
  have:s.size=0:=by simpa using hl.symm
  simp [this]
 | cons a r =>
  rw [hs] at hl
  have:¬s.size=0:=by simp at hl;omega
  simp [this]
end Go.Proofs.YtoaafohpmhdjnaaGreatDoor.VT
