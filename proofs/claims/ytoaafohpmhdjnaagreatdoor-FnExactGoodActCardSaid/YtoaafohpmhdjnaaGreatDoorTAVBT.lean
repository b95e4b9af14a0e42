import Derived.WalkLawsBesides
import Derived.Test.YtoaafohpmhdjnaaGreatDoorTAPVGx0
/- Texts are less, alike or greater. Conditions: none. -/
namespace Go.Proofs.YtoaafohpmhdjnaaGreatDoor.PVG
open Go.RowKit Go.Proofs.YtoaafohpmhdjnaaGreatDoorW.PrintWords
theorem bytesLess_tri:∀ a b:List UInt8,(Op.bytesLess a b || a==b) = !(Op.bytesLess b a)
 | [],[]=>rfl
 | [],_ :: _=>rfl
 | _ :: _,[]=>rfl
 | x :: a,y :: b=>by
  have ih:=bytesLess_tri a b
  have h3:(x :: a==y :: b)=(x==y&&a==b):=rfl
  rw [h3]
  simp only [Op.bytesLess]
  rcases Nat.lt_trichotomy x.toNat y.toNat with h | h | h
  ·have e1:x < y:=h
   have e2:¬y < x:=by intro h';exact absurd (show y.toNat < x.toNat from h') (by omega)
   have e3:(y==x)=false:=by rw [beq_eq_false_iff_ne];rintro rfl;omega
   simp [e1,e2,e3]
  ·have e1:x=y:=UInt8.toNat_inj.1 h
   subst e1
   have e2:¬x < x:=by intro h';exact absurd (show x.toNat < x.toNat from h') (by omega)
   simpa [e2] using ih
  ·have e1:y < x:=h
   have e2:¬x < y:=by intro h';exact absurd (show x.toNat < y.toNat from h') (by omega)
   have e3:(x==y)=false:=by rw [beq_eq_false_iff_ne];rintro rfl;omega
   simp [e1,e2,e3]
end Go.Proofs.YtoaafohpmhdjnaaGreatDoor.PVG
