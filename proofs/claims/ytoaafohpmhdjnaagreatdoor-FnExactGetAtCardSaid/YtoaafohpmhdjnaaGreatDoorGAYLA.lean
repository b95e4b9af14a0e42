import Derived.WalkLawsBesides
import Derived.Test.YtoaafohpmhdjnaaGreatDoorGAPVGx0
import Derived.Test.YtoaafohpmhdjnaaGreatDoorGAVR1
import Derived.Lib.Walk
import Derived.Test.YtoaafohpmhdjnaaGreatDoorGAVK
import Derived.Lib.AtoiAllCases
import Derived.Lib.ItoaMem
import Derived.Test.YtoaafohpmhdjnaaGreatDoorGAYPA
/- Texts are less, alike or greater. Conditions: none. -/
namespace Go.Proofs.YtoaafohpmhdjnaaGreatDoor.PVG
open Go.RowKit Go.Proofs.YtoaafohpmhdjnaaGreatDoorW.PrintWords
theorem bytesLess_tri:∀ a b:List UInt8,(Op.bytesLess a b || a==b) = !(Op.bytesLess b a)
 | [],[]=>rfl
 | [],_ :: _=>rfl
 | _ :: _,[]=>rfl
 | x :: a,y :: b=>by
  have ih:=bytesLess_tri a b
  have h3:(x :: a==y :: b)=(x==y&&a==b):=rfl
  rw [h3]
  simp only [Op.bytesLess]
  rcases Nat.lt_trichotomy x.toNat y.toNat with h | h | h
  ·have e1:x < y:=h
   have e2:¬y < x:=by intro h';exact absurd (show y.toNat < x.toNat from h') (by omega)
   have e3:(y==x)=false:=by rw [beq_eq_false_iff_ne];rintro rfl;omega
   simp [e1,e2,e3]
  ·have e1:x=y:=UInt8.toNat_inj.1 h
   subst e1
   have e2:¬x < x:=by intro h';exact absurd (show x.toNat < x.toNat from h') (by omega)
   simpa [e2] using ih
  ·have e1:y < x:=h
   have e2:¬x < y:=by intro h';exact absurd (show x.toNat < y.toNat from h') (by omega)
   have e3:(x==y)=false:=by rw [beq_eq_false_iff_ne];rintro rfl;omega
   simp [e1,e2,e3]
end Go.Proofs.YtoaafohpmhdjnaaGreatDoor.PVG
namespace Go.Proofs.YtoaafohpmhdjnaaGreatDoor.VT
open Go.RowKit Go.Proofs.YtoaafohpmhdjnaaGreatDoor.PVG Go.Proofs.YtoaafohpmhdjnaaGreatDoorW.PrintWords Go.Proofs.YtoaafohpmhdjnaaGreatDoorW.PrintLast Go.Proofs.YtoaafohpmhdjnaaGreatDoorW.PrintMore
set_option linter.unusedVariables false
set_option linter.unusedSimpArgs false
def bsG (less:Nat→Bool):Nat→Nat→Nat→Nat
 | 0,lo,_=>lo
 | f+1,lo,hi=>if lo < hi then (if less ((lo+hi) / 2)=true then bsG less f ((lo+hi) / 2+1) hi else bsG less f lo ((lo+hi) / 2)) else lo
def lessAt (ns:List ByteArray) (s:ByteArray) (t:Nat):Bool:=lt (ns.getD t nil_) s
def bsI (ns:List ByteArray) (s:ByteArray):Nat:=bsG (lessAt ns s) ns.length 0 ns.length
def bsB (ns:List ByteArray) (s:ByteArray):Bool:=decide (bsI ns s < ns.length)&&(ns.getD (bsI ns s) nil_).toList==s.toList
set_option maxRecDepth 100000 in
set_option maxHeartbeats 4000000 in
theorem nanS_c (x:ByteArray) (w:World):Calls Tryz.prog 200 #[.string x] w fun e w'=>e=.returned (.bool false)∧w'=w:=by
 go_enter Tryz.func200,Tryz.ntmps200
 go_wp2
 go_ret
 exact ⟨by simp,rfl⟩
set_option maxRecDepth 100000 in
set_option maxHeartbeats 4000000 in
theorem nanT_c (x:ByteArray) (w:World):Calls Tryz.prog 191 #[.string x] w fun e w'=>e=.returned (.bool false)∧w'=w:=by
 go_enter Tryz.func191,Tryz.ntmps191
 go_wp2
 go_ret
 exact ⟨by simp,rfl⟩
set_option maxRecDepth 100000 in
set_option maxHeartbeats 4000000 in
theorem lessS_c (x y:ByteArray) (w:World):Calls Tryz.prog 190 #[.string x,.string y] w fun e w'=>e=.returned (.bool (lt x y))∧w'=w:=by
 go_enter Tryz.func190,Tryz.ntmps190
 go_wp2_with (first | (go_at_call 200;(with_reducible refine (nanS_c _ _).mono ?_);rintro e w2 ⟨rfl,rfl⟩))
 go_ret
 exact ⟨rfl,rfl⟩
set_option maxRecDepth 100000 in
set_option maxHeartbeats 4000000 in
theorem bs_c (ns:List ByteArray) (s:ByteArray) (A:Option Addr) (c:Nat) (w:World) (hr:Kd.string.C w A ns.length ns) (hn:ns.length≤1073741824) :
  Calls Tryz.prog 165 #[.slice A ns.length c,.string s] w fun e w'=>e=.returned (.tuple #[.int .i64 ((bsI ns s:Nat):Int),.bool (bsB ns s)])∧Below w.heap.size w w':=by
 have NAM:=Aside0.mk (show ∀ i,i < ns.length→∃ ad,A=some ad∧w.cell? (ad.add i)=some (.string (ns.getD i nil_)) from fun i hi=>by
  obtain ⟨ad,c,e,_,hK,hc⟩:=Kd.C_get hr nil_ (i:Int) (by omega) (by omega)
  obtain rfl:c=[.string (ns.getD (i:Int).toNat nil_)]:=hK
  have h0:=hc 0 _ rfl
  have e1:(i:Int).toNat * Kd.string.sz+0=i:=by show (i:Int).toNat * 1+0=i;omega
  rw [e1,Int.toNat_natCast] at h0
  exact ⟨ad,e,h0⟩)
 have HN:=Aside0.mk hn
 clear hr
 obtain ⟨n,hnn⟩:∃ n,n=ns.length:=⟨_,rfl⟩
 have HNN:=Aside0.mk hnn
 rw [←hnn] at hn ⊢
 clear hnn
 have hu100:=Tryz.underlying225
 have ru100:=run_underlying Tryz.underlying225
 go_enter Tryz.func165,Tryz.ntmps165
 go_wp2
 go_loopg [7,8] n (fun m v7 v8 W=>∃ lo hi:Nat,v7=.int .i64 (lo:Int)∧v8=.int .i64 (hi:Int)∧Aside0 (lo≤hi∧hi≤n∧hi - lo≤m)∧Aside0 (bsG (lessAt ns s) m lo hi=bsI ns s)∧W=w)
 case atStart=>exact ⟨0,n,rfl,rfl,⟨by omega⟩,⟨by rw [HNN.out];rfl⟩,rfl⟩
 case round =>
  obtain ⟨lo,hi,rfl,rfl,HM,HG,rfl⟩:=hrel
  by_cases hlh:lo < hi
  ·have d1:decide (lo < hi)=true:=decide_eq_true hlh
   cases gk with
   | zero=>have:=HM.out;omega
   | succ m =>
    have hb:(lo+hi) / 2 < n:=by have:=HM.out;omega
    have b1:(lo:Int)≤1073741824:=by have:=HM.out;have:=HN.out;have:=HNN.out;omega
    have b2:(hi:Int)≤1073741824:=by have:=HM.out;have:=HN.out;have:=HNN.out;omega
    obtain ⟨ad,rfl,kc⟩:=NAM.out ((lo+hi) / 2) (by have:=HNN.out;omega)
    have HX:=Aside0.mk (show (bsG (lessAt ns s) (m+1) lo hi)=if lt (ns.getD ((lo+hi) / 2) nil_) s=true then bsG (lessAt ns s) m ((lo+hi) / 2+1) hi else bsG (lessAt ns s) m lo ((lo+hi) / 2) by
     rw [bsG,if_pos hlh];rfl)
    obtain ⟨y,hy⟩:∃ y,ns.getD ((lo+hi) / 2) nil_=y:=⟨_,rfl⟩
    rw [hy] at kc
    have HY:=Aside0.mk hy
    clear hy
    cases hyx:lt y s with
    | false =>
     have HZ:=Aside0.mk hyx
     go_wp2_with (first | (go_at_call 190;(with_reducible refine (lessS_c _ _ _).mono ?_);rintro e w2 ⟨rfl,rfl⟩;rw [hyx]))
     go_roundg m
     case rel=>exact ⟨lo,(lo+hi) / 2,rfl,by rw [show ((lo:Int)+(hi:Int)) / 2=(((lo+hi) / 2:Nat):Int) by omega],⟨by have:=HM.out;omega⟩,⟨by rw [←HG.out,HX.out,HY.out,HZ.out,if_neg (by simp)]⟩,rfl⟩
     case measure=>omega
    | true =>
     have HZ:=Aside0.mk hyx
     go_wp2_with (first | (go_at_call 190;(with_reducible refine (lessS_c _ _ _).mono ?_);rintro e w2 ⟨rfl,rfl⟩;rw [hyx]))
     go_roundg m
     case rel=>exact ⟨(lo+hi) / 2+1,hi,by rw [show ((lo:Int)+(hi:Int)) / 2+1=(((lo+hi) / 2+1:Nat):Int) by omega],rfl,⟨by have:=HM.out;omega⟩,⟨by rw [←HG.out,HX.out,HY.out,HZ.out,if_pos rfl]⟩,rfl⟩
     case measure=>omega
  ·have HI:=Aside0.mk (show bsI ns s=lo by
    rw [←HG.out]
    cases gk with
    | zero=>simp [bsG]
    | succ m=>rw [bsG,if_neg hlh])
   have d1:decide (lo < hi)=false:=decide_eq_false hlh
   by_cases hn:lo < n
   ·have d2:decide (lo < n)=true:=decide_eq_true hn
    obtain ⟨ad,rfl,kc⟩:=NAM.out lo (by have:=HNN.out;omega)
    obtain ⟨y,hy⟩:∃ y,ns.getD lo nil_=y:=⟨_,rfl⟩
    rw [hy] at kc
    have HB:=Aside0.mk (show bsB ns s=(y.toList==s.toList) by unfold bsB;rw [HI.out,decide_eq_true (by have:=HNN.out;omega),hy,Bool.true_and])
    clear hy hlh
    cases hys:(y.toList==s.toList) with
    | true =>
     have HZ:=Aside0.mk hys
     go_wp2_with (first | (go_at_call 191;(with_reducible refine (nanT_c _ _).mono ?_);rintro e w2 ⟨rfl,rfl⟩))
     go_ret2
     exact ⟨by rw [HI.out,HB.out,HZ.out];rfl,Below.refl _ _⟩
    | false =>
     have HZ:=Aside0.mk hys
     go_wp2_with (first | (go_at_call 191;(with_reducible refine (nanT_c _ _).mono ?_);rintro e w2 ⟨rfl,rfl⟩))
     go_ret2
     exact ⟨by rw [HI.out,HB.out,HZ.out];rfl,Below.refl _ _⟩
   ·have d2:decide (lo < n)=false:=decide_eq_false hn
    have HB:=Aside0.mk (show bsB ns s=false by unfold bsB;rw [HI.out,decide_eq_false (by have:=HNN.out;omega),Bool.false_and])
    clear hlh
    go_wp2_with (first | (go_at_call 191;(with_reducible refine (nanT_c _ _).mono ?_);rintro e w2 ⟨rfl,rfl⟩))
    go_ret2
    exact ⟨by rw [HI.out,HB.out];rfl,Below.refl _ _⟩
end Go.Proofs.YtoaafohpmhdjnaaGreatDoor.VT
namespace Go.Proofs.YtoaafohpmhdjnaaGreatDoor.VT
open Go.RowKit Go.Proofs.YtoaafohpmhdjnaaGreatDoor.PVG Go.Proofs.YtoaafohpmhdjnaaGreatDoorW.PrintWords Go.Proofs.YtoaafohpmhdjnaaGreatDoorW.PrintLast Go.Proofs.YtoaafohpmhdjnaaGreatDoorW.PrintMore
set_option linter.unusedVariables false
set_option linter.unusedSimpArgs false
set_option maxRecDepth 100000 in
set_option maxHeartbeats 4000000 in
theorem at_c (t:Tr) (s:ByteArray) (w:World) (g:Nat) (hv:IsV w g t) (hn:t.ns.length≤1073741824) :
  Calls Tryz.prog 130 #[.pointer (some ⟨g,0,none⟩),.string s] w fun e w'=>e=.returned (.tuple #[.int .i64 ((bsI t.ns s:Nat):Int),.bool (bsB t.ns s)])∧Below w.heap.size w w':=by
 obtain ⟨A3,c3,A4,c4,ha⟩:=hv.at_
 obtain ⟨_,_,_,k3,_⟩:=ha.cells
 have BS:=Aside0.mk (bs_c t.ns s A3 c3 w ha.g3 hn)
 clear ha hv hn
 go_enter Tryz.func130,Tryz.ntmps130
 go_wp2_with (first | (go_at_call 165;(with_reducible refine BS.out.mono ?_);rintro e w2 ⟨rfl,hb⟩;have B2:=Aside0.mk hb;clear hb))
 go_ret2
 exact ⟨rfl,B2.out⟩
def plM (ns:List ByteArray) (s:ByteArray):Int:=if bsB ns s=true then (bsI ns s:Nat) else -1
set_option maxRecDepth 100000 in
set_option maxHeartbeats 4000000 in
theorem place_map (t:Tr) (s:ByteArray) (w:World) (g:Nat) (hv:IsV w g t) (h7:t.kd=7) (hn:t.ns.length≤1073741824) :
  Calls Tryz.prog 85 #[.pointer (some ⟨g,0,none⟩),.string s] w fun e w'=>e=.returned (.int .i64 (plM t.ns s))∧Below w.heap.size w w':=by
 have AT:=Aside0.mk (at_c t s w g hv hn)
 obtain ⟨A3,c3,A4,c4,ha⟩:=hv.at_
 obtain ⟨k0,_⟩:=ha.cells
 rw [h7] at k0
 clear ha hv hn h7
 cases hb:bsB t.ns s with
 | true =>
  have HB:=Aside0.mk hb
  have HP:=Aside0.mk (show plM t.ns s=(bsI t.ns s:Nat) by unfold plM;rw [if_pos hb])
  clear hb
  go_enter Tryz.func85,Tryz.ntmps85
  go_wp2_with (first | (go_at_call 130;(with_reducible refine AT.out.mono ?_);rintro e w2 ⟨rfl,hb⟩;rw [HB.out];have B2:=Aside0.mk hb;clear hb))
  go_ret
  exact ⟨by rw [HP.out];rfl,B2.out⟩
 | false =>
  have HB:=Aside0.mk hb
  have HP:=Aside0.mk (show plM t.ns s = -1 by unfold plM;rw [hb];rfl)
  clear hb
  go_enter Tryz.func85,Tryz.ntmps85
  go_wp2_with (first | (go_at_call 130;(with_reducible refine AT.out.mono ?_);rintro e w2 ⟨rfl,hb⟩;rw [HB.out];have B2:=Aside0.mk hb;clear hb))
  go_ret
  exact ⟨by rw [HP.out];rfl,B2.out⟩
end Go.Proofs.YtoaafohpmhdjnaaGreatDoor.VT
namespace Go.Proofs.YtoaafohpmhdjnaaGreatDoor.VT
open Go.RowKit Go.Proofs.YtoaafohpmhdjnaaGreatDoor.RY Go.Proofs.YtoaafohpmhdjnaaGreatDoor.PVG Go.Proofs.YtoaafohpmhdjnaaGreatDoorW.PrintWords Go.Proofs.YtoaafohpmhdjnaaGreatDoorW.PrintLast Go.Proofs.YtoaafohpmhdjnaaGreatDoorW.PrintMore
set_option linter.unusedVariables false
set_option linter.unusedSimpArgs false
def plL (n:Nat) (s:ByteArray):Int:=match Lib.atoiAll s.data.toList with
 | .ok v=>if Lib.itoa v=s.data.toList∧0≤v∧v < n then v else -1
 | _=>-1
def plT (t:Tr) (s:ByteArray):Int:=if t.kd=7 then plM t.ns s else if t.kd=6 then plL t.ks.length s else -1
theorem digit_nat {d:Nat} (h:d < 10):(UInt8.ofNat (48+d)).toNat=48+d:=by
 rw [UInt8.toNat_ofNat'];omega
theorem parse_app:∀ (l:List UInt8) (acc u:Nat) (d:Nat),d < 10→Lib.parseUint10 acc l=.ok u→u≤1000000000000→Lib.parseUint10 acc (l++[UInt8.ofNat (48+d)])=.ok (u * 10+d)
 | [],acc,u,d,hd,h,hu=>by
  simp only [Lib.parseUint10] at h
  injection h with h
  subst h
  simp only [List.nil_append,Lib.parseUint10]
  rw [digit_nat hd,if_pos (by omega),if_neg (by omega),if_neg (by omega)]
  congr 1;omega
 | c :: r,acc,u,d,hd,h,hu=>by
  rw [List.cons_append]
  simp only [Lib.parseUint10] at h ⊢
  by_cases h1:48≤c.toNat∧c.toNat≤57
  ·rw [if_pos h1] at h ⊢
   split at h
   ·cases h
   ·rename_i h2
    rw [if_neg h2]
    split at h
    ·cases h
    ·rename_i h3
     rw [if_neg h3]
     exact parse_app r _ u d hd h hu
  ·rw [if_neg h1] at h;cases h
theorem parse_dec:∀ (f u:Nat),u≤f→u≤1000000000000→Lib.parseUint10 0 (Lib.decDigits u)=.ok u
 | f,u,hf,hu=>by
  rw [Lib.decDigits]
  by_cases h:u < 10
  ·rw [dif_pos h]
   simp only [Lib.parseUint10]
   rw [digit_nat h,if_pos (by omega),if_neg (by omega),if_neg (by omega)]
   congr 1;omega
  ·rw [dif_neg h]
   cases f with
   | zero=>omega
   | succ f =>
    rw [parse_app _ 0 (u / 10) (u % 10) (by omega) (parse_dec f (u / 10) (by omega) (by omega)) (by omega)]
    congr 1;omega
theorem dec_head:∀ (f u:Nat),u≤f→∃ c r,Lib.decDigits u=c :: r∧48≤c.toNat∧c.toNat≤57
 | f,u,hf=>by
  rw [Lib.decDigits]
  by_cases h:u < 10
  ·rw [dif_pos h]
   exact ⟨_,_,rfl,by rw [digit_nat h];omega,by rw [digit_nat h];omega⟩
  ·rw [dif_neg h]
   cases f with
   | zero=>omega
   | succ f =>
    obtain ⟨c,r,e,h1,h2⟩:=dec_head f (u / 10) (by omega)
    exact ⟨c,_,by rw [e];rfl,h1,h2⟩
theorem atoi_dec (u:Nat) (hu:u≤1000000000000):Lib.atoiAll (Lib.decDigits u)=.ok (u:Int):=by
 obtain ⟨c,r,e,h1,h2⟩:=dec_head u u (Nat.le_refl _)
 have hp:=parse_dec u u (Nat.le_refl _) hu
 rw [e] at hp ⊢
 rw [Lib.atoiAll_plain c r (by omega) (by omega)]
 unfold Lib.parseMag
 rw [if_neg (by simp),hp]
 unfold Lib.signless
 simp only
 rw [if_neg (by omega)]
def fstD (s:ByteArray):Nat→Nat→Int
 | 0,_=>-1
 | m+1,i=>if Lib.decDigits i=s.data.toList then (i:Int) else fstD s m (i+1)
theorem fstD_none (s:ByteArray):∀ m i,(∀ j,i≤j→j < i+m→Lib.decDigits j≠s.data.toList)→fstD s m i = -1
 | 0,_,_=>rfl
 | m+1,i,h=>by
  rw [fstD,if_neg (h i (Nat.le_refl _) (by omega))]
  exact fstD_none s m (i+1) (fun j h1 h2=>h j (by omega) (by omega))
theorem fstD_some (s:ByteArray) (u:Nat) (hs:Lib.decDigits u=s.data.toList) (hu:u≤1000000000000):∀ m i,i≤u→u < i+m→i+m≤1000000000000→fstD s m i=(u:Int)
 | 0,i,h1,h2,_=>by omega
 | m+1,i,h1,h2,h3=>by
  rw [fstD]
  by_cases h:Lib.decDigits i=s.data.toList
  ·rw [if_pos h]
   have e1:=atoi_dec i (by omega)
   have e2:=atoi_dec u hu
   rw [h,←hs,e2] at e1
   injection e1 with e1
   omega
  ·rw [if_neg h]
   have:i≠u:=fun e=>h (by rw [e,hs])
   exact fstD_some s u hs hu m (i+1) (by omega) (by omega) (by omega)
theorem plL_fst (n:Nat) (s:ByteArray) (hn:n≤1073741824):plL n s=fstD s n 0:=by
 by_cases hx:∃ u,u < n∧Lib.decDigits u=s.data.toList
 ·obtain ⟨u,hu,hs⟩:=hx
  rw [fstD_some s u hs (by omega) n 0 (by omega) (by omega) (by omega)]
  unfold plL
  rw [←hs,atoi_dec u (by omega)]
  simp only
  rw [if_pos ⟨Lib.itoa_nonneg u,by omega,by omega⟩]
 ·rw [fstD_none s n 0 (fun j _ h2 e=>hx ⟨j,by omega,e⟩)]
  unfold plL
  split
  ·rename_i v hv
   split
   ·rename_i h
    exfalso
    obtain ⟨m,rfl⟩:=Int.eq_ofNat_of_zero_le h.2.1
    exact hx ⟨m,by omega,by rw [←Lib.itoa_nonneg];exact h.1⟩
   ·rfl
  ·rfl
end Go.Proofs.YtoaafohpmhdjnaaGreatDoor.VT
