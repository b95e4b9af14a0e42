import Derived.Test.YtoaafohpmhdjnaaGreatDoorTARXE
import Derived.Handy
import Derived.Test.YtoaafohpmhdjnaaGreatDoorTAPVGx0
import Derived.Test.YtoaafohpmhdjnaaGreatDoorTAVTG
import Derived.Test.YtoaafohpmhdjnaaGreatDoorTAVR1
import Derived.Test.YtoaafohpmhdjnaaGreatDoorTAVBD
import Derived.Lib.AppendIntMem
import Derived.Test.YtoaafohpmhdjnaaGreatDoorTAShelf
/- A text within its signs: strings.NewReplacer and its Replace, walked whole. Conditions: the text is of at most 2^30 bytes. -/
namespace Go.Proofs.YtoaafohpmhdjnaaGreatDoor.RX
open Go.RowKit Go.Proofs.YtoaafohpmhdjnaaGreatDoor.PVG Go.Proofs.YtoaafohpmhdjnaaGreatDoorW.PrintWords Go.Proofs.YtoaafohpmhdjnaaGreatDoorW.PrintLast Go.Proofs.YtoaafohpmhdjnaaGreatDoorW.PrintMore
set_option linter.unusedVariables false
set_option linter.unusedSimpArgs false
theorem Ready.bel {w00:World} {b:Nat} {W:World} (h:Ready w00 b W):Below w00.heap.size w00 W:=by
 obtain ⟨gB,hR,_⟩:=h.out
 exact hR.bel
set_option maxRecDepth 100000 in
set_option maxHeartbeats 1600000 in
theorem replaceAll_c (w00:World) (b g c:Nat) (s:ByteArray) (w:World) (hb:w.heap[b]? = some (.cells #[.int .u32 0,.int .i32 0,.int .u32 0,.nilIface,.slice (some ⟨g,0,none⟩) 4 c] 204 (0,0))) (hA:Kd.C Kd.string w (some ⟨g,0,none⟩) 4 old4) (hg:g≠b) (hB:Below w00.heap.size w00 w) (hbase:w00.heap.size≤b) (hs:s.size≤1073741824) :
  Calls Tryz.prog 123 #[.pointer (some ⟨b,0,none⟩),.string s] w fun e w'=>e=.returned (.string ⟨(quoteL s.data.toList).toArray⟩)∧Below w00.heap.size w00 w':=by
 have hmf:∀ (fn:Fn) (first cap:Array Value) (w:World),(Instr.makeFunc fn first cap).run Tryz.prog w=.ok (.func fn first cap) w:=fun _ _ _ _=>rfl
 have HB:=Aside0.mk hb
 have HA:=Aside0.mk hA
 clear hb hA
 go_enter Tryz.func123,Tryz.ntmps123
 go_upto_region 2 with (first | (go_at_call 163;refine (do_c w00 b g c _ HB.out HA.out hg hB hbase).mono ?_;rintro e w2 ⟨rfl,HQ⟩))
 obtain ⟨gB,hR,hK⟩:=HQ.out.out
 have HR:=Aside0.mk hR
 obtain ⟨k1,k2,g2,c1,c2,c3,hat⟩:=hR.at_
 have HAT:=Aside0.mk hat
 have d3:w2.cell? ⟨b,3,none⟩=some (.iface 258 (.pointer (some ⟨gB,0,none⟩))):=(blk_cell hK 3).trans rfl
 clear hR hat hK HB HA
 go_wp2_with (first | (go_at_call 294;refine (replace_c gB k1 k2 g2 c1 c2 c3 s _ HAT.out hs).mono ?_;rintro e w4 ⟨rfl,hb4⟩;have B4:=Aside0.mk (below_step HR.out.bel hb4);clear hb4))
 go_ret
 exact ⟨rfl,B4.out⟩
theorem C_old4 (w:World):Kd.C Kd.string (w.alloc (.cells #[.string ⟨#[34]⟩,.string ⟨#[92,34]⟩,.string ⟨#[92]⟩,.string ⟨#[92,92]⟩] 9)) (some ⟨w.heap.size,0,none⟩) 4 old4 :=
 Kd.C_of_reads (d:=ByteArray.empty) ⟨rfl,by decide,fun _=>⟨_,rfl,fun j hj=>by
  have h:=blk_new w (.cells #[.string ⟨#[34]⟩,.string ⟨#[92,34]⟩,.string ⟨#[92]⟩,.string ⟨#[92,92]⟩] 9)
  have e:∀ j,((⟨w.heap.size,0,none⟩:Addr).add j)=⟨w.heap.size,j,none⟩:=fun j=>by
   rcases Nat.eq_zero_or_pos j with rfl | h
   ·rfl
   ·rw [Addr.add,if_neg (by omega)];simp
  rw [e,blk_cell h j]
  match j,hj with
  | 0,_=>rfl
  | 1,_=>rfl
  | 2,_=>rfl
  | 3,_=>rfl⟩⟩
def quoted (s:ByteArray):ByteArray:=⟨#[34]⟩++⟨(quoteL s.data.toList).toArray⟩++⟨#[34]⟩
set_option maxRecDepth 100000 in
set_option maxHeartbeats 1600000 in
theorem written_c (s:ByteArray) (w:World) (hs:s.size≤1073741824) :
  Calls Tryz.prog 202 #[.string s] w fun e w'=>e=.returned (.string (quoted s))∧Below w.heap.size w w':=by
 have hq:(quoteL s.data.toList).length≤2147483648:=by have h1:=quoteL_len s.data.toList;have h2:=spn_le s.data.toList;have h3:=dlen s;omega
 have q1:¬(9223372036854775807 < 1+(quoteL s.data.toList).length):=by omega
 have q2:¬(9223372036854775807 < 1+(quoteL s.data.toList).length+1):=by omega
 clear hq
 go_enter Tryz.func202,Tryz.ntmps202
 go_wp2_with (first | (go_at_call 122;obtain ⟨W1,hW1⟩:∃ W1,W1=w.alloc (.cells #[.string ⟨#[34]⟩,.string ⟨#[92,34]⟩,.string ⟨#[92]⟩,.string ⟨#[92,92]⟩] 9):=⟨_,rfl⟩;have B1:=Aside0.mk (show Below w.heap.size w W1 by rw [hW1];exact below_alloc (Below.refl _ _) _);have C1:=Aside0.mk (show Kd.C Kd.string W1 (some ⟨w.heap.size,0,none⟩) 4 old4 by rw [hW1];exact C_old4 w);rw [←hW1];clear hW1;refine (newRep_c w.heap.size 4 W1 C1.out).mono ?_;rintro e w2 ⟨b,g,c,rfl,h1,h2,h3,h4,h5⟩;have Q:=Aside0.mk (And.intro h1 (And.intro h2 (And.intro h3 (And.intro (below_step B1.out h4) (Nat.le_trans B1.out.size h5)))));clear h1 h2 h3 h4 h5 C1) | (go_at_call 123;refine (replaceAll_c w b g c s w2 Q.out.1 Q.out.2.1 Q.out.2.2.1 Q.out.2.2.2.1 Q.out.2.2.2.2 hs).mono ?_;rintro e w3 ⟨rfl,hb3⟩;have B3:=Aside0.mk hb3;clear hb3))
 go_ret
 exact ⟨rfl,B3.out⟩
end Go.Proofs.YtoaafohpmhdjnaaGreatDoor.RX
namespace Go.Proofs.YtoaafohpmhdjnaaGreatDoor.VT
open Go.RowKit Go.Proofs.YtoaafohpmhdjnaaGreatDoor.PVG Go.Proofs.YtoaafohpmhdjnaaGreatDoorW.PrintWords Go.Proofs.YtoaafohpmhdjnaaGreatDoorW.PrintLast Go.Proofs.YtoaafohpmhdjnaaGreatDoorW.PrintMore
set_option linter.unusedVariables false
set_option linter.unusedSimpArgs false
mutual
def fit:Tr→Bool
 | .mk kd nu tx ns ks=>inB kd 1 7&&inB nu (-1000000000) 1000000000&&prt tx&&ns.all prt&&(kd != 7 || decide (ns.length=ks.length))&&fitL ks
def fitL:List Tr→Bool
 | []=>true
 | t :: ts=>fit t&&fitL ts
end
theorem fitL_iff (a:List Tr):fitL a=true↔∀ t,t∈a→fit t=true:=by
 induction a with
 | nil=>simp [fitL]
 | cons t ts ih=>simp [fitL,ih]
mutual
theorem wf_fit:∀ t:Tr,wf t=true→fit t=true
 | .mk kd nu tx ns ks,h=>by
  rw [wf] at h
  simp only [Bool.and_eq_true,nodeG] at h
  obtain ⟨⟨⟨h1,h2⟩,h3⟩,h4⟩:=h
  rw [fit]
  simp only [Bool.and_eq_true]
  by_cases h7:kd=7
  ·rw [h7] at h2
   simp at h2
   refine ⟨⟨⟨⟨⟨h1.1.1.1.1,h1.1.1.2⟩,h1.2⟩,by simpa using h2.2⟩,by simp [h7,h2.1.1]⟩,wfL_fitL ks h4⟩
  ·have:(kd==7)=false:=by simpa using h7
   rw [this] at h2
   have hns:ns=[]:=by simpa using h2
   subst hns
   exact ⟨⟨⟨⟨⟨h1.1.1.1.1,h1.1.1.2⟩,h1.2⟩,rfl⟩,by simp [h7]⟩,wfL_fitL ks h4⟩
theorem wfL_fitL:∀ ts:List Tr,wfL ts=true→fitL ts=true
 | [],_=>rfl
 | t :: ts,h=>by
  simp only [wfL,Bool.and_eq_true] at h
  rw [fitL,wf_fit t h.1,wfL_fitL ts h.2]
  rfl
end
structure Fit1 (kd nu:Int) (tx:ByteArray) (ns:List ByteArray) (ks:List Tr):Prop where
 hkd:1≤kd∧kd≤7
 hnu:-1000000000≤nu∧nu≤1000000000
 htx:prt tx=true
 hns:∀ s,s∈ns→prt s=true
 hlen:kd=7→ns.length=ks.length
 hks:fitL ks=true
theorem fit1 {kd nu:Int} {tx:ByteArray} {ns:List ByteArray} {ks:List Tr} (h:fit (.mk kd nu tx ns ks)=true):Fit1 kd nu tx ns ks:=by
 rw [fit] at h
 simp only [Bool.and_eq_true,Bool.or_eq_true,inB,decide_eq_true_eq,List.all_eq_true] at h
 obtain ⟨⟨⟨⟨⟨h1,h2⟩,h3⟩,h4⟩,h5⟩,h6⟩:=h
 refine ⟨h1,h2,h3,h4,fun h7=>?_,h6⟩
 rcases h5 with h5 | h5
 ·rw [h7] at h5;simp at h5
 ·exact h5
mutual
theorem textF_len:∀ t:Tr,fit t=true→(textL t).length+60≤120 * cnt t
 | .mk k n tx ns ks,h=>by
  have hf:=fit1 h
  have ht:=prt_size hf.htx
  have hk:=partsF_len ks hf.hks
  have hq:=quotL_len tx
  have hi:=itoa_len hf.hnu.1 hf.hnu.2
  simp only [cnt]
  rw [textL]
  split
  ·simp;omega
  split
  ·simp;omega
  split
  ·simp;omega
  split
  ·omega
  split
  ·omega
  split
  ·rename_i h7
   have:=hk true true ns (fun _=>⟨by have:=hf.hlen h7;omega,hf.hns⟩)
   simp
   omega
  ·have:=hk false true ns (fun h=>by cases h)
   simp
   omega
theorem partsF_len:∀ ts:List Tr,fitL ts=true→∀ (m first:Bool) (ns:List ByteArray),(m=true→ts.length≤ns.length∧∀ s,s∈ns→prt s=true)→(partsL ts m first ns).length≤120 * cntL ts
 | [],_,_,_,_,_=>by simp [partsL]
 | t :: ts,h,m,first,ns,hns=>by
  simp only [fitL,Bool.and_eq_true] at h
  have h1:=textF_len t h.1
  have hc:=cnt_pos t
  have h3:(if first=true then ([]:List UInt8) else [44]).length≤1:=by cases first <;> simp
  cases m with
  | false =>
   have h2:=partsF_len ts h.2 false false ns.tail (fun h=>by cases h)
   simp only [partsL,cntL,List.length_append]
   simp at h3 ⊢
   omega
  | true =>
   obtain ⟨g1,g2⟩:=hns rfl
   cases ns with
   | nil=>simp at g1
   | cons a r =>
    have h2:=partsF_len ts h.2 true false r (fun _=>⟨by simpa using g1,fun s hs=>g2 s (List.mem_cons_of_mem _ hs)⟩)
    have h4:=quotL_len a
    have h5:=prt_size (g2 a (List.mem_cons_self ..))
    simp only [partsL,cntL,List.length_append,List.headD_cons,List.tail_cons,if_true]
    simp only [List.length_append,List.length_singleton]
    omega
end
structure Bd (B b:Nat) (L:List UInt8) (W:World):Prop where
 is:Lib.IsBuilder 219 5 B b (Lib.byteCells L) W
 le:B≤W.heap.size
theorem BuilderAt_below {B b:Nat} {p:Value} {bs:List Value} {W W':World} (h:Lib.BuilderAt 219 5 B b p bs W) (hb:Below W.heap.size W W'):Lib.BuilderAt 219 5 B b p bs W':=by
 obtain ⟨h1,v,h2,h3,h4⟩:=h
 exact ⟨h1,v,blk_below h2 hb,pw_own_below h3 hb,h4⟩
theorem Bd.below {B b:Nat} {L:List UInt8} {W W':World} (h:Bd B b L W) (hb:Below W.heap.size W W'):Bd B b L W' :=
 ⟨by
   rcases h.is with h | h
   ·exact .inl (BuilderAt_below h hb)
   ·exact .inr (BuilderAt_below h hb),Nat.le_trans h.le hb.size⟩
theorem byteCells_append (a b:List UInt8):Lib.byteCells a++Lib.byteCells b=Lib.byteCells (a++b):=by simp [Lib.byteCells]
theorem ws_c {B b:Nat} {L:List UInt8} {W:World} (h:Bd B b L W) (s:ByteArray) (hl:L.length+s.size≤1099511627776) :
  Calls Tryz.prog 201 #[.pointer (some ⟨b,0,none⟩),.string s] W fun e w'=>e=.returned (.tuple #[.int .i64 s.size,.nilIface])∧Bd B b (L++s.data.toList) w'∧Below B W w':=by
 refine (writeString_c B b _ s W h.is (by rw [Lib.byteCells_length];omega) h.le).mono ?_
 rintro e w' ⟨rfl,h1,h2⟩
 exact ⟨rfl,⟨.inr (by rw [←byteCells_append];exact h1),Nat.le_trans h.le h2.size⟩,h2⟩
theorem wb_c {B b:Nat} {L:List UInt8} {W:World} (h:Bd B b L W) (c:UInt8) (hl:L.length+1≤1099511627776) :
  Calls Tryz.prog 203 #[.pointer (some ⟨b,0,none⟩),.int .u8 (c.toNat:Int)] W fun e w'=>e=.returned .nilIface∧Bd B b (L++[c]) w'∧Below B W w':=by
 refine (writeByte_c B b _ c.toNat W h.is (by rw [Lib.byteCells_length];omega) h.le).mono ?_
 rintro e w' ⟨rfl,h1,h2⟩
 exact ⟨rfl,⟨.inr (by rw [←byteCells_append];exact h1),Nat.le_trans h.le h2.size⟩,h2⟩
def HT (w:World):Prop:=Lib.TabIs Tryz.prog w "internal/strconv.uint64pow10" .u64 Lib.pow10Tab
theorem HT.below {w w':World} (h:HT w) (hb:Below w.heap.size w w'):HT w':=(Lib.tabBelow_of_tabIs h) w' hb
theorem below_grow (w:World) (k:Nat) (os:Array Obj):Below w.heap.size w (Go.Sort.grow (w.drewN k) os):=by
 have h:=pw_below_drewN (Below.refl w.heap.size w) k
 refine ⟨h.os,h.tape,h.output,?_,fun i hi=>?_⟩
 ·have:=h.size
  simp only [Go.Sort.grow,Array.size_append]
  omega
 ·rw [←h.block i hi]
  simp only [Go.Sort.grow]
  rw [Array.getElem?_append_left (by have:=h.size;omega)]
end Go.Proofs.YtoaafohpmhdjnaaGreatDoor.VT
