import Derived.Test.YtoaafohpmhdjnaaGreatDoorTAVTN
import Derived.Test.YtoaafohpmhdjnaaGreatDoorTAPVGx0
import Derived.Test.YtoaafohpmhdjnaaGreatDoorTAYLB
import Derived.Test.YtoaafohpmhdjnaaGreatDoorTAVR1
import Derived.Test.YtoaafohpmhdjnaaGreatDoorTAVBT
import Derived.WalkLawsBesides
import Derived.Lib.Walk
import Derived.Test.YtoaafohpmhdjnaaGreatDoorTAVTR
import Derived.Test.YtoaafohpmhdjnaaGreatDoorTAVTG
import Derived.Test.YtoaafohpmhdjnaaGreatDoorTAVPB
import Derived.Test.YtoaafohpmhdjnaaGreatDoorTAPVGx6
import Derived.Test.YtoaafohpmhdjnaaGreatDoorTAPVGx2
import Derived.Test.YtoaafohpmhdjnaaGreatDoorTARYE
import Derived.Test.YtoaafohpmhdjnaaGreatDoorTAVWA
import Derived.Handy
import Derived.Shelf.Strings.SplitCore
import Derived.Test.YtoaafohpmhdjnaaGreatDoorTAYPA
import Derived.Test.YtoaafohpmhdjnaaGreatDoorTAShelf
/- What cleaning leaves of a right tree: a right tree, no deeper, no longer. Conditions: right trees. -/
namespace Go.Proofs.YtoaafohpmhdjnaaGreatDoor.VT
open Go.RowKit Go.Proofs.YtoaafohpmhdjnaaGreatDoor.PVG Go.Proofs.YtoaafohpmhdjnaaGreatDoorW.PrintWords
set_option linter.unusedVariables false
set_option linter.unusedSimpArgs false
theorem less_trans:∀ a b c:List UInt8,Op.bytesLess a b=true→Op.bytesLess b c=true→Op.bytesLess a c=true
 | _,[],c,h,_=>by cases ‹List UInt8› <;> simp [Op.bytesLess] at h
 | [],y :: b,[],_,k=>by simp [Op.bytesLess] at k
 | [],y :: b,z :: c,_,_=>by simp [Op.bytesLess]
 | x :: a,y :: b,[],_,k=>by simp [Op.bytesLess] at k
 | x :: a,y :: b,z :: c,h,k=>by
  simp only [Op.bytesLess,Bool.or_eq_true,Bool.and_eq_true,decide_eq_true_eq,beq_iff_eq] at h k ⊢
  rcases h with h | ⟨h1,h2⟩
  ·rcases k with k | ⟨k1,k2⟩
   ·exact .inl (UInt8.lt_trans h k)
   ·subst k1;exact .inl h
  ·subst h1
   rcases k with k | ⟨k1,k2⟩
   ·exact .inl k
   ·exact .inr ⟨k1,less_trans a b c h2 k2⟩
theorem lt_tr {a b c:ByteArray} (h:lt a b=true) (k:lt b c=true):lt a c=true:=less_trans _ _ _ h k
theorem rising_cons {a:ByteArray} {ns:List ByteArray}:rising (a :: ns)=true↔(∀ s,s∈ns→lt a s=true)∧rising ns=true:=by
 induction ns generalizing a with
 | nil=>simp [rising]
 | cons b r ih =>
  have e:rising (a :: b :: r)=(lt a b&&rising (b :: r)):=rfl
  rw [e,Bool.and_eq_true]
  constructor
  ·rintro ⟨h1,h2⟩
   refine ⟨fun s hs=>?_,h2⟩
   rcases List.mem_cons.1 hs with rfl | hs
   ·exact h1
   ·exact lt_tr h1 ((ih.1 h2).1 s hs)
  ·rintro ⟨h1,h2⟩
   exact ⟨h1 b (List.mem_cons_self ..),h2⟩
theorem cleanN_mem:∀ (ks:List Tr) (ns:List ByteArray),ns.length=ks.length→∀ s,s∈cleanN ks ns→s∈ns
 | [],ns,_,s,h=>by simp [cleanN] at h
 | t :: ts,[],h,_,_=>by simp at h
 | t :: ts,a :: r,h,s,hs=>by
  rw [cleanN,List.tail_cons,List.headD_cons] at hs
  by_cases h1:t.kd=1
  ·rw [if_pos h1] at hs
   exact List.mem_cons_of_mem _ (cleanN_mem ts r (by simpa using h) s hs)
  ·rw [if_neg h1] at hs
   rcases List.mem_cons.1 hs with rfl | hs
   ·exact List.mem_cons_self ..
   ·exact List.mem_cons_of_mem _ (cleanN_mem ts r (by simpa using h) s hs)
theorem cleanN_rising:∀ (ks:List Tr) (ns:List ByteArray),ns.length=ks.length→rising ns=true→rising (cleanN ks ns)=true
 | [],ns,_,_=>by simp [cleanN,rising]
 | t :: ts,[],h,_=>by simp at h
 | t :: ts,a :: r,h,hr=>by
  obtain ⟨h1,h2⟩:=rising_cons.1 hr
  have ih:=cleanN_rising ts r (by simpa using h) h2
  rw [cleanN,List.tail_cons,List.headD_cons]
  by_cases h7:t.kd=1
  ·rw [if_pos h7];exact ih
  ·rw [if_neg h7,rising_cons]
   exact ⟨fun s hs=>h1 s (cleanN_mem ts r (by simpa using h) s hs),ih⟩
theorem partsL_first (ts:List Tr) (m:Bool) (ns:List ByteArray):(partsL ts m true ns).length≤(partsL ts m false ns).length:=by
 cases ts with
 | nil=>simp [partsL]
 | cons t ts=>simp [partsL]
mutual
theorem clean_text:∀ t:Tr,wf t=true→(textL (cleanT t)).length≤(textL t).length
 | .mk kd nu tx ns ks,h=>by
  rw [cleanT]
  by_cases h7:kd=7
  ·subst h7
   have hw:=wf1 h
   have:=cleanK_text ks ns true (hw.hlen rfl) hw.hks
   rw [if_pos rfl]
   simp only [textL]
   simpa using this
  ·rw [if_neg h7];exact Nat.le_refl _
theorem cleanK_text:∀ (ks:List Tr) (ns:List ByteArray) (first:Bool),ns.length=ks.length→wfL ks=true→(partsL (cleanK ks) true first (cleanN ks ns)).length≤(partsL ks true first ns).length
 | [],ns,first,_,_=>by simp [cleanK,partsL]
 | t :: ts,[],first,h,_=>by simp at h
 | t :: ts,a :: r,first,h,hw=>by
  rw [wfL,Bool.and_eq_true] at hw
  have h1:=clean_text t hw.1
  have hl:r.length=ts.length:=by simpa using h
  rw [cleanK,cleanN,List.tail_cons,List.headD_cons]
  by_cases hk:t.kd=1
  ·rw [if_pos hk,if_pos hk]
   refine Nat.le_trans (cleanK_text ts r first hl hw.2) ?_
   have:=partsL_first ts true r
   rw [partsL.eq_2]
   simp only [List.length_append,List.tail_cons]
   cases first with
   | true=>omega
   | false=>omega
  ·rw [if_neg hk,if_neg hk]
   have h2:=cleanK_text ts r false hl hw.2
   simp only [partsL,List.length_append,List.headD_cons,List.tail_cons]
   omega
end
mutual
theorem clean_deep:∀ t:Tr,deep (cleanT t)≤deep t
 | .mk kd nu tx ns ks=>by
  rw [cleanT]
  by_cases h7:kd=7
  ·subst h7
   have:=cleanK_deep ks
   rw [if_pos rfl]
   simp only [deep]
   omega
  ·rw [if_neg h7];exact Nat.le_refl _
theorem cleanK_deep:∀ ks:List Tr,deepL (cleanK ks)≤deepL ks
 | []=>by simp [cleanK]
 | t :: ts=>by
  have h1:=clean_deep t
  have h2:=cleanK_deep ts
  rw [cleanK]
  by_cases hk:t.kd=1
  ·rw [if_pos hk];simp only [deepL];omega
  ·rw [if_neg hk];simp only [deepL];omega
end
mutual
theorem clean_wf:∀ t:Tr,wf t=true→wf (cleanT t)=true
 | .mk kd nu tx ns ks,h=>by
  rw [cleanT]
  by_cases h7:kd=7
  ·subst h7
   have hw:=wf1 h
   rw [wf] at h
   simp only [Bool.and_eq_true] at h
   have h2:=h.1.1.2
   rw [if_pos (by decide)] at h2
   simp only [Bool.and_eq_true,decide_eq_true_eq] at h2
   have hl:=h2.1.1
   rw [if_pos rfl,wf]
   have e1:nodeG 7 0 nil_=true:=by decide
   have e2:(holdsB 7 || (cleanK ks).isEmpty)=true:=by simp [holdsB]
   have e3:(cleanN ks ns).length=(cleanK ks).length:=cleanN_lenK ks ns hl
   have e4:(cleanN ks ns).all prt=true:=by
    rw [List.all_eq_true]
    intro s hs
    exact (List.all_eq_true.1 h2.2) s (cleanN_mem ks ns hl s hs)
   rw [e1,e2,cleanK_wf ks h.2,cleanN_rising ks ns hl h2.1.2,e4]
   simp [e3]
  ·rw [if_neg h7];exact h
theorem cleanK_wf:∀ ks:List Tr,wfL ks=true→wfL (cleanK ks)=true
 | [],_=>by simp [cleanK,wfL]
 | t :: ts,h=>by
  rw [wfL,Bool.and_eq_true] at h
  rw [cleanK]
  by_cases hk:t.kd=1
  ·rw [if_pos hk];exact cleanK_wf ts h.2
  ·rw [if_neg hk,wfL,clean_wf t h.1,cleanK_wf ts h.2];rfl
theorem cleanN_lenK:∀ (ks:List Tr) (ns:List ByteArray),ns.length=ks.length→(cleanN ks ns).length=(cleanK ks).length
 | [],ns,_=>by simp [cleanN,cleanK]
 | t :: ts,[],h=>by simp at h
 | t :: ts,a :: r,h=>by
  have:=cleanN_lenK ts r (by simpa using h)
  rw [cleanN,cleanK,List.tail_cons]
  by_cases hk:t.kd=1
  ·rw [if_pos hk,if_pos hk];exact this
  ·rw [if_neg hk,if_neg hk];simp [this]
end
mutual
theorem clean_cnt:∀ t:Tr,cnt (cleanT t)≤cnt t
 | .mk kd nu tx ns ks=>by
  rw [cleanT]
  by_cases h7:kd=7
  ·subst h7
   have:=cleanK_cnt ks
   rw [if_pos rfl]
   simp only [cnt]
   omega
  ·rw [if_neg h7];exact Nat.le_refl _
theorem cleanK_cnt:∀ ks:List Tr,cntL (cleanK ks)≤cntL ks
 | []=>by simp [cleanK]
 | t :: ts=>by
  have h1:=clean_cnt t
  have h2:=cleanK_cnt ts
  rw [cleanK]
  by_cases hk:t.kd=1
  ·rw [if_pos hk];simp only [cntL];omega
  ·rw [if_neg hk];simp only [cntL];omega
end
end Go.Proofs.YtoaafohpmhdjnaaGreatDoor.VT
namespace Go.Proofs.YtoaafohpmhdjnaaGreatDoor.VT
open Go.RowKit Go.Proofs.YtoaafohpmhdjnaaGreatDoor.RX Go.Proofs.YtoaafohpmhdjnaaGreatDoor.RY Go.Proofs.YtoaafohpmhdjnaaGreatDoor.PVG Go.Proofs.YtoaafohpmhdjnaaGreatDoorW.PrintWords Go.Proofs.YtoaafohpmhdjnaaGreatDoorW.PrintLast Go.Proofs.YtoaafohpmhdjnaaGreatDoorW.PrintMore
set_option linter.unusedVariables false
set_option linter.unusedSimpArgs false
structure GotV (w:World) (o:Option Tr) (e:Ending) (w':World):Prop where
 out:(match o with | none=>e=.returned (.pointer none) | some u=>∃ p,e=.returned (.pointer (some ⟨p,0,none⟩))∧IsV w' p u)∧Below w.heap.size w w'
end Go.Proofs.YtoaafohpmhdjnaaGreatDoor.VT
namespace Go.Proofs.YtoaafohpmhdjnaaGreatDoor.RY
open Go.RowKit Go.Proofs.YtoaafohpmhdjnaaGreatDoor.RX Go.Proofs.YtoaafohpmhdjnaaGreatDoor.PVG Go.Proofs.YtoaafohpmhdjnaaGreatDoorW.PrintWords Go.Proofs.YtoaafohpmhdjnaaGreatDoorW.PrintLast Go.Proofs.YtoaafohpmhdjnaaGreatDoorW.PrintMore
set_option linter.unusedVariables false
set_option linter.unusedSimpArgs false
set_option maxRecDepth 100000 in
set_option maxHeartbeats 1600000 in
theorem escAll_c (w00:World) (b g c:Nat) (s:ByteArray) (w:World) (hb:w.heap[b]? = some (.cells #[.int .u32 0,.int .i32 0,.int .u32 0,.nilIface,.slice (some ⟨g,0,none⟩) 4 c] 204 (0,0))) (hA:Kd.C Kd.string w (some ⟨g,0,none⟩) 4 oldE) (hg:g≠b) (hB:Below w00.heap.size w00 w) (hbase:w00.heap.size≤b) (hs:s.size≤1073741824) :
  Calls Tryz.prog 123 #[.pointer (some ⟨b,0,none⟩),.string s] w fun e w'=>e=.returned (.string ⟨(escL s.data.toList).toArray⟩)∧Below w00.heap.size w00 w':=by
 have hmf:∀ (fn:Fn) (first cap:Array Value) (w:World),(Instr.makeFunc fn first cap).run Tryz.prog w=.ok (.func fn first cap) w:=fun _ _ _ _=>rfl
 have HB:=Aside0.mk hb
 have HA:=Aside0.mk hA
 clear hb hA
 go_enter Tryz.func123,Tryz.ntmps123
 go_upto_region 2 with (first | (go_at_call 163;refine (mkE.do_ w00 b g c _ HB.out HA.out hg hB hbase).mono ?_;rintro e w2 ⟨rfl,HQ⟩))
 obtain ⟨gB,hR,hK⟩:=HQ.out.out
 have HR:=Aside0.mk hR
 obtain ⟨k1,k2,g2,c1,c2,c3,hat⟩:=hR.at_
 have HAT:=Aside0.mk hat
 have d3:w2.cell? ⟨b,3,none⟩=some (.iface 258 (.pointer (some ⟨gB,0,none⟩))):=(blk_cell hK 3).trans rfl
 clear hR hat hK HB HA
 go_wp2_with (first | (go_at_call 294;refine (replaceE_c gB k1 k2 g2 c1 c2 c3 s _ HAT.out hs).mono ?_;rintro e w4 ⟨rfl,hb4⟩;have B4:=Aside0.mk (below_step HR.out.bel hb4);clear hb4))
 go_ret
 exact ⟨rfl,B4.out⟩
def escB (s:ByteArray):ByteArray:=⟨(escL s.data.toList).toArray⟩
set_option maxRecDepth 100000 in
set_option maxHeartbeats 1600000 in
theorem escaped_c (s:ByteArray) (w:World) (hs:s.size≤1073741824) :
  Calls Tryz.prog 116 #[.string s] w fun e w'=>e=.returned (.string (escB s))∧Below w.heap.size w w':=by
 go_enter Tryz.func116,Tryz.ntmps116
 go_wp2_with (first | (go_at_call 122;obtain ⟨W1,hW1⟩:∃ W1,W1=w.alloc (.cells #[.string ⟨#[126]⟩,.string ⟨#[126,48]⟩,.string ⟨#[47]⟩,.string ⟨#[126,49]⟩] 9):=⟨_,rfl⟩;have B1:=Aside0.mk (show Below w.heap.size w W1 by rw [hW1];exact below_alloc (Below.refl _ _) _);have C1:=Aside0.mk (show Kd.C Kd.string W1 (some ⟨w.heap.size,0,none⟩) 4 oldE by rw [hW1];exact C_four _ _ _ _ w);rw [←hW1];clear hW1;refine (newG_c oldE rfl w.heap.size 4 W1 C1.out).mono ?_;rintro e w2 ⟨b,g,c,rfl,h1,h2,h3,h4,h5⟩;have Q:=Aside0.mk (And.intro h1 (And.intro h2 (And.intro h3 (And.intro (below_step B1.out h4) (Nat.le_trans B1.out.size h5)))));clear h1 h2 h3 h4 h5 C1) | (go_at_call 123;refine (escAll_c w b g c s w2 Q.out.1 Q.out.2.1 Q.out.2.2.1 Q.out.2.2.2.1 Q.out.2.2.2.2 hs).mono ?_;rintro e w3 ⟨rfl,hb3⟩;have B3:=Aside0.mk hb3;clear hb3))
 go_ret
 exact ⟨rfl,B3.out⟩
end Go.Proofs.YtoaafohpmhdjnaaGreatDoor.RY
namespace Go.Proofs.YtoaafohpmhdjnaaGreatDoor.VT
open Go.RowKit Go.Proofs.YtoaafohpmhdjnaaGreatDoor.RY Go.Proofs.YtoaafohpmhdjnaaGreatDoor.PVG Go.Proofs.YtoaafohpmhdjnaaGreatDoorW.PrintWords Go.Proofs.YtoaafohpmhdjnaaGreatDoorW.PrintLast Go.Proofs.YtoaafohpmhdjnaaGreatDoorW.PrintMore
set_option linter.unusedVariables false
set_option linter.unusedSimpArgs false
theorem genSplit47 (s:ByteArray) (w:World) (hs:s.size≤60) :
  Calls Tryz.prog 162 #[.string s,.string ⟨#[47]⟩,.int .i64 0,.int .i64 (-1)] w fun e w'=>e=.returned (.slice (some ⟨w.heap.size,0,none⟩) (Lib.splitB ⟨#[47]⟩ 0 (Lib.countB s ⟨#[47]⟩) s).length (Lib.countB s ⟨#[47]⟩+1))∧w'=w.alloc (.cells (Lib.cellsOf (Lib.splitB ⟨#[47]⟩ 0 (Lib.countB s ⟨#[47]⟩) s) (Lib.countB s ⟨#[47]⟩+1)) 9):=by
 have hle:=Lib.countB_le ⟨#[47]⟩ (by decide) s.size s (Nat.le_refl _)
 have c:=Any.strings_genSplit_core Tryz.lays221 (by kernel_rfl) s ⟨#[47]⟩ 0 (-1) (Lib.countB s ⟨#[47]⟩+1) w (by omega) (by decide) (Nat.zero_le _)
  (fun x c hx=>by
   have h:=Tryz.strings_Index_one x 47 (w.alloc (.cells c 9))
   rw [←Lib.index_one] at h
   exact h)
  (by
   have h:=Tryz.strings_Count_one s 47 w
   rw [show Lib.countByte s.data.toList 47=Lib.countB s ⟨#[47]⟩ from (Lib.count_one 47 s.data.toList).symm] at h
   exact h) (by decide) (by decide) (by rw [if_pos (by decide)];omega)
 rw [Nat.add_sub_cancel] at c
 exact c
theorem split47_c (s:ByteArray) (w:World) (hs:s.size≤60):∃ ps:List ByteArray,ps.map (·.data.toList)=cutL s.data.toList ∧
  Calls Tryz.prog 121 #[.string s,.string ⟨#[47]⟩] w fun e w'=>e=.returned (.slice (some ⟨w.heap.size,0,none⟩) ps.length ps.length)∧w'=w.alloc (.cells (ps.map Value.string).toArray 9):=by
 have c:=genSplit47 s w hs
 have hlen:=Lib.splitB_all ⟨#[47]⟩ (by decide) 0 _ s rfl
 have hp:=pieces s
 obtain ⟨ps,hps⟩:∃ ps,ps=Lib.splitB ⟨#[47]⟩ 0 (Lib.countB s ⟨#[47]⟩) s:=⟨_,rfl⟩
 rw [←hps] at c hlen hp
 rw [←hlen,Lib.cellsOf_full] at c
 have C:=Aside0.mk c
 refine ⟨ps,hp,?_⟩
 clear hp hps hlen c
 go_enter Tryz.func121,Tryz.ntmps121
 go_wp2_with (first | (go_at_call 162;(with_reducible refine C.out.mono ?_);rintro e w2 ⟨rfl,rfl⟩))
 go_ret
 exact ⟨rfl,rfl⟩
end Go.Proofs.YtoaafohpmhdjnaaGreatDoor.VT
