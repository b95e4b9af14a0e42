import Derived.Test.YtoaafohpmhdjnaaGreatDoorTARXC
import Derived.Test.YtoaafohpmhdjnaaGreatDoorTAShelf
import Derived.Test.YtoaafohpmhdjnaaGreatDoorTAPVGx0
import Derived.Handy
/- strings.Replacer: the once, the new replacer. Conditions: none. -/
namespace Go.Proofs.YtoaafohpmhdjnaaGreatDoor.RX
open Go.RowKit Go.Proofs.YtoaafohpmhdjnaaGreatDoor.PVG Go.Proofs.YtoaafohpmhdjnaaGreatDoorW.PrintWords Go.Proofs.YtoaafohpmhdjnaaGreatDoorW.PrintLast Go.Proofs.YtoaafohpmhdjnaaGreatDoorW.PrintMore
set_option linter.unusedVariables false
set_option linter.unusedSimpArgs false
set_option maxRecDepth 100000 in
set_option maxHeartbeats 1600000 in
theorem do_c (w00:World) (b g c:Nat) (w:World) (hb:w.heap[b]? = some (.cells #[.int .u32 0,.int .i32 0,.int .u32 0,.nilIface,.slice (some ⟨g,0,none⟩) 4 c] 204 (0,0))) (hA:Kd.C Kd.string w (some ⟨g,0,none⟩) 4 old4) (hg:g≠b) (hB:Below w00.heap.size w00 w) (hbase:w00.heap.size≤b) :
  Calls Tryz.prog 163 #[.pointer (some ⟨b,0,none⟩),.func (.func 164) #[.pointer (some ⟨b,0,none⟩)] #[]] w fun e w'=>e=.returned (.tuple #[])∧Aside0 (Ready w00 b w'):=by
 have c0:w.cell? ⟨b,0,none⟩=some (.int .u32 0):=(blk_cell hb 0).trans rfl
 have hnot:∀ (x:Bool) (w:World),(Op.unary .not (.bool x)).run Tryz.prog w=.ok (.bool (!x)) w:=fun _ _=>rfl
 have HB:=Aside0.mk hb
 have HA:=Aside0.mk hA
 clear hb hA
 go_enter Tryz.func163,Tryz.ntmps163
 go_wp2_with (first | (go_at_call 188;refine (slow_c w00 b g c _ HB.out HA.out hg hB hbase).mono ?_;rintro e w' ⟨rfl,hq⟩;have HQ:=Aside0.mk hq;clear hq) | (go_at_call 187;refine (load_c ⟨b,0,none⟩ 0 _ c0).mono ?_;rintro e w' ⟨rfl,rfl⟩))
 go_end0
 exact ⟨rfl,HQ⟩
structure NewRep (w:World) (e:Ending) (w':World):Prop where
 out:∃ b g c,e=.returned (.pointer (some ⟨b,0,none⟩))∧w'.heap[b]? = some (.cells #[.int .u32 0,.int .i32 0,.int .u32 0,.nilIface,.slice (some ⟨g,0,none⟩) 4 c] 204 (0,0))∧Kd.C Kd.string w' (some ⟨g,0,none⟩) 4 old4∧g≠b∧Below w.heap.size w w'∧w.heap.size≤b
theorem R_at {α:Type} {enc:α→Value} {h1:∀ x,(enc x).oneCell'=true} {W:World} {base:Nat} {ok:Nat→Prop} {A:Option Addr} {n c:Nat} {xs:List α} {e:TypeId} (h:(Kd.scalar enc h1).R e W base ok (.slice A n c) xs) (hn:0 < n):∃ g,A=some ⟨g,0,none⟩∧base≤g:=by
 obtain ⟨_,inner,ho,_⟩:=h
 rcases ho.2 with ⟨hv,h0⟩ | ⟨g,cap,cur,hv,hb,_⟩
 ·injection hv with _ h2 _
  omega
 ·injection hv with h2 _ _
  exact ⟨g,h2,hb⟩
set_option maxRecDepth 100000 in
set_option maxHeartbeats 1600000 in
theorem newRep_c (g0 c0:Nat) (w:World) (hA:Kd.C Kd.string w (some ⟨g0,0,none⟩) 4 old4) :
  Calls Tryz.prog 122 #[.slice (some ⟨g0,0,none⟩) 4 c0] w (NewRep w):=by
 have HA:=Aside0.mk hA
 clear hA
 go_enter Tryz.func122,Tryz.ntmps122
 go_wp2_with (first | ((with_reducible refine gate_builtin (b:=.append) (xs:=#[.const (.slice none 0 0),.tmp 8]) rfl ?_);at_builtin;refine Kd.R_append_row Value.string ByteArray.empty w.heap.size rfl (.const (.slice none 0 0)) (.tmp 8) 26 9 (.string ⟨#[]⟩) 16 rfl Tryz.underlying26 infoS rfl (by decide) (.slice none 0 0) [] old4 (some ⟨g0,0,none⟩) 4 _ (fun _=>True) rfl rfl (fun _ _=>trivial) ?aO HA.out (Below.refl _ _) (Nat.le_refl _) (by decide) ?_;(case aO=>exact Kd.R_nil _ _ _ _ _);intro v1 W1 ho hb hg hat;obtain ⟨A1,c1,rfl⟩:=Kd.R_slice ho;obtain ⟨g1,rfl,hg1⟩:=R_at ho (by decide);have R1:=Aside0.mk ho;have B1:=Aside0.mk hb;clear ho hb hg hat))
 go_ret
 have R2:=Kd.R_below R1.out (below_alloc (Below.refl _ _) (.cells #[Value.int IntKind.u32 0,Value.int IntKind.i32 0,Value.int IntKind.u32 0,Value.nilIface,Value.slice (some { block:=g1,off:=0 }) old4.length c1] 204))
 have L1:=Kd.R_lt R1.out g1 rfl
 exact ⟨W1.heap.size,g1,c1,rfl,blk_new W1 _,(Kd.R_reads' R2).2.2,by omega,below_alloc B1.out _,B1.out.size⟩
def spn:List UInt8→Nat
 | []=>0
 | c :: l=>(if c=34∨c=92 then 1 else 0)+spn l
def quoteL:List UInt8→List UInt8
 | []=>[]
 | c :: l=>if c=34∨c=92 then 92 :: c :: quoteL l else c :: quoteL l
theorem quoteL_len:∀ l,(quoteL l).length=l.length+spn l
 | []=>rfl
 | c :: l=>by
  have:=quoteL_len l
  unfold quoteL spn
  split <;> simp <;> omega
theorem quoteL_none:∀ l,spn l=0→quoteL l=l
 | [],_=>rfl
 | c :: l,h=>by
  unfold spn at h
  unfold quoteL
  split at h
  ·omega
  ·rename_i hc
   rw [if_neg hc,quoteL_none l (by omega)]
theorem spn_count:∀ l:List UInt8,spn l=l.count 92+l.count 34
 | []=>rfl
 | c :: l=>by
  have:=spn_count l
  unfold spn
  rw [List.count_cons,List.count_cons]
  by_cases h1:c=34
  ·subst h1;simp;omega
  ·by_cases h2:c=92
   ·subst h2;simp;omega
   ·simp [h1,h2];omega
theorem spn_append:∀ a b:List UInt8,spn (a++b)=spn a+spn b
 | [],b=>by simp [spn]
 | c :: a,b=>by
  have:=spn_append a b
  show (if c=34∨c=92 then 1 else 0)+spn (a++b)=(if c=34∨c=92 then 1 else 0)+spn a+spn b
  omega
theorem quoteL_append:∀ a b:List UInt8,quoteL (a++b)=quoteL a++quoteL b
 | [],b=>rfl
 | c :: a,b=>by
  have:=quoteL_append a b
  show (if c=34∨c=92 then 92 :: c :: quoteL (a++b) else c :: quoteL (a++b))=(if c=34∨c=92 then 92 :: c :: quoteL a else c :: quoteL a)++quoteL b
  split <;> simp [this]
theorem spn_le:∀ l,spn l≤l.length
 | []=>Nat.le_refl _
 | c :: l=>by
  have:=spn_le l
  unfold spn
  split <;> simp <;> omega
end Go.Proofs.YtoaafohpmhdjnaaGreatDoor.RX
namespace Go.Proofs.YtoaafohpmhdjnaaGreatDoor.RX
open Go.RowKit Go.Proofs.YtoaafohpmhdjnaaGreatDoor.PVG Go.Proofs.YtoaafohpmhdjnaaGreatDoorW.PrintWords Go.Proofs.YtoaafohpmhdjnaaGreatDoorW.PrintLast Go.Proofs.YtoaafohpmhdjnaaGreatDoorW.PrintMore
set_option linter.unusedVariables false
set_option linter.unusedSimpArgs false
structure Mk (old:List ByteArray) (tI:Nat) (Rep:World→World→Nat→Prop):Prop where
 len:old.length=4
 build:∀ (b:Nat) (x0 x1 x2 x3:Value) (g c:Nat) (w:World),w.heap[b]? = some (.cells #[x0,x1,x2,x3,.slice (some ⟨g,0,none⟩) 4 c] 204 (0,0))→Kd.C Kd.string w (some ⟨g,0,none⟩) 4 old →
  Calls Tryz.prog 189 #[.pointer (some ⟨b,0,none⟩)] w fun e w'=>∃ gB,e=.returned (.iface tI (.pointer (some ⟨gB,0,none⟩)))∧Rep w w' gB
 lower:∀ {w00 w W:World} {gB:Nat},Rep w W gB→Below w00.heap.size w00 w→Rep w00 W gB
 setb:∀ {w00 W:World} {gB b:Nat} {cs:Array Value},Rep w00 W gB→W.heap[b]? = some (.cells cs 204 (0,0))→w00.heap.size≤b→∀ (i:Nat) (x:Value),Rep w00 (W.setCell ⟨b,i,none⟩ x) gB
 drew:∀ {w00 W:World} {gB:Nat},Rep w00 W gB→Rep w00 W.drew gB
 bel:∀ {w W:World} {gB:Nat},Rep w W gB→Below w.heap.size w W
section
variable {old:List ByteArray} {tI:Nat} {Rep:World→World→Nat→Prop}
set_option maxRecDepth 100000 in
set_option maxHeartbeats 1600000 in
theorem Mk.once (H:Mk old tI Rep) (b:Nat) (x0 x1 x2 x3:Value) (g c:Nat) (w:World) (hb:w.heap[b]? = some (.cells #[x0,x1,x2,x3,.slice (some ⟨g,0,none⟩) 4 c] 204 (0,0))) (hA:Kd.C Kd.string w (some ⟨g,0,none⟩) 4 old) :
  Calls Tryz.prog 164 #[.pointer (some ⟨b,0,none⟩)] w fun e w'=>e=.returned (.tuple #[])∧∃ gB w1,Aside0 (Rep w w1 gB)∧w'=(w1.setCell ⟨b,3,none⟩ (.iface tI (.pointer (some ⟨gB,0,none⟩)))).setCell ⟨b,4,none⟩ (.slice none 0 0):=by
 have HB:=Aside0.mk hb
 have HA:=Aside0.mk hA
 have HH:=Aside0.mk H
 clear hb hA H
 go_enter Tryz.func164,Tryz.ntmps164
 go_wp2_with (first | (go_at_call 189;refine (HH.out.build b x0 x1 x2 x3 g c w HB.out HA.out).mono ?_;rintro e w1 ⟨gB,rfl,hr⟩;have HR:=Aside0.mk hr;have K1:=Aside0.mk (blk_below HB.out (HH.out.bel hr));clear hr;have k3:w1.cell? ⟨b,3,none⟩=some x3:=(blk_cell K1.out 3).trans rfl;have k4:w1.cell? ⟨b,4,none⟩=some (.slice (some ⟨g,0,none⟩) 4 c):=(blk_cell K1.out 4).trans rfl;have z3:=blk_frozen K1.out 3;have z4:=blk_frozen K1.out 4))
 go_end0
 exact ⟨rfl,_,_,HR,rfl⟩
structure ReadyG (tI:Nat) (Rep:World→World→Nat→Prop) (w00:World) (b:Nat) (W:World):Prop where
 out:∃ gB,Rep w00 W gB∧W.heap[b]? = some (.cells #[.int .u32 1,.int .i32 0,.int .u32 0,.iface tI (.pointer (some ⟨gB,0,none⟩)),.slice none 0 0] 204 (0,0))
set_option maxRecDepth 100000 in
set_option maxHeartbeats 1600000 in
theorem Mk.slow (H:Mk old tI Rep) (w00:World) (b g c:Nat) (w:World) (hb:w.heap[b]? = some (.cells #[.int .u32 0,.int .i32 0,.int .u32 0,.nilIface,.slice (some ⟨g,0,none⟩) 4 c] 204 (0,0))) (hA:Kd.C Kd.string w (some ⟨g,0,none⟩) 4 old) (hg:g≠b) (hB:Below w00.heap.size w00 w) (hbase:w00.heap.size≤b) :
  Calls Tryz.prog 188 #[.pointer (some ⟨b,0,none⟩),.func (.func 164) #[.pointer (some ⟨b,0,none⟩)] #[]] w fun e w'=>e=.returned (.tuple #[])∧ReadyG tI Rep w00 b w':=by
 have c0:w.cell? ⟨b,0,none⟩=some (.int .u32 0):=(blk_cell hb 0).trans rfl
 have c1:w.cell? ⟨b,1,none⟩=some (.int .i32 0):=(blk_cell hb 1).trans rfl
 have z1:=blk_frozen hb 1
 have z0:=blk_frozen hb 0
 obtain ⟨W1,hW1⟩:∃ W1,W1=w.setCell ⟨b,1,none⟩ (.int .i32 1):=⟨_,rfl⟩
 have H1:=Aside0.mk (show W1.heap[b]? = some (.cells #[.int .u32 0,.int .i32 1,.int .u32 0,.nilIface,.slice (some ⟨g,0,none⟩) 4 c] 204 (0,0)) by rw [hW1];exact (blk5 hb _).2.1)
 have A1:=Aside0.mk (show Kd.C Kd.string W1 (some ⟨g,0,none⟩) 4 old by rw [hW1];exact C_far_str hA (by simpa using hg) _)
 have B1:=Aside0.mk (show Below w00.heap.size w00 W1 by rw [hW1];exact below_set hB hbase)
 have k0:W1.cell? ⟨b,0,none⟩=some (.int .u32 0):=(blk_cell H1.out 0).trans rfl
 have hnot:∀ (x:Bool) (w:World),(Op.unary .not (.bool x)).run Tryz.prog w=.ok (.bool (!x)) w:=fun _ _=>rfl
 have HH:=Aside0.mk H
 clear hb hA H
 go_enter_defers Tryz.func188,Tryz.ntmps188
 go_wp2_with (first | (go_at_call 213;refine (lock_free ⟨b,1,none⟩ _ c1 z1).mono ?_;rintro e w' ⟨rfl,rfl⟩;rw [←hW1];clear hW1) | (go_at_call 187;refine (load_c ⟨b,0,none⟩ 0 _ k0).mono ?_;rintro e w' ⟨rfl,rfl⟩) | (go_at_call 164;refine (HH.out.once b _ _ _ _ g c _ H1.out A1.out).mono ?_;rintro e w2 ⟨rfl,gB,w3,HR,hw2⟩;have HW2:=Aside0.mk hw2;clear hw2))
 have K3:=Aside0.mk (blk_below H1.out (HH.out.bel HR.out))
 have K5:=Aside0.mk (show w2.heap[b]? = some (.cells #[.int .u32 0,.int .i32 1,.int .u32 0,.iface tI (.pointer (some ⟨gB,0,none⟩)),.slice none 0 0] 204 (0,0)) by rw [HW2.out];exact (blk5 (blk5 K3.out _).2.2.1 _).2.2.2)
 have R5:=Aside0.mk (show Rep w00 w2 gB by rw [HW2.out];exact HH.out.setb (HH.out.setb (HH.out.lower HR.out B1.out) K3.out hbase 3 _) (blk5 K3.out _).2.2.1 hbase 4 _)
 clear HR HW2 K3
 have d0:w2.cell? ⟨b,0,none⟩=some (.int .u32 0):=(blk_cell K5.out 0).trans rfl
 have d1:w2.cell? ⟨b,1,none⟩=some (.int .i32 1):=(blk_cell K5.out 1).trans rfl
 have y0:=blk_frozen K5.out 0
 have y1:=blk_frozen K5.out 1
 first | go_wp2 | skip
 refine leaves_cons (f:=215) (args:=#[.pointer (some ⟨b,0,none⟩),.bool true]) (by simp) (by simp [go_sem]) ?_
 refine (store_deferred ⟨b,0,none⟩ (.int .u32 0) .returning _ d0 y0).mono ?_
 rintro e u' w'' ⟨rfl,rfl,hw''⟩
 have K6:=Aside0.mk (show w''.heap[b]? = some (.cells #[.int .u32 1,.int .i32 1,.int .u32 0,.iface tI (.pointer (some ⟨gB,0,none⟩)),.slice none 0 0] 204 (0,0)) by rw [hw''];exact (blk5 (blk_drew K5.out) _).1)
 have R6:=Aside0.mk (show Rep w00 w'' gB by rw [hw''];exact HH.out.setb (HH.out.drew R5.out) (blk_drew K5.out) hbase 0 _)
 refine leaves_cons (f:=214) (args:=#[.pointer (some ⟨b,1,none⟩)]) (by simp [settle]) (by simp [go_sem]) ?_
 refine (unlock_deferred ⟨b,1,none⟩ _ _ ((blk_cell K6.out 1).trans rfl) (blk_frozen K6.out 1)).mono ?_
 rintro e u' w4 ⟨rfl,rfl,hw4⟩
 have QQ:ReadyG tI Rep w00 b w4:=⟨gB,by rw [hw4];exact HH.out.setb R6.out K6.out hbase 1 _,by rw [hw4];exact (blk5 K6.out _).2.1⟩
 simp [Leaves,settle,results,Tryz.results188]
 exact QQ
set_option maxRecDepth 100000 in
set_option maxHeartbeats 1600000 in
theorem Mk.do_ (H:Mk old tI Rep) (w00:World) (b g c:Nat) (w:World) (hb:w.heap[b]? = some (.cells #[.int .u32 0,.int .i32 0,.int .u32 0,.nilIface,.slice (some ⟨g,0,none⟩) 4 c] 204 (0,0))) (hA:Kd.C Kd.string w (some ⟨g,0,none⟩) 4 old) (hg:g≠b) (hB:Below w00.heap.size w00 w) (hbase:w00.heap.size≤b) :
  Calls Tryz.prog 163 #[.pointer (some ⟨b,0,none⟩),.func (.func 164) #[.pointer (some ⟨b,0,none⟩)] #[]] w fun e w'=>e=.returned (.tuple #[])∧Aside0 (ReadyG tI Rep w00 b w'):=by
 have c0:w.cell? ⟨b,0,none⟩=some (.int .u32 0):=(blk_cell hb 0).trans rfl
 have hnot:∀ (x:Bool) (w:World),(Op.unary .not (.bool x)).run Tryz.prog w=.ok (.bool (!x)) w:=fun _ _=>rfl
 have HB:=Aside0.mk hb
 have HA:=Aside0.mk hA
 have HH:=Aside0.mk H
 clear hb hA H
 go_enter Tryz.func163,Tryz.ntmps163
 go_wp2_with (first | (go_at_call 188;refine (HH.out.slow w00 b g c _ HB.out HA.out hg hB hbase).mono ?_;rintro e w' ⟨rfl,hq⟩;have HQ:=Aside0.mk hq;clear hq) | (go_at_call 187;refine (load_c ⟨b,0,none⟩ 0 _ c0).mono ?_;rintro e w' ⟨rfl,rfl⟩))
 go_end0
 exact ⟨rfl,HQ⟩
structure NewG (old:List ByteArray) (w:World) (e:Ending) (w':World):Prop where
 out:∃ b g c,e=.returned (.pointer (some ⟨b,0,none⟩))∧w'.heap[b]? = some (.cells #[.int .u32 0,.int .i32 0,.int .u32 0,.nilIface,.slice (some ⟨g,0,none⟩) 4 c] 204 (0,0))∧Kd.C Kd.string w' (some ⟨g,0,none⟩) 4 old∧g≠b∧Below w.heap.size w w'∧w.heap.size≤b
set_option maxRecDepth 100000 in
set_option maxHeartbeats 1600000 in
theorem newG_c (old:List ByteArray) (hlen:old.length=4) (g0 c0:Nat) (w:World) (hA:Kd.C Kd.string w (some ⟨g0,0,none⟩) 4 old) :
  Calls Tryz.prog 122 #[.slice (some ⟨g0,0,none⟩) 4 c0] w (NewG old w):=by
 have HA:=Aside0.mk hA
 have HL:=Aside0.mk hlen
 clear hA hlen
 go_enter Tryz.func122,Tryz.ntmps122
 go_wp2_with (first | ((with_reducible refine gate_builtin (b:=.append) (xs:=#[.const (.slice none 0 0),.tmp 8]) rfl ?_);at_builtin;refine Kd.R_append_row Value.string ByteArray.empty w.heap.size rfl (.const (.slice none 0 0)) (.tmp 8) 26 9 (.string ⟨#[]⟩) 16 rfl Tryz.underlying26 infoS rfl (by decide) (.slice none 0 0) [] old (some ⟨g0,0,none⟩) 4 _ (fun _=>True) rfl rfl (fun _ _=>trivial) ?aO HA.out (Below.refl _ _) (Nat.le_refl _) (by decide) ?_;(case aO=>exact Kd.R_nil _ _ _ _ _);intro v1 W1 ho hb hg hat;rw [List.nil_append] at ho;obtain ⟨A1,c1,rfl⟩:=Kd.R_slice ho;rw [HL.out] at ho ⊢;obtain ⟨g1,rfl,hg1⟩:=R_at ho (by decide);have R1:=Aside0.mk ho;have B1:=Aside0.mk hb;clear ho hb hg hat))
 go_ret
 have R2:=Kd.R_below R1.out (below_alloc (Below.refl _ _) (.cells #[Value.int IntKind.u32 0,Value.int IntKind.i32 0,Value.int IntKind.u32 0,Value.nilIface,Value.slice (some { block:=g1,off:=0 }) 4 c1] 204))
 have L1:=Kd.R_lt R1.out g1 rfl
 exact ⟨W1.heap.size,g1,c1,rfl,blk_new W1 _,(by have q:=(Kd.R_reads' R2).2.2;rw [HL.out] at q;exact q),by omega,below_alloc B1.out _,B1.out.size⟩
theorem C_four (a b c d:ByteArray) (w:World):Kd.C Kd.string (w.alloc (.cells #[.string a,.string b,.string c,.string d] 9)) (some ⟨w.heap.size,0,none⟩) 4 [a,b,c,d] :=
 Kd.C_of_reads (d:=ByteArray.empty) ⟨rfl,by decide,fun _=>⟨_,rfl,fun j hj=>by
  have h:=blk_new w (.cells #[.string a,.string b,.string c,.string d] 9)
  have e:∀ j,((⟨w.heap.size,0,none⟩:Addr).add j)=⟨w.heap.size,j,none⟩:=fun j=>by
   rcases Nat.eq_zero_or_pos j with rfl | h
   ·rfl
   ·rw [Addr.add,if_neg (by omega)];simp
  rw [e,blk_cell h j]
  match j,hj with
  | 0,_=>rfl
  | 1,_=>rfl
  | 2,_=>rfl
  | 3,_=>rfl⟩⟩
end
end Go.Proofs.YtoaafohpmhdjnaaGreatDoor.RX
