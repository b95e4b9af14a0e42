import Derived.Test.YtoaafohpmhdjnaaGreatDoorPIRXC
import Derived.Test.YtoaafohpmhdjnaaGreatDoorPIShelf
import Derived.Test.YtoaafohpmhdjnaaGreatDoorPIPVGx0
/- strings.Replacer: the once, the new replacer. Conditions: none. -/
namespace Go.Proofs.YtoaafohpmhdjnaaGreatDoor.RX
open Go.RowKit Go.Proofs.YtoaafohpmhdjnaaGreatDoor.PVG Go.Proofs.YtoaafohpmhdjnaaGreatDoorW.PrintWords Go.Proofs.YtoaafohpmhdjnaaGreatDoorW.PrintLast Go.Proofs.YtoaafohpmhdjnaaGreatDoorW.PrintMore
set_option linter.unusedVariables false
set_option linter.unusedSimpArgs false
set_option maxRecDepth 100000 in
set_option maxHeartbeats 1600000 in
theorem do_c (w00:World) (b g c:Nat) (w:World) (hb:w.heap[b]? = some (.cells #[.int .u32 0,.int .i32 0,.int .u32 0,.nilIface,.slice (some ⟨g,0,none⟩) 4 c] 204 (0,0))) (hA:Kd.C Kd.string w (some ⟨g,0,none⟩) 4 old4) (hg:g≠b) (hB:Below w00.heap.size w00 w) (hbase:w00.heap.size≤b) :
  Calls Tryz.prog 163 #[.pointer (some ⟨b,0,none⟩),.func (.func 164) #[.pointer (some ⟨b,0,none⟩)] #[]] w fun e w'=>e=.returned (.tuple #[])∧Aside0 (Ready w00 b w'):=by
 have c0:w.cell? ⟨b,0,none⟩=some (.int .u32 0):=(blk_cell hb 0).trans rfl
 have hnot:∀ (x:Bool) (w:World),(Op.unary .not (.bool x)).run Tryz.prog w=.ok (.bool (!x)) w:=fun _ _=>rfl
 have HB:=Aside0.mk hb
 have HA:=Aside0.mk hA
 clear hb hA
 go_enter Tryz.func163,Tryz.ntmps163
 go_wp2_with (first | (go_at_call 188;refine (slow_c w00 b g c _ HB.out HA.out hg hB hbase).mono ?_;rintro e w' ⟨rfl,hq⟩;have HQ:=Aside0.mk hq;clear hq) | (go_at_call 187;refine (load_c ⟨b,0,none⟩ 0 _ c0).mono ?_;rintro e w' ⟨rfl,rfl⟩))
 go_end0
 exact ⟨rfl,HQ⟩
structure NewRep (w:World) (e:Ending) (w':World):Prop where
 out:∃ b g c,e=.returned (.pointer (some ⟨b,0,none⟩))∧w'.heap[b]? = some (.cells #[.int .u32 0,.int .i32 0,.int .u32 0,.nilIface,.slice (some ⟨g,0,none⟩) 4 c] 204 (0,0))∧Kd.C Kd.string w' (some ⟨g,0,none⟩) 4 old4∧g≠b∧Below w.heap.size w w'∧w.heap.size≤b
theorem R_at {α:Type} {enc:α→Value} {h1:∀ x,(enc x).oneCell'=true} {W:World} {base:Nat} {ok:Nat→Prop} {A:Option Addr} {n c:Nat} {xs:List α} {e:TypeId} (h:(Kd.scalar enc h1).R e W base ok (.slice A n c) xs) (hn:0 < n):∃ g,A=some ⟨g,0,none⟩∧base≤g:=by
 obtain ⟨_,inner,ho,_⟩:=h
 rcases ho.2 with ⟨hv,h0⟩ | ⟨g,cap,cur,hv,hb,_⟩
 ·injection hv with _ h2 _
  omega
 ·injection hv with h2 _ _
  exact ⟨g,h2,hb⟩
set_option maxRecDepth 100000 in
set_option maxHeartbeats 1600000 in
theorem newRep_c (g0 c0:Nat) (w:World) (hA:Kd.C Kd.string w (some ⟨g0,0,none⟩) 4 old4) :
  Calls Tryz.prog 122 #[.slice (some ⟨g0,0,none⟩) 4 c0] w (NewRep w):=by
 have HA:=Aside0.mk hA
 clear hA
 go_enter Tryz.func122,Tryz.ntmps122
 go_wp2_with (first | ((with_reducible refine gate_builtin (b:=.append) (xs:=#[.const (.slice none 0 0),.tmp 8]) rfl ?_);at_builtin;refine Kd.R_append_row Value.string ByteArray.empty w.heap.size rfl (.const (.slice none 0 0)) (.tmp 8) 26 9 (.string ⟨#[]⟩) 16 rfl Tryz.underlying26 infoS rfl (by decide) (.slice none 0 0) [] old4 (some ⟨g0,0,none⟩) 4 _ (fun _=>True) rfl rfl (fun _ _=>trivial) ?aO HA.out (Below.refl _ _) (Nat.le_refl _) (by decide) ?_;(case aO=>exact Kd.R_nil _ _ _ _ _);intro v1 W1 ho hb hg hat;obtain ⟨A1,c1,rfl⟩:=Kd.R_slice ho;obtain ⟨g1,rfl,hg1⟩:=R_at ho (by decide);have R1:=Aside0.mk ho;have B1:=Aside0.mk hb;clear ho hb hg hat))
 go_ret
 have R2:=Kd.R_below R1.out (below_alloc (Below.refl _ _) (.cells #[Value.int IntKind.u32 0,Value.int IntKind.i32 0,Value.int IntKind.u32 0,Value.nilIface,Value.slice (some { block:=g1,off:=0 }) old4.length c1] 204))
 have L1:=Kd.R_lt R1.out g1 rfl
 exact ⟨W1.heap.size,g1,c1,rfl,blk_new W1 _,(Kd.R_reads' R2).2.2,by omega,below_alloc B1.out _,B1.out.size⟩
def spn:List UInt8→Nat
 | []=>0
 | c :: l=>(if c=34∨c=92 then 1 else 0)+spn l
def quoteL:List UInt8→List UInt8
 | []=>[]
 | c :: l=>if c=34∨c=92 then 92 :: c :: quoteL l else c :: quoteL l
theorem quoteL_len:∀ l,(quoteL l).length=l.length+spn l
 | []=>rfl
 | c :: l=>by
  have:=quoteL_len l
  unfold quoteL spn
  split <;> simp <;> omega
theorem quoteL_none:∀ l,spn l=0→quoteL l=l
 | [],_=>rfl
 | c :: l,h=>by
  unfold spn at h
  unfold quoteL
  split at h
  ·omega
  ·rename_i hc
   rw [if_neg hc,quoteL_none l (by omega)]
theorem spn_count:∀ l:List UInt8,spn l=l.count 92+l.count 34
 | []=>rfl
 | c :: l=>by
  have:=spn_count l
  unfold spn
  rw [List.count_cons,List.count_cons]
  by_cases h1:c=34
  ·subst h1;simp;omega
  ·by_cases h2:c=92
   ·subst h2;simp;omega
   ·simp [h1,h2];omega
theorem spn_append:∀ a b:List UInt8,spn (a++b)=spn a+spn b
 | [],b=>by simp [spn]
 | c :: a,b=>by
  have:=spn_append a b
  show (if c=34∨c=92 then 1 else 0)+spn (a++b)=(if c=34∨c=92 then 1 else 0)+spn a+spn b
  omega
theorem quoteL_append:∀ a b:List UInt8,quoteL (a++b)=quoteL a++quoteL b
 | [],b=>rfl
 | c :: a,b=>by
  have:=quoteL_append a b
  show (if c=34∨c=92 then 92 :: c :: quoteL (a++b) else c :: quoteL (a++b))=(if c=34∨c=92 then 92 :: c :: quoteL a else c :: quoteL a)++quoteL b
  split <;> simp [this]
theorem spn_le:∀ l,spn l≤l.length
 | []=>Nat.le_refl _
 | c :: l=>by
  have:=spn_le l
  unfold spn
  split <;> simp <;> omega
end Go.Proofs.YtoaafohpmhdjnaaGreatDoor.RX
