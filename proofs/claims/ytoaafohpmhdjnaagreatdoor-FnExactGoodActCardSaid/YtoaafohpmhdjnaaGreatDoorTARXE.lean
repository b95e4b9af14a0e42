import Derived.Test.YtoaafohpmhdjnaaGreatDoorTARXG
import Derived.Laws.CopyRow
import Derived.Laws.CopyOwn
import Derived.Lib.LazyBuf
import Derived.Test.YtoaafohpmhdjnaaGreatDoorTAPVGx0
/- strings.Replacer: the byte replacer at work. Conditions: none. -/
namespace Go.Proofs.YtoaafohpmhdjnaaGreatDoor.RX
open Go.RowKit Go.Proofs.YtoaafohpmhdjnaaGreatDoor.PVG Go.Proofs.YtoaafohpmhdjnaaGreatDoorW.PrintWords Go.Proofs.YtoaafohpmhdjnaaGreatDoorW.PrintLast Go.Proofs.YtoaafohpmhdjnaaGreatDoorW.PrintMore
set_option linter.unusedVariables false
set_option linter.unusedSimpArgs false
structure RepAt (W:World) (gB k1 k2 g c1 c2 c:Nat):Prop where
 f34:W.cell? ⟨gB,34,none⟩=some (.slice (some ⟨k2,0,none⟩) 2 c2)
 f92:W.cell? ⟨gB,92,none⟩=some (.slice (some ⟨k1,0,none⟩) 2 c1)
 fo:∀ j,j < 256→j≠34→j≠92→W.cell? ⟨gB,j,none⟩=some (.slice none 0 0)
 f256:W.cell? ⟨gB,256,none⟩=some (.slice (some ⟨g,0,none⟩) 2 c)
 a0:W.cell? ⟨k1,0,none⟩=some (.int .u8 92)
 a1:W.cell? ⟨k1,1,none⟩=some (.int .u8 92)
 b0:W.cell? ⟨k2,0,none⟩=some (.int .u8 92)
 b1:W.cell? ⟨k2,1,none⟩=some (.int .u8 34)
 s0:W.cell? ⟨g,0,none⟩=some (.string ⟨#[92]⟩)
 s1:W.cell? ⟨g,1,none⟩=some (.string ⟨#[34]⟩)
theorem IsRep.at_ {w00 W:World} {gB:Nat} (h:IsRep w00 W gB):∃ k1 k2 g c1 c2 c,RepAt W gB k1 k2 g c1 c2 c:=by
 obtain ⟨u1,u2,⟨k1,c1,cs1,fr1,rfl,h1,hc1⟩,⟨k2,c2,cs2,fr2,rfl,h2,hc2⟩,A,c,hG,hR,_,_⟩:=h.out
 obtain ⟨g,rfl,_⟩:=R_at hR (by decide)
 have hz:∀ j v,j < 256→upd (upd nilS 92 (.slice (some ⟨k1,0,none⟩) 2 c1)) 34 (.slice (some ⟨k2,0,none⟩) 2 c2) j=v→W.cell? ⟨gB,j,none⟩=some v:=fun j v hj e=>by
  rw [blk_cell hG j,bsr_get _ _ j hj]
  exact congrArg some e
 have q:∀ i:Int,0≤i→i < 2→W.cell? ((⟨g,0,none⟩:Addr).add i.toNat)=some (.string (rdOf ByteArray.empty [⟨#[92]⟩,⟨#[34]⟩] i)):=fun i h0 h1=>by
  obtain ⟨ad,e,hc⟩:=Kd.at_string (Kd.R_reads' hR).2.2 i h0 h1
  cases e
  exact hc
 refine ⟨k1,k2,g,c1,c2,c,?_,?_,?_,?_,?_,?_,?_,?_,?_,?_⟩
 ·exact hz 34 _ (by decide) rfl
 ·exact hz 92 _ (by decide) rfl
 ·intro j hj n1 n2
  exact hz j _ hj (by simp [upd,n1,n2,nilS])
 ·rw [blk_cell hG 256,bsr_last]
  rfl
 ·exact (Lib.cell_of_heap h1 0).trans (hc1 0 (by decide))
 ·exact (Lib.cell_of_heap h1 1).trans (hc1 1 (by decide))
 ·exact (Lib.cell_of_heap h2 0).trans (hc2 0 (by decide))
 ·exact (Lib.cell_of_heap h2 1).trans (hc2 1 (by decide))
 ·exact (q 0 (by omega) (by omega)).trans rfl
 ·exact (q 1 (by omega) (by omega)).trans rfl
theorem RepAt.below {W W':World} {gB k1 k2 g c1 c2 c:Nat} (h:RepAt W gB k1 k2 g c1 c2 c) (hb:Below W.heap.size W W'):RepAt W' gB k1 k2 g c1 c2 c:=by
 have q:∀ {a:Addr} {v:Value},W.cell? a=some v→W'.cell? a=some v:=fun {a v} e=>(hb.cell (World.block_lt_of_cell? W _ e)).trans e
 exact ⟨q h.f34,q h.f92,fun j h1 h2 h3=>q (h.fo j h1 h2 h3),q h.f256,q h.a0,q h.a1,q h.b0,q h.b1,q h.s0,q h.s1⟩
def bufc (l:List UInt8):Array Value:=(l.map (fun c=>Value.int .u8 c.toNat)).toArray
theorem bufc_size (l:List UInt8):(bufc l).size=l.length:=by simp [bufc]
theorem made_bufc (n:Nat):madeCells #[.int .u8 0] n=bufc (List.replicate n 0):=by
 apply Array.ext_getElem?
 intro i
 by_cases hi:i < n
 ·simp [madeCells,bufc,hi,Array.getElem?_eq_getElem,Nat.mod_one]
 ·rw [Array.getElem?_eq_none (by rw [size_madeCells];omega),Array.getElem?_eq_none (by rw [bufc_size];simp;omega)]
theorem mk_ev {ρ:Operand→Value} {o:Oper} {x:Operand} (n:Nat) (ho:o.op=.makeSlice 147 x x) (hx:ρ x=.int .i64 n) (hn:n≤281474976710656) (W:World):(execOp ρ o).run Tryz.prog W=.ok (.value (.slice (some ⟨W.heap.size,0,none⟩) n n)) (W.alloc (.cells (bufc (List.replicate n 0)) 5)):=by
 obtain ⟨i,hi,hzz⟩:=Option.map_eq_some_iff.1 info5
 simp only [Prod.mk.injEq] at hzz
 obtain ⟨h1,h2,h3⟩:=hzz
 have h:=run_make (P:=Tryz.prog) W 147 5 i (.int .u8 0) Tryz.underlying147 hi h1 .i64 .i64 n n (by omega) (by omega) (by rw [h3];omega) (by omega)
 rw [h2] at h
 have e:madeCells (Value.int .u8 0).cells ((n:Int).toNat * 1)=bufc (List.replicate n 0):=by rw [←made_bufc];simp [Value.cells]
 rw [e] at h
 unfold execOp
 rw [ho]
 simp only [hx,Sem.run_bind,h,Result.andThen_ok,Sem.run_pure,Int.toNat_natCast]
theorem bufc_set (l:List UInt8) (j:Nat) (c:UInt8):(bufc l).setIfInBounds j (.int .u8 c.toNat)=bufc (l.set j c):=by
 apply Array.ext_getElem?
 intro i
 simp [bufc,List.getElem?_set,List.getElem?_map]
theorem copy_run (W:World) {gb j n cp k c:Nat} {l:List UInt8} (a b:UInt8) (hn:2≤n) (hg:W.heap[gb]? = some (.cells (bufc l) 5 (0,0))) (hl:j+2≤l.length)
  (ha:W.cell? ⟨k,0,none⟩=some (.int .u8 a.toNat)) (hb:W.cell? ⟨k,1,none⟩=some (.int .u8 b.toNat)) :
  (Builtin.copy_ #[147,147] 3 #[.slice (some ⟨gb,j,none⟩) n cp,.slice (some ⟨k,0,none⟩) 2 c]).run Tryz.prog W=.ok (.int .i64 2) (W.setRow gb (bufc (l.take j++[a,b]++l.drop (j+2)))):=by
 have h:=run_copy_row (P:=Tryz.prog) W 147 147 3 5 gb j n cp ⟨k,0,none⟩ 2 c (bufc l) 5 [.int .u8 a.toNat,.int .u8 b.toNat] Tryz.underlying147 (by kernel_rfl) hg
  (by simp [Nat.min_def,hn]) (by
   intro i v hi
   match i with
   | 0=>simp at hi;subst hi;exact ha
   | 1=>simp at hi;subst hi;exact hb
   | i+2=>simp at hi) (by rw [bufc_size];simpa using hl) (by intro v hv;simp at hv;rcases hv with rfl | rfl <;> rfl)
 have e:((bufc l).toList.take j++[Value.int .u8 a.toNat,.int .u8 b.toNat]++(bufc l).toList.drop (j+[Value.int .u8 a.toNat,.int .u8 b.toNat].length)).toArray=bufc (l.take j++[a,b]++l.drop (j+2)):=by
  simp [bufc,List.map_take,List.map_drop]
 rw [e] at h
 exact h
theorem str_ev {ρ:Operand→Value} {o:Oper} {x:Operand} {W:World} {gb c:Nat} {l:List UInt8} (ho:o.op=.convert 147 9 x) (hx:ρ x=.slice (some ⟨gb,0,none⟩) l.length c) (hg:W.heap[gb]? = some (.cells (bufc l) 5 (0,0))) (hl:l.length≤9223372036854775807) :
  (execOp ρ o).run Tryz.prog W=.ok (.value (.string ⟨l.toArray⟩)) W:=by
 have hC:Kd.C (Kd.int .u8) W (some ⟨gb,0,none⟩) l.length (l.map fun b=>(b.toNat:Int)):=Kd.C_of_reads (d:=(0:Int)) ⟨by simp,hl,fun _=>⟨_,rfl,fun j hj=>by
  have e:W.cell? ((⟨gb,0,none⟩:Addr).add j)=W.cell? ⟨gb,j,none⟩:=by
   rcases Nat.eq_zero_or_pos j with rfl | h
   ·rfl
   ·rw [Addr.add,if_neg (by omega)];simp
  rw [e,blk_cell hg j]
  simp [bufc,hj,List.getD_eq_getElem?_getD]⟩⟩
 have hc:=Kd.C_string (c:=c) Tryz.underlying147 Tryz.underlying5 Tryz.underlying9 hC
 rw [Lib.Lz.strOfNums_map] at hc
 unfold execOp
 rw [ho]
 simp only [hx,Sem.run_bind]
 have hc':(convert 147 9 (.slice (some ⟨gb,0,none⟩) l.length c)).run Tryz.prog W=.ok (.string ⟨l.toArray⟩) W:=hc
 simp only [hc',Result.andThen_ok,Sem.run_pure]
theorem dlen (s:ByteArray):s.data.toList.length=s.size:=Array.length_toList
theorem bt_get (s:ByteArray) (i:Nat) (h:i < s.size):bt s i=((s.data.toList[i]'(by rw [dlen];exact h)).toNat:Int):=by
 unfold bt
 rw [dif_pos (show (i:Int).toNat < s.size from h)]
 rfl
theorem take_step (l:List UInt8) (i:Nat) (h:i < l.length):l.take (i+1)=l.take i++[l[i]]:=by
 rw [List.take_add_one,List.getElem?_eq_getElem h];rfl
theorem spn_step (l:List UInt8) (i:Nat) (h:i < l.length):spn (l.take (i+1))=spn (l.take i)+(if l[i]=34∨l[i]=92 then 1 else 0):=by
 rw [take_step l i h,spn_append];simp [spn]
theorem sp_iff (c:UInt8):(c=34∨c=92)↔((c.toNat:Int)=34∨(c.toNat:Int)=92):=by
 constructor
 ·rintro (rfl | rfl)
  ·left;rfl
  ·right;rfl
 ·rintro (h | h)
  ·left;exact UInt8.toNat_inj.1 (show c.toNat=34 by omega)
  ·right;exact UInt8.toNat_inj.1 (show c.toNat=92 by omega)
theorem cnt_c (s:ByteArray) (c:UInt8) (n:Nat) (h:s.data.toList.count c=n) (w:World):Calls Tryz.prog 185 #[.string s,.string ⟨#[c]⟩] w fun e w'=>e=.returned (.int .i64 (n:Int))∧w'=w:=by
 have:=Tryz.strings_Count_one s c w
 rw [Lib.countByte,h] at this
 exact this
theorem setRow_step {W:World} {gb J r r1:Nat} {q q1:List UInt8} {a b:UInt8} (h:W.heap[gb]? = some (.cells (bufc (q++List.replicate r 0)) 5 (0,0))) (hJ:J=q.length) (hr:r=r1+2) (hq:q1=q++[a,b]) :
  (W.drew.setRow gb (bufc ((q++List.replicate r 0).take J++[a,b]++(q++List.replicate r 0).drop (J+2)))).heap[gb]? = some (.cells (bufc (q1++List.replicate r1 0)) 5 (0,0)):=by
 subst hJ hr hq
 have e:(q++List.replicate (r1+2) (0:UInt8)).take q.length++[a,b]++(q++List.replicate (r1+2) 0).drop (q.length+2)=q++[a,b]++List.replicate r1 0:=by
  rw [List.take_left,List.drop_append]
  simp
 rw [e]
 exact setRow_heap W.drew gb _ _ 5 (0,0) h
theorem set_step {W:World} {gb J r r1 x:Nat} {q q1:List UInt8} {c:UInt8} (h:W.heap[gb]? = some (.cells (bufc (q++List.replicate r 0)) 5 (0,0))) (hJ:J=q.length) (hr:r=r1+1) (hq:q1=q++[c]) (hx:c.toNat=x) :
  (W.setCell ⟨gb,J,none⟩ (.int .u8 (x:Int))).heap[gb]? = some (.cells (bufc (q1++List.replicate r1 0)) 5 (0,0)):=by
 subst hJ hr hq hx
 have e:=blk_set h q.length (.int .u8 (c.toNat:Int))
 rw [bufc_set] at e
 have e2:(q++List.replicate (r1+1) (0:UInt8)).set q.length c=q++[c]++List.replicate r1 0:=by
  rw [List.set_append_right _ _ (Nat.le_refl _)]
  simp [List.replicate_succ]
 rw [e2] at e
 exact e
set_option maxRecDepth 100000 in
set_option maxHeartbeats 1600000 in
theorem replace_c (gB k1 k2 g c1 c2 c:Nat) (s:ByteArray) (w:World) (hR:RepAt w gB k1 k2 g c1 c2 c) (hs:s.size≤1073741824) :
  Calls Tryz.prog 294 #[.pointer (some ⟨gB,0,none⟩),.string s] w fun e w'=>e=.returned (.string ⟨(quoteL s.data.toList).toArray⟩)∧Below w.heap.size w w':=by
 have hsz:=dlen s
 have HR:=Aside0.mk hR
 have r256:=hR.f256
 have r0:=hR.s0
 have r1:=hR.s1
 have r34:=hR.f34
 have r92:=hR.f92
 clear hR
 go_enter Tryz.func294,Tryz.ntmps294
 have hnot:∀ (x:Bool) (w:World),(Op.unary .not (.bool x)).run Tryz.prog w=.ok (.bool (!x)) w:=fun _ _=>rfl
 have hnil:∀ W:World,(binOp .neq 147 (.slice none 0 0) (.slice none 0 0)).run Tryz.prog W=.ok (.bool false) W:=fun W=>by simpa using Go.run_neq_slice_nil (P:=Tryz.prog) (w:=W) 147 5 none 0 0 Tryz.underlying147
 have hnn:∀ (k c:Nat) (W:World),(binOp .neq 147 (.slice (some ⟨k,0,none⟩) 2 c) (.slice none 0 0)).run Tryz.prog W=.ok (.bool true) W:=fun k c W=>by simpa using Go.run_neq_slice_nil (P:=Tryz.prog) (w:=W) 147 5 (some ⟨k,0,none⟩) 2 c Tryz.underlying147
 have hb92:∀ h:0 < (⟨#[92]⟩:ByteArray).size,((⟨#[92]⟩:ByteArray)[0]'h).toNat=92:=fun _=>rfl
 have hb34:∀ h:0 < (⟨#[34]⟩:ByteArray).size,((⟨#[34]⟩:ByteArray)[0]'h).toNat=34:=fun _=>rfl
 go_upto_if 26 with (fail)
 go_cut [5,6] (fun v5 v6 wx=>v5=.int .i64 ((s.size:Int)+(spn s.data.toList:Int))∧v6=.bool (decide (spn s.data.toList≠0))∧Drawn0 w wx)
 case first =>
  cases hb:decide ((16:Int)≤(s.size:Int)) with
  | true =>
   obtain ⟨n1,hn1⟩:∃ n,s.data.toList.count 92=n:=⟨_,rfl⟩
   obtain ⟨n2,hn2⟩:∃ n,s.data.toList.count 34=n:=⟨_,rfl⟩
   have hsp:spn s.data.toList=n1+n2:=by rw [spn_count,hn1,hn2]
   have hle:spn s.data.toList≤s.size:=by have:=spn_le s.data.toList;omega
   rw [hsp] at hle
   go_wp2
   go_loopg [5,6,32] 2 (fun kq v5 v6 v32 w'=>Drawn0 w w'∧(kq=2∧v5=.int .i64 (s.size:Int)∧v6=.bool false∧v32=.int .i64 0∨kq=1∧v5=.int .i64 ((s.size:Int)+(n1:Int))∧v6=.bool (decide (n1≠0))∧v32=.int .i64 1∨kq=0∧v5=.int .i64 ((s.size:Int)+((n1+n2:Nat):Int))∧v6=.bool (decide (n1+n2≠0))∧v32=.int .i64 2))
   case atStart=>exact ⟨Drawn0.refl _,.inl ⟨rfl,rfl,rfl,rfl⟩⟩
   case round =>
    obtain ⟨⟨m1,rfl⟩,⟨rfl,rfl,rfl,rfl⟩ | ⟨rfl,rfl,rfl,rfl⟩ | ⟨rfl,rfl,rfl,rfl⟩⟩:=hrel
    ·cases hz:decide ((n1:Int)=0) with
     | true =>
      have hz':n1=0:=by have:=of_decide_eq_true hz;omega
      go_wp2_with (go_at_call 185;refine (cnt_c s 92 n1 hn1 _).mono ?_;rintro e w' ⟨rfl,rfl⟩)
      go_roundg 1
      case measure=>omega
      case rel=>exact ⟨by repeat (first | exact Drawn0.refl _ | apply Drawn0.step),.inr (.inl ⟨rfl,by first | rfl | (congr 1;done) | (congr 1;omega) | (congr 1;unfold wrap64;omega) | (congr 1;simp;done) | (congr 1;simp;omega),by first | rfl | (congr 1;simp [hz'];done),rfl⟩)⟩
     | false =>
      have hz':n1≠0:=by have:=of_decide_eq_false hz;omega
      go_wp2_with (go_at_call 185;refine (cnt_c s 92 n1 hn1 _).mono ?_;rintro e w' ⟨rfl,rfl⟩)
      go_quiet (fail)
      go_wp2
      go_roundg 1
      case measure=>omega
      case rel=>exact ⟨by repeat (first | exact Drawn0.refl _ | apply Drawn0.step),.inr (.inl ⟨rfl,by first | rfl | (congr 1;done) | (congr 1;omega) | (congr 1;unfold wrap64;omega) | (congr 1;simp;done) | (congr 1;simp;omega),by first | rfl | (congr 1;simp [hz'];done),rfl⟩)⟩
    ·cases hz:decide ((n2:Int)=0) with
     | true =>
      have hz':n2=0:=by have:=of_decide_eq_true hz;omega
      go_wp2_with (go_at_call 185;refine (cnt_c s 34 n2 hn2 _).mono ?_;rintro e w' ⟨rfl,rfl⟩)
      go_roundg 0
      case measure=>omega
      case rel=>exact ⟨by repeat (first | exact Drawn0.refl _ | apply Drawn0.step),.inr (.inr ⟨rfl,by first | rfl | (congr 1;done) | (congr 1;omega) | (congr 1;unfold wrap64;omega) | (congr 1;simp;done) | (congr 1;simp;omega),by first | rfl | (congr 1;simp [hz'];done),rfl⟩)⟩
     | false =>
      have hz':n2≠0:=by have:=of_decide_eq_false hz;omega
      go_wp2_with (go_at_call 185;refine (cnt_c s 34 n2 hn2 _).mono ?_;rintro e w' ⟨rfl,rfl⟩)
      go_quiet (fail)
      go_wp2
      go_roundg 0
      case measure=>omega
      case rel=>exact ⟨by repeat (first | exact Drawn0.refl _ | apply Drawn0.step),.inr (.inr ⟨rfl,by first | rfl | (congr 1;done) | (congr 1;omega) | (congr 1;unfold wrap64;omega) | (congr 1;simp;done) | (congr 1;simp;omega),by first | rfl | (congr 1;simp [hz'];done),rfl⟩)⟩
    ·go_wp2
     go_meet
     rw [hsp]
     exact ⟨rfl,rfl,by repeat (first | exact Drawn0.refl _ | apply Drawn0.step)⟩
  | false =>
   have hle:spn s.data.toList≤s.size:=by have:=spn_le s.data.toList;omega
   go_wp2
   go_loopg [5,6,10] s.size (fun kq v5 v6 v10 w'=>w'=w∧∃ i,kq=s.size - i∧i≤s.size∧v5=.int .i64 ((s.size:Int)+((spn (s.data.toList.take i):Nat):Int))∧v6=.bool (decide (spn (s.data.toList.take i)≠0))∧v10=.int .i64 (i:Int))
   case atStart=>exact ⟨rfl,0,by omega,by omega,by simp [spn],by simp [spn],rfl⟩
   case round =>
    obtain ⟨rfl,i,hk,hi,rfl,rfl,rfl⟩:=hrel
    by_cases hlt:i < s.size
    ·have hbt:=bt_get s i hlt
     have hst:=spn_step s.data.toList i (by rw [hsz];exact hlt)
     have hil:decide ((i:Int) < (s.size:Int))=true:=decide_eq_true (by omega)
     have p0:0≤(i:Int):=by omega
     have q0:(i:Int) < (s.size:Int):=by omega
     replace p0:=eq_true p0
     replace q0:=eq_true q0
     by_cases h34:bt s i=34
     ·have hx:∀ h:i < s.size,(s[i]'h).toNat=34:=fun h=>by have:=bt_at s i h;simp at this;omega
      have hst':spn (s.data.toList.take (i+1))=spn (s.data.toList.take i)+1:=by rw [hst,if_pos ((sp_iff _).2 (by rw [←hbt];exact .inl h34))]
      have hle2:spn (s.data.toList.take i)≤i:=by have:=spn_le (s.data.toList.take i);rw [List.length_take] at this;omega
      clear hst hbt h34
      go_wp2
      go_roundg (s.size - (i+1))
      case measure=>omega
      case rel=>exact ⟨rfl,i+1,rfl,by omega,by rw [hst'];first | rfl | (congr 1;done) | (congr 1;omega) | (congr 1;unfold wrap64;omega) | (congr 1;simp;done) | (congr 1;simp;omega),by rw [hst'];first | rfl | (congr 1;done) | (congr 1;omega) | (congr 1;unfold wrap64;omega) | (congr 1;simp;done) | (congr 1;simp;omega),by first | rfl | (congr 1;done) | (congr 1;omega) | (congr 1;unfold wrap64;omega) | (congr 1;simp;done) | (congr 1;simp;omega)⟩
     ·by_cases h92:bt s i=92
      ·have hx:∀ h:i < s.size,(s[i]'h).toNat=92:=fun h=>by have:=bt_at s i h;simp at this;omega
       have hst':spn (s.data.toList.take (i+1))=spn (s.data.toList.take i)+1:=by rw [hst,if_pos ((sp_iff _).2 (by rw [←hbt];exact .inr h92))]
       have hle2:spn (s.data.toList.take i)≤i:=by have:=spn_le (s.data.toList.take i);rw [List.length_take] at this;omega
       clear hst hbt h34 h92
       go_wp2
       go_roundg (s.size - (i+1))
       case measure=>omega
       case rel=>exact ⟨rfl,i+1,rfl,by omega,by rw [hst'];first | rfl | (congr 1;done) | (congr 1;omega) | (congr 1;unfold wrap64;omega) | (congr 1;simp;done) | (congr 1;simp;omega),by rw [hst'];first | rfl | (congr 1;done) | (congr 1;omega) | (congr 1;unfold wrap64;omega) | (congr 1;simp;done) | (congr 1;simp;omega),by first | rfl | (congr 1;done) | (congr 1;omega) | (congr 1;unfold wrap64;omega) | (congr 1;simp;done) | (congr 1;simp;omega)⟩
      ·obtain ⟨x,hxx⟩:∃ x:Nat,bt s i=(x:Int):=⟨(bt s i).toNat,by have:=bt_range s i;omega⟩
       have hx256:x < 256:=by have:=bt_range s i;omega
       have hx:∀ h:i < s.size,(s[i]'h).toNat=x:=fun h=>by have:=bt_at s i h;simp at this;omega
       have hst':spn (s.data.toList.take (i+1))=spn (s.data.toList.take i):=by
        rw [hst,if_neg (fun h=>by rcases (sp_iff _).1 h with h | h <;> rw [←hbt] at h <;> contradiction)]
        rfl
       have hfo:=HR.out.fo x hx256 (by omega) (by omega)
       clear hst hbt h34 h92
       go_wp2
       go_roundg (s.size - (i+1))
       case measure=>omega
       case rel=>exact ⟨rfl,i+1,rfl,by omega,by rw [hst'],by rw [hst'],by first | rfl | (congr 1;done) | (congr 1;omega) | (congr 1;unfold wrap64;omega) | (congr 1;simp;done) | (congr 1;simp;omega)⟩
    ·have hil:decide ((i:Int) < (s.size:Int))=false:=decide_eq_false (by omega)
     have hi':i=s.size:=by omega
     go_wp2
     go_meet
     rw [hi',List.take_of_length_le (by rw [hsz];omega)]
     exact ⟨rfl,rfl,Drawn0.refl _⟩
 case rest =>
  obtain ⟨rfl,rfl,m,rfl⟩:=hcut
  have hle:spn s.data.toList≤s.size:=by have:=spn_le s.data.toList;omega
  cases hz:decide (spn s.data.toList≠0) with
  | false =>
   have hz':spn s.data.toList=0:=by have:=of_decide_eq_false hz;omega
   go_wp2
   go_ret
   refine ⟨?_,(Drawn0.mk ⟨_,rfl⟩:Drawn0 w (w.drewN _)).below⟩
   rw [quoteL_none _ hz',Array.toArray_toList]
   rfl
  | true =>
   have hz':spn s.data.toList≠0:=of_decide_eq_true hz
   obtain ⟨N,hN⟩:∃ N:Nat,N=s.size+spn s.data.toList:=⟨_,rfl⟩
   have hN2:N≤2147483648:=by omega
   have hN3:(quoteL s.data.toList).length=N:=by rw [quoteL_len,hsz,hN]
   rw [show ((s.size:Int)+(spn s.data.toList:Int))=(N:Int) by omega]
   clear hN hz hz' hle
   go_upto_region 24 with (first | ((with_reducible refine gate_dst (N:=85) rfl ?_);refine Kd.event_run rfl (mk_ev N rfl rfl (by omega) _) ?_;obtain ⟨W1,hW1⟩:∃ W1,W1=(w.drewN m).alloc (.cells (bufc (List.replicate N 0)) 5):=⟨_,rfl⟩;obtain ⟨gb,hgb⟩:∃ gb,gb=(w.drewN m).heap.size:=⟨_,rfl⟩;have B1:=Aside0.mk (show Below w.heap.size w W1 by rw [hW1];exact below_alloc (Drawn0.mk ⟨_,rfl⟩:Drawn0 w (w.drewN m)).below _);have K1:=Aside0.mk (show W1.heap[gb]? = some (.cells (bufc (List.replicate N 0)) 5 (0,0)) by rw [hW1,hgb];exact blk_new _ _);have G1:=Aside0.mk (show w.heap.size≤gb by rw [hgb];exact (Drawn0.mk ⟨_,rfl⟩:Drawn0 w (w.drewN m)).below.size);rw [←hW1,←hgb];clear hW1 hgb))
   go_loopg [13,14] s.size (fun kq v13 v14 w'=>∃ i:Nat,kq=s.size - i∧i≤s.size∧v13=.int .i64 ((quoteL (s.data.toList.take i)).length:Int)∧v14=.int .i64 (i:Int)∧Aside0 (Below w.heap.size w w'∧w'.heap[gb]? = some (.cells (bufc (quoteL (s.data.toList.take i)++List.replicate (quoteL (s.data.toList.drop i)).length 0)) 5 (0,0))))
   case atStart=>exact ⟨0,rfl,by omega,rfl,rfl,⟨B1.out,by simp [quoteL,hN3];exact K1.out⟩⟩
   case round =>
    obtain ⟨i,hk,hi,rfl,rfl,HX⟩:=hrel
    by_cases hlt:i < s.size
    ·have hbt:=bt_get s i hlt
     have hq:=take_step s.data.toList i (by rw [hsz];exact hlt)
     have hd:s.data.toList.drop i=s.data.toList[i]'(by rw [hsz];exact hlt) :: s.data.toList.drop (i+1):=List.drop_eq_getElem_cons (by rw [hsz];exact hlt)
     have hN4:(quoteL (s.data.toList.take i)).length+(quoteL (s.data.toList.drop i)).length=N:=by rw [←hN3,←List.length_append,←quoteL_append,List.take_append_drop]
     have hil:decide ((i:Int) < (s.size:Int))=true:=decide_eq_true (by omega)
     have p0:0≤(i:Int):=by omega
     have q0:(i:Int) < (s.size:Int):=by omega
     replace p0:=eq_true p0
     replace q0:=eq_true q0
     obtain ⟨J,hJ⟩:∃ J,J=(quoteL (s.data.toList.take i)).length:=⟨_,rfl⟩
     have hJA:=Aside0.mk hJ
     have RR:=Aside0.mk (HR.out.below HX.out.1)
     have hnil:∀ W:World,(binOp .neq 147 (.slice none 0 0) (.slice none 0 0)).run Tryz.prog W=.ok (.bool false) W:=fun W=>by simpa using Go.run_neq_slice_nil (P:=Tryz.prog) (w:=W) 147 5 none 0 0 Tryz.underlying147
     have hnn:∀ (k c:Nat) (W:World),(binOp .neq 147 (.slice (some ⟨k,0,none⟩) 2 c) (.slice none 0 0)).run Tryz.prog W=.ok (.bool true) W:=fun k c W=>by simpa using Go.run_neq_slice_nil (P:=Tryz.prog) (w:=W) 147 5 (some ⟨k,0,none⟩) 2 c Tryz.underlying147
     rw [←hJ]
     rw [←hJ] at hN4
     clear hJ
     by_cases h34:bt s i=34
     ·have hx:∀ h:i < s.size,(s[i]'h).toNat=34:=fun h=>by have:=bt_at s i h;simp at this;omega
      have hc:s.data.toList[i]'(by rw [hsz];exact hlt)=34:=UInt8.toNat_inj.1 (show _=34 by omega)
      rw [hc] at hq hd
      have g34:=RR.out.f34
      have hJ2:decide ((J:Int)≤(N:Int))=true:=decide_eq_true (by omega)
      have pJ:=eq_true (show 0≤(J:Int) by omega)
      have qJ:=eq_true (show (J:Int)≤(N:Int) by omega)
      have hdl:(quoteL (s.data.toList.drop i)).length=(quoteL (s.data.toList.drop (i+1))).length+2:=by rw [hd];simp [quoteL]
      have hql:quoteL (s.data.toList.take (i+1))=quoteL (s.data.toList.take i)++[92,34]:=by rw [hq,quoteL_append];simp [quoteL]
      have hln:J+2≤(quoteL (s.data.toList.take i)++List.replicate (quoteL (s.data.toList.drop i)).length 0).length:=by rw [List.length_append,List.length_replicate,hdl,←hJA.out];omega
      clear hbt h34 hc
      have hcopy:=copy_run wr.drew (gb:=gb) (j:=J) (n:=N - J) (cp:=N - J) (k:=k2) (c:=c2) (l:=quoteL (s.data.toList.take i)++List.replicate (quoteL (s.data.toList.drop i)).length 0) 92 34 (by omega) HX.out.2 hln RR.out.b0 RR.out.b1
      obtain ⟨W2,hW2⟩:∃ W2,W2=wr.drew.setRow gb (bufc ((quoteL (s.data.toList.take i)++List.replicate (quoteL (s.data.toList.drop i)).length 0).take J++[92,34]++(quoteL (s.data.toList.take i)++List.replicate (quoteL (s.data.toList.drop i)).length 0).drop (J+2))):=⟨_,rfl⟩
      rw [←hW2] at hcopy
      have HW2:=Aside0.mk hW2
      have nJ:¬(N=J):=by omega
      have HN:=Aside0.mk (And.intro hdl (And.intro hql hN4))
      clear hW2 hdl hql hln hN4 hq hd
      go_wp2
      go_region_with (fail)
      go_wp2
      go_roundg (s.size - (i+1))
      case measure=>omega
      case rel=>exact ⟨i+1,rfl,by omega,by have h1:=HN.out.1;have h2:=HN.out.2.2;rw [HN.out.2.1,List.length_append,←hJA.out];congr 1;unfold wrap64;simp;omega,by first | rfl | (congr 1;done) | (congr 1;omega),⟨by rw [HW2.out];exact below_setRow (below_drew1 HX.out.1) G1.out _,by rw [HW2.out];exact setRow_step HX.out.2 hJA.out HN.out.1 HN.out.2.1⟩⟩
     ·by_cases h92:bt s i=92
      ·have hx:∀ h:i < s.size,(s[i]'h).toNat=92:=fun h=>by have:=bt_at s i h;simp at this;omega
       have hc:s.data.toList[i]'(by rw [hsz];exact hlt)=92:=UInt8.toNat_inj.1 (show _=92 by omega)
       rw [hc] at hq hd
       have g92:=RR.out.f92
       have hJ2:decide ((J:Int)≤(N:Int))=true:=decide_eq_true (by omega)
       have pJ:=eq_true (show 0≤(J:Int) by omega)
       have qJ:=eq_true (show (J:Int)≤(N:Int) by omega)
       have hdl:(quoteL (s.data.toList.drop i)).length=(quoteL (s.data.toList.drop (i+1))).length+2:=by rw [hd];simp [quoteL]
       have hql:quoteL (s.data.toList.take (i+1))=quoteL (s.data.toList.take i)++[92,92]:=by rw [hq,quoteL_append];simp [quoteL]
       have hln:J+2≤(quoteL (s.data.toList.take i)++List.replicate (quoteL (s.data.toList.drop i)).length 0).length:=by rw [List.length_append,List.length_replicate,hdl,←hJA.out];omega
       clear hbt h34 h92 hc
       have hcopy:=copy_run wr.drew (gb:=gb) (j:=J) (n:=N - J) (cp:=N - J) (k:=k1) (c:=c1) (l:=quoteL (s.data.toList.take i)++List.replicate (quoteL (s.data.toList.drop i)).length 0) 92 92 (by omega) HX.out.2 hln RR.out.a0 RR.out.a1
       obtain ⟨W2,hW2⟩:∃ W2,W2=wr.drew.setRow gb (bufc ((quoteL (s.data.toList.take i)++List.replicate (quoteL (s.data.toList.drop i)).length 0).take J++[92,92]++(quoteL (s.data.toList.take i)++List.replicate (quoteL (s.data.toList.drop i)).length 0).drop (J+2))):=⟨_,rfl⟩
       rw [←hW2] at hcopy
       have HW2:=Aside0.mk hW2
       have nJ:¬(N=J):=by omega
       have HN:=Aside0.mk (And.intro hdl (And.intro hql hN4))
       clear hW2 hdl hql hln hN4 hq hd
       go_wp2
       go_region_with (fail)
       go_wp2
       go_roundg (s.size - (i+1))
       case measure=>omega
       case rel=>exact ⟨i+1,rfl,by omega,by have h1:=HN.out.1;have h2:=HN.out.2.2;rw [HN.out.2.1,List.length_append,←hJA.out];congr 1;unfold wrap64;simp;omega,by first | rfl | (congr 1;done) | (congr 1;omega),⟨by rw [HW2.out];exact below_setRow (below_drew1 HX.out.1) G1.out _,by rw [HW2.out];exact setRow_step HX.out.2 hJA.out HN.out.1 HN.out.2.1⟩⟩
      ·obtain ⟨x,hxx⟩:∃ x:Nat,bt s i=(x:Int):=⟨(bt s i).toNat,by have:=bt_range s i;omega⟩
       have hx256:x < 256:=by have:=bt_range s i;omega
       have hx:∀ h:i < s.size,(s[i]'h).toNat=x:=fun h=>by have:=bt_at s i h;simp at this;omega
       have hns:¬(s.data.toList[i]'(by rw [hsz];exact hlt)=34∨s.data.toList[i]'(by rw [hsz];exact hlt)=92):=fun h=>by rcases (sp_iff _).1 h with h | h <;> rw [←hbt] at h <;> contradiction
       obtain ⟨c0,hc0⟩:∃ c0,c0=s.data.toList[i]'(by rw [hsz];exact hlt):=⟨_,rfl⟩
       have hcx:=Aside0.mk (show c0.toNat=x by rw [hc0];omega)
       rw [←hc0] at hns hq hd
       have gx:=RR.out.fo x hx256 (by omega) (by omega)
       have pJ:=eq_true (show 0≤(J:Int) by omega)
       have hdl:(quoteL (s.data.toList.drop i)).length=(quoteL (s.data.toList.drop (i+1))).length+1:=by rw [hd];simp [quoteL,hns]
       have hql:quoteL (s.data.toList.take (i+1))=quoteL (s.data.toList.take i)++[c0]:=by rw [hq,quoteL_append];simp [quoteL,hns]
       have qJ:=eq_true (show (J:Int) < (N:Int) by omega)
       have hcJ:wr.cell? ⟨gb,J,none⟩=some (.int .u8 0):=by
        rw [blk_cell HX.out.2 J,hJA.out]
        simp [bufc,hdl]
       have hzJ:=blk_frozen HX.out.2 J
       have HN:=Aside0.mk (And.intro hdl (And.intro hql hN4))
       clear hdl hql hN4 hq hd hbt h34 h92 hc0
       go_wp2
       go_roundg (s.size - (i+1))
       case measure=>omega
       case rel=>exact ⟨i+1,rfl,by omega,by have h1:=HN.out.1;have h2:=HN.out.2.2;rw [HN.out.2.1,List.length_append,←hJA.out];congr 1;unfold wrap64;simp;omega,by first | rfl | (congr 1;done) | (congr 1;omega),⟨below_set HX.out.1 G1.out,set_step HX.out.2 hJA.out HN.out.1 HN.out.2.1 hcx.out⟩⟩
    ·have hil:decide ((i:Int) < (s.size:Int))=false:=decide_eq_false (by omega)
     have hi':i=s.size:=by omega
     have HB:=Aside0.mk HX.out.1
     have HY:=Aside0.mk (show wr.heap[gb]? = some (.cells (bufc (quoteL s.data.toList)) 5 (0,0)) by
      have:=HX.out.2
      rw [hi',List.take_of_length_le (by rw [hsz];omega),List.drop_eq_nil_of_le (by rw [hsz];omega)] at this
      simpa [quoteL] using this)
     have HL:=Aside0.mk hN3
     clear HX hN3
     subst hi'
     go_wp2_with (first | ((with_reducible refine gate_dst (N:=121) rfl ?_);refine Kd.event_run rfl (str_ev (gb:=gb) (c:=N) (l:=quoteL s.data.toList) rfl (by rw [HL.out];rfl) HY.out (by rw [HL.out];omega)) ?_))
     go_ret
     exact ⟨rfl,HB.out⟩
end Go.Proofs.YtoaafohpmhdjnaaGreatDoor.RX
