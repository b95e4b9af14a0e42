import Derived.Test.YtoaafohpmhdjnaaGreatDoorTARYB
import Derived.Test.YtoaafohpmhdjnaaGreatDoorTARXE
/- strings.Replacer: the escaping byte replacer at work. Conditions: none. -/
namespace Go.Proofs.YtoaafohpmhdjnaaGreatDoor.RY
open Go.RowKit Go.Proofs.YtoaafohpmhdjnaaGreatDoor.RX Go.Proofs.YtoaafohpmhdjnaaGreatDoor.PVG Go.Proofs.YtoaafohpmhdjnaaGreatDoorW.PrintWords Go.Proofs.YtoaafohpmhdjnaaGreatDoorW.PrintLast Go.Proofs.YtoaafohpmhdjnaaGreatDoorW.PrintMore
set_option linter.unusedVariables false
set_option linter.unusedSimpArgs false
def spE:List UInt8→Nat
 | []=>0
 | c :: l=>(if c=126∨c=47 then 1 else 0)+spE l
def escL:List UInt8→List UInt8
 | []=>[]
 | c :: l=>if c=126 then 126 :: 48 :: escL l else if c=47 then 126 :: 49 :: escL l else c :: escL l
theorem escL_len:∀ l,(escL l).length=l.length+spE l
 | []=>rfl
 | c :: l=>by
  have:=escL_len l
  unfold spE escL
  by_cases h1:c=126
  ·simp [h1];omega
  ·by_cases h2:c=47
   ·simp [h2];omega
   ·simp [h1,h2];omega
theorem escL_none:∀ l,spE l=0→escL l=l
 | [],_=>rfl
 | c :: l,h=>by
  unfold spE at h
  unfold escL
  split at h
  ·omega
  ·rename_i hc
   rw [if_neg (not_or.1 hc).1,if_neg (not_or.1 hc).2,escL_none l (by omega)]
theorem spE_count:∀ l:List UInt8,spE l=l.count 47+l.count 126
 | []=>rfl
 | c :: l=>by
  have:=spE_count l
  unfold spE
  rw [List.count_cons,List.count_cons]
  by_cases h1:c=126
  ·subst h1;simp;omega
  ·by_cases h2:c=47
   ·subst h2;simp;omega
   ·simp [h1,h2];omega
theorem spE_append:∀ a b:List UInt8,spE (a++b)=spE a+spE b
 | [],b=>by simp [spE]
 | c :: a,b=>by
  have:=spE_append a b
  show (if c=126∨c=47 then 1 else 0)+spE (a++b)=(if c=126∨c=47 then 1 else 0)+spE a+spE b
  omega
theorem escL_append:∀ a b:List UInt8,escL (a++b)=escL a++escL b
 | [],b=>rfl
 | c :: a,b=>by
  have:=escL_append a b
  show (if c=126 then 126 :: 48 :: escL (a++b) else if c=47 then 126 :: 49 :: escL (a++b) else c :: escL (a++b))=(if c=126 then 126 :: 48 :: escL a else if c=47 then 126 :: 49 :: escL a else c :: escL a)++escL b
  split
  ·simp [this]
  ·split <;> simp [this]
theorem spE_le:∀ l,spE l≤l.length
 | []=>Nat.le_refl _
 | c :: l=>by
  have:=spE_le l
  unfold spE
  split <;> simp <;> omega
structure RepEAt (W:World) (gB k1 k2 g c1 c2 c:Nat):Prop where
 f34:W.cell? ⟨gB,126,none⟩=some (.slice (some ⟨k2,0,none⟩) 2 c2)
 f92:W.cell? ⟨gB,47,none⟩=some (.slice (some ⟨k1,0,none⟩) 2 c1)
 fo:∀ j,j < 256→j≠126→j≠47→W.cell? ⟨gB,j,none⟩=some (.slice none 0 0)
 f256:W.cell? ⟨gB,256,none⟩=some (.slice (some ⟨g,0,none⟩) 2 c)
 a0:W.cell? ⟨k1,0,none⟩=some (.int .u8 126)
 a1:W.cell? ⟨k1,1,none⟩=some (.int .u8 49)
 b0:W.cell? ⟨k2,0,none⟩=some (.int .u8 126)
 b1:W.cell? ⟨k2,1,none⟩=some (.int .u8 48)
 s0:W.cell? ⟨g,0,none⟩=some (.string ⟨#[47]⟩)
 s1:W.cell? ⟨g,1,none⟩=some (.string ⟨#[126]⟩)
theorem IsRepE.at_ {w00 W:World} {gB:Nat} (h:IsRepE w00 W gB):∃ k1 k2 g c1 c2 c,RepEAt W gB k1 k2 g c1 c2 c:=by
 obtain ⟨u1,u2,⟨k1,c1,cs1,fr1,rfl,h1,hc1⟩,⟨k2,c2,cs2,fr2,rfl,h2,hc2⟩,A,c,hG,hR,_,_⟩:=h.out
 obtain ⟨g,rfl,_⟩:=R_at hR (by decide)
 have hz:∀ j v,j < 256→upd (upd nilS 47 (.slice (some ⟨k1,0,none⟩) 2 c1)) 126 (.slice (some ⟨k2,0,none⟩) 2 c2) j=v→W.cell? ⟨gB,j,none⟩=some v:=fun j v hj e=>by
  rw [blk_cell hG j,bsr_get _ _ j hj]
  exact congrArg some e
 have q:∀ i:Int,0≤i→i < 2→W.cell? ((⟨g,0,none⟩:Addr).add i.toNat)=some (.string (rdOf ByteArray.empty [⟨#[47]⟩,⟨#[126]⟩] i)):=fun i h0 h1=>by
  obtain ⟨ad,e,hc⟩:=Kd.at_string (Kd.R_reads' hR).2.2 i h0 h1
  cases e
  exact hc
 refine ⟨k1,k2,g,c1,c2,c,?_,?_,?_,?_,?_,?_,?_,?_,?_,?_⟩
 ·exact hz 126 _ (by decide) rfl
 ·exact hz 47 _ (by decide) rfl
 ·intro j hj n1 n2
  exact hz j _ hj (by simp [upd,n1,n2,nilS])
 ·rw [blk_cell hG 256,bsr_last]
  rfl
 ·exact (Lib.cell_of_heap h1 0).trans (hc1 0 (by decide))
 ·exact (Lib.cell_of_heap h1 1).trans (hc1 1 (by decide))
 ·exact (Lib.cell_of_heap h2 0).trans (hc2 0 (by decide))
 ·exact (Lib.cell_of_heap h2 1).trans (hc2 1 (by decide))
 ·exact (q 0 (by omega) (by omega)).trans rfl
 ·exact (q 1 (by omega) (by omega)).trans rfl
theorem RepEAt.below {W W':World} {gB k1 k2 g c1 c2 c:Nat} (h:RepEAt W gB k1 k2 g c1 c2 c) (hb:Below W.heap.size W W'):RepEAt W' gB k1 k2 g c1 c2 c:=by
 have q:∀ {a:Addr} {v:Value},W.cell? a=some v→W'.cell? a=some v:=fun {a v} e=>(hb.cell (World.block_lt_of_cell? W _ e)).trans e
 exact ⟨q h.f34,q h.f92,fun j h1 h2 h3=>q (h.fo j h1 h2 h3),q h.f256,q h.a0,q h.a1,q h.b0,q h.b1,q h.s0,q h.s1⟩
theorem spE_step (l:List UInt8) (i:Nat) (h:i < l.length):spE (l.take (i+1))=spE (l.take i)+(if l[i]=126∨l[i]=47 then 1 else 0):=by
 rw [take_step l i h,spE_append];simp [spE]
theorem sp_iffE (c:UInt8):(c=126∨c=47)↔((c.toNat:Int)=126∨(c.toNat:Int)=47):=by
 constructor
 ·rintro (rfl | rfl)
  ·left;rfl
  ·right;rfl
 ·rintro (h | h)
  ·left;exact UInt8.toNat_inj.1 (show c.toNat=126 by omega)
  ·right;exact UInt8.toNat_inj.1 (show c.toNat=47 by omega)
set_option maxRecDepth 100000 in
set_option maxHeartbeats 1600000 in
theorem replaceE_c (gB k1 k2 g c1 c2 c:Nat) (s:ByteArray) (w:World) (hR:RepEAt w gB k1 k2 g c1 c2 c) (hs:s.size≤1073741824) :
  Calls Tryz.prog 294 #[.pointer (some ⟨gB,0,none⟩),.string s] w fun e w'=>e=.returned (.string ⟨(escL s.data.toList).toArray⟩)∧Below w.heap.size w w':=by
 have hsz:=dlen s
 have HR:=Aside0.mk hR
 have r256:=hR.f256
 have r0:=hR.s0
 have r1:=hR.s1
 have r34:=hR.f34
 have r92:=hR.f92
 clear hR
 go_enter Tryz.func294,Tryz.ntmps294
 have hnot:∀ (x:Bool) (w:World),(Op.unary .not (.bool x)).run Tryz.prog w=.ok (.bool (!x)) w:=fun _ _=>rfl
 have hnil:∀ W:World,(binOp .neq 147 (.slice none 0 0) (.slice none 0 0)).run Tryz.prog W=.ok (.bool false) W:=fun W=>by simpa using Go.run_neq_slice_nil (P:=Tryz.prog) (w:=W) 147 5 none 0 0 Tryz.underlying147
 have hnn:∀ (k c:Nat) (W:World),(binOp .neq 147 (.slice (some ⟨k,0,none⟩) 2 c) (.slice none 0 0)).run Tryz.prog W=.ok (.bool true) W:=fun k c W=>by simpa using Go.run_neq_slice_nil (P:=Tryz.prog) (w:=W) 147 5 (some ⟨k,0,none⟩) 2 c Tryz.underlying147
 have hb92:∀ h:0 < (⟨#[47]⟩:ByteArray).size,((⟨#[47]⟩:ByteArray)[0]'h).toNat=47:=fun _=>rfl
 have hb34:∀ h:0 < (⟨#[126]⟩:ByteArray).size,((⟨#[126]⟩:ByteArray)[0]'h).toNat=126:=fun _=>rfl
 go_upto_if 26 with (fail)
 go_cut [5,6] (fun v5 v6 wx=>v5=.int .i64 ((s.size:Int)+(spE s.data.toList:Int))∧v6=.bool (decide (spE s.data.toList≠0))∧Drawn0 w wx)
 case first =>
  cases hb:decide ((16:Int)≤(s.size:Int)) with
  | true =>
   obtain ⟨n1,hn1⟩:∃ n,s.data.toList.count 47=n:=⟨_,rfl⟩
   obtain ⟨n2,hn2⟩:∃ n,s.data.toList.count 126=n:=⟨_,rfl⟩
   have hsp:spE s.data.toList=n1+n2:=by rw [spE_count,hn1,hn2]
   have hle:spE s.data.toList≤s.size:=by have:=spE_le s.data.toList;omega
   rw [hsp] at hle
   go_wp2
   go_loopg [5,6,32] 2 (fun kq v5 v6 v32 w'=>Drawn0 w w'∧(kq=2∧v5=.int .i64 (s.size:Int)∧v6=.bool false∧v32=.int .i64 0∨kq=1∧v5=.int .i64 ((s.size:Int)+(n1:Int))∧v6=.bool (decide (n1≠0))∧v32=.int .i64 1∨kq=0∧v5=.int .i64 ((s.size:Int)+((n1+n2:Nat):Int))∧v6=.bool (decide (n1+n2≠0))∧v32=.int .i64 2))
   case atStart=>exact ⟨Drawn0.refl _,.inl ⟨rfl,rfl,rfl,rfl⟩⟩
   case round =>
    obtain ⟨⟨m1,rfl⟩,⟨rfl,rfl,rfl,rfl⟩ | ⟨rfl,rfl,rfl,rfl⟩ | ⟨rfl,rfl,rfl,rfl⟩⟩:=hrel
    ·cases hz:decide ((n1:Int)=0) with
     | true =>
      have hz':n1=0:=by have:=of_decide_eq_true hz;omega
      go_wp2_with (go_at_call 185;refine (cnt_c s 47 n1 hn1 _).mono ?_;rintro e w' ⟨rfl,rfl⟩)
      go_roundg 1
      case measure=>omega
      case rel=>exact ⟨by repeat (first | exact Drawn0.refl _ | apply Drawn0.step),.inr (.inl ⟨rfl,by first | rfl | (congr 1;done) | (congr 1;omega) | (congr 1;unfold wrap64;omega) | (congr 1;simp;done) | (congr 1;simp;omega),by first | rfl | (congr 1;simp [hz'];done),rfl⟩)⟩
     | false =>
      have hz':n1≠0:=by have:=of_decide_eq_false hz;omega
      go_wp2_with (go_at_call 185;refine (cnt_c s 47 n1 hn1 _).mono ?_;rintro e w' ⟨rfl,rfl⟩)
      go_quiet (fail)
      go_wp2
      go_roundg 1
      case measure=>omega
      case rel=>exact ⟨by repeat (first | exact Drawn0.refl _ | apply Drawn0.step),.inr (.inl ⟨rfl,by first | rfl | (congr 1;done) | (congr 1;omega) | (congr 1;unfold wrap64;omega) | (congr 1;simp;done) | (congr 1;simp;omega),by first | rfl | (congr 1;simp [hz'];done),rfl⟩)⟩
    ·cases hz:decide ((n2:Int)=0) with
     | true =>
      have hz':n2=0:=by have:=of_decide_eq_true hz;omega
      go_wp2_with (go_at_call 185;refine (cnt_c s 126 n2 hn2 _).mono ?_;rintro e w' ⟨rfl,rfl⟩)
      go_roundg 0
      case measure=>omega
      case rel=>exact ⟨by repeat (first | exact Drawn0.refl _ | apply Drawn0.step),.inr (.inr ⟨rfl,by first | rfl | (congr 1;done) | (congr 1;omega) | (congr 1;unfold wrap64;omega) | (congr 1;simp;done) | (congr 1;simp;omega),by first | rfl | (congr 1;simp [hz'];done),rfl⟩)⟩
     | false =>
      have hz':n2≠0:=by have:=of_decide_eq_false hz;omega
      go_wp2_with (go_at_call 185;refine (cnt_c s 126 n2 hn2 _).mono ?_;rintro e w' ⟨rfl,rfl⟩)
      go_quiet (fail)
      go_wp2
      go_roundg 0
      case measure=>omega
      case rel=>exact ⟨by repeat (first | exact Drawn0.refl _ | apply Drawn0.step),.inr (.inr ⟨rfl,by first | rfl | (congr 1;done) | (congr 1;omega) | (congr 1;unfold wrap64;omega) | (congr 1;simp;done) | (congr 1;simp;omega),by first | rfl | (congr 1;simp [hz'];done),rfl⟩)⟩
    ·go_wp2
     go_meet
     rw [hsp]
     exact ⟨rfl,rfl,by repeat (first | exact Drawn0.refl _ | apply Drawn0.step)⟩
  | false =>
   have hle:spE s.data.toList≤s.size:=by have:=spE_le s.data.toList;omega
   go_wp2
   go_loopg [5,6,10] s.size (fun kq v5 v6 v10 w'=>w'=w∧∃ i,kq=s.size - i∧i≤s.size∧v5=.int .i64 ((s.size:Int)+((spE (s.data.toList.take i):Nat):Int))∧v6=.bool (decide (spE (s.data.toList.take i)≠0))∧v10=.int .i64 (i:Int))
   case atStart=>exact ⟨rfl,0,by omega,by omega,by simp [spE],by simp [spE],rfl⟩
   case round =>
    obtain ⟨rfl,i,hk,hi,rfl,rfl,rfl⟩:=hrel
    by_cases hlt:i < s.size
    ·have hbt:=bt_get s i hlt
     have hst:=spE_step s.data.toList i (by rw [hsz];exact hlt)
     have hil:decide ((i:Int) < (s.size:Int))=true:=decide_eq_true (by omega)
     have p0:0≤(i:Int):=by omega
     have q0:(i:Int) < (s.size:Int):=by omega
     replace p0:=eq_true p0
     replace q0:=eq_true q0
     by_cases h34:bt s i=126
     ·have hx:∀ h:i < s.size,(s[i]'h).toNat=126:=fun h=>by have:=bt_at s i h;simp at this;omega
      have hst':spE (s.data.toList.take (i+1))=spE (s.data.toList.take i)+1:=by rw [hst,if_pos ((sp_iffE _).2 (by rw [←hbt];exact .inl h34))]
      have hle2:spE (s.data.toList.take i)≤i:=by have:=spE_le (s.data.toList.take i);rw [List.length_take] at this;omega
      clear hst hbt h34
      go_wp2
      go_roundg (s.size - (i+1))
      case measure=>omega
      case rel=>exact ⟨rfl,i+1,rfl,by omega,by rw [hst'];first | rfl | (congr 1;done) | (congr 1;omega) | (congr 1;unfold wrap64;omega) | (congr 1;simp;done) | (congr 1;simp;omega),by rw [hst'];first | rfl | (congr 1;done) | (congr 1;omega) | (congr 1;unfold wrap64;omega) | (congr 1;simp;done) | (congr 1;simp;omega),by first | rfl | (congr 1;done) | (congr 1;omega) | (congr 1;unfold wrap64;omega) | (congr 1;simp;done) | (congr 1;simp;omega)⟩
     ·by_cases h92:bt s i=47
      ·have hx:∀ h:i < s.size,(s[i]'h).toNat=47:=fun h=>by have:=bt_at s i h;simp at this;omega
       have hst':spE (s.data.toList.take (i+1))=spE (s.data.toList.take i)+1:=by rw [hst,if_pos ((sp_iffE _).2 (by rw [←hbt];exact .inr h92))]
       have hle2:spE (s.data.toList.take i)≤i:=by have:=spE_le (s.data.toList.take i);rw [List.length_take] at this;omega
       clear hst hbt h34 h92
       go_wp2
       go_roundg (s.size - (i+1))
       case measure=>omega
       case rel=>exact ⟨rfl,i+1,rfl,by omega,by rw [hst'];first | rfl | (congr 1;done) | (congr 1;omega) | (congr 1;unfold wrap64;omega) | (congr 1;simp;done) | (congr 1;simp;omega),by rw [hst'];first | rfl | (congr 1;done) | (congr 1;omega) | (congr 1;unfold wrap64;omega) | (congr 1;simp;done) | (congr 1;simp;omega),by first | rfl | (congr 1;done) | (congr 1;omega) | (congr 1;unfold wrap64;omega) | (congr 1;simp;done) | (congr 1;simp;omega)⟩
      ·obtain ⟨x,hxx⟩:∃ x:Nat,bt s i=(x:Int):=⟨(bt s i).toNat,by have:=bt_range s i;omega⟩
       have hx256:x < 256:=by have:=bt_range s i;omega
       have hx:∀ h:i < s.size,(s[i]'h).toNat=x:=fun h=>by have:=bt_at s i h;simp at this;omega
       have hst':spE (s.data.toList.take (i+1))=spE (s.data.toList.take i):=by
        rw [hst,if_neg (fun h=>by rcases (sp_iffE _).1 h with h | h <;> rw [←hbt] at h <;> contradiction)]
        rfl
       have hfo:=HR.out.fo x hx256 (by omega) (by omega)
       clear hst hbt h34 h92
       go_wp2
       go_roundg (s.size - (i+1))
       case measure=>omega
       case rel=>exact ⟨rfl,i+1,rfl,by omega,by rw [hst'],by rw [hst'],by first | rfl | (congr 1;done) | (congr 1;omega) | (congr 1;unfold wrap64;omega) | (congr 1;simp;done) | (congr 1;simp;omega)⟩
    ·have hil:decide ((i:Int) < (s.size:Int))=false:=decide_eq_false (by omega)
     have hi':i=s.size:=by omega
     go_wp2
     go_meet
     rw [hi',List.take_of_length_le (by rw [hsz];omega)]
     exact ⟨rfl,rfl,Drawn0.refl _⟩
 case rest =>
  obtain ⟨rfl,rfl,m,rfl⟩:=hcut
  have hle:spE s.data.toList≤s.size:=by have:=spE_le s.data.toList;omega
  cases hz:decide (spE s.data.toList≠0) with
  | false =>
   have hz':spE s.data.toList=0:=by have:=of_decide_eq_false hz;omega
   go_wp2
   go_ret
   refine ⟨?_,(Drawn0.mk ⟨_,rfl⟩:Drawn0 w (w.drewN _)).below⟩
   rw [escL_none _ hz',Array.toArray_toList]
   rfl
  | true =>
   have hz':spE s.data.toList≠0:=of_decide_eq_true hz
   obtain ⟨N,hN⟩:∃ N:Nat,N=s.size+spE s.data.toList:=⟨_,rfl⟩
   have hN2:N≤2147483648:=by omega
   have hN3:(escL s.data.toList).length=N:=by rw [escL_len,hsz,hN]
   rw [show ((s.size:Int)+(spE s.data.toList:Int))=(N:Int) by omega]
   clear hN hz hz' hle
   go_upto_region 24 with (first | ((with_reducible refine gate_dst (N:=85) rfl ?_);refine Kd.event_run rfl (mk_ev N rfl rfl (by omega) _) ?_;obtain ⟨W1,hW1⟩:∃ W1,W1=(w.drewN m).alloc (.cells (bufc (List.replicate N 0)) 5):=⟨_,rfl⟩;obtain ⟨gb,hgb⟩:∃ gb,gb=(w.drewN m).heap.size:=⟨_,rfl⟩;have B1:=Aside0.mk (show Below w.heap.size w W1 by rw [hW1];exact below_alloc (Drawn0.mk ⟨_,rfl⟩:Drawn0 w (w.drewN m)).below _);have K1:=Aside0.mk (show W1.heap[gb]? = some (.cells (bufc (List.replicate N 0)) 5 (0,0)) by rw [hW1,hgb];exact blk_new _ _);have G1:=Aside0.mk (show w.heap.size≤gb by rw [hgb];exact (Drawn0.mk ⟨_,rfl⟩:Drawn0 w (w.drewN m)).below.size);rw [←hW1,←hgb];clear hW1 hgb))
   go_loopg [13,14] s.size (fun kq v13 v14 w'=>∃ i:Nat,kq=s.size - i∧i≤s.size∧v13=.int .i64 ((escL (s.data.toList.take i)).length:Int)∧v14=.int .i64 (i:Int)∧Aside0 (Below w.heap.size w w'∧w'.heap[gb]? = some (.cells (bufc (escL (s.data.toList.take i)++List.replicate (escL (s.data.toList.drop i)).length 0)) 5 (0,0))))
   case atStart=>exact ⟨0,rfl,by omega,rfl,rfl,⟨B1.out,by simp [escL,hN3];exact K1.out⟩⟩
   case round =>
    obtain ⟨i,hk,hi,rfl,rfl,HX⟩:=hrel
    by_cases hlt:i < s.size
    ·have hbt:=bt_get s i hlt
     have hq:=take_step s.data.toList i (by rw [hsz];exact hlt)
     have hd:s.data.toList.drop i=s.data.toList[i]'(by rw [hsz];exact hlt) :: s.data.toList.drop (i+1):=List.drop_eq_getElem_cons (by rw [hsz];exact hlt)
     have hN4:(escL (s.data.toList.take i)).length+(escL (s.data.toList.drop i)).length=N:=by rw [←hN3,←List.length_append,←escL_append,List.take_append_drop]
     have hil:decide ((i:Int) < (s.size:Int))=true:=decide_eq_true (by omega)
     have p0:0≤(i:Int):=by omega
     have q0:(i:Int) < (s.size:Int):=by omega
     replace p0:=eq_true p0
     replace q0:=eq_true q0
     obtain ⟨J,hJ⟩:∃ J,J=(escL (s.data.toList.take i)).length:=⟨_,rfl⟩
     have hJA:=Aside0.mk hJ
     have RR:=Aside0.mk (HR.out.below HX.out.1)
     have hnil:∀ W:World,(binOp .neq 147 (.slice none 0 0) (.slice none 0 0)).run Tryz.prog W=.ok (.bool false) W:=fun W=>by simpa using Go.run_neq_slice_nil (P:=Tryz.prog) (w:=W) 147 5 none 0 0 Tryz.underlying147
     have hnn:∀ (k c:Nat) (W:World),(binOp .neq 147 (.slice (some ⟨k,0,none⟩) 2 c) (.slice none 0 0)).run Tryz.prog W=.ok (.bool true) W:=fun k c W=>by simpa using Go.run_neq_slice_nil (P:=Tryz.prog) (w:=W) 147 5 (some ⟨k,0,none⟩) 2 c Tryz.underlying147
     rw [←hJ]
     rw [←hJ] at hN4
     clear hJ
     by_cases h34:bt s i=126
     ·have hx:∀ h:i < s.size,(s[i]'h).toNat=126:=fun h=>by have:=bt_at s i h;simp at this;omega
      have hc:s.data.toList[i]'(by rw [hsz];exact hlt)=126:=UInt8.toNat_inj.1 (show _=126 by omega)
      rw [hc] at hq hd
      have g34:=RR.out.f34
      have hJ2:decide ((J:Int)≤(N:Int))=true:=decide_eq_true (by omega)
      have pJ:=eq_true (show 0≤(J:Int) by omega)
      have qJ:=eq_true (show (J:Int)≤(N:Int) by omega)
      have hdl:(escL (s.data.toList.drop i)).length=(escL (s.data.toList.drop (i+1))).length+2:=by rw [hd];simp [escL]
      have hql:escL (s.data.toList.take (i+1))=escL (s.data.toList.take i)++[126,48]:=by rw [hq,escL_append];simp [escL]
      have hln:J+2≤(escL (s.data.toList.take i)++List.replicate (escL (s.data.toList.drop i)).length 0).length:=by rw [List.length_append,List.length_replicate,hdl,←hJA.out];omega
      clear hbt h34 hc
      have hcopy:=copy_run wr.drew (gb:=gb) (j:=J) (n:=N - J) (cp:=N - J) (k:=k2) (c:=c2) (l:=escL (s.data.toList.take i)++List.replicate (escL (s.data.toList.drop i)).length 0) 126 48 (by omega) HX.out.2 hln RR.out.b0 RR.out.b1
      obtain ⟨W2,hW2⟩:∃ W2,W2=wr.drew.setRow gb (bufc ((escL (s.data.toList.take i)++List.replicate (escL (s.data.toList.drop i)).length 0).take J++[126,48]++(escL (s.data.toList.take i)++List.replicate (escL (s.data.toList.drop i)).length 0).drop (J+2))):=⟨_,rfl⟩
      rw [←hW2] at hcopy
      have HW2:=Aside0.mk hW2
      have nJ:¬(N=J):=by omega
      have HN:=Aside0.mk (And.intro hdl (And.intro hql hN4))
      clear hW2 hdl hql hln hN4 hq hd
      go_wp2
      go_region_with (fail)
      go_wp2
      go_roundg (s.size - (i+1))
      case measure=>omega
      case rel=>exact ⟨i+1,rfl,by omega,by have h1:=HN.out.1;have h2:=HN.out.2.2;rw [HN.out.2.1,List.length_append,←hJA.out];congr 1;unfold wrap64;simp;omega,by first | rfl | (congr 1;done) | (congr 1;omega),⟨by rw [HW2.out];exact below_setRow (below_drew1 HX.out.1) G1.out _,by rw [HW2.out];exact setRow_step HX.out.2 hJA.out HN.out.1 HN.out.2.1⟩⟩
     ·by_cases h92:bt s i=47
      ·have hx:∀ h:i < s.size,(s[i]'h).toNat=47:=fun h=>by have:=bt_at s i h;simp at this;omega
       have hc:s.data.toList[i]'(by rw [hsz];exact hlt)=47:=UInt8.toNat_inj.1 (show _=47 by omega)
       rw [hc] at hq hd
       have g92:=RR.out.f92
       have hJ2:decide ((J:Int)≤(N:Int))=true:=decide_eq_true (by omega)
       have pJ:=eq_true (show 0≤(J:Int) by omega)
       have qJ:=eq_true (show (J:Int)≤(N:Int) by omega)
       have hdl:(escL (s.data.toList.drop i)).length=(escL (s.data.toList.drop (i+1))).length+2:=by rw [hd];simp [escL]
       have hql:escL (s.data.toList.take (i+1))=escL (s.data.toList.take i)++[126,49]:=by rw [hq,escL_append];simp [escL]
       have hln:J+2≤(escL (s.data.toList.take i)++List.replicate (escL (s.data.toList.drop i)).length 0).length:=by rw [List.length_append,List.length_replicate,hdl,←hJA.out];omega
       clear hbt h34 h92 hc
       have hcopy:=copy_run wr.drew (gb:=gb) (j:=J) (n:=N - J) (cp:=N - J) (k:=k1) (c:=c1) (l:=escL (s.data.toList.take i)++List.replicate (escL (s.data.toList.drop i)).length 0) 126 49 (by omega) HX.out.2 hln RR.out.a0 RR.out.a1
       obtain ⟨W2,hW2⟩:∃ W2,W2=wr.drew.setRow gb (bufc ((escL (s.data.toList.take i)++List.replicate (escL (s.data.toList.drop i)).length 0).take J++[126,49]++(escL (s.data.toList.take i)++List.replicate (escL (s.data.toList.drop i)).length 0).drop (J+2))):=⟨_,rfl⟩
       rw [←hW2] at hcopy
       have HW2:=Aside0.mk hW2
       have nJ:¬(N=J):=by omega
       have HN:=Aside0.mk (And.intro hdl (And.intro hql hN4))
       clear hW2 hdl hql hln hN4 hq hd
       go_wp2
       go_region_with (fail)
       go_wp2
       go_roundg (s.size - (i+1))
       case measure=>omega
       case rel=>exact ⟨i+1,rfl,by omega,by have h1:=HN.out.1;have h2:=HN.out.2.2;rw [HN.out.2.1,List.length_append,←hJA.out];congr 1;unfold wrap64;simp;omega,by first | rfl | (congr 1;done) | (congr 1;omega),⟨by rw [HW2.out];exact below_setRow (below_drew1 HX.out.1) G1.out _,by rw [HW2.out];exact setRow_step HX.out.2 hJA.out HN.out.1 HN.out.2.1⟩⟩
      ·obtain ⟨x,hxx⟩:∃ x:Nat,bt s i=(x:Int):=⟨(bt s i).toNat,by have:=bt_range s i;omega⟩
       have hx256:x < 256:=by have:=bt_range s i;omega
       have hx:∀ h:i < s.size,(s[i]'h).toNat=x:=fun h=>by have:=bt_at s i h;simp at this;omega
       have hns:¬(s.data.toList[i]'(by rw [hsz];exact hlt)=126∨s.data.toList[i]'(by rw [hsz];exact hlt)=47):=fun h=>by rcases (sp_iffE _).1 h with h | h <;> rw [←hbt] at h <;> contradiction
       obtain ⟨c0,hc0⟩:∃ c0,c0=s.data.toList[i]'(by rw [hsz];exact hlt):=⟨_,rfl⟩
       have hcx:=Aside0.mk (show c0.toNat=x by rw [hc0];omega)
       rw [←hc0] at hns hq hd
       have gx:=RR.out.fo x hx256 (by omega) (by omega)
       have pJ:=eq_true (show 0≤(J:Int) by omega)
       have hdl:(escL (s.data.toList.drop i)).length=(escL (s.data.toList.drop (i+1))).length+1:=by rw [hd];simp [escL,(not_or.1 hns).1,(not_or.1 hns).2]
       have hql:escL (s.data.toList.take (i+1))=escL (s.data.toList.take i)++[c0]:=by rw [hq,escL_append];simp [escL,(not_or.1 hns).1,(not_or.1 hns).2]
       have qJ:=eq_true (show (J:Int) < (N:Int) by omega)
       have hcJ:wr.cell? ⟨gb,J,none⟩=some (.int .u8 0):=by
        rw [blk_cell HX.out.2 J,hJA.out]
        simp [bufc,hdl]
       have hzJ:=blk_frozen HX.out.2 J
       have HN:=Aside0.mk (And.intro hdl (And.intro hql hN4))
       clear hdl hql hN4 hq hd hbt h34 h92 hc0
       go_wp2
       go_roundg (s.size - (i+1))
       case measure=>omega
       case rel=>exact ⟨i+1,rfl,by omega,by have h1:=HN.out.1;have h2:=HN.out.2.2;rw [HN.out.2.1,List.length_append,←hJA.out];congr 1;unfold wrap64;simp;omega,by first | rfl | (congr 1;done) | (congr 1;omega),⟨below_set HX.out.1 G1.out,set_step HX.out.2 hJA.out HN.out.1 HN.out.2.1 hcx.out⟩⟩
    ·have hil:decide ((i:Int) < (s.size:Int))=false:=decide_eq_false (by omega)
     have hi':i=s.size:=by omega
     have HB:=Aside0.mk HX.out.1
     have HY:=Aside0.mk (show wr.heap[gb]? = some (.cells (bufc (escL s.data.toList)) 5 (0,0)) by
      have:=HX.out.2
      rw [hi',List.take_of_length_le (by rw [hsz];omega),List.drop_eq_nil_of_le (by rw [hsz];omega)] at this
      simpa [escL] using this)
     have HL:=Aside0.mk hN3
     clear HX hN3
     subst hi'
     go_wp2_with (first | ((with_reducible refine gate_dst (N:=121) rfl ?_);refine Kd.event_run rfl (str_ev (gb:=gb) (c:=N) (l:=escL s.data.toList) rfl (by rw [HL.out];rfl) HY.out (by rw [HL.out];omega)) ?_))
     go_ret
     exact ⟨rfl,HB.out⟩
end Go.Proofs.YtoaafohpmhdjnaaGreatDoor.RY
