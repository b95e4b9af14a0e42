import Derived.Test.YtoaafohpmhdjnaaGreatDoorTAVWA
import Derived.Test.YtoaafohpmhdjnaaGreatDoorTAPVGx0
/- (*impl.val).write and string, walked. Conditions: the tree's text can be written; at most 2^30 nodes; the powers of ten stand in memory. -/
namespace Go.Proofs.YtoaafohpmhdjnaaGreatDoor.VT
open Go.RowKit Go.Proofs.YtoaafohpmhdjnaaGreatDoor.PVG Go.Proofs.YtoaafohpmhdjnaaGreatDoorW.PrintWords Go.Proofs.YtoaafohpmhdjnaaGreatDoorW.PrintLast Go.Proofs.YtoaafohpmhdjnaaGreatDoorW.PrintMore
set_option linter.unusedVariables false
set_option linter.unusedSimpArgs false
theorem itoa_c (n:Int) (w:World) (h0:-1000000000≤n) (h1:n≤1000000000) (ht:HT w):Calls Tryz.prog 115 #[.int .i64 n] w fun e w'=>e=.returned (.string ⟨(Lib.itoa n).toArray⟩)∧Below w.heap.size w w' :=
 (Tryz.strconv_Itoa n (by omega) (by omega) w ht).mono fun e w' ⟨he,k,os,hw⟩=>⟨he,by rw [hw];exact below_grow w k os⟩
theorem quoteL_rx:∀ l,RX.quoteL l=quoteL l
 | []=>rfl
 | c :: l=>by simp only [RX.quoteL,quoteL,quoteL_rx l]
theorem written_q (s:ByteArray) (w:World) (hs:s.size≤24):Calls Tryz.prog 202 #[.string s] w fun e w'=>e=.returned (.string (ofL (quotL s)))∧Below w.heap.size w w' :=
 (RX.written_c s w (by omega)).mono fun e w' ⟨he,hb⟩=>⟨by rw [he];congr 2;exact ofL_ext (by rw [ofL_data];show [34]++RX.quoteL s.data.toList++[34]=quotL s;rw [quoteL_rx];rfl),hb⟩
def WrCall (t:Tr):Prop:=∀ (w0 w:World) (g B b:Nat) (L:List UInt8),HT w0→IsV w0 g t→fit t=true→Below w0.heap.size w0 w→w0.heap.size≤B→Bd B b L w→L.length+120 * cnt t≤1000000000000→cnt t≤1073741824 →
 Calls Tryz.prog 181 #[.pointer (some ⟨g,0,none⟩),.pointer (some ⟨b,0,none⟩)] w fun e w'=>e=.returned (.tuple #[])∧Bd B b (L++textL t) w'∧Below B w w'
theorem WrCall.go {t:Tr} (h:WrCall t) (w0 w:World) (g B b:Nat) (L:List UInt8) (h1:HT w0) (h2:IsV w0 g t) (h3:fit t=true) (h4:Below w0.heap.size w0 w) (h5:w0.heap.size≤B) (h6:Bd B b L w) (h7:L.length+120 * cnt t≤1000000000000) (h8:cnt t≤1073741824) :
  Calls Tryz.prog 181 #[.pointer (some ⟨g,0,none⟩),.pointer (some ⟨b,0,none⟩)] w fun e w'=>e=.returned (.tuple #[])∧Bd B b (L++textL t) w'∧Below B w w':=h w0 w g B b L h1 h2 h3 h4 h5 h6 h7 h8
theorem below_up {w0 w w':World} {B:Nat} (h:Below w0.heap.size w0 w) (hB:w0.heap.size≤B) (k:Below B w w'):Below w0.heap.size w0 w':=below_weaken h hB k
theorem below_B {w w':World} {B:Nat} (h:Below w.heap.size w w') (hB:B≤w.heap.size):Below B w w':=⟨h.os,h.tape,h.output,h.size,fun i hi=>h.block i (by omega)⟩
theorem below_tr {w w' w'':World} {B:Nat} (h:Below B w w') (k:Below B w' w''):Below B w w'':=h.trans k
set_option maxRecDepth 100000 in
set_option maxHeartbeats 8000000 in
theorem write_leaf (kd nu:Int) (tx:ByteArray) (ns:List ByteArray) (ks:List Tr) (hk:kd≤5):WrCall (.mk kd nu tx ns ks):=by
 intro w0 w g B b L ht hv hf hw hB hbd hL hn
 have hf1:=fit1 hf
 obtain ⟨A3,c3,A4,c4,ha⟩:=hv.at_
 obtain ⟨k0,k1,k2,k3,k4⟩:=ha.cells
 simp only [Tr.ks,Tr.ns,Tr.kd,Tr.nu,Tr.tx] at k0 k1 k2 k3 k4
 have q:∀ {a:Addr} {v:Value},w0.cell? a=some v→w.cell? a=some v:=fun {a v} e=>(hw.cell (World.block_lt_of_cell? w0 _ e)).trans e
 replace k0:=q k0
 replace k1:=q k1
 replace k2:=q k2
 have hlen:=textF_len _ hf
 have HLEN:=Aside0.mk hlen
 have BD:=Aside0.mk hbd
 have HL:=Aside0.mk hL
 have HNU:=Aside0.mk hf1.hnu
 have HTX:=Aside0.mk (prt_size hf1.htx)
 have HT0:=Aside0.mk (ht.below hw)
 have HWB:=Aside0.mk hw
 have HBB:=Aside0.mk hB
 have hkd:=hf1.hkd
 clear q k3 k4 ha hv hlen hbd hL hf1 ht hw hB hf hn
 have five:kd=1∨kd=2∨kd=3∨kd=4∨kd=5:=by omega
 clear hk hkd
 rcases five with rfl | rfl | rfl | rfl | rfl
 ·have Z:=Aside0.mk (show L.length+(⟨#[110,117,108,108]⟩:ByteArray).size≤1099511627776 by have:=HL.out;have:=HLEN.out;show L.length+4≤_;omega)
  go_enter Tryz.func181,Tryz.ntmps181
  go_wp2_with (first | (go_at_call 201;(with_reducible refine (ws_c BD.out ⟨#[110,117,108,108]⟩ Z.out).mono ?_);rintro e w2 ⟨rfl,h1,h2⟩;have Q:=Aside0.mk (And.intro h1 h2);clear h1 h2))
  go_end0
  exact ⟨rfl,Q.out.1,Q.out.2⟩
 ·have Z:=Aside0.mk (show L.length+(⟨#[102,97,108,115,101]⟩:ByteArray).size≤1099511627776 by have:=HL.out;have:=HLEN.out;show L.length+5≤_;omega)
  go_enter Tryz.func181,Tryz.ntmps181
  go_wp2_with (first | (go_at_call 201;(with_reducible refine (ws_c BD.out ⟨#[102,97,108,115,101]⟩ Z.out).mono ?_);rintro e w2 ⟨rfl,h1,h2⟩;have Q:=Aside0.mk (And.intro h1 h2);clear h1 h2))
  go_end0
  exact ⟨rfl,Q.out.1,Q.out.2⟩
 ·have Z:=Aside0.mk (show L.length+(⟨#[116,114,117,101]⟩:ByteArray).size≤1099511627776 by have:=HL.out;have:=HLEN.out;show L.length+4≤_;omega)
  go_enter Tryz.func181,Tryz.ntmps181
  go_wp2_with (first | (go_at_call 201;(with_reducible refine (ws_c BD.out ⟨#[116,114,117,101]⟩ Z.out).mono ?_);rintro e w2 ⟨rfl,h1,h2⟩;have Q:=Aside0.mk (And.intro h1 h2);clear h1 h2))
  go_end0
  exact ⟨rfl,Q.out.1,Q.out.2⟩
 ·have Z:=Aside0.mk (show L.length+(⟨(Lib.itoa nu).toArray⟩:ByteArray).size≤1099511627776 by have:=HL.out;have:=itoa_len HNU.out.1 HNU.out.2;show _+(Lib.itoa nu).toArray.size≤_;rw [List.size_toArray];have:=HLEN.out;omega)
  go_enter Tryz.func181,Tryz.ntmps181
  go_wp2_with (first | (go_at_call 115;(with_reducible refine (itoa_c nu _ HNU.out.1 HNU.out.2 HT0.out).mono ?_);rintro e w1 ⟨rfl,hb⟩;have BD1:=Aside0.mk (BD.out.below hb);have B1:=Aside0.mk (below_B hb BD.out.le);clear hb) | (go_at_call 201;(with_reducible refine (ws_c BD1.out ⟨(Lib.itoa nu).toArray⟩ Z.out).mono ?_);rintro e w2 ⟨rfl,h1,h2⟩;have Q:=Aside0.mk (And.intro h1 h2);clear h1 h2))
  go_end0
  exact ⟨rfl,Q.out.1,below_tr B1.out Q.out.2⟩
 ·have Z:=Aside0.mk (show L.length+(ofL (quotL tx)).size≤1099511627776 by have:=HL.out;have:=quotL_len tx;have:=HTX.out;rw [ofL_size];have:=HLEN.out;omega)
  go_enter Tryz.func181,Tryz.ntmps181
  go_wp2_with (first | (go_at_call 202;(with_reducible refine (written_q tx _ HTX.out).mono ?_);rintro e w1 ⟨rfl,hb⟩;have BD1:=Aside0.mk (BD.out.below hb);have B1:=Aside0.mk (below_B hb BD.out.le);clear hb) | (go_at_call 201;(with_reducible refine (ws_c BD1.out (ofL (quotL tx)) Z.out).mono ?_);rintro e w2 ⟨rfl,h1,h2⟩;have Q:=Aside0.mk (And.intro h1 h2);clear h1 h2))
  go_end0
  exact ⟨rfl,by have h:=Q.out.1;rw [ofL_data] at h;exact h,below_tr B1.out Q.out.2⟩
theorem wb_i {B b:Nat} {L:List UInt8} {W:World} (h:Bd B b L W) (n:Int) (c:UInt8) (hc:(c.toNat:Int)=n) (hl:L.length+1≤1099511627776) :
  Calls Tryz.prog 203 #[.pointer (some ⟨b,0,none⟩),.int .u8 n] W fun e w'=>e=.returned .nilIface∧Bd B b (L++[c]) w'∧Below B W w':=by
 subst hc
 exact wb_c h c hl
theorem parts_take {ks:List Tr} {m:Bool} {ns:List ByteArray} {i:Nat} (hi:i < ks.length):partsL (ks.take (i+1)) m true ns=partsL (ks.take i) m true ns++((if i=0 then [] else [44])++((if m then quotL ((ns.drop i).headD nil_)++[58] else [])++textL ks[i])):=by
 rw [List.take_succ_eq_append_getElem hi,partsL_append]
 have h1:(ks.take i).length=i:=by simp;omega
 rw [h1]
 simp only [partsL,List.append_nil,Bool.true_and]
 by_cases h0:i=0
 ·subst h0;rfl
 ·have:(ks.take i).isEmpty=false:=by
   cases hk:ks.take i with
   | nil=>rw [hk] at h1;simp at h1;omega
   | cons a r=>rfl
  rw [this,if_neg h0]
  rfl
theorem parts_take_len {ks:List Tr} {m:Bool} {ns:List ByteArray} {i:Nat} (hf:fitL ks=true) (hm:m=true→ks.length≤ns.length∧∀ s,s∈ns→prt s=true):(partsL (ks.take i) m true ns).length≤120 * cntL (ks.take i) :=
 partsF_len _ ((fitL_iff _).2 fun t ht=>(fitL_iff ks).1 hf t (List.mem_of_mem_take ht)) m true ns fun h=>⟨by have:=(hm h).1;simp;omega,(hm h).2⟩
set_option maxRecDepth 100000 in
set_option maxHeartbeats 16000000 in
theorem write_list (nu:Int) (tx:ByteArray) (ns:List ByteArray) (ks:List Tr) (ih:∀ t,t∈ks→WrCall t):WrCall (.mk 6 nu tx ns ks):=by
 intro w0 w g B b L ht hv hf hw hB hbd hL hn
 have hf1:=fit1 hf
 obtain ⟨A3,c3,A4,c4,ha⟩:=hv.at_
 have HA:=Aside0.mk ha
 obtain ⟨k0,k1,k2,k3,k4⟩:=ha.cells
 simp only [Tr.ks,Tr.ns,Tr.kd,Tr.nu,Tr.tx] at k0 k1 k2 k3 k4
 have q:∀ (W:World),Below w0.heap.size w0 W→W.cell? ⟨g,0,none⟩=some (.int .i64 6)∧W.cell? ⟨g,3,none⟩=some (.slice A3 ns.length c3)∧W.cell? ⟨g,4,none⟩=some (.slice A4 ks.length c4):=fun W hb=>⟨(hb.cell (World.block_lt_of_cell? w0 _ k0)).trans k0,(hb.cell (World.block_lt_of_cell? w0 _ k3)).trans k3,(hb.cell (World.block_lt_of_cell? w0 _ k4)).trans k4⟩
 have KC:=Aside0.mk q
 obtain ⟨k0',k3',k4'⟩:=q w hw
 have BD:=Aside0.mk hbd
 have HL:=Aside0.mk (show L.length+120 * (1+cntL ks)≤1000000000000 by simp only [cnt] at hL;exact hL)
 have HN:=Aside0.mk (show 1+cntL ks≤1073741824 by simp only [cnt] at hn;exact hn)
 have HT0:=Aside0.mk ht
 have HWB:=Aside0.mk hw
 have HBB:=Aside0.mk hB
 have HF:=Aside0.mk hf1
 have IH:=Aside0.mk ih
 have HM:=Aside0.mk (show (false=true→ks.length≤ns.length∧∀ s,s∈ns→prt s=true) from fun h=>by cases h)
 have PL:=Aside0.mk (show ∀ i,(partsL (ks.take i) false true ns).length≤120 * cntL (ks.take i) from fun i=>parts_take_len hf1.hks HM.out)
 have CO:=Aside0.mk (show ∀ h,((91:UInt8).toNat:Int)=(((⟨#[91,93]⟩:ByteArray)[0]'h).toNat:Int) from fun _=>rfl)
 have CC:=Aside0.mk (show ∀ h,((93:UInt8).toNat:Int)=(((⟨#[91,93]⟩:ByteArray)[1]'h).toNat:Int) from fun _=>rfl)
 have CK:=Aside0.mk (show ((44:UInt8).toNat:Int)=44 from rfl)
 have Z0:=Aside0.mk (show L.length+1≤1099511627776 by have:=HL.out;omega)
 clear q k0 k1 k2 k3 k4 ha hv hbd hL hf1 ht hw hB hf hn ih
 go_enter Tryz.func181,Tryz.ntmps181
 go_wp2_with (first | (go_at_call 203;(with_reducible refine (wb_i BD.out _ 91 (CO.out _) Z0.out).mono ?_);rintro e w1 ⟨rfl,h1,h2⟩;have BD1:=Aside0.mk h1;have B1:=Aside0.mk h2;have U1:=Aside0.mk (below_up HWB.out HBB.out h2);clear h1 h2 k0' k3' k4';obtain ⟨k0',k3',k4'⟩:=KC.out _ U1.out))
 go_loopg [58] ks.length (fun m v58 W=>∃ i:Nat,v58=.int .i64 (i:Int)∧Aside0 (i+m=ks.length)∧Aside0 (Bd B b (L++[91]++partsL (ks.take i) false true ns) W)∧Aside0 (Below B w W))
 case atStart=>exact ⟨0,rfl,⟨by omega⟩,⟨by have:=BD1.out;simpa [partsL] using this⟩,B1⟩
 case round =>
  clear BD1 B1 U1 k0' k3' k4' BD
  obtain ⟨i,rfl,HI,BDi,Bi⟩:=hrel
  have Ui:=Aside0.mk (below_up HWB.out HBB.out Bi.out)
  obtain ⟨k0',k3',k4'⟩:=KC.out _ Ui.out
  cases gk with
  | zero =>
   have hlt:decide (i < ks.length)=false:=decide_eq_false (by have:=HI.out;omega)
   have HE:=Aside0.mk (show ks.take i=ks from List.take_of_length_le (by have:=HI.out;omega))
   have Z:=Aside0.mk (show (L++[91]++partsL (ks.take i) false true ns).length+1≤1099511627776 by have:=HL.out;have h2:=PL.out i;have:=cntL_take_le ks i;simp only [List.length_append,List.length_singleton];omega)
   go_wp2_with (first | (go_at_call 203;(with_reducible refine (wb_i BDi.out _ 93 (CC.out _) Z.out).mono ?_);rintro e w2 ⟨rfl,h1,h2⟩;have Q:=Aside0.mk (And.intro h1 h2);clear h1 h2))
   go_end0
   exact ⟨rfl,by have h:=Q.out.1;rw [HE.out] at h;simpa [textL] using h,below_tr Bi.out Q.out.2⟩
  | succ m =>
   have hi:i < ks.length:=by have:=HI.out;omega
   obtain ⟨ad,p,rfl,kc,kv⟩:=HA.out.kid i hi
   simp only [Tr.ks] at kv
   have kc':=(Ui.out.cell (World.block_lt_of_cell? w0 _ kc)).trans kc
   have KV:=Aside0.mk kv
   have HFk:=Aside0.mk ((fitL_iff ks).1 HF.out.hks _ (List.getElem_mem hi))
   have HIm:=Aside0.mk (IH.out _ (List.getElem_mem hi))
   have hc1:=cntL_take ks i hi
   have hc2:=cntL_take_le ks (i+1)
   have HCk:=Aside0.mk (show cnt ks[i]≤1073741824 by have:=HN.out;omega)
   have HCs:=Aside0.mk (show cntL (ks.take i)+cnt ks[i]≤cntL ks by omega)
   have HP:=Aside0.mk (parts_take (m:=false) (ns:=ns) hi)
   have hpl:=PL.out i
   have b4:(i:Int)≤1073741824:=by have:=HN.out;have:=cnt_ge_len ks;omega
   clear hc1 hc2 kv kc
   obtain ⟨acc,hacc⟩:∃ acc,acc=L++[91]++partsL (ks.take i) false true ns:=⟨_,rfl⟩
   have HAL:=Aside0.mk (show acc.length≤L.length+1+120 * cntL (ks.take i) by rw [hacc];simp only [List.length_append,List.length_singleton];omega)
   rw [←hacc] at BDi
   have HACC:=Aside0.mk hacc
   obtain ⟨kid,hkid⟩:∃ k,k=ks[i]:=⟨_,rfl⟩
   rw [←hkid] at KV HFk HIm HCk HCs HP
   clear hacc hpl hkid
   have KEY:∀ (pre:List UInt8) (W:World),pre=(if i=0 then [] else [44])++[]→Bd B b (acc++pre++textL kid) W→Bd B b (L++[91]++partsL (ks.take (i+1)) false true ns) W:=by
    intro pre W hp hb
    rw [HP.out,←List.append_assoc,←HACC.out]
    rw [hp] at hb
    simpa using hb
   have KE:=Aside0.mk KEY
   clear KEY
   by_cases h0:i=0
   ·have h0b:decide (0 < i)=false:=decide_eq_false (by omega)
    have H0:=Aside0.mk h0
    clear h0
    have BD2:=BDi
    have B2:=Bi
    have U2:=Ui
    have ZZ:=Aside0.mk (show acc.length+120 * cnt kid≤1000000000000 by have:=HAL.out;have:=HL.out;have:=HCs.out;omega)
    go_wp2_with (first | (go_at_call 181;(with_reducible refine (HIm.out.go w0 _ p B b _ HT0.out KV.out HFk.out U2.out HBB.out BD2.out ZZ.out HCk.out).mono ?_);rintro e w5 ⟨rfl,h1,h2⟩;have BD5:=Aside0.mk h1;have B5:=Aside0.mk (below_tr B2.out h2);clear h1 h2))
    go_roundg m
    case rel=>exact ⟨i+1,by go_num,⟨by have:=HI.out;omega⟩,⟨KE.out [] _ (by rw [H0.out];simp) (by have h:=BD5.out;simpa [ofL_app,ofL_data] using h)⟩,B5⟩
    case measure=>omega
   ·have h0b:decide (0 < i)=true:=decide_eq_true (by omega)
    have H0:=Aside0.mk h0
    clear h0
    have Z1:=Aside0.mk (show acc.length+1≤1099511627776 by have:=HAL.out;have:=HL.out;have:=HCs.out;omega)
    have ZZ:=Aside0.mk (show (acc++[44]).length+120 * cnt kid≤1000000000000 by have:=HAL.out;have:=HL.out;have:=HCs.out;simp only [List.length_append,List.length_singleton];omega)
    go_wp2_with (first | (go_at_call 203;(with_reducible refine (wb_i BDi.out 44 44 CK.out Z1.out).mono ?_);rintro e w2 ⟨rfl,h1,h2⟩;have BD2:=Aside0.mk h1;have B2:=Aside0.mk (below_tr Bi.out h2);have U2:=Aside0.mk (below_up HWB.out HBB.out B2.out);clear h1 h2 k0' k3' k4';obtain ⟨k0',k3',k4'⟩:=KC.out _ U2.out) | (go_at_call 181;(with_reducible refine (HIm.out.go w0 _ p B b _ HT0.out KV.out HFk.out U2.out HBB.out BD2.out ZZ.out HCk.out).mono ?_);rintro e w5 ⟨rfl,h1,h2⟩;have BD5:=Aside0.mk h1;have B5:=Aside0.mk (below_tr B2.out h2);clear h1 h2))
    go_roundg m
    case rel=>exact ⟨i+1,by go_num,⟨by have:=HI.out;omega⟩,⟨KE.out [44] _ (by rw [if_neg H0.out];simp) (by have h:=BD5.out;simpa [ofL_app,ofL_data] using h)⟩,B5⟩
    case measure=>omega
set_option maxRecDepth 100000 in
set_option maxHeartbeats 16000000 in
theorem write_map (nu:Int) (tx:ByteArray) (ns:List ByteArray) (ks:List Tr) (ih:∀ t,t∈ks→WrCall t):WrCall (.mk 7 nu tx ns ks):=by
 intro w0 w g B b L ht hv hf hw hB hbd hL hn
 have hf1:=fit1 hf
 obtain ⟨A3,c3,A4,c4,ha⟩:=hv.at_
 have HA:=Aside0.mk ha
 obtain ⟨k0,k1,k2,k3,k4⟩:=ha.cells
 simp only [Tr.ks,Tr.ns,Tr.kd,Tr.nu,Tr.tx] at k0 k1 k2 k3 k4
 have q:∀ (W:World),Below w0.heap.size w0 W→W.cell? ⟨g,0,none⟩=some (.int .i64 7)∧W.cell? ⟨g,3,none⟩=some (.slice A3 ns.length c3)∧W.cell? ⟨g,4,none⟩=some (.slice A4 ks.length c4):=fun W hb=>⟨(hb.cell (World.block_lt_of_cell? w0 _ k0)).trans k0,(hb.cell (World.block_lt_of_cell? w0 _ k3)).trans k3,(hb.cell (World.block_lt_of_cell? w0 _ k4)).trans k4⟩
 have KC:=Aside0.mk q
 obtain ⟨k0',k3',k4'⟩:=q w hw
 have BD:=Aside0.mk hbd
 have HL:=Aside0.mk (show L.length+120 * (1+cntL ks)≤1000000000000 by simp only [cnt] at hL;exact hL)
 have HN:=Aside0.mk (show 1+cntL ks≤1073741824 by simp only [cnt] at hn;exact hn)
 have HT0:=Aside0.mk ht
 have HWB:=Aside0.mk hw
 have HBB:=Aside0.mk hB
 have HF:=Aside0.mk hf1
 have IH:=Aside0.mk ih
 have HM:=Aside0.mk (show (true=true→ks.length≤ns.length∧∀ s,s∈ns→prt s=true) from fun h=>⟨by have:=hf1.hlen rfl;omega,hf1.hns⟩)
 have PL:=Aside0.mk (show ∀ i,(partsL (ks.take i) true true ns).length≤120 * cntL (ks.take i) from fun i=>parts_take_len hf1.hks HM.out)
 have CO:=Aside0.mk (show ∀ h,((123:UInt8).toNat:Int)=(((⟨#[123,125]⟩:ByteArray)[0]'h).toNat:Int) from fun _=>rfl)
 have CC:=Aside0.mk (show ∀ h,((125:UInt8).toNat:Int)=(((⟨#[123,125]⟩:ByteArray)[1]'h).toNat:Int) from fun _=>rfl)
 have CK:=Aside0.mk (show ((44:UInt8).toNat:Int)=44 from rfl)
 have Z0:=Aside0.mk (show L.length+1≤1099511627776 by have:=HL.out;omega)
 clear q k0 k1 k2 k3 k4 ha hv hbd hL hf1 ht hw hB hf hn ih
 go_enter Tryz.func181,Tryz.ntmps181
 go_wp2_with (first | (go_at_call 203;(with_reducible refine (wb_i BD.out _ 123 (CO.out _) Z0.out).mono ?_);rintro e w1 ⟨rfl,h1,h2⟩;have BD1:=Aside0.mk h1;have B1:=Aside0.mk h2;have U1:=Aside0.mk (below_up HWB.out HBB.out h2);clear h1 h2 k0' k3' k4';obtain ⟨k0',k3',k4'⟩:=KC.out _ U1.out))
 go_loopg [58] ks.length (fun m v58 W=>∃ i:Nat,v58=.int .i64 (i:Int)∧Aside0 (i+m=ks.length)∧Aside0 (Bd B b (L++[123]++partsL (ks.take i) true true ns) W)∧Aside0 (Below B w W))
 case atStart=>exact ⟨0,rfl,⟨by omega⟩,⟨by have:=BD1.out;simpa [partsL] using this⟩,B1⟩
 case round =>
  clear BD1 B1 U1 k0' k3' k4' BD
  obtain ⟨i,rfl,HI,BDi,Bi⟩:=hrel
  have Ui:=Aside0.mk (below_up HWB.out HBB.out Bi.out)
  obtain ⟨k0',k3',k4'⟩:=KC.out _ Ui.out
  cases gk with
  | zero =>
   have hlt:decide (i < ks.length)=false:=decide_eq_false (by have:=HI.out;omega)
   have HE:=Aside0.mk (show ks.take i=ks from List.take_of_length_le (by have:=HI.out;omega))
   have Z:=Aside0.mk (show (L++[123]++partsL (ks.take i) true true ns).length+1≤1099511627776 by have:=HL.out;have h2:=PL.out i;have:=cntL_take_le ks i;simp only [List.length_append,List.length_singleton];omega)
   go_wp2_with (first | (go_at_call 203;(with_reducible refine (wb_i BDi.out _ 125 (CC.out _) Z.out).mono ?_);rintro e w2 ⟨rfl,h1,h2⟩;have Q:=Aside0.mk (And.intro h1 h2);clear h1 h2))
   go_end0
   exact ⟨rfl,by have h:=Q.out.1;rw [HE.out] at h;simpa [textL] using h,below_tr Bi.out Q.out.2⟩
  | succ m =>
   have hi:i < ks.length:=by have:=HI.out;omega
   obtain ⟨ad,p,rfl,kc,kv⟩:=HA.out.kid i hi
   simp only [Tr.ks] at kv
   have kc':=(Ui.out.cell (World.block_lt_of_cell? w0 _ kc)).trans kc
   have KV:=Aside0.mk kv
   have HFk:=Aside0.mk ((fitL_iff ks).1 HF.out.hks _ (List.getElem_mem hi))
   have HIm:=Aside0.mk (IH.out _ (List.getElem_mem hi))
   have hc1:=cntL_take ks i hi
   have hc2:=cntL_take_le ks (i+1)
   have HCk:=Aside0.mk (show cnt ks[i]≤1073741824 by have:=HN.out;omega)
   have HCs:=Aside0.mk (show cntL (ks.take i)+cnt ks[i]≤cntL ks by omega)
   have HP:=Aside0.mk (parts_take (m:=true) (ns:=ns) hi)
   have hpl:=PL.out i
   have b4:(i:Int)≤1073741824:=by have:=HN.out;have:=cnt_ge_len ks;omega
   clear hc1 hc2 kv kc
   obtain ⟨acc,hacc⟩:∃ acc,acc=L++[123]++partsL (ks.take i) true true ns:=⟨_,rfl⟩
   have HAL:=Aside0.mk (show acc.length≤L.length+1+120 * cntL (ks.take i) by rw [hacc];simp only [List.length_append,List.length_singleton];omega)
   rw [←hacc] at BDi
   have HACC:=Aside0.mk hacc
   obtain ⟨kid,hkid⟩:∃ k,k=ks[i]:=⟨_,rfl⟩
   rw [←hkid] at KV HFk HIm HCk HCs HP
   clear hacc hpl hkid
   have hni:i < ns.length:=by have:=(HM.out (by trivial)).1;omega
   obtain ⟨ad3,e3,kn⟩:=HA.out.name i hni
   simp only [Tr.ns] at kn
   subst e3
   have NP:=Aside0.mk (prt_size ((HM.out (by trivial)).2 _ (List.getElem_mem hni)))
   have KN:=Aside0.mk (show ∀ W,Below w0.heap.size w0 W→W.cell? (ad3.add i)=some (.string ns[i]) from fun W hb=>(hb.cell (World.block_lt_of_cell? w0 _ kn)).trans kn)
   have HQn:=Aside0.mk (show (ns.drop i).headD nil_=ns[i] by rw [List.drop_eq_getElem_cons hni];rfl)
   have kn':=KN.out _ Ui.out
   clear kn
   rw [HQn.out] at HP
   obtain ⟨nm,hnm⟩:∃ s,s=ns[i]:=⟨_,rfl⟩
   rw [←hnm] at HP NP KN HQn kn'
   clear hnm HQn
   have QL:=Aside0.mk (quotL_len nm)
   have sz1:¬(9223372036854775807 < (ofL (quotL nm)).size+1):=by rw [ofL_size];have:=QL.out;have:=NP.out;omega
   have ev:=Aside0.mk (show (ofL (quotL nm)++(⟨#[58]⟩:ByteArray))=ofL (quotL nm++[58]) from ofL_app _ [58])
   have eq58:=Aside0.mk (show (ofL (quotL nm)++(⟨#[58]⟩:ByteArray)).size≤60 by rw [ev.out,ofL_size];have:=QL.out;have:=NP.out;simp;omega)
   have ed58:=Aside0.mk (show (ofL (quotL nm)++(⟨#[58]⟩:ByteArray)).data.toList=quotL nm++[58] by rw [ev.out,ofL_data])
   have KEY:∀ (pre:List UInt8) (W:World),pre=(if i=0 then [] else [44])++(quotL nm++[58])→Bd B b (acc++pre++textL kid) W→Bd B b (L++[123]++partsL (ks.take (i+1)) true true ns) W:=by
    intro pre W hp hb
    rw [HP.out,←List.append_assoc,←HACC.out]
    rw [hp] at hb
    simpa using hb
   have KE:=Aside0.mk KEY
   clear KEY
   by_cases h0:i=0
   ·have h0b:decide (0 < i)=false:=decide_eq_false (by omega)
    have H0:=Aside0.mk h0
    clear h0
    have BD2:=BDi
    have B2:=Bi
    have U2:=Ui
    have Z3:=Aside0.mk (show acc.length+(ofL (quotL nm)++(⟨#[58]⟩:ByteArray)).size≤1099511627776 by have:=HAL.out;have:=HL.out;have:=HCs.out;have:=eq58.out;omega)
    have ZZ:=Aside0.mk (show (acc++(ofL (quotL nm)++(⟨#[58]⟩:ByteArray)).data.toList).length+120 * cnt kid≤1000000000000 by have:=HAL.out;have:=HL.out;have:=HCs.out;rw [ed58.out];have:=QL.out;have:=NP.out;simp only [List.length_append,List.length_singleton];omega)
    go_wp2_with (first | (go_at_call 202;(with_reducible refine (written_q _ _ NP.out).mono ?_);rintro e w3 ⟨rfl,hb⟩;have BD3:=Aside0.mk (BD2.out.below hb);have B3:=Aside0.mk (below_tr B2.out (below_B hb BD2.out.le));have U3:=Aside0.mk (below_up HWB.out HBB.out B3.out);clear hb) | (go_at_call 201;(with_reducible refine (ws_c BD3.out _ Z3.out).mono ?_);rintro e w4 ⟨rfl,h1,h2⟩;have BD4:=Aside0.mk h1;have B4:=Aside0.mk (below_tr B3.out h2);have U4:=Aside0.mk (below_up HWB.out HBB.out B4.out);clear h1 h2) | (go_at_call 181;(with_reducible refine (HIm.out.go w0 _ p B b _ HT0.out KV.out HFk.out U4.out HBB.out BD4.out ZZ.out HCk.out).mono ?_);rintro e w5 ⟨rfl,h1,h2⟩;have BD5:=Aside0.mk h1;have B5:=Aside0.mk (below_tr B4.out h2);clear h1 h2))
    go_roundg m
    case rel=>exact ⟨i+1,by go_num,⟨by have:=HI.out;omega⟩,⟨KE.out (quotL nm++[58]) _ (by rw [H0.out];simp) (by have h:=BD5.out;rw [ed58.out] at h;simpa using h)⟩,B5⟩
    case measure=>omega
   ·have h0b:decide (0 < i)=true:=decide_eq_true (by omega)
    have H0:=Aside0.mk h0
    clear h0
    have Z1:=Aside0.mk (show acc.length+1≤1099511627776 by have:=HAL.out;have:=HL.out;have:=HCs.out;omega)
    have Z3:=Aside0.mk (show (acc++[44]).length+(ofL (quotL nm)++(⟨#[58]⟩:ByteArray)).size≤1099511627776 by have:=HAL.out;have:=HL.out;have:=HCs.out;have:=eq58.out;simp only [List.length_append,List.length_singleton];omega)
    have ZZ:=Aside0.mk (show ((acc++[44])++(ofL (quotL nm)++(⟨#[58]⟩:ByteArray)).data.toList).length+120 * cnt kid≤1000000000000 by have:=HAL.out;have:=HL.out;have:=HCs.out;rw [ed58.out];have:=QL.out;have:=NP.out;simp only [List.length_append,List.length_singleton];omega)
    go_wp2_with (first | (go_at_call 203;(with_reducible refine (wb_i BDi.out 44 44 CK.out Z1.out).mono ?_);rintro e w2 ⟨rfl,h1,h2⟩;have BD2:=Aside0.mk h1;have B2:=Aside0.mk (below_tr Bi.out h2);have U2:=Aside0.mk (below_up HWB.out HBB.out B2.out);clear h1 h2 k0' k3' k4';obtain ⟨k0',k3',k4'⟩:=KC.out _ U2.out;clear kn';have kn':=KN.out _ U2.out) | (go_at_call 202;(with_reducible refine (written_q _ _ NP.out).mono ?_);rintro e w3 ⟨rfl,hb⟩;have BD3:=Aside0.mk (BD2.out.below hb);have B3:=Aside0.mk (below_tr B2.out (below_B hb BD2.out.le));have U3:=Aside0.mk (below_up HWB.out HBB.out B3.out);clear hb) | (go_at_call 201;(with_reducible refine (ws_c BD3.out _ Z3.out).mono ?_);rintro e w4 ⟨rfl,h1,h2⟩;have BD4:=Aside0.mk h1;have B4:=Aside0.mk (below_tr B3.out h2);have U4:=Aside0.mk (below_up HWB.out HBB.out B4.out);clear h1 h2) | (go_at_call 181;(with_reducible refine (HIm.out.go w0 _ p B b _ HT0.out KV.out HFk.out U4.out HBB.out BD4.out ZZ.out HCk.out).mono ?_);rintro e w5 ⟨rfl,h1,h2⟩;have BD5:=Aside0.mk h1;have B5:=Aside0.mk (below_tr B4.out h2);clear h1 h2))
    go_roundg m
    case rel=>exact ⟨i+1,by go_num,⟨by have:=HI.out;omega⟩,⟨KE.out ([44]++(quotL nm++[58])) _ (by rw [if_neg H0.out]) (by have h:=BD5.out;rw [ed58.out] at h;simpa using h)⟩,B5⟩
    case measure=>omega
theorem write_c (t:Tr):WrCall t:=by
 refine Tr.ind (P:=WrCall) ?_ t
 intro kd nu tx ns ks ih
 by_cases h5:kd≤5
 ·exact write_leaf kd nu tx ns ks h5
 ·by_cases h6:kd=6
  ·subst h6
   exact write_list nu tx ns ks ih
  ·by_cases h7:kd=7
   ·subst h7
    exact write_map nu tx ns ks ih
   ·intro w0 w g B b L ht hv hf
    have:=(fit1 hf).hkd
    omega
end Go.Proofs.YtoaafohpmhdjnaaGreatDoor.VT
