import Derived.Test.YtoaafohpmhdjnaaGreatDoorTARGD
import Derived.Test.YtoaafohpmhdjnaaGreatDoorTAVTA
/- strings.Replacer over longer texts at work: WriteString, Replace. Conditions: the trie stands; the text is of at most 2^30 bytes. -/
namespace Go.Proofs.YtoaafohpmhdjnaaGreatDoor.RX
open Go.RowKit Go.Proofs.YtoaafohpmhdjnaaGreatDoor.VT Go.Proofs.YtoaafohpmhdjnaaGreatDoor.PVG Go.Proofs.YtoaafohpmhdjnaaGreatDoorW.PrintWords Go.Proofs.YtoaafohpmhdjnaaGreatDoorW.PrintLast Go.Proofs.YtoaafohpmhdjnaaGreatDoorW.PrintMore
set_option linter.unusedVariables false
set_option linter.unusedSimpArgs false
structure Wst (w0:World) (gb gR gT n1 gU n2 n3:Nat) (v:Value) (bs:List UInt8) (W:World):Prop where
 bel:Below w0.heap.size w0 W
 ge:w0.heap.size≤gb
 kb:W.heap[gb]? = some (.cells #[v] 325 (0,0))
 row:(Kd.int .u8).R 5 W w0.heap.size (fun _=>True) v (bs.map fun b=>(b.toNat:Int))
 tr:TrieAt W gR gT n1 gU n2 n3
theorem Wst.below {w0 W W':World} {gb gR gT n1 gU n2 n3:Nat} {v:Value} {bs:List UInt8} (h:Wst w0 gb gR gT n1 gU n2 n3 v bs W) (hb:Below W.heap.size W W'):Wst w0 gb gR gT n1 gU n2 n3 v bs W' :=
 ⟨below_step h.bel hb,h.ge,blk_below h.kb hb,Kd.R_below h.row hb,h.tr.below hb⟩
theorem Wst.write {w0 W:World} {gb gR gT n1 gU n2 n3:Nat} {v:Value} {bs:List UInt8} (h:Wst w0 gb gR gT n1 gU n2 n3 v bs W) (y:ByteArray) (hl:bs.length+y.size≤140737488355328) :
  Calls Tryz.prog 299 #[.pointer (some ⟨gb,0,none⟩),.string y] W fun e w'=>e=.returned (.tuple #[.int .i64 (y.size:Int),.nilIface])∧∃ v',Wst w0 gb gR gT n1 gU n2 n3 v' (bs++y.data.toList) w':=by
 refine (aw_c gb v _ y w0 W h.bel h.ge h.kb h.row (by rw [List.length_map];exact hl)).mono ?_
 rintro e w' ⟨rfl,v',h1,h2,h3,h4⟩
 refine ⟨rfl,v',h3,h.ge,h1,by rw [List.map_append];exact h2,h.tr.kept h4 ?_⟩
 intro k cs t hk hc
 rcases hk with rfl | hk
 ·rw [h.kb] at hc
  simp at hc
  obtain ⟨_,rfl⟩:=hc
  decide
 ·obtain ⟨c5,h5⟩:=Kd.R_typed h.row k hk.symm
  rw [h5] at hc
  simp at hc
  obtain ⟨_,rfl⟩:=hc
  decide
def UInv (L bs:List UInt8) (last i:Nat):Prop:=unescL L=bs++((L.take i).drop last++unescL (L.drop i))∧bs.length≤last∧last≤i
theorem unesc_lit {c:UInt8} {r:List UInt8} (h:c≠126):unescL (c :: r)=c :: unescL r:=by
 cases r with
 | nil=>simp [unescL]
 | cons d r=>rw [unescL,if_neg (fun q=>h q.1),if_neg (fun q=>h q.1)]
theorem unesc_oth {d:UInt8} {r:List UInt8} (h1:d≠48) (h2:d≠49):unescL (126 :: d :: r)=126 :: unescL (d :: r):=by
 rw [unescL,if_neg (fun q=>h1 q.2),if_neg (fun q=>h2 q.2)]
theorem UInv.lit {L bs:List UInt8} {last i:Nat} (h:UInv L bs last i) (hi:i < L.length) (hu:unescL (L.drop i)=L[i] :: unescL (L.drop (i+1))):UInv L bs last (i+1):=by
 obtain ⟨h1,h2,h3⟩:=h
 refine ⟨?_,h2,by omega⟩
 rw [h1,hu,List.take_succ_eq_append_getElem hi,List.drop_append_of_le_length (by rw [List.length_take];omega)]
 simp
theorem UInv.hit {L bs:List UInt8} {last i:Nat} {b v:UInt8} (h:UInv L bs last i) (hi:i+1 < L.length) (h0:L[i]=126) (h1:L[i+1]=b) (hv:(b=48∧v=126)∨(b=49∧v=47)):UInv L (bs++(L.take i).drop last++[v]) (i+2) (i+2):=by
 obtain ⟨q1,q2,q3⟩:=h
 have e:L.drop i=126 :: b :: L.drop (i+2):=by
  rw [List.drop_eq_getElem_cons (by omega),List.drop_eq_getElem_cons (by omega),h0,h1]
 refine ⟨?_,?_,Nat.le_refl _⟩
 ·rw [q1,e,unescL]
  rcases hv with ⟨rfl,rfl⟩ | ⟨rfl,rfl⟩
  ·simp
  ·simp
 ·simp only [List.length_append,List.length_drop,List.length_take,List.length_cons,List.length_nil]
  omega
theorem UInv.past {L bs:List UInt8} {last:Nat} (h:UInv L bs last L.length):UInv L bs last (L.length+1):=by
 obtain ⟨q1,q2,q3⟩:=h
 refine ⟨?_,q2,by omega⟩
 have a1:L.take L.length=L:=List.take_length
 have a2:L.take (L.length+1)=L:=List.take_of_length_le (by omega)
 have a3:L.drop L.length=[]:=List.drop_length
 have a4:L.drop (L.length+1)=[]:=List.drop_of_length_le (by omega)
 rw [q1,a1,a2,a3,a4]
theorem UInv.end_ {L bs:List UInt8} {last:Nat} (h:UInv L bs last (L.length+1)):unescL L=bs++L.drop last:=by
 obtain ⟨q1,q2,q3⟩:=h
 have a2:L.take (L.length+1)=L:=List.take_of_length_le (by omega)
 have a4:L.drop (L.length+1)=[]:=List.drop_of_length_le (by omega)
 rw [q1,a2,a4]
 simp [unescL]
theorem ex_list (s:ByteArray) (a b:Nat) (h:a≤b):(s.extract a b).data.toList=(s.data.toList.take b).drop a:=by
 rw [Lib.extract_data,List.drop_take]
theorem ex_get {s:ByteArray} {i j:Nat} (h:j < (s.extract i s.size).size) (hij:i+j < s.size):(s.extract i s.size)[j]'h=s[i+j]'hij:=by simp [ByteArray.getElem_extract]
set_option maxRecDepth 100000 in
set_option maxHeartbeats 4000000 in
theorem ws_c (s:ByteArray) (gb gR gT n1 gU n2 n3:Nat) (v:Value) (w W:World) (h:Wst w gb gR gT n1 gU n2 n3 v [] W) (hs:s.size≤1073741824) :
  Calls Tryz.prog 289 #[.pointer (some ⟨gR,0,none⟩),.iface 326 (.pointer (some ⟨gb,0,none⟩)),.string s] W fun e w'=>∃ k v',e=.returned (.tuple #[.int .i64 k,.nilIface])∧Wst w gb gR gT n1 gU n2 n3 v' (unescL s.data.toList) w':=by
 have hsz:=RX.dlen s
 have HS0:=Aside0.mk h
 have hmf:∀ (fn:Fn) (first cap:Array Value) (w:World),(Instr.makeFunc fn first cap).run Tryz.prog w=.ok (.func fn first cap) w:=fun _ _ _ _=>rfl
 clear h
 go_enter Tryz.func289,Tryz.ntmps289
 go_upto_region 2 with (first | (go_at_call 290;(refine (gsw_c _ _).mono ?_);rintro e w' ⟨rfl,rfl⟩))
 go_wp2
 go_loopg [6,7,9,11,12] (s.size+1) (fun kq v6 v7 v9 v11 v12 W=>∃ (i last:Nat) (k:Int) (v:Value) (bs:List UInt8),kq=s.size+1 - i∧i≤s.size+1∧last≤s.size∧v6=.int .i64 k∧v7=.nilIface∧v9=.int .i64 (last:Int)∧v11=.bool false∧v12=.int .i64 (i:Int)∧Aside0 (Wst w gb gR gT n1 gU n2 n3 v bs W)∧Aside0 (UInv s.data.toList bs last i))
 case atStart=>exact ⟨0,0,0,v,[],rfl,by omega,by omega,rfl,rfl,rfl,rfl,rfl,HS0,⟨by simp,Nat.le_refl _,Nat.le_refl _⟩⟩
 case round =>
  clear HS0
  obtain ⟨i,last,k,v,bs,hk,hi2,hl,rfl,rfl,rfl,rfl,rfl,HS,HU⟩:=hrel
  have hi0:0≤(i:Int):=by omega
  have hi9:(i:Int)≤1073741825:=by omega
  by_cases hlt:i < s.size
  ·have hle:decide ((i:Int)≤(s.size:Int))=true:=decide_eq_true (by omega)
   have hne:((i:Int)==(s.size:Int))=false:=by rw [beq_eq_false_iff_ne];omega
   have hne2:((i:Int) != (s.size:Int))=true:=by rw [bne_iff_ne];omega
   have p0:=eq_true (show 0≤(i:Int) by omega)
   have q0:=eq_true (show (i:Int) < (s.size:Int) by omega)
   have q9:=eq_true (show (i:Int)≤(s.size:Int) by omega)
   have hbt:=RX.bt_get s i hlt
   have hLi:i < s.data.toList.length:=by rw [hsz];exact hlt
   obtain ⟨c0,hc0⟩:∃ c0,c0=s.data.toList[i]:=⟨_,rfl⟩
   obtain ⟨x,hx0⟩:∃ x:Nat,x=c0.toNat:=⟨_,rfl⟩
   have hx256:x < 256:=by rw [hx0];exact c0.toNat_lt
   have hx:∀ h:i < s.size,(s[i]'h).toNat=x:=fun h=>by rw [hx0,hc0];rfl
   have hdr:s.data.toList.drop i=c0 :: s.data.toList.drop (i+1):=by rw [hc0];exact List.drop_eq_getElem_cons hLi
   obtain ⟨⟨f,hf,kR⟩,kT,_⟩:=HS.out.tr
   obtain ⟨r0,r1,r2,r3,r4,r5⟩:=RX.gr_cells kR
   have T0:wr.cell? ⟨gT,0,none⟩=some (.pointer none):=(blk_cell kT 0).trans rfl
   have T1:wr.cell? ⟨gT,1,none⟩=some (.pointer none):=(blk_cell kT 1).trans rfl
   have T2:wr.cell? ⟨gT,2,none⟩=some (.pointer (some ⟨n1,0,none⟩)):=(blk_cell kT 2).trans rfl
   have hmx:=RX.gr_map kR x hx256
   rw [hf x hx256] at hmx
   clear hf kR kT hbt r0 r2 r3
   by_cases h126:x=126
   ·have hc126:c0=126:=UInt8.toNat_inj.1 (show c0.toNat=126 by omega)
    rw [h126] at hx hmx
    replace hmx:wr.cell? ⟨gR,132,none⟩=some (.int .u8 2):=hmx
    have hts:(s.extract i s.size).size=s.size - i:=by simp
    have ht0:∀ h:0 < (s.extract i s.size).size,((s.extract i s.size)[0]'h).toNat=126:=fun h=>by rw [ex_get h (by omega)];exact hx _
    have hd0:s.data.toList[i]=126:=by rw [←hc0];exact hc126
    by_cases hi:i+1 < s.size
    ·obtain ⟨y,hy⟩:∃ y:Nat,y=(s.data.toList[i+1]'(by rw [hsz];exact hi)).toNat:=⟨_,rfl⟩
     have hy256:y < 256:=by rw [hy];exact UInt8.toNat_lt _
     have ht1:∀ h:1 < (s.extract i s.size).size,((s.extract i s.size)[1]'h).toNat=y:=fun h=>by rw [ex_get h (by omega),hy];rfl
     have hdr2:s.data.toList.drop (i+1)=s.data.toList[i+1]'(by rw [hsz];exact hi) :: s.data.toList.drop (i+2):=List.drop_eq_getElem_cons (by rw [hsz];exact hi)
     have hd1:∀ n:Nat,y=n→∀ c:UInt8,c.toNat=n→s.data.toList[i+1]'(by rw [hsz];exact hi)=c:=fun n e c hc=>UInt8.toNat_inj.1 (by rw [←hy,e,hc])
     by_cases h48:y=48
     ·have hdd:=hd1 48 h48 48 rfl
      rw [h48] at ht1
      have HU2:=Aside0.mk (HU.out.hit (v:=126) (by rw [hsz];exact hi) hd0 hdd (.inl ⟨rfl,rfl⟩))
      clear hdr hdr2 hc0 hx0 hx256 h126 hc126 hd0 hd1 hdd hy hy256 h48
      have SZ:=Aside0.mk (show bs.length≤last∧last≤i from ⟨HU.out.2.1,HU.out.2.2⟩)
      go_upto_region 7 with fail
      go_quiet (fail)
      have S2:=Aside0.mk (HS.out.below (Drawn0.mk ⟨nq,rfl⟩:Drawn0 wr (wr.drewN nq)).below)
      go_upto_region 13 with (first | (go_at_call 291;(refine (look_48 (s.extract i s.size) gR gT n1 gU n2 n3 _ S2.out.tr (by rw [hts];omega) (by rw [hts];omega) ht0 ht1).mono ?_);rintro e w' ⟨rfl,hd⟩;have S3:=Aside0.mk (S2.out.below hd.below);clear hd))
      have S4:=Aside0.mk (S3.out.below (below_drew1 (Below.refl _ _)))
      have q1:=eq_true (show (last:Int)≤(i:Int) by have:=SZ.out;omega)
      have q2:=eq_true (show 0≤(last:Int) by omega)
      refine start_ (n:=14) (S:=fun w'=>True) (ds:=[]) #[false,false,false,false,false,false,false,false,false,false,false,false,false,false] (by kernel_rfl) rfl rfl trivial (fun hHeld=>?_)
      refine pure_ (i:=0) (N:=(some 80)) (v:=?_) (a':=?_) #[true,false,false,false,false,false,false,false,false,false,false,false,false,false] rfl rfl (by kernel_rfl) (fun _ _ _ h=>h) (Or.inl ⟨by rfl,?_⟩) ?_ ?_
      rotate_left
      ·intro w'
       go_simp
       with_reducible rfl
      rotate_left
      ·simp only [Act.put,List.setIfInBounds_toArray,List.set_cons_zero,List.set_cons_succ,i64_w,i32_w]
       rfl
      refine pure_ (i:=1) (N:=(some 81)) (v:=?_) (a':=?_) #[true,true,false,false,false,false,false,false,false,false,false,false,false,false] rfl rfl (by kernel_rfl) (fun _ _ _ h=>h) (Or.inl ⟨by rfl,?_⟩) ?_ ?_
      rotate_left
      ·intro w'
       go_simp
       with_reducible rfl
      rotate_left
      ·simp only [Act.put,List.setIfInBounds_toArray,List.set_cons_zero,List.set_cons_succ,i64_w,i32_w]
       rfl
      refine pure_ (i:=2) (N:=(some 82)) (v:=?_) (a':=?_) #[true,true,true,false,false,false,false,false,false,false,false,false,false,false] rfl rfl (by kernel_rfl) (fun _ _ _ h=>h) (Or.inl ⟨by rfl,?_⟩) ?_ ?_
      rotate_left
      ·intro w'
       go_simp
       with_reducible rfl
      rotate_left
      ·simp only [Act.put,List.setIfInBounds_toArray,List.set_cons_zero,List.set_cons_succ,i64_w,i32_w]
       rfl
      refine pure_ (i:=3) (N:=(some 83)) (v:=?_) (a':=?_) #[true,true,true,true,false,false,false,false,false,false,false,false,false,false] rfl rfl (by kernel_rfl) (fun _ _ _ h=>h) (Or.inl ⟨by rfl,?_⟩) ?_ ?_
      rotate_left
      ·intro w'
       go_simp
       with_reducible rfl
      rotate_left
      ·simp only [Act.put,List.setIfInBounds_toArray,List.set_cons_zero,List.set_cons_succ,i64_w,i32_w]
       rfl
      refine pure_ (i:=4) (N:=(some 84)) (v:=?_) (a':=?_) #[true,true,true,true,true,false,false,false,false,false,false,false,false,false] rfl rfl (by kernel_rfl) (fun _ _ _ h=>h) (Or.inl ⟨by rfl,?_⟩) ?_ ?_
      rotate_left
      ·intro w'
       go_simp
       with_reducible rfl
      rotate_left
      ·simp only [Act.put,List.setIfInBounds_toArray,List.set_cons_zero,List.set_cons_succ,i64_w,i32_w]
       rfl
      refine pure_ (i:=5) (N:=(some 85)) (v:=?_) (a':=?_) #[true,true,true,true,true,true,false,false,false,false,false,false,false,false] rfl rfl (by kernel_rfl) (fun _ _ _ h=>h) (Or.inl ⟨by rfl,?_⟩) ?_ ?_
      rotate_left
      ·intro w'
       go_simp
       with_reducible rfl
      rotate_left
      ·simp only [Act.put,List.setIfInBounds_toArray,List.set_cons_zero,List.set_cons_succ,i64_w,i32_w]
       rfl
      refine pure_ (i:=6) (N:=(some 86)) (v:=?_) (a':=?_) #[true,true,true,true,true,true,true,false,false,false,false,false,false,false] rfl rfl (by kernel_rfl) (fun _ _ _ h=>h) (Or.inl ⟨by rfl,?_⟩) ?_ ?_
      rotate_left
      ·intro w'
       (refine nc_ev (x:=.tmp 85) ⟨gb,0,none⟩ ?_ ?_ w' <;> rfl)
      rotate_left
      ·simp only [Act.put,List.setIfInBounds_toArray,List.set_cons_zero,List.set_cons_succ,i64_w,i32_w]
       rfl
      refine pure_ (i:=7) (N:=(some 87)) (v:=?_) (a':=?_) #[true,true,true,true,true,true,true,true,false,false,false,false,false,false] rfl rfl (by kernel_rfl) (fun _ _ _ h=>h) (Or.inl ⟨by rfl,?_⟩) ?_ ?_
      rotate_left
      ·intro w'
       go_simp
       with_reducible rfl
      rotate_left
      ·simp only [Act.put,List.setIfInBounds_toArray,List.set_cons_zero,List.set_cons_succ,i64_w,i32_w]
       rfl
      refine one_ (i:=8) (N:=(some 88)) #[true,true,true,true,true,true,true,true,true,false,false,false,false,false] rfl rfl (by kernel_rfl) (by decide) (fun K hK=>?_)
      refine call_ 299 #[.pointer (some ⟨gb,0,none⟩),.string (s.extract last i)] (by rfl) rfl (by refine inv_ev (x:=.tmp 87) (y:=.tmp 84) ⟨gb,0,none⟩ (s.extract last i) ?_ ?_ ?_ _ <;> rfl) ?_
      refine (S4.out.write (s.extract last i) (by have:=SZ.out;simp;omega)).mono ?_
      rintro e w' ⟨rfl,v5,hw⟩
      refine ⟨_,rfl,?_⟩
      have S5:=Aside0.mk hw
      clear hw
      refine hK.out _ _ trivial (fun hHeld=>?_)
      clear hK K
      refine norm_ (a':=?_) ?_ ?_
      rotate_left
      ·show Act.put _ (some 88) _=_
       simp only [Act.put,List.setIfInBounds_toArray,List.set_cons_zero,List.set_cons_succ,i64_w,i32_w]
       rfl
      refine pure_ (i:=9) (N:=(some 79)) (v:=?_) (a':=?_) #[true,true,true,true,true,true,true,true,true,true,false,false,false,false] rfl rfl (by kernel_rfl) (fun _ _ _ h=>h) (Or.inl ⟨by rfl,?_⟩) ?_ ?_
      rotate_left
      ·intro w'
       go_simp
       with_reducible rfl
      rotate_left
      ·simp only [Act.put,List.setIfInBounds_toArray,List.set_cons_zero,List.set_cons_succ,i64_w,i32_w]
       rfl
      refine pure_ (i:=10) (N:=(some 89)) (v:=?_) (a':=?_) #[true,true,true,true,true,true,true,true,true,true,true,false,false,false] rfl rfl (by kernel_rfl) (fun _ _ _ h=>h) (Or.inl ⟨by rfl,?_⟩) ?_ ?_
      rotate_left
      ·intro w'
       go_simp
       with_reducible rfl
      rotate_left
      ·simp only [Act.put,List.setIfInBounds_toArray,List.set_cons_zero,List.set_cons_succ,i64_w,i32_w]
       rfl
      refine pure_ (i:=11) (N:=(some 90)) (v:=?_) (a':=?_) #[true,true,true,true,true,true,true,true,true,true,true,true,false,false] rfl rfl (by kernel_rfl) (fun _ _ _ h=>h) (Or.inl ⟨by rfl,?_⟩) ?_ ?_
      rotate_left
      ·intro w'
       go_simp
       with_reducible rfl
      rotate_left
      ·simp only [Act.put,List.setIfInBounds_toArray,List.set_cons_zero,List.set_cons_succ,i64_w,i32_w]
       rfl
      refine pure_ (i:=12) (N:=(some 10)) (v:=?_) (a':=?_) #[true,true,true,true,true,true,true,true,true,true,true,true,true,false] rfl rfl (by kernel_rfl) (fun _ _ _ h=>h) (Or.inl ⟨by rfl,?_⟩) ?_ ?_
      rotate_left
      ·intro w'
       go_simp
       with_reducible rfl
      rotate_left
      ·simp only [Act.put,List.setIfInBounds_toArray,List.set_cons_zero,List.set_cons_succ,i64_w,i32_w]
       rfl
      refine pure_ (i:=13) (N:=(some 7)) (v:=?_) (a':=?_) #[true,true,true,true,true,true,true,true,true,true,true,true,true,true] rfl rfl (by kernel_rfl) (fun _ _ _ h=>h) (Or.inl ⟨by rfl,?_⟩) ?_ ?_
      rotate_left
      ·intro w'
       go_simp
       with_reducible rfl
      rotate_left
      ·simp only [Act.put,List.setIfInBounds_toArray,List.set_cons_zero,List.set_cons_succ,i64_w,i32_w]
       rfl
      refine done_ (by kernel_rfl) ?_
      have HL5:=Aside0.mk (show (bs++(s.extract last i).data.toList).length+1≤140737488355328 by have h1:=SZ.out;rw [List.length_append,ex_list s last i h1.2,List.length_drop,List.length_take];omega)
      go_wp2_with (first | (go_at_call 299;(refine (S5.out.write (⟨#[126]⟩) HL5.out).mono ?_);rintro e w' ⟨rfl,v6q,hw⟩;have S6:=Aside0.mk hw;clear hw))
      go_roundg (s.size+1 - (i+2))
      case measure=>omega
      case rel=>exact ⟨i+2,i+2,_,v6q,_,rfl,by omega,by omega,rfl,rfl,by go_num,rfl,by go_num,S6,⟨by rw [ex_list s last i SZ.out.2];exact HU2.out⟩⟩
     ·by_cases h49:y=49
      ·have hdd:=hd1 49 h49 49 rfl
       rw [h49] at ht1
       have HU2:=Aside0.mk (HU.out.hit (v:=47) (by rw [hsz];exact hi) hd0 hdd (.inr ⟨rfl,rfl⟩))
       clear hdr hdr2 hc0 hx0 hx256 h126 hc126 hd0 hd1 hdd hy hy256 h48 h49
       have SZ:=Aside0.mk (show bs.length≤last∧last≤i from ⟨HU.out.2.1,HU.out.2.2⟩)
       go_upto_region 7 with fail
       go_quiet (fail)
       have S2:=Aside0.mk (HS.out.below (Drawn0.mk ⟨nq,rfl⟩:Drawn0 wr (wr.drewN nq)).below)
       go_upto_region 13 with (first | (go_at_call 291;(refine (look_49 (s.extract i s.size) gR gT n1 gU n2 n3 _ S2.out.tr (by rw [hts];omega) (by rw [hts];omega) ht0 ht1).mono ?_);rintro e w' ⟨rfl,hd⟩;have S3:=Aside0.mk (S2.out.below hd.below);clear hd))
       have S4:=Aside0.mk (S3.out.below (below_drew1 (Below.refl _ _)))
       have q1:=eq_true (show (last:Int)≤(i:Int) by have:=SZ.out;omega)
       have q2:=eq_true (show 0≤(last:Int) by omega)
       refine start_ (n:=14) (S:=fun w'=>True) (ds:=[]) #[false,false,false,false,false,false,false,false,false,false,false,false,false,false] (by kernel_rfl) rfl rfl trivial (fun hHeld=>?_)
       refine pure_ (i:=0) (N:=(some 80)) (v:=?_) (a':=?_) #[true,false,false,false,false,false,false,false,false,false,false,false,false,false] rfl rfl (by kernel_rfl) (fun _ _ _ h=>h) (Or.inl ⟨by rfl,?_⟩) ?_ ?_
       rotate_left
       ·intro w'
        go_simp
        with_reducible rfl
       rotate_left
       ·simp only [Act.put,List.setIfInBounds_toArray,List.set_cons_zero,List.set_cons_succ,i64_w,i32_w]
        rfl
       refine pure_ (i:=1) (N:=(some 81)) (v:=?_) (a':=?_) #[true,true,false,false,false,false,false,false,false,false,false,false,false,false] rfl rfl (by kernel_rfl) (fun _ _ _ h=>h) (Or.inl ⟨by rfl,?_⟩) ?_ ?_
       rotate_left
       ·intro w'
        go_simp
        with_reducible rfl
       rotate_left
       ·simp only [Act.put,List.setIfInBounds_toArray,List.set_cons_zero,List.set_cons_succ,i64_w,i32_w]
        rfl
       refine pure_ (i:=2) (N:=(some 82)) (v:=?_) (a':=?_) #[true,true,true,false,false,false,false,false,false,false,false,false,false,false] rfl rfl (by kernel_rfl) (fun _ _ _ h=>h) (Or.inl ⟨by rfl,?_⟩) ?_ ?_
       rotate_left
       ·intro w'
        go_simp
        with_reducible rfl
       rotate_left
       ·simp only [Act.put,List.setIfInBounds_toArray,List.set_cons_zero,List.set_cons_succ,i64_w,i32_w]
        rfl
       refine pure_ (i:=3) (N:=(some 83)) (v:=?_) (a':=?_) #[true,true,true,true,false,false,false,false,false,false,false,false,false,false] rfl rfl (by kernel_rfl) (fun _ _ _ h=>h) (Or.inl ⟨by rfl,?_⟩) ?_ ?_
       rotate_left
       ·intro w'
        go_simp
        with_reducible rfl
       rotate_left
       ·simp only [Act.put,List.setIfInBounds_toArray,List.set_cons_zero,List.set_cons_succ,i64_w,i32_w]
        rfl
       refine pure_ (i:=4) (N:=(some 84)) (v:=?_) (a':=?_) #[true,true,true,true,true,false,false,false,false,false,false,false,false,false] rfl rfl (by kernel_rfl) (fun _ _ _ h=>h) (Or.inl ⟨by rfl,?_⟩) ?_ ?_
       rotate_left
       ·intro w'
        go_simp
        with_reducible rfl
       rotate_left
       ·simp only [Act.put,List.setIfInBounds_toArray,List.set_cons_zero,List.set_cons_succ,i64_w,i32_w]
        rfl
       refine pure_ (i:=5) (N:=(some 85)) (v:=?_) (a':=?_) #[true,true,true,true,true,true,false,false,false,false,false,false,false,false] rfl rfl (by kernel_rfl) (fun _ _ _ h=>h) (Or.inl ⟨by rfl,?_⟩) ?_ ?_
       rotate_left
       ·intro w'
        go_simp
        with_reducible rfl
       rotate_left
       ·simp only [Act.put,List.setIfInBounds_toArray,List.set_cons_zero,List.set_cons_succ,i64_w,i32_w]
        rfl
       refine pure_ (i:=6) (N:=(some 86)) (v:=?_) (a':=?_) #[true,true,true,true,true,true,true,false,false,false,false,false,false,false] rfl rfl (by kernel_rfl) (fun _ _ _ h=>h) (Or.inl ⟨by rfl,?_⟩) ?_ ?_
       rotate_left
       ·intro w'
        (refine nc_ev (x:=.tmp 85) ⟨gb,0,none⟩ ?_ ?_ w' <;> rfl)
       rotate_left
       ·simp only [Act.put,List.setIfInBounds_toArray,List.set_cons_zero,List.set_cons_succ,i64_w,i32_w]
        rfl
       refine pure_ (i:=7) (N:=(some 87)) (v:=?_) (a':=?_) #[true,true,true,true,true,true,true,true,false,false,false,false,false,false] rfl rfl (by kernel_rfl) (fun _ _ _ h=>h) (Or.inl ⟨by rfl,?_⟩) ?_ ?_
       rotate_left
       ·intro w'
        go_simp
        with_reducible rfl
       rotate_left
       ·simp only [Act.put,List.setIfInBounds_toArray,List.set_cons_zero,List.set_cons_succ,i64_w,i32_w]
        rfl
       refine one_ (i:=8) (N:=(some 88)) #[true,true,true,true,true,true,true,true,true,false,false,false,false,false] rfl rfl (by kernel_rfl) (by decide) (fun K hK=>?_)
       refine call_ 299 #[.pointer (some ⟨gb,0,none⟩),.string (s.extract last i)] (by rfl) rfl (by refine inv_ev (x:=.tmp 87) (y:=.tmp 84) ⟨gb,0,none⟩ (s.extract last i) ?_ ?_ ?_ _ <;> rfl) ?_
       refine (S4.out.write (s.extract last i) (by have:=SZ.out;simp;omega)).mono ?_
       rintro e w' ⟨rfl,v5,hw⟩
       refine ⟨_,rfl,?_⟩
       have S5:=Aside0.mk hw
       clear hw
       refine hK.out _ _ trivial (fun hHeld=>?_)
       clear hK K
       refine norm_ (a':=?_) ?_ ?_
       rotate_left
       ·show Act.put _ (some 88) _=_
        simp only [Act.put,List.setIfInBounds_toArray,List.set_cons_zero,List.set_cons_succ,i64_w,i32_w]
        rfl
       refine pure_ (i:=9) (N:=(some 79)) (v:=?_) (a':=?_) #[true,true,true,true,true,true,true,true,true,true,false,false,false,false] rfl rfl (by kernel_rfl) (fun _ _ _ h=>h) (Or.inl ⟨by rfl,?_⟩) ?_ ?_
       rotate_left
       ·intro w'
        go_simp
        with_reducible rfl
       rotate_left
       ·simp only [Act.put,List.setIfInBounds_toArray,List.set_cons_zero,List.set_cons_succ,i64_w,i32_w]
        rfl
       refine pure_ (i:=10) (N:=(some 89)) (v:=?_) (a':=?_) #[true,true,true,true,true,true,true,true,true,true,true,false,false,false] rfl rfl (by kernel_rfl) (fun _ _ _ h=>h) (Or.inl ⟨by rfl,?_⟩) ?_ ?_
       rotate_left
       ·intro w'
        go_simp
        with_reducible rfl
       rotate_left
       ·simp only [Act.put,List.setIfInBounds_toArray,List.set_cons_zero,List.set_cons_succ,i64_w,i32_w]
        rfl
       refine pure_ (i:=11) (N:=(some 90)) (v:=?_) (a':=?_) #[true,true,true,true,true,true,true,true,true,true,true,true,false,false] rfl rfl (by kernel_rfl) (fun _ _ _ h=>h) (Or.inl ⟨by rfl,?_⟩) ?_ ?_
       rotate_left
       ·intro w'
        go_simp
        with_reducible rfl
       rotate_left
       ·simp only [Act.put,List.setIfInBounds_toArray,List.set_cons_zero,List.set_cons_succ,i64_w,i32_w]
        rfl
       refine pure_ (i:=12) (N:=(some 10)) (v:=?_) (a':=?_) #[true,true,true,true,true,true,true,true,true,true,true,true,true,false] rfl rfl (by kernel_rfl) (fun _ _ _ h=>h) (Or.inl ⟨by rfl,?_⟩) ?_ ?_
       rotate_left
       ·intro w'
        go_simp
        with_reducible rfl
       rotate_left
       ·simp only [Act.put,List.setIfInBounds_toArray,List.set_cons_zero,List.set_cons_succ,i64_w,i32_w]
        rfl
       refine pure_ (i:=13) (N:=(some 7)) (v:=?_) (a':=?_) #[true,true,true,true,true,true,true,true,true,true,true,true,true,true] rfl rfl (by kernel_rfl) (fun _ _ _ h=>h) (Or.inl ⟨by rfl,?_⟩) ?_ ?_
       rotate_left
       ·intro w'
        go_simp
        with_reducible rfl
       rotate_left
       ·simp only [Act.put,List.setIfInBounds_toArray,List.set_cons_zero,List.set_cons_succ,i64_w,i32_w]
        rfl
       refine done_ (by kernel_rfl) ?_
       have HL5:=Aside0.mk (show (bs++(s.extract last i).data.toList).length+1≤140737488355328 by have h1:=SZ.out;rw [List.length_append,ex_list s last i h1.2,List.length_drop,List.length_take];omega)
       go_wp2_with (first | (go_at_call 299;(refine (S5.out.write (⟨#[47]⟩) HL5.out).mono ?_);rintro e w' ⟨rfl,v6q,hw⟩;have S6:=Aside0.mk hw;clear hw))
       go_roundg (s.size+1 - (i+2))
       case measure=>omega
       case rel=>exact ⟨i+2,i+2,_,v6q,_,rfl,by omega,by omega,rfl,rfl,by go_num,rfl,by go_num,S6,⟨by rw [ex_list s last i SZ.out.2];exact HU2.out⟩⟩
      ·have hstep:UInv s.data.toList bs last (i+1):=HU.out.lit hLi (by
        rw [hdr,hd0,hc126,hdr2]
        exact unesc_oth (fun e=>h48 (by rw [hy,e];rfl)) (fun e=>h49 (by rw [hy,e];rfl)))
       have HSS:=Aside0.mk hstep
       by_cases h126y:y=126
       ·rw [h126y] at ht1
        clear hdr hdr2 hc0 hx0 hx256 h126 hc126 hd0 hd1 hy hy256 h48 h49 hstep h126y
        go_upto_region 7 with fail
        go_quiet (fail)
        have S2:=Aside0.mk (HS.out.below (Drawn0.mk ⟨nq,rfl⟩:Drawn0 wr (wr.drewN nq)).below)
        go_wp2_with (first | (go_at_call 291;(refine (RX.look_126 (s.extract i s.size) gR gT n1 gU n2 n3 _ S2.out.tr (by rw [hts];omega) ht1 (by rw [hts];omega) ht0).mono ?_);rintro e w' ⟨rfl,hd⟩;have S3:=Aside0.mk (S2.out.below hd.below);clear hd))
        go_roundg (s.size+1 - (i+1))
        case measure=>omega
        case rel=>exact ⟨i+1,last,k,v,bs,rfl,by omega,hl,rfl,rfl,rfl,rfl,by go_num,S3,⟨HSS.out⟩⟩
       ·clear hdr hdr2 hc0 hx0 hx256 h126 hc126 hd0 hd1 hy hstep
        go_upto_region 7 with fail
        go_quiet (fail)
        have S2:=Aside0.mk (HS.out.below (Drawn0.mk ⟨nq,rfl⟩:Drawn0 wr (wr.drewN nq)).below)
        go_wp2_with (first | (go_at_call 291;(refine (RX.look_oth (s.extract i s.size) gR gT n1 gU n2 n3 _ S2.out.tr y hy256 h48 h49 h126y (by rw [hts];omega) ht1 (by rw [hts];omega) ht0).mono ?_);rintro e w' ⟨rfl,hd⟩;have S3:=Aside0.mk (S2.out.below hd.below);clear hd))
        go_roundg (s.size+1 - (i+1))
        case measure=>omega
        case rel=>exact ⟨i+1,last,k,v,bs,rfl,by omega,hl,rfl,rfl,rfl,rfl,by go_num,S3,⟨HSS.out⟩⟩
    ·have hsz1:i+1=s.size:=by omega
     have hstep:UInv s.data.toList bs last (i+1):=HU.out.lit hLi (by rw [hdr,hd0,hc126,List.drop_of_length_le (by rw [hsz];omega)];rfl)
     have HSS:=Aside0.mk hstep
     clear hdr hc0 hx0 hx256 h126 hc126 hd0 hstep
     go_upto_region 7 with fail
     go_quiet (fail)
     have S2:=Aside0.mk (HS.out.below (Drawn0.mk ⟨nq,rfl⟩:Drawn0 wr (wr.drewN nq)).below)
     go_wp2_with (first | (go_at_call 291;(refine (RX.look_end (s.extract i s.size) gR gT n1 gU n2 n3 _ S2.out.tr (by rw [hts];omega) (by rw [hts];omega) ht0).mono ?_);rintro e w' ⟨rfl,hd⟩;have S3:=Aside0.mk (S2.out.below hd.below);clear hd))
     go_roundg (s.size+1 - (i+1))
     case measure=>omega
     case rel=>exact ⟨i+1,last,k,v,bs,rfl,by omega,hl,rfl,rfl,rfl,rfl,by go_num,S3,⟨HSS.out⟩⟩
   ·have hlit:c0≠126:=fun e=>h126 (by rw [hx0,e];rfl)
    have hstep:=Aside0.mk (HU.out.lit hLi (by rw [hdr,unesc_lit hlit,hc0]))
    have hdw:=Aside0.mk HS.out
    by_cases h48:x=48
    ·rw [h48] at hx hmx
     replace hmx:wr.cell? ⟨gR,54,none⟩=some (.int .u8 0):=hmx
     clear hdr hc0 hx0 hx256 h126 hlit h48
     go_upto_region 7 with fail
     go_quiet (fail)
     go_wp2
     go_roundg (s.size+1 - (i+1))
     case measure=>omega
     case rel=>exact ⟨i+1,last,k,v,bs,rfl,by omega,hl,rfl,rfl,rfl,rfl,by go_num,⟨HS.out.below (Drawn0.mk ⟨nq,rfl⟩:Drawn0 wr (wr.drewN nq)).below⟩,hstep⟩
    ·by_cases h49:x=49
     ·rw [h49] at hx hmx
      replace hmx:wr.cell? ⟨gR,55,none⟩=some (.int .u8 1):=hmx
      clear hdr hc0 hx0 hx256 h126 hlit h48 h49
      go_upto_region 7 with fail
      go_quiet (fail)
      go_wp2
      go_roundg (s.size+1 - (i+1))
      case measure=>omega
      case rel=>exact ⟨i+1,last,k,v,bs,rfl,by omega,hl,rfl,rfl,rfl,rfl,by go_num,⟨HS.out.below (Drawn0.mk ⟨nq,rfl⟩:Drawn0 wr (wr.drewN nq)).below⟩,hstep⟩
     ·rw [RX.fin_no h48 h49 h126] at hmx
      have hx5:(x:Int) < 256:=by omega
      have hx6:=eq_true (show 0≤(x:Int) by omega)
      have hx7:=eq_true hx5
      clear hdr hc0 hx0 h126 hlit h48 h49
      go_upto_region 7 with fail
      go_quiet (fail)
      go_wp2
      go_roundg (s.size+1 - (i+1))
      case measure=>omega
      case rel=>exact ⟨i+1,last,k,v,bs,rfl,by omega,hl,rfl,rfl,rfl,rfl,by go_num,⟨HS.out.below (Drawn0.mk ⟨nq,rfl⟩:Drawn0 wr (wr.drewN nq)).below⟩,hstep⟩
  ·have hge:s.size≤i:=by omega
   by_cases he:i=s.size
   ·subst he
    have hle:decide ((s.size:Int)≤(s.size:Int))=true:=decide_eq_true (by omega)
    have q9:=eq_true (show (s.size:Int)≤(s.size:Int) by omega)
    have hne:((s.size:Int)==(s.size:Int))=true:=by simp
    have hne2:((s.size:Int) != (s.size:Int))=false:=by simp
    have hex:s.extract s.size s.size=(⟨#[]⟩:ByteArray):=by apply ByteArray.ext;simp
    have hstep:=Aside0.mk (show UInv s.data.toList bs last (s.size+1) by have:=HU.out;rw [←hsz] at this ⊢;exact this.past)
    go_wp2_with (first | (go_at_call 291;(refine (RX.look_nil gR gT n1 gU n2 n3 _ HS.out.tr).mono ?_);rintro e w' ⟨rfl,hd⟩;have S3:=Aside0.mk (HS.out.below hd.below);clear hd))
    go_roundg 0
    case measure=>omega
    case rel=>exact ⟨s.size+1,last,k,v,bs,by omega,by omega,hl,rfl,rfl,rfl,rfl,by go_num,S3,hstep⟩
   ·have HE:=Aside0.mk (show i=s.size+1 by omega)
    have hle:decide ((i:Int)≤(s.size:Int))=false:=decide_eq_false (by omega)
    have hfin:=Aside0.mk (show unescL s.data.toList=bs++s.data.toList.drop last by have:=HU.out;rw [HE.out,←hsz] at this;exact this.end_)
    have hle2:=eq_false (show ¬(i:Int)≤(s.size:Int) by omega)
    clear hlt hge he hi2 hk hi0 hi9
    have SZ:=Aside0.mk HU.out.2.1
    clear HU
    by_cases hls:last=s.size
    ·subst hls
     have hne:((s.size:Int) != (s.size:Int))=false:=by simp
     go_wp2
     refine bodyPost_ret (v:=.tuple #[.int .i64 k,.nilIface]) (by simp [results,Tryz.results289,go_sem]) rfl ?_
     refine ⟨k,v,rfl,?_⟩
     rw [hfin.out,List.drop_of_length_le (by rw [hsz];omega),List.append_nil]
     exact HS.out
    ·have hne:((last:Int) != (s.size:Int))=true:=by rw [bne_iff_ne];omega
     have q1:=eq_true (show (last:Int)≤(s.size:Int) by omega)
     have q2:=eq_true (show 0≤(last:Int) by omega)
     have S4:=Aside0.mk (HS.out.below (below_drew1 (Below.refl _ _)))
     go_upto_region 23 with fail
     refine start_ (n:=13) (S:=fun w'=>True) (ds:=[]) #[false,false,false,false,false,false,false,false,false,false,false,false,false] (by kernel_rfl) rfl rfl trivial (fun hHeld=>?_)
     refine pure_ (i:=0) (N:=(some 118)) (v:=?_) (a':=?_) #[true,false,false,false,false,false,false,false,false,false,false,false,false] rfl rfl (by kernel_rfl) (fun _ _ _ h=>h) (Or.inl ⟨by rfl,?_⟩) ?_ ?_
     rotate_left
     ·intro w'
      go_simp
      with_reducible rfl
     rotate_left
     ·simp only [Act.put,List.setIfInBounds_toArray,List.set_cons_zero,List.set_cons_succ,i64_w,i32_w]
      rfl
     refine pure_ (i:=1) (N:=(some 119)) (v:=?_) (a':=?_) #[true,true,false,false,false,false,false,false,false,false,false,false,false] rfl rfl (by kernel_rfl) (fun _ _ _ h=>h) (Or.inl ⟨by rfl,?_⟩) ?_ ?_
     rotate_left
     ·intro w'
      go_simp
      with_reducible rfl
     rotate_left
     ·simp only [Act.put,List.setIfInBounds_toArray,List.set_cons_zero,List.set_cons_succ,i64_w,i32_w]
      rfl
     refine pure_ (i:=2) (N:=(some 120)) (v:=?_) (a':=?_) #[true,true,true,false,false,false,false,false,false,false,false,false,false] rfl rfl (by kernel_rfl) (fun _ _ _ h=>h) (Or.inl ⟨by rfl,?_⟩) ?_ ?_
     rotate_left
     ·intro w'
      go_simp
      with_reducible rfl
     rotate_left
     ·simp only [Act.put,List.setIfInBounds_toArray,List.set_cons_zero,List.set_cons_succ,i64_w,i32_w]
      rfl
     refine pure_ (i:=3) (N:=(some 121)) (v:=?_) (a':=?_) #[true,true,true,true,false,false,false,false,false,false,false,false,false] rfl rfl (by kernel_rfl) (fun _ _ _ h=>h) (Or.inl ⟨by rfl,?_⟩) ?_ ?_
     rotate_left
     ·intro w'
      go_simp
      with_reducible rfl
     rotate_left
     ·simp only [Act.put,List.setIfInBounds_toArray,List.set_cons_zero,List.set_cons_succ,i64_w,i32_w]
      rfl
     refine pure_ (i:=4) (N:=(some 122)) (v:=?_) (a':=?_) #[true,true,true,true,true,false,false,false,false,false,false,false,false] rfl rfl (by kernel_rfl) (fun _ _ _ h=>h) (Or.inl ⟨by rfl,?_⟩) ?_ ?_
     rotate_left
     ·intro w'
      go_simp
      with_reducible rfl
     rotate_left
     ·simp only [Act.put,List.setIfInBounds_toArray,List.set_cons_zero,List.set_cons_succ,i64_w,i32_w]
      rfl
     refine pure_ (i:=5) (N:=(some 123)) (v:=?_) (a':=?_) #[true,true,true,true,true,true,false,false,false,false,false,false,false] rfl rfl (by kernel_rfl) (fun _ _ _ h=>h) (Or.inl ⟨by rfl,?_⟩) ?_ ?_
     rotate_left
     ·intro w'
      (refine nc_ev (x:=.tmp 122) ⟨gb,0,none⟩ ?_ ?_ w' <;> rfl)
     rotate_left
     ·simp only [Act.put,List.setIfInBounds_toArray,List.set_cons_zero,List.set_cons_succ,i64_w,i32_w]
      rfl
     refine pure_ (i:=6) (N:=(some 124)) (v:=?_) (a':=?_) #[true,true,true,true,true,true,true,false,false,false,false,false,false] rfl rfl (by kernel_rfl) (fun _ _ _ h=>h) (Or.inl ⟨by rfl,?_⟩) ?_ ?_
     rotate_left
     ·intro w'
      go_simp
      with_reducible rfl
     rotate_left
     ·simp only [Act.put,List.setIfInBounds_toArray,List.set_cons_zero,List.set_cons_succ,i64_w,i32_w]
      rfl
     refine one_ (i:=7) (N:=(some 125)) #[true,true,true,true,true,true,true,true,false,false,false,false,false] rfl rfl (by kernel_rfl) (by decide) (fun K hK=>?_)
     refine call_ 299 #[.pointer (some ⟨gb,0,none⟩),.string (s.extract last s.size)] (by rfl) rfl (by refine inv_ev (x:=.tmp 124) (y:=.tmp 121) ⟨gb,0,none⟩ (s.extract last s.size) ?_ ?_ ?_ _ <;> rfl) ?_
     refine (S4.out.write (s.extract last s.size) (by have:=SZ.out;simp;omega)).mono ?_
     rintro e w' ⟨rfl,v5,hw⟩
     refine ⟨_,rfl,?_⟩
     have S5:=Aside0.mk hw
     clear hw
     refine hK.out _ _ trivial (fun hHeld=>?_)
     clear hK K
     refine norm_ (a':=?_) ?_ ?_
     rotate_left
     ·show Act.put _ (some 125) _=_
      simp only [Act.put,List.setIfInBounds_toArray,List.set_cons_zero,List.set_cons_succ,i64_w,i32_w]
      rfl
     refine pure_ (i:=8) (N:=(some 117)) (v:=?_) (a':=?_) #[true,true,true,true,true,true,true,true,true,false,false,false,false] rfl rfl (by kernel_rfl) (fun _ _ _ h=>h) (Or.inl ⟨by rfl,?_⟩) ?_ ?_
     rotate_left
     ·intro w'
      go_simp
      with_reducible rfl
     rotate_left
     ·simp only [Act.put,List.setIfInBounds_toArray,List.set_cons_zero,List.set_cons_succ,i64_w,i32_w]
      rfl
     refine pure_ (i:=9) (N:=(some 126)) (v:=?_) (a':=?_) #[true,true,true,true,true,true,true,true,true,true,false,false,false] rfl rfl (by kernel_rfl) (fun _ _ _ h=>h) (Or.inl ⟨by rfl,?_⟩) ?_ ?_
     rotate_left
     ·intro w'
      go_simp
      with_reducible rfl
     rotate_left
     ·simp only [Act.put,List.setIfInBounds_toArray,List.set_cons_zero,List.set_cons_succ,i64_w,i32_w]
      rfl
     refine pure_ (i:=10) (N:=(some 127)) (v:=?_) (a':=?_) #[true,true,true,true,true,true,true,true,true,true,true,false,false] rfl rfl (by kernel_rfl) (fun _ _ _ h=>h) (Or.inl ⟨by rfl,?_⟩) ?_ ?_
     rotate_left
     ·intro w'
      go_simp
      with_reducible rfl
     rotate_left
     ·simp only [Act.put,List.setIfInBounds_toArray,List.set_cons_zero,List.set_cons_succ,i64_w,i32_w]
      rfl
     refine pure_ (i:=11) (N:=(some 10)) (v:=?_) (a':=?_) #[true,true,true,true,true,true,true,true,true,true,true,true,false] rfl rfl (by kernel_rfl) (fun _ _ _ h=>h) (Or.inl ⟨by rfl,?_⟩) ?_ ?_
     rotate_left
     ·intro w'
      go_simp
      with_reducible rfl
     rotate_left
     ·simp only [Act.put,List.setIfInBounds_toArray,List.set_cons_zero,List.set_cons_succ,i64_w,i32_w]
      rfl
     refine pure_ (i:=12) (N:=(some 7)) (v:=?_) (a':=?_) #[true,true,true,true,true,true,true,true,true,true,true,true,true] rfl rfl (by kernel_rfl) (fun _ _ _ h=>h) (Or.inl ⟨by rfl,?_⟩) ?_ ?_
     rotate_left
     ·intro w'
      go_simp
      with_reducible rfl
     rotate_left
     ·simp only [Act.put,List.setIfInBounds_toArray,List.set_cons_zero,List.set_cons_succ,i64_w,i32_w]
      rfl
     refine done_ (by kernel_rfl) ?_
     go_wp2
     refine bodyPost_ret (v:=.tuple #[.int .i64 (wrap64 (k+((s.extract last s.size).size:Int))),.nilIface]) (by simp [results,Tryz.results289,go_sem]) rfl ?_
     refine ⟨_,v5,rfl,?_⟩
     rw [hfin.out]
     have e:(s.extract last s.size).data.toList=s.data.toList.drop last:=by rw [ex_list s last s.size (by omega),List.take_of_length_le (by rw [hsz];exact Nat.le_refl _)]
     have q:=S5.out
     rw [e] at q
     exact q
end Go.Proofs.YtoaafohpmhdjnaaGreatDoor.RX
