import Derived.Test.YtoaafohpmhdjnaaGreatDoorTAVK
import Derived.Test.YtoaafohpmhdjnaaGreatDoorTAPVGx0
/- Trees that are read: bounded, count, deep. Conditions: at most 2^30 nodes. -/
namespace Go.Proofs.YtoaafohpmhdjnaaGreatDoor.VT
open Go.RowKit Go.Proofs.YtoaafohpmhdjnaaGreatDoor.PVG Go.Proofs.YtoaafohpmhdjnaaGreatDoorW.PrintWords Go.Proofs.YtoaafohpmhdjnaaGreatDoorW.PrintLast Go.Proofs.YtoaafohpmhdjnaaGreatDoorW.PrintMore
attribute [local go_sem] max2_int min2_int max_two min_two
set_option linter.unusedVariables false
set_option linter.unusedSimpArgs false
mutual
def bnd:Tr→Bool
 | .mk kd nu tx ns ks=>inB nu (-1000000000) 1000000000&&prt tx&&ns.all prt&&bndL ks
def bndL:List Tr→Bool
 | []=>true
 | t :: ts=>bnd t&&bndL ts
end
theorem bndL_iff (a:List Tr):bndL a=true↔∀ t,t∈a→bnd t=true:=by
 induction a with
 | nil=>simp [bndL]
 | cons t ts ih=>simp [bndL,ih]
theorem bndL_take (ks:List Tr) (i:Nat) (h:i < ks.length):bndL (ks.take (i+1))=(bndL (ks.take i)&&bnd ks[i]):=by
 induction ks generalizing i with
 | nil=>simp at h
 | cons t ts ih =>
  cases i with
  | zero=>simp [bndL]
  | succ i=>simp only [List.take_succ_cons,bndL,List.getElem_cons_succ,ih i (by simpa using h),Bool.and_assoc]
theorem cntL_take (ks:List Tr) (i:Nat) (h:i < ks.length):cntL (ks.take (i+1))=cntL (ks.take i)+cnt ks[i]:=by
 rw [List.take_succ_eq_append_getElem h,cntL_append]
 simp [cntL]
theorem cntL_take_le (ks:List Tr) (i:Nat):cntL (ks.take i)≤cntL ks:=by
 have:=cntL_append (ks.take i) (ks.drop i)
 rw [List.take_append_drop] at this
 omega
theorem deepL_take (ks:List Tr) (i:Nat) (h:i < ks.length):deepL (ks.take (i+1))=max (deepL (ks.take i)) (deep ks[i]):=by
 induction ks generalizing i with
 | nil=>simp at h
 | cons t ts ih =>
  cases i with
  | zero=>simp [deepL]
  | succ i =>
   simp only [List.take_succ_cons,deepL,List.getElem_cons_succ,ih i (by simpa using h)]
   omega
mutual
theorem deep_le_cnt:∀ t:Tr,deep t≤cnt t
 | .mk kd nu tx ns ks=>by
  have:=deepL_le_cnt ks
  have h1:hN kd≤1:=by unfold hN;split <;> omega
  simp only [deep,cnt]
  omega
theorem deepL_le_cnt:∀ ts:List Tr,deepL ts≤cntL ts
 | []=>by simp [deepL]
 | t :: ts=>by
  have h1:=deep_le_cnt t
  have h2:=deepL_le_cnt ts
  simp only [deepL,cntL]
  omega
end
theorem cntL_mem {ks:List Tr} {t:Tr} (h:t∈ks):cnt t≤cntL ks:=by
 induction ks with
 | nil=>simp at h
 | cons a ts ih =>
  rcases List.mem_cons.1 h with rfl | h
  ·simp only [cntL];omega
  ·have:=ih h;simp only [cntL];omega
theorem VAt.kid' {w W:World} {g:Nat} {t:Tr} {A3:Option Addr} {c3:Nat} {A4:Option Addr} {c4:Nat} (h:VAt w g t A3 c3 A4 c4) (hb:Below w.heap.size w W) (i:Nat) (hi:i < t.ks.length):∃ ad p,A4=some ad∧W.cell? (ad.add i)=some (.pointer (some ⟨p,0,none⟩))∧IsV W p t.ks[i]:=by
 obtain ⟨ad,p,e,hc,hv⟩:=h.kid i hi
 exact ⟨ad,p,e,(hb.cell (World.block_lt_of_cell? w _ hc)).trans hc,hv.below hb⟩
set_option maxRecDepth 100000 in
set_option maxHeartbeats 8000000 in
theorem count_c (t:Tr):∀ (w:World) (g:Nat),IsV w g t→cnt t≤1073741824→Calls Tryz.prog 158 #[.pointer (some ⟨g,0,none⟩)] w fun e w'=>e=.returned (.int .i64 (cnt t:Nat))∧Below w.heap.size w w':=by
 refine Tr.ind (P:=fun t=>∀ (w:World) (g:Nat),IsV w g t→cnt t≤1073741824→Calls Tryz.prog 158 #[.pointer (some ⟨g,0,none⟩)] w fun e w'=>e=.returned (.int .i64 (cnt t:Nat))∧Below w.heap.size w w') ?_ t
 intro kd nu tx ns ks ih w g hv hn
 obtain ⟨A3,c3,A4,c4,ha⟩:=hv.at_
 have HA:=Aside0.mk ha
 have IH:=Aside0.mk ih
 have HN:=Aside0.mk hn
 obtain ⟨k0,k1,k2,k3,k4⟩:=ha.cells
 simp only [Tr.ks,Tr.ns,Tr.kd,Tr.nu,Tr.tx] at k0 k1 k2 k3 k4
 clear ha ih hn hv k0 k1 k2 k3
 go_enter Tryz.func158,Tryz.ntmps158
 go_wp2
 go_loopg [3,11] ks.length (fun m v3 v11 W=>∃ i:Nat,v11=.int .i64 (i:Int)∧v3=.int .i64 ((1+cntL (ks.take i):Nat):Int)∧Aside0 (i+m=ks.length)∧Aside0 (Below w.heap.size w W))
 case atStart=>exact ⟨0,rfl,by simp [cntL],⟨by omega⟩,⟨Below.refl _ _⟩⟩
 case round =>
  obtain ⟨i,rfl,rfl,HM,HB⟩:=hrel
  cases gk with
  | zero =>
   have hlt:decide (i < ks.length)=false:=decide_eq_false (by have:=HM.out;omega)
   have HI:=Aside0.mk (show ks.take i=ks from List.take_of_length_le (by have:=HM.out;omega))
   rw [HI.out]
   go_wp2
   go_ret
   exact ⟨by simp only [cnt];rfl,HB.out⟩
  | succ m =>
   have hi:i < ks.length:=by have:=HM.out;omega
   obtain ⟨ad,p,rfl,kc,kv⟩:=HA.out.kid' HB.out i hi
   simp only [Tr.ks] at kv
   have KV:=Aside0.mk kv
   have HC:=Aside0.mk (show cnt ks[i]≤1073741824 by have:=cntL_mem (List.getElem_mem hi);have:=HN.out;simp only [cnt] at this;omega)
   have HS:=Aside0.mk (cntL_take ks i hi)
   have b1:((1+cntL (ks.take i):Nat):Int)+((cnt ks[i]:Nat):Int)≤1073741824:=by have:=cntL_take_le ks (i+1);have:=HS.out;have:=HN.out;simp only [cnt] at this;omega
   have b2:0≤((1+cntL (ks.take i):Nat):Int):=by omega
   have b3:0≤((cnt ks[i]:Nat):Int):=by omega
   have b4:(i:Int)≤1073741824:=by have:=cnt_ge_len ks;have:=HN.out;simp only [cnt] at this;omega
   have HIm:=Aside0.mk (List.getElem_mem hi)
   have HW:∀ x y:Int,0≤x→0≤y→x+y≤1073741824→wrap64 (x+y)=x+y:=fun x y h1 h2 h3=>by unfold wrap64;omega
   have HWa:=Aside0.mk HW
   clear kv HW
   obtain ⟨cA,hcA⟩:∃ c,c=cnt ks[i]:=⟨_,rfl⟩
   obtain ⟨cB,hcB⟩:∃ c,c=1+cntL (ks.take i):=⟨_,rfl⟩
   rw [←hcB] at b1 b2 ⊢
   rw [←hcA] at b1 b3
   have HcA:=Aside0.mk hcA
   have HcB:=Aside0.mk hcB
   clear hcA hcB
   go_wp2_with (first | (go_at_call 158;(with_reducible refine (IH.out ks[i] HIm.out _ p KV.out HC.out).mono ?_);rintro e w2 ⟨rfl,hb⟩;rw [←HcA.out];have B2:=Aside0.mk (below_step HB.out hb);clear hb))
   go_roundg m
   case rel=>exact ⟨i+1,by go_num,by rw [HS.out,HcA.out,HcB.out];congr 1;omega,⟨by have:=HM.out;omega⟩,B2⟩
   case measure=>omega
set_option maxRecDepth 100000 in
set_option maxHeartbeats 8000000 in
theorem deep_c (t:Tr):∀ (w:World) (g:Nat),IsV w g t→cnt t≤1073741824→Calls Tryz.prog 159 #[.pointer (some ⟨g,0,none⟩)] w fun e w'=>e=.returned (.int .i64 (deep t:Nat))∧Below w.heap.size w w':=by
 refine Tr.ind (P:=fun t=>∀ (w:World) (g:Nat),IsV w g t→cnt t≤1073741824→Calls Tryz.prog 159 #[.pointer (some ⟨g,0,none⟩)] w fun e w'=>e=.returned (.int .i64 (deep t:Nat))∧Below w.heap.size w w') ?_ t
 intro kd nu tx ns ks ih w g hv hn
 obtain ⟨A3,c3,A4,c4,ha⟩:=hv.at_
 have HA:=Aside0.mk ha
 have IH:=Aside0.mk ih
 have HN:=Aside0.mk hn
 obtain ⟨k0,k1,k2,k3,k4⟩:=ha.cells
 simp only [Tr.ks,Tr.ns,Tr.kd,Tr.nu,Tr.tx] at k0 k1 k2 k3 k4
 clear ha ih hn hv k1 k2 k3
 have K0:=Aside0.mk k0
 clear k0
 go_enter Tryz.func159,Tryz.ntmps159
 go_wp2
 go_loopg [3,11] ks.length (fun m v3 v11 W=>∃ i:Nat,v11=.int .i64 (i:Int)∧v3=.int .i64 ((deepL (ks.take i):Nat):Int)∧Aside0 (i+m=ks.length)∧Aside0 (Below w.heap.size w W))
 case atStart=>exact ⟨0,rfl,by simp [deepL],⟨by omega⟩,⟨Below.refl _ _⟩⟩
 case round =>
  obtain ⟨i,rfl,rfl,HM,HB⟩:=hrel
  cases gk with
  | zero =>
   have hlt:decide (i < ks.length)=false:=decide_eq_false (by have:=HM.out;omega)
   have HI:=Aside0.mk (show ks.take i=ks from List.take_of_length_le (by have:=HM.out;omega))
   have k0:=(HB.out.cell (p:=⟨g,0,none⟩) (World.block_lt_of_cell? w _ K0.out)).trans K0.out
   have b1:(deepL (ks.take i):Int)≤1073741824:=by rw [HI.out];have:=deepL_le_cnt ks;have:=HN.out;simp only [cnt] at this;omega
   rw [HI.out] at b1 ⊢
   cases eh:holdsB kd with
   | false =>
    have EH:=Aside0.mk eh
    clear eh
    go_wp2_with (first | (go_at_call 156;(with_reducible refine (holds_c _ _ _ EH.out).mono ?_);rintro e w' ⟨rfl,⟨n_,rfl⟩⟩))
    go_ret
    exact ⟨by simp only [deep,hN_f EH.out];rfl,pw_below_drewN HB.out _⟩
   | true =>
    have EH:=Aside0.mk eh
    clear eh
    go_wp2_with (first | (go_at_call 156;(with_reducible refine (holds_c _ _ _ EH.out).mono ?_);rintro e w' ⟨rfl,⟨n_,rfl⟩⟩))
    go_ret
    exact ⟨by simp only [deep,hN_t EH.out];rfl,pw_below_drewN HB.out _⟩
  | succ m =>
   have hi:i < ks.length:=by have:=HM.out;omega
   obtain ⟨ad,p,rfl,kc,kv⟩:=HA.out.kid' HB.out i hi
   simp only [Tr.ks] at kv
   have KV:=Aside0.mk kv
   have HC:=Aside0.mk (show cnt ks[i]≤1073741824 by have:=cntL_mem (List.getElem_mem hi);have:=HN.out;simp only [cnt] at this;omega)
   have HS:=Aside0.mk (deepL_take ks i hi)
   have b4:(i:Int)≤1073741824:=by have:=cnt_ge_len ks;have:=HN.out;simp only [cnt] at this;omega
   have HIm:=Aside0.mk (List.getElem_mem hi)
   clear kv
   obtain ⟨cA,hcA⟩:∃ c,c=deep ks[i]:=⟨_,rfl⟩
   obtain ⟨cB,hcB⟩:∃ c,c=deepL (ks.take i):=⟨_,rfl⟩
   rw [←hcB]
   have HcA:=Aside0.mk hcA
   have HcB:=Aside0.mk hcB
   clear hcA hcB
   go_wp2_with (first | (go_at_call 159;(with_reducible refine (IH.out ks[i] HIm.out _ p KV.out HC.out).mono ?_);rintro e w2 ⟨rfl,hb⟩;rw [←HcA.out];have B2:=Aside0.mk (below_step HB.out hb);clear hb))
   all_goals
    go_roundg m
    case rel=>exact ⟨i+1,by go_num,by rw [HS.out,←HcA.out,←HcB.out];congr 1;omega,⟨by have:=HM.out;omega⟩,B2⟩
    case measure=>omega
def IxPost (b:Bool) (w:World) (e:Ending) (w':World):Prop:=(∃ i:Int,e=.returned (.int .i64 i)∧decide (0≤i) = !b)∧Below w.heap.size w w'
theorem IxPost.no {w w':World} (hb:Below w.heap.size w w'):IxPost true w (.returned (.int .i64 (-1))) w':=⟨⟨-1,rfl,by decide⟩,hb⟩
theorem IxPost.yes {w w':World} {i:Int} (h:0≤i) (hb:Below w.heap.size w w'):IxPost false w (.returned (.int .i64 i)) w':=⟨⟨i,rfl,by simp [h]⟩,hb⟩
set_option maxRecDepth 100000 in
set_option maxHeartbeats 8000000 in
theorem clo1_c (s:ByteArray) (w:World):Calls Tryz.prog 179 #[.string s] w fun e w'=>e=.returned (.bool (!prt s))∧Drawn0 w w':=by
 go_enter Tryz.func179,Tryz.ntmps179
 go_wp2_with (first | (go_at_call 124;(with_reducible refine (prt_c s _ _ rfl).mono ?_);rintro e w' ⟨rfl,⟨n_,rfl⟩⟩))
 go_ret
 exact ⟨rfl,⟨_,rfl⟩⟩
set_option maxRecDepth 100000 in
set_option maxHeartbeats 8000000 in
theorem ixS_c (ns:List ByteArray) (A:Option Addr) (c:Nat) (w:World) (hr:Kd.string.C w A ns.length ns) (hn:ns.length≤1073741824):Calls Tryz.prog 117 #[.slice A ns.length c,.func (.func 179) #[] #[]] w (IxPost (ns.all prt) w):=by
 have HR:=Aside0.mk hr
 have HN:=Aside0.mk hn
 clear hr hn
 go_enter Tryz.func117,Tryz.ntmps117
 go_wp2
 go_loopg [8] ns.length (fun m v8 W=>∃ i:Nat,v8=.int .i64 (i:Int)∧Aside0 (i+m=ns.length)∧Aside0 (Below w.heap.size w W)∧Aside0 ((ns.take i).all prt=true))
 case atStart=>exact ⟨0,rfl,⟨by omega⟩,⟨Below.refl _ _⟩,⟨rfl⟩⟩
 case round =>
  obtain ⟨i,rfl,HM,HB,HA⟩:=hrel
  cases gk with
  | zero =>
   have hlt:decide (i < ns.length)=false:=decide_eq_false (by have:=HM.out;omega)
   have HI:=Aside0.mk (show ns.all prt=true by have h1:ns.take i=ns:=List.take_of_length_le (by have:=HM.out;omega);have h2:=HA.out;rwa [h1] at h2)
   go_wp2
   go_ret
   rw [HI.out]
   exact IxPost.no HB.out
  | succ m =>
   have hi:i < ns.length:=by have:=HM.out;omega
   have b4:(i:Int)≤1073741824:=by have:=HN.out;omega
   obtain ⟨ad,ca,e,_,hK,hc⟩:=Kd.C_get HR.out nil_ (i:Int) (by omega) (by omega)
   obtain rfl:ca=[.string (ns.getD (i:Int).toNat nil_)]:=hK
   have h0:=hc 0 _ rfl
   have e1:(i:Int).toNat * Kd.string.sz+0=i:=by show (i:Int).toNat * 1+0=i;omega
   rw [e1,List.getD_eq_getElem?_getD,Int.toNat_natCast,List.getElem?_eq_getElem hi] at h0
   replace h0:=(HB.out.cell (World.block_lt_of_cell? w _ h0)).trans h0
   clear hc e1
   subst e
   have HS:=Aside0.mk (show (ns.take (i+1)).all prt=(prt ns[i]&&(ns.take i).all prt) by rw [List.take_succ_eq_append_getElem hi,List.all_append,Bool.and_comm];congr 1;simp)
   have HIn:=Aside0.mk (List.getElem_mem hi)
   obtain ⟨s,hs⟩:∃ s,s=ns[i]:=⟨_,rfl⟩
   simp only [Option.getD_some] at h0
   rw [←hs] at h0 HS HIn
   clear hs
   cases es:prt s with
   | false =>
    have ES:=Aside0.mk es
    have HI:=Aside0.mk (show ns.all prt=false by rw [List.all_eq_false];exact ⟨s,HIn.out,by rw [es];simp⟩)
    go_wp2_with (first | (go_at_call 179;(with_reducible refine (clo1_c s _).mono ?_);rintro e w' ⟨rfl,⟨n_,rfl⟩⟩))
    go_ret
    rw [HI.out]
    exact IxPost.yes (by omega) (pw_below_drewN HB.out _)
   | true =>
    have ES:=Aside0.mk es
    go_wp2_with (first | (go_at_call 179;(with_reducible refine (clo1_c s _).mono ?_);rintro e w' ⟨rfl,⟨n_,rfl⟩⟩))
    go_roundg m
    case rel=>exact ⟨i+1,by go_num,⟨by have:=HM.out;omega⟩,⟨pw_below_drewN HB.out _⟩,⟨by rw [HS.out,ES.out,HA.out];rfl⟩⟩
    case measure=>omega
set_option maxRecDepth 100000 in
set_option maxHeartbeats 8000000 in
theorem coS_c (ns:List ByteArray) (A:Option Addr) (c:Nat) (w:World) (hr:Kd.string.C w A ns.length ns) (hn:ns.length≤1073741824):Calls Tryz.prog 69 #[.slice A ns.length c,.func (.func 179) #[] #[]] w fun e w'=>e=.returned (.bool (!ns.all prt))∧Below w.heap.size w w':=by
 have HR:=Aside0.mk hr
 have HN:=Aside0.mk hn
 clear hr hn
 go_enter Tryz.func69,Tryz.ntmps69
 go_wp2_with (first | (go_at_call 117;(with_reducible refine (ixS_c ns A c _ HR.out HN.out).mono ?_);rintro e w' ⟨⟨i,rfl,hi⟩,hb⟩;have B:=Aside0.mk hb;have HI:=Aside0.mk hi;clear hb hi))
 all_goals
  go_ret
  exact ⟨by first | (rw [←HI.out];rfl) | (rw [←HI.out];simp [*]),B.out⟩
def BndCall (t:Tr):Prop:=∀ (w:World) (g:Nat),IsV w g t→cnt t≤1073741824→Calls Tryz.prog 157 #[.pointer (some ⟨g,0,none⟩)] w fun e w'=>e=.returned (.bool (bnd t))∧Below w.heap.size w w'
theorem BndCall.go {t:Tr} (h:BndCall t) (w:World) (g:Nat) (hv:IsV w g t) (hn:cnt t≤1073741824):Calls Tryz.prog 157 #[.pointer (some ⟨g,0,none⟩)] w fun e w'=>e=.returned (.bool (bnd t))∧Below w.heap.size w w':=h w g hv hn
set_option maxRecDepth 100000 in
set_option maxHeartbeats 8000000 in
theorem clo2_c (t:Tr) (ih:BndCall t) (g:Nat) (w:World) (hv:IsV w g t) (hn:cnt t≤1073741824):Calls Tryz.prog 180 #[.pointer (some ⟨g,0,none⟩)] w fun e w'=>e=.returned (.bool (!bnd t))∧Below w.heap.size w w':=by
 have IH:=Aside0.mk ih
 have HV:=Aside0.mk hv
 have HN:=Aside0.mk hn
 clear ih hv hn
 go_enter Tryz.func180,Tryz.ntmps180
 go_wp2_with (first | (go_at_call 157;(with_reducible refine (IH.out.go _ g HV.out HN.out).mono ?_);rintro e w' ⟨rfl,hb⟩;have B:=Aside0.mk hb;clear hb))
 go_ret
 exact ⟨rfl,B.out⟩
set_option maxRecDepth 100000 in
set_option maxHeartbeats 8000000 in
theorem ixV_c (ks:List Tr) (ih:∀ t,t∈ks→BndCall t) (A:Option Addr) (c:Nat) (w:World) (hr:kP.C w A ks.length ks) (hn:cntL ks≤1073741824):Calls Tryz.prog 178 #[.slice A ks.length c,.func (.func 180) #[] #[]] w (IxPost (bndL ks) w):=by
 have IH:=Aside0.mk ih
 have HR:=Aside0.mk hr
 have HN:=Aside0.mk hn
 clear ih hr hn
 go_enter Tryz.func178,Tryz.ntmps178
 go_wp2
 go_loopg [8] ks.length (fun m v8 W=>∃ i:Nat,v8=.int .i64 (i:Int)∧Aside0 (i+m=ks.length)∧Aside0 (Below w.heap.size w W)∧Aside0 (bndL (ks.take i)=true))
 case atStart=>exact ⟨0,rfl,⟨by omega⟩,⟨Below.refl _ _⟩,⟨rfl⟩⟩
 case round =>
  obtain ⟨i,rfl,HM,HB,HA⟩:=hrel
  cases gk with
  | zero =>
   have hlt:decide (i < ks.length)=false:=decide_eq_false (by have:=HM.out;omega)
   have HI:=Aside0.mk (show bndL ks=true by have h1:ks.take i=ks:=List.take_of_length_le (by have:=HM.out;omega);have h2:=HA.out;rwa [h1] at h2)
   go_wp2
   go_ret
   rw [HI.out]
   exact IxPost.no HB.out
  | succ m =>
   have hi:i < ks.length:=by have:=HM.out;omega
   have b4:(i:Int)≤1073741824:=by have:=HN.out;have:=cnt_ge_len ks;omega
   obtain ⟨ad,ca,e,_,hK,hc⟩:=Kd.C_get HR.out (.mk 0 0 nil_ [] []) (i:Int) (by omega) (by omega)
   obtain ⟨p,_,_,_,_,rfl,_⟩:=kP_open hK
   have h0:=hc 0 _ rfl
   have e1:(i:Int).toNat * kP.sz+0=i:=by show (i:Int).toNat * 1+0=i;omega
   rw [e1] at h0
   rw [List.getD_eq_getElem?_getD,Int.toNat_natCast,List.getElem?_eq_getElem hi] at hK
   replace h0:=(HB.out.cell (World.block_lt_of_cell? w _ h0)).trans h0
   clear hc e1
   subst e
   have HV:=Aside0.mk (show IsV wr p ks[i] from kP.K_below HB.out hK)
   have HS:=Aside0.mk (bndL_take ks i hi)
   have HIn:=Aside0.mk (List.getElem_mem hi)
   have HC:=Aside0.mk (show cnt ks[i]≤1073741824 by have:=cntL_mem (List.getElem_mem hi);have:=HN.out;omega)
   have HF:=Aside0.mk (IH.out _ HIn.out)
   clear hK
   obtain ⟨s,hs⟩:∃ s,s=ks[i]:=⟨_,rfl⟩
   rw [←hs] at HV HS HIn HC HF
   clear hs
   cases es:bnd s with
   | false =>
    have HI:=Aside0.mk (show bndL ks=false by
     cases hh:bndL ks with
     | false=>rfl
     | true=>have:=(bndL_iff ks).1 hh s HIn.out;rw [es] at this;cases this)
    go_wp2_with (first | (go_at_call 180;(with_reducible refine (clo2_c s HF.out p _ HV.out HC.out).mono ?_);rintro e w' ⟨rfl,hb⟩;have B2:=Aside0.mk (below_step HB.out hb);clear hb))
    go_ret
    rw [HI.out]
    exact IxPost.yes (by omega) B2.out
   | true =>
    have ES:=Aside0.mk es
    go_wp2_with (first | (go_at_call 180;(with_reducible refine (clo2_c s HF.out p _ HV.out HC.out).mono ?_);rintro e w' ⟨rfl,hb⟩;have B2:=Aside0.mk (below_step HB.out hb);clear hb))
    go_roundg m
    case rel=>exact ⟨i+1,by go_num,⟨by have:=HM.out;omega⟩,B2,⟨by rw [HS.out,ES.out,HA.out];rfl⟩⟩
    case measure=>omega
set_option maxRecDepth 100000 in
set_option maxHeartbeats 8000000 in
theorem coV_c (ks:List Tr) (ih:∀ t,t∈ks→BndCall t) (A:Option Addr) (c:Nat) (w:World) (hr:kP.C w A ks.length ks) (hn:cntL ks≤1073741824):Calls Tryz.prog 150 #[.slice A ks.length c,.func (.func 180) #[] #[]] w fun e w'=>e=.returned (.bool (!bndL ks))∧Below w.heap.size w w':=by
 have IH:=Aside0.mk ih
 have HR:=Aside0.mk hr
 have HN:=Aside0.mk hn
 clear ih hr hn
 go_enter Tryz.func150,Tryz.ntmps150
 go_wp2_with (first | (go_at_call 178;(with_reducible refine (ixV_c ks IH.out A c _ HR.out HN.out).mono ?_);rintro e w' ⟨⟨i,rfl,hi⟩,hb⟩;have B:=Aside0.mk hb;have HI:=Aside0.mk hi;clear hb hi))
 all_goals
  go_ret
  exact ⟨by first | (rw [←HI.out];rfl) | (rw [←HI.out];simp [*]),B.out⟩
mutual
def nsz:Tr→Bool
 | .mk kd nu tx ns ks=>decide (ns.length≤1073741824)&&nszL ks
def nszL:List Tr→Bool
 | []=>true
 | t :: ts=>nsz t&&nszL ts
end
theorem nszL_iff (a:List Tr):nszL a=true↔∀ t,t∈a→nsz t=true:=by
 induction a with
 | nil=>simp [nszL]
 | cons t ts ih=>simp [nszL,ih]
set_option maxRecDepth 100000 in
set_option maxHeartbeats 8000000 in
theorem bounded_c (t:Tr):nsz t=true→BndCall t:=by
 refine Tr.ind (P:=fun t=>nsz t=true→BndCall t) ?_ t
 intro kd nu tx ns ks ih hz w g hv hn
 rw [nsz,Bool.and_eq_true,decide_eq_true_iff] at hz
 have IH:=Aside0.mk (show ∀ t,t∈ks→BndCall t from fun t ht=>ih t ht ((nszL_iff ks).1 hz.2 t ht))
 have HZ:=Aside0.mk hz.1
 have HN:=Aside0.mk (show cntL ks≤1073741824 by simp only [cnt] at hn;omega)
 obtain ⟨A3,c3,A4,c4,ha⟩:=hv.at_
 have HA:=Aside0.mk ha
 obtain ⟨k0,k1,k2,k3,k4⟩:=ha.cells
 simp only [Tr.ks,Tr.ns,Tr.kd,Tr.nu,Tr.tx] at k0 k1 k2 k3 k4
 have K4:=Aside0.mk k4
 clear ha ih hn hv hz k0
 have FIN:=Aside0.mk (show ∀ (r:Bool) (w':World),(inB nu (-1000000000) 1000000000&&prt tx&&ns.all prt&&bndL ks)=r→Below w.heap.size w w'→(Ending.returned (.bool r)=.returned (.bool (bnd (.mk kd nu tx ns ks)))∧Below w.heap.size w w') from fun r w' h hb=>⟨by rw [bnd,h],hb⟩)
 cases e1:inB nu (-1000000000) 1000000000 with
 | false =>
  have E1:=Aside0.mk e1
  clear e1
  go_enter Tryz.func157,Tryz.ntmps157
  go_wp2_with (first | (go_at_call 112;(with_reducible refine (within_c _ _ _ _ _ E1.out).mono ?_);rintro e w' ⟨rfl,⟨n_,rfl⟩⟩))
  go_ret
  exact FIN.out false _ (by rw [E1.out];rfl) (pw_below_drewN (Below.refl _ _) _)
 | true =>
  have E1:=Aside0.mk e1
  clear e1
  cases e2:prt tx with
  | false =>
   have E2:=Aside0.mk e2
   clear e2
   go_enter Tryz.func157,Tryz.ntmps157
   go_wp2_with (first | (go_at_call 112;(with_reducible refine (within_c _ _ _ _ _ E1.out).mono ?_);rintro e w' ⟨rfl,⟨n_,rfl⟩⟩) | (go_at_call 124;(with_reducible refine (prt_c tx _ _ E2.out).mono ?_);rintro e w' ⟨rfl,⟨n_,rfl⟩⟩))
   go_ret
   exact FIN.out false _ (by rw [E1.out,E2.out];rfl) (pw_below_drewN (Below.refl _ _) _)
  | true =>
   have E2:=Aside0.mk e2
   clear e2
   cases e3:ns.all prt with
   | false =>
    have E3:=Aside0.mk e3
    clear e3
    go_enter Tryz.func157,Tryz.ntmps157
    go_wp2_with (first | (go_at_call 112;(with_reducible refine (within_c _ _ _ _ _ E1.out).mono ?_);rintro e w' ⟨rfl,⟨n_,rfl⟩⟩) | (go_at_call 124;(with_reducible refine (prt_c tx _ _ E2.out).mono ?_);rintro e w' ⟨rfl,⟨n_,rfl⟩⟩) | (go_at_call 69;(with_reducible refine (coS_c ns A3 c3 _ (Kd.C_drewN HA.out.g3 _) HZ.out).mono ?_);rintro e w2 ⟨rfl,hb⟩;rw [E3.out];have B2:=Aside0.mk (below_step (pw_below_drewN (Below.refl _ _) _) hb);clear hb))
    go_ret
    exact FIN.out false _ (by rw [E1.out,E2.out,E3.out];rfl) B2.out
   | true =>
    have E3:=Aside0.mk e3
    clear e3
    go_enter Tryz.func157,Tryz.ntmps157
    go_wp2_with (first | (go_at_call 112;(with_reducible refine (within_c _ _ _ _ _ E1.out).mono ?_);rintro e w' ⟨rfl,⟨n_,rfl⟩⟩) | (go_at_call 124;(with_reducible refine (prt_c tx _ _ E2.out).mono ?_);rintro e w' ⟨rfl,⟨n_,rfl⟩⟩) | (go_at_call 69;(with_reducible refine (coS_c ns A3 c3 _ (Kd.C_drewN HA.out.g3 _) HZ.out).mono ?_);rintro e w2 ⟨rfl,hb⟩;rw [E3.out];have B2:=Aside0.mk (below_step (pw_below_drewN (Below.refl w.heap.size w) _) hb);clear hb;have k4':=(B2.out.cell (p:=⟨g,4,none⟩) (World.block_lt_of_cell? w _ K4.out)).trans K4.out) | (go_at_call 150;(with_reducible refine (coV_c ks IH.out A4 c4 _ (Kd.C_below HA.out.g4 B2.out) HN.out).mono ?_);rintro e w3 ⟨rfl,hb⟩;have B3:=Aside0.mk (below_step B2.out hb);clear hb))
    go_ret
    exact FIN.out _ _ (by rw [E1.out,E2.out,E3.out];simp) B3.out
end Go.Proofs.YtoaafohpmhdjnaaGreatDoor.VT
