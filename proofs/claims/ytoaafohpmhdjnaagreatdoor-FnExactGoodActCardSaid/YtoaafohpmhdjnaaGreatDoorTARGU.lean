import Derived.Test.YtoaafohpmhdjnaaGreatDoorTARGW
/- A path's part told back: strings.NewReplacer over longer texts and its Replace, walked whole. Conditions: the text is of at most 2^30 bytes. -/
namespace Go.Proofs.YtoaafohpmhdjnaaGreatDoor.RX
open Go.RowKit Go.Proofs.YtoaafohpmhdjnaaGreatDoor.VT Go.Proofs.YtoaafohpmhdjnaaGreatDoor.PVG Go.Proofs.YtoaafohpmhdjnaaGreatDoorW.PrintWords Go.Proofs.YtoaafohpmhdjnaaGreatDoorW.PrintLast Go.Proofs.YtoaafohpmhdjnaaGreatDoorW.PrintMore
set_option linter.unusedVariables false
set_option linter.unusedSimpArgs false
theorem RepU.setb {w00 W:World} {gB b:Nat} {cs:Array Value} (h:RepU w00 W gB) (hB:W.heap[b]? = some (.cells cs 204 (0,0))) (hw:w00.heap.size≤b) (i:Nat) (x:Value):RepU w00 (W.setCell ⟨b,i,none⟩ x) gB:=by
 obtain ⟨h1,gT,n1,gU,n2,n3,ht⟩:=h
 refine ⟨below_set h1 hw,gT,n1,gU,n2,n3,ht.kept ((Kept.refl W (fun k=>k=b)).setCell (p:=⟨b,i,none⟩) (.inl rfl) x) ?_⟩
 intro k cs' t hk hc
 rw [hk,hB] at hc
 simp at hc
 obtain ⟨_,rfl⟩:=hc
 decide
set_option maxRecDepth 100000 in
set_option maxHeartbeats 4000000 in
theorem buildU_c (b:Nat) (x0 x1 x2 x3:Value) (g c:Nat) (w:World) (hb:w.heap[b]? = some (.cells #[x0,x1,x2,x3,.slice (some ⟨g,0,none⟩) 4 c] 204 (0,0))) (hA:Kd.C Kd.string w (some ⟨g,0,none⟩) 4 oldU) :
  Calls Tryz.prog 189 #[.pointer (some ⟨b,0,none⟩)] w fun e w'=>∃ gB,e=.returned (.iface 250 (.pointer (some ⟨gB,0,none⟩)))∧RepU w w' gB:=by
 obtain ⟨t0,t1,t2,t3⟩:=at_oldU hA
 have c4:w.cell? ⟨b,4,none⟩=some (.slice (some ⟨g,0,none⟩) 4 c):=(blk_cell hb 4).trans rfl
 have HA:=Aside0.mk hA
 clear hb hA
 go_enter Tryz.func189,Tryz.ntmps189
 go_wp2
 go_loopg [4,5] 1 (fun kq v4 v5 w'=>w'=w∧kq=1∧v4=.bool true∧v5=.int .i64 0)
 case atStart=>exact ⟨rfl,rfl,rfl,rfl⟩
 case round =>
  obtain ⟨rfl,rfl,rfl,rfl⟩:=hrel
  go_wp2_with (first | (go_at_call 217;(refine (mkgen_c g c _ HA.out).mono ?_);rintro e w' ⟨gR,rfl,hr⟩;have HR:=Aside0.mk hr;clear hr))
  go_ret
  exact ⟨gR,rfl,HR.out⟩
theorem mkU:Mk oldU 250 RepU where
 len:=rfl
 build:=fun b x0 x1 x2 x3 g c w hb hA=>buildU_c b x0 x1 x2 x3 g c w hb hA
 lower:=fun {w00 w W gB} h hb=>⟨below_step hb h.1,h.2⟩
 setb:=fun {w00 W gB b cs} h hB hw i x=>h.setb hB hw i x
 drew:=fun {w00 W gB} h=>by
  obtain ⟨h1,gT,n1,gU,n2,n3,ht⟩:=h
  exact ⟨below_drew1 h1,gT,n1,gU,n2,n3,ht.below (below_drew1 (Below.refl _ _))⟩
 bel:=fun h=>h.1
theorem madeB (w W:World) (c:Nat) (hc:c≤1073741824) (h:W.heap[w.heap.size]? = some (.cells (madeCells #[.int .u8 0] c) 5 (0,0))):(Kd.int .u8).R 5 W w.heap.size (fun _=>True) (.slice (some ⟨w.heap.size,0,none⟩) 0 c) [] :=
 ⟨fun _ _=>trivial,[],⟨rfl,.inr ⟨w.heap.size,c,_,rfl,Nat.le_refl _,h,Nat.zero_le _,by unfold maxLen;omega,by rw [size_madeCells];exact (Nat.mul_one c).symm,by simp⟩⟩,Reps.none _ _⟩
theorem mkB_ev {ρ:Operand→Value} {o:Oper} {x y:Operand} (c:Nat) (hc:c≤1073741824) (ho:o.op=.makeSlice 325 x y) (hx:ρ x=.int .i64 0) (hy:ρ y=.int .i64 (c:Int)) (W:World):(execOp ρ o).run Tryz.prog W=.ok (.value (.slice (some ⟨W.heap.size,0,none⟩) 0 c)) (W.alloc (.cells (madeCells #[.int .u8 0] c) 5)):=by
 have h:=run_make_room (P:=Tryz.prog) 325 5 (.int .u8 0) 1 Tryz.underlying325 info5B rfl .i64 .i64 c (by omega) (by omega) W
 unfold execOp
 rw [ho]
 simp only [hx,hy,Sem.run_bind,h,Result.andThen_ok,Sem.run_pure]
theorem strB_ev {ρ:Operand→Value} {o:Oper} {x:Operand} {W:World} {A:Option Addr} {n c:Nat} {l:List UInt8} (ho:o.op=.convert 325 9 x) (hx:ρ x=.slice A n c) (hC:Kd.C (Kd.int .u8) W A n (l.map fun b=>(b.toNat:Int))) :
  (execOp ρ o).run Tryz.prog W=.ok (.value (.string ⟨l.toArray⟩)) W:=by
 have hc:=Kd.C_string (c:=c) Tryz.underlying325 Tryz.underlying5 Tryz.underlying9 hC
 rw [Lib.Lz.strOfNums_map] at hc
 unfold execOp
 rw [ho]
 simp only [hx,Sem.run_bind]
 have hc':(convert 325 9 (.slice A n c)).run Tryz.prog W=.ok (.string ⟨l.toArray⟩) W:=hc
 simp only [hc',Result.andThen_ok,Sem.run_pure]
set_option maxRecDepth 100000 in
set_option maxHeartbeats 4000000 in
theorem repU_c (gR gT n1 gU n2 n3:Nat) (s:ByteArray) (w:World) (ht:TrieAt w gR gT n1 gU n2 n3) (hs:s.size≤1073741824) :
  Calls Tryz.prog 288 #[.pointer (some ⟨gR,0,none⟩),.string s] w fun e w'=>e=.returned (.string ⟨(unescL s.data.toList).toArray⟩)∧Below w.heap.size w w':=by
 have HT:=Aside0.mk ht
 clear ht
 go_enter Tryz.func288,Tryz.ntmps288
 go_upto_region 2 with (first | ((with_reducible refine gate_dst (N:=8) rfl ?_);refine Kd.event_run rfl (mkB_ev s.size hs rfl rfl rfl _) ?_;obtain ⟨W1,hW1⟩:∃ W,W=w.alloc (.cells (madeCells #[.int .u8 0] s.size) 5):=⟨_,rfl⟩;obtain ⟨g0,hg0⟩:∃ g,g=w.heap.size:=⟨_,rfl⟩;have B1:=Aside0.mk (show Below w.heap.size w W1 by rw [hW1];exact below_alloc (Below.refl _ _) _);have R1:=Aside0.mk (show (Kd.int .u8).R 5 W1 w.heap.size (fun _=>True) (.slice (some ⟨g0,0,none⟩) 0 s.size) [] by rw [hg0];exact madeB w W1 s.size hs (by rw [hW1];exact blk_new w _));rw [←hW1,←hg0];clear hW1 hg0) | ((with_reducible refine gate_dst (N:=5) rfl ?_);refine box_event ?hg (N:=5) ?hd (cs:=#[.slice none 0 0]) (t:=325) ?hr ?_;(case hd=>rfl);(case hg=>rfl);(case hr=>first | (go_simp;done) | (go_simp;rfl));intro gb hg wx hbox hb;have GX:=Aside0.mk hg;have KX:=Aside0.mk hbox;have BX:=Aside0.mk hb;have z0:wx.cell? ⟨gb,0,none⟩=some (.slice none 0 0):=(blk_cell hbox 0).trans rfl;have f0:=blk_frozen hbox 0;clear hb hbox hg))
 obtain ⟨W3,hW3⟩:∃ W,W=wx.setCell ⟨gb,0,none⟩ (.slice (some ⟨g0,0,none⟩) 0 s.size):=⟨_,rfl⟩
 rw [←hW3]
 have S3:=Aside0.mk (show Wst w gb gR gT n1 gU n2 n3 (.slice (some ⟨g0,0,none⟩) 0 s.size) [] W3 from by
  have h2:=below_step B1.out BX.out
  have hge:w.heap.size≤gb:=by have:=B1.out.size;have:=GX.out;omega
  refine ⟨by rw [hW3];exact below_set h2 hge,hge,by rw [hW3];have:=blk_set KX.out 0 (.slice (some ⟨g0,0,none⟩) 0 s.size);simpa using this,?_,?_⟩
  ·rw [hW3];exact Kd.R_mono (Kd.R_far (Kd.R_types (Kd.R_below R1.out BX.out) KX.out (by decide)) (fun _ hk=>hk.2) _) (fun _ _=>trivial)
  ·rw [hW3]
   refine (HT.out.below h2).kept ((Kept.refl wx (fun k=>k=gb)).setCell (p:=⟨gb,0,none⟩) (.inl rfl) _) ?_
   intro k cs t hk hc
   rw [hk,KX.out] at hc
   simp at hc
   obtain ⟨_,rfl⟩:=hc
   decide)
 clear hW3 z0 f0
 have hmi:∀ (v:Value) (W:World),(Instr.makeInterface 326 v).run Tryz.prog W=.ok (.iface 326 v) W:=fun v W=>by kernel_rfl
 go_wp2_with (first | (go_at_call 289;(refine (ws_c s gb gR gT n1 gU n2 n3 _ w W3 S3.out hs).mono ?_);rintro e W4 ⟨k,v',rfl,h4⟩;obtain ⟨A4,c4,rfl⟩:=Kd.R_slice h4.row;obtain ⟨n4,hn4⟩:∃ n,n=((unescL s.data.toList).map fun b=>(b.toNat:Int)).length:=⟨_,rfl⟩;have S4:=Aside0.mk h4;rw [←hn4] at S4 h4;have C4:=Aside0.mk (show Kd.C (Kd.int .u8) W4 A4 n4 ((unescL s.data.toList).map fun b=>(b.toNat:Int)) by rw [hn4];exact (Kd.R_reads' h4.row).2.2);have d0:W4.cell? ⟨gb,0,none⟩=some (.slice A4 n4 c4):=(blk_cell h4.kb 0).trans rfl;clear h4 hn4) | ((with_reducible refine gate_dst (N:=14) rfl ?_);refine Kd.event_run rfl (strB_ev rfl rfl C4.out) ?_))
 go_ret
 exact ⟨rfl,S4.out.bel⟩
set_option maxRecDepth 100000 in
set_option maxHeartbeats 4000000 in
theorem unAll_c (w00:World) (b g c:Nat) (s:ByteArray) (w:World) (hb:w.heap[b]? = some (.cells #[.int .u32 0,.int .i32 0,.int .u32 0,.nilIface,.slice (some ⟨g,0,none⟩) 4 c] 204 (0,0))) (hA:Kd.C Kd.string w (some ⟨g,0,none⟩) 4 oldU) (hg:g≠b) (hB:Below w00.heap.size w00 w) (hbase:w00.heap.size≤b) (hs:s.size≤1073741824) :
  Calls Tryz.prog 123 #[.pointer (some ⟨b,0,none⟩),.string s] w fun e w'=>e=.returned (.string ⟨(unescL s.data.toList).toArray⟩)∧Below w00.heap.size w00 w':=by
 have hmf:∀ (fn:Fn) (first cap:Array Value) (w:World),(Instr.makeFunc fn first cap).run Tryz.prog w=.ok (.func fn first cap) w:=fun _ _ _ _=>rfl
 have HB:=Aside0.mk hb
 have HA:=Aside0.mk hA
 clear hb hA
 go_enter Tryz.func123,Tryz.ntmps123
 go_upto_region 2 with (first | (go_at_call 163;refine (mkU.do_ w00 b g c _ HB.out HA.out hg hB hbase).mono ?_;rintro e w2 ⟨rfl,HQ⟩))
 obtain ⟨gB,hR,hK⟩:=HQ.out.out
 have HR:=Aside0.mk hR.1
 obtain ⟨_,gT,n1,gU,n2,n3,hat⟩:=hR
 have HAT:=Aside0.mk hat
 have d3:w2.cell? ⟨b,3,none⟩=some (.iface 250 (.pointer (some ⟨gB,0,none⟩))):=(blk_cell hK 3).trans rfl
 clear hat hK HB HA
 go_wp2_with (first | (go_at_call 288;refine (repU_c gB gT n1 gU n2 n3 s _ HAT.out hs).mono ?_;rintro e w4 ⟨rfl,hb4⟩;have B4:=Aside0.mk (below_step HR.out hb4);clear hb4))
 go_ret
 exact ⟨rfl,B4.out⟩
end Go.Proofs.YtoaafohpmhdjnaaGreatDoor.RX
