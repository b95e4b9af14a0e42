import Derived.Test.YtoaafohpmhdjnaaGreatDoorTARGC
/- strings' own buffer: a text appended; the writer of texts. Conditions: the buffer is the call's own. -/
namespace Go.Proofs.YtoaafohpmhdjnaaGreatDoor.RX
open Go.RowKit Go.Proofs.YtoaafohpmhdjnaaGreatDoor.PVG Go.Proofs.YtoaafohpmhdjnaaGreatDoorW.PrintWords Go.Proofs.YtoaafohpmhdjnaaGreatDoorW.PrintLast Go.Proofs.YtoaafohpmhdjnaaGreatDoorW.PrintMore
set_option linter.unusedVariables false
set_option linter.unusedSimpArgs false
theorem info5B:(Tryz.prog.info? 5).map (fun i=>(i.zero,i.size,i.bytes))=some (some (.int .u8 0),1,1):=by kernel_rfl
set_option maxRecDepth 100000 in
set_option maxHeartbeats 4000000 in
theorem aw_c (g:Nat) (v:Value) (xs:List Int) (y:ByteArray) (w0 w:World) (hB:Below w0.heap.size w0 w) (hg:w0.heap.size≤g) (hk:w.heap[g]? = some (.cells #[v] 325 (0,0))) (ho:(Kd.int .u8).R 5 w w0.heap.size (fun _=>True) v xs) (hl:xs.length+y.size≤140737488355328) :
  Calls Tryz.prog 299 #[.pointer (some ⟨g,0,none⟩),.string y] w fun e w'=>e=.returned (.tuple #[.int .i64 (y.size:Int),.nilIface])∧∃ v',w'.heap[g]? = some (.cells #[v'] 325 (0,0))∧(Kd.int .u8).R 5 w' w0.heap.size (fun _=>True) v' (xs++bytesOf y)∧Below w0.heap.size w0 w'∧Kept w w' (fun k=>k=g∨some k=v.ownBlock):=by
 obtain ⟨A,c,rfl⟩:=Kd.R_slice ho
 have k0:w.cell? ⟨g,0,none⟩=some (.slice A xs.length c):=(blk_cell hk 0).trans rfl
 have HK:=Aside0.mk hk
 have HO:=Aside0.mk ho
 have HB:=Aside0.mk hB
 clear hk ho hB
 go_enter Tryz.func299,Tryz.ntmps299
 go_upto_region 2 with (first | ((with_reducible refine gate_builtin (b:=.append) (xs:=#[.tmp 9,.tmp 10]) rfl ?_);at_builtin;refine print_append_str (w0:=w0) w0.heap.size rfl (.tmp 9) (.tmp 10) 325 9 5 rfl Tryz.underlying325 Tryz.underlying9 info5B (.slice A xs.length c) xs y rfl rfl (Kd.own_of_R HO.out) HB.out HB.out.size hl ?_;intro v1 w1 hown hb hgr;have hR:=Kd.R_of_own (h1:=fun _=>rfl) (ok:=fun _=>True) hown (fun _ _=>trivial);obtain ⟨A1,c1,rfl⟩:=Kd.R_slice hR;obtain ⟨n1,hn1⟩:∃ n,n=(xs++bytesOf y).length:=⟨_,rfl⟩;rw [←hn1] at hR hown ⊢;have R1:=Aside0.mk (show (Kd.int .u8).R 5 w1 w0.heap.size (fun _=>True) (.slice A1 n1 c1) (xs++bytesOf y) from hR);have B1:=Aside0.mk hb;have G1:=Aside0.mk hgr;have K1:=Aside0.mk (blk_grown HK.out hgr (Kd.R_ne HO.out HK.out (by decide)));have N1:=Aside0.mk hn1;clear hown hb hgr hR hn1;have d0:w1.cell? ⟨g,0,none⟩=some (.slice A xs.length c):=(blk_cell K1.out 0).trans rfl;have y0:=blk_frozen K1.out 0))
 go_wp2
 refine bodyPost_ret (v:=.tuple #[.int .i64 (y.size:Int),.nilIface]) (by simp [results,Tryz.results299,go_sem]) rfl ?_
 refine ⟨rfl,.slice A1 n1 c1,?_,Kd.R_mono (Kd.R_far (Kd.R_types R1.out K1.out (by decide)) (fun _ hk=>hk.2) _) (fun _ _=>trivial),below_set B1.out hg,?_⟩
 ·have:=blk_set K1.out 0 (.slice A1 n1 c1)
  simpa using this
 ·exact (Kept.of_grown G1.out (Kept.refl w (fun k=>k=g∨some k=(Value.slice A xs.length c).ownBlock)) (fun k hk=>.inl (.inr hk.symm))).setCell (p:=⟨g,0,none⟩) (.inl (.inl rfl)) _
theorem ta_run (v:Value) (W:World):(Instr.typeAssert (.iface 326 v) 328 330 true).run Tryz.prog W=.ok (.tuple #[.iface 326 v,.bool true]) W:=by kernel_rfl
theorem ta_ev {ρ:Operand→Value} {o:Oper} {x:Operand} (v:Value) (ho:o.op=.typeAssert x 328 330 true) (hx:ρ x=.iface 326 v) (W:World):(execOp ρ o).run Tryz.prog W=.ok (.value (.tuple #[.iface 326 v,.bool true])) W:=by
 unfold execOp
 rw [ho]
 simp only [hx,Sem.run_bind,ta_run,Result.andThen_ok,Sem.run_pure]
set_option maxRecDepth 100000 in
set_option maxHeartbeats 4000000 in
theorem gsw_c (v:Value) (w:World):Calls Tryz.prog 290 #[.iface 326 v] w fun e w'=>e=.returned (.iface 326 v)∧w'=w:=by
 go_enter Tryz.func290,Tryz.ntmps290
 go_wp2_with (first | ((with_reducible refine gate_dst (N:=7) rfl ?_);refine Kd.event_run rfl (ta_ev v rfl rfl _) ?_))
 go_ret
 exact ⟨rfl,rfl⟩
theorem nc_ev {ρ:Operand→Value} {o:Oper} {x:Operand} (a:Addr) (ho:o.op=.nilCheck x) (hx:ρ x=.func (.method "WriteString") #[.iface 326 (.pointer (some a))] #[]) (W:World):(execOp ρ o).run Tryz.prog W=.ok (.value (.func (.method "WriteString") #[.iface 326 (.pointer (some a))] #[])) W:=by
 unfold execOp
 rw [ho]
 simp only [hx]
 kernel_rfl
theorem inv_run (a:Addr) (y:ByteArray) (W:World):(invoke (.fn (.method "WriteString") #[]) #[.iface 326 (.pointer (some a)),.string y]).run Tryz.prog W=.ok (.enter 299 #[.pointer (some a),.string y]) W:=by kernel_rfl
theorem inv_ev {ρ:Operand→Value} {o:Oper} {x y:Operand} (a:Addr) (t:ByteArray) (ho:o.op=.call { callee:=.invoke x "WriteString",args:=#[y],argTypes:=#[9] }) (hx:ρ x=.iface 326 (.pointer (some a))) (hy:ρ y=.string t) (W:World):(execOp ρ o).run Tryz.prog W=.ok (.enter 299 #[.pointer (some a),.string t]) W:=by
 unfold execOp
 rw [ho]
 have e:(#[ρ x]++(#[y].map ρ):Array Value)=#[.iface 326 (.pointer (some a)),.string t]:=by simp [hx,hy]
 simp only [resolve,Sem.run_bind,Sem.run_pure,Result.andThen_ok]
 rw [e]
 exact inv_run a t W
end Go.Proofs.YtoaafohpmhdjnaaGreatDoor.RX
