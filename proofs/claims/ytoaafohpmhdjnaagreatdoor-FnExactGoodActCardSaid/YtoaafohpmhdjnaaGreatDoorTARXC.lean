import Derived.Test.YtoaafohpmhdjnaaGreatDoorTARXB
import Derived.Laws.NewBlocks
import Derived.Test.YtoaafohpmhdjnaaGreatDoorTAPVGx0
/- strings.Replacer built once: sync.Once over the build. Conditions: a new replacer over the four texts. -/
namespace Go.Proofs.YtoaafohpmhdjnaaGreatDoor.RX
open Go.RowKit Go.Proofs.YtoaafohpmhdjnaaGreatDoor.PVG Go.Proofs.YtoaafohpmhdjnaaGreatDoorW.PrintWords Go.Proofs.YtoaafohpmhdjnaaGreatDoorW.PrintLast Go.Proofs.YtoaafohpmhdjnaaGreatDoorW.PrintMore
set_option linter.unusedVariables false
set_option linter.unusedSimpArgs false
theorem BY.setb {W:World} {u:Value} {s:ByteArray} {b:Nat} {cs:Array Value} (h:BY W u s) (hB:W.heap[b]? = some (.cells cs 204 (0,0))) (i:Nat) (x:Value):BY (W.setCell ⟨b,i,none⟩ x) u s:=by
 obtain ⟨k,c,cs',fr,e,hb,hc⟩:=h
 refine ⟨k,c,cs',fr,e,?_,hc⟩
 have hne:k≠b:=by
  rintro rfl
  rw [hB] at hb
  injection hb with hb
  injection hb with _ ht
  exact absurd ht (by decide)
 exact (Below.heap_setCell W ⟨b,i,none⟩ x k hne).trans hb
theorem RB.lower {w00 w W:World} {gB:Nat} {f:Nat→Value} {xs:List ByteArray} (h:RB w W gB f xs) (hb:Below w00.heap.size w00 w):RB w00 W gB f xs:=by
 obtain ⟨A,c,h1,h2,h3,h4⟩:=h
 exact ⟨A,c,h1,Kd.R_lower h2 hb.size,below_step hb h3,Nat.le_trans hb.size h4⟩
theorem RB.setb {w00 W:World} {gB:Nat} {f:Nat→Value} {xs:List ByteArray} {b:Nat} {cs:Array Value} (h:RB w00 W gB f xs) (hB:W.heap[b]? = some (.cells cs 204 (0,0))) (hw:w00.heap.size≤b) (i:Nat) (x:Value):RB w00 (W.setCell ⟨b,i,none⟩ x) gB f xs:=by
 obtain ⟨A,c,h1,h2,h3,h4⟩:=h
 have hne:gB≠b:=blk_ne h1 hB (by decide)
 exact ⟨A,c,blk_far h1 hne x,Kd.R_mono (Kd.R_far (Kd.R_types h2 hB (by decide)) (fun _ hk=>hk.2) x) (fun _ _=>trivial),below_set h3 hw,h4⟩
theorem IsRep.lower {w00 w W:World} {gB:Nat} (h:IsRep w W gB) (hb:Below w00.heap.size w00 w):IsRep w00 W gB:=by
 obtain ⟨u1,u2,h1,h2,h3⟩:=h.out
 exact ⟨u1,u2,h1,h2,h3.lower hb⟩
theorem IsRep.setb {w00 W:World} {gB b:Nat} {cs:Array Value} (h:IsRep w00 W gB) (hB:W.heap[b]? = some (.cells cs 204 (0,0))) (hw:w00.heap.size≤b) (i:Nat) (x:Value):IsRep w00 (W.setCell ⟨b,i,none⟩ x) gB:=by
 obtain ⟨u1,u2,h1,h2,h3⟩:=h.out
 exact ⟨u1,u2,h1.setb hB i x,h2.setb hB i x,h3.setb hB hw i x⟩
theorem IsRep.below {w00 W W':World} {gB:Nat} (h:IsRep w00 W gB) (hb:Below W.heap.size W W'):IsRep w00 W' gB:=by
 obtain ⟨u1,u2,h1,h2,A,c,h3,h4,h5,h6⟩:=h.out
 exact ⟨u1,u2,h1.below hb,h2.below hb,A,c,blk_below h3 hb,Kd.R_below h4 hb,below_step h5 hb,h6⟩
theorem IsRep.drew {w00 W:World} {gB:Nat} (h:IsRep w00 W gB):IsRep w00 W.drew gB:=h.below (below_drew1 (Below.refl _ _))
theorem RB.bel {w W:World} {gB:Nat} {f:Nat→Value} {xs:List ByteArray} (h:RB w W gB f xs):Below w.heap.size w W:=by
 obtain ⟨_,_,_,_,h3,_⟩:=h
 exact h3
theorem IsRep.bel {w W:World} {gB:Nat} (h:IsRep w W gB):Below w.heap.size w W:=by
 obtain ⟨_,_,_,_,h3⟩:=h.out
 exact h3.bel
set_option maxRecDepth 100000 in
set_option maxHeartbeats 1600000 in
theorem buildOnce_c (b:Nat) (x0 x1 x2 x3:Value) (g c:Nat) (w:World) (hb:w.heap[b]? = some (.cells #[x0,x1,x2,x3,.slice (some ⟨g,0,none⟩) 4 c] 204 (0,0))) (hA:Kd.C Kd.string w (some ⟨g,0,none⟩) 4 old4) :
  Calls Tryz.prog 164 #[.pointer (some ⟨b,0,none⟩)] w fun e w'=>e=.returned (.tuple #[])∧∃ gB w1,Aside0 (IsRep w w1 gB)∧w'=(w1.setCell ⟨b,3,none⟩ (.iface 258 (.pointer (some ⟨gB,0,none⟩)))).setCell ⟨b,4,none⟩ (.slice none 0 0):=by
 have HB:=Aside0.mk hb
 have HA:=Aside0.mk hA
 clear hb hA
 go_enter Tryz.func164,Tryz.ntmps164
 go_wp2_with (first | (go_at_call 189;refine (build_c b x0 x1 x2 x3 g c w HB.out HA.out).mono ?_;rintro e w1 ⟨gB,rfl,hr⟩;have HR:=Aside0.mk hr;have K1:=Aside0.mk (blk_below HB.out hr.bel);clear hr;have k3:w1.cell? ⟨b,3,none⟩=some x3:=(blk_cell K1.out 3).trans rfl;have k4:w1.cell? ⟨b,4,none⟩=some (.slice (some ⟨g,0,none⟩) 4 c):=(blk_cell K1.out 4).trans rfl;have z3:=blk_frozen K1.out 3;have z4:=blk_frozen K1.out 4))
 go_end0
 exact ⟨rfl,_,_,HR,rfl⟩
theorem C_far_str {W:World} {g n:Nat} {xs:List ByteArray} {p:Addr} (h:Kd.C Kd.string W (some ⟨g,0,none⟩) n xs) (hne:g≠p.block) (u:Value):Kd.C Kd.string (W.setCell p u) (some ⟨g,0,none⟩) n xs :=
 Kd.C_keep ByteArray.empty h (⟨by simp,fun i _ hi _=>Below.heap_setCell W p u i hi⟩:KeepBut W (W.setCell p u) p.block none) (fun ad e _=>by cases e;exact hne)
set_option maxRecDepth 100000 in
set_option maxHeartbeats 1600000 in
theorem load_c (a:Addr) (x:Int) (w:World) (h:w.cell? a=some (.int .u32 x)):Calls Tryz.prog 187 #[.pointer (some a)] w fun e w'=>e=.returned (.bool (x != 0))∧w'=w:=by
 have hl:=run_call_load (P:=Tryz.prog) Tryz.func212 (by kernel_rfl) (by kernel_rfl) (by kernel_rfl) .u32 (by kernel_rfl) h
 go_enter Tryz.func187,Tryz.ntmps187
 go_wp2
 go_ret
 exact ⟨rfl,rfl⟩
structure Ready (w00:World) (b:Nat) (W:World):Prop where
 out:∃ gB,IsRep w00 W gB∧W.heap[b]? = some (.cells #[.int .u32 1,.int .i32 0,.int .u32 0,.iface 258 (.pointer (some ⟨gB,0,none⟩)),.slice none 0 0] 204 (0,0))
theorem blk5 {W:World} {b:Nat} {x0 x1 x2 x3 x4:Value} (h:W.heap[b]? = some (.cells #[x0,x1,x2,x3,x4] 204 (0,0))) (u:Value) :
  (W.setCell ⟨b,0,none⟩ u).heap[b]? = some (.cells #[u,x1,x2,x3,x4] 204 (0,0))∧(W.setCell ⟨b,1,none⟩ u).heap[b]? = some (.cells #[x0,u,x2,x3,x4] 204 (0,0))∧(W.setCell ⟨b,3,none⟩ u).heap[b]? = some (.cells #[x0,x1,x2,u,x4] 204 (0,0))∧(W.setCell ⟨b,4,none⟩ u).heap[b]? = some (.cells #[x0,x1,x2,x3,u] 204 (0,0)) :=
 ⟨by simpa using blk_set h 0 u,by simpa using blk_set h 1 u,by simpa using blk_set h 3 u,by simpa using blk_set h 4 u⟩
set_option maxRecDepth 100000 in
set_option maxHeartbeats 1600000 in
theorem slow_c (w00:World) (b g c:Nat) (w:World) (hb:w.heap[b]? = some (.cells #[.int .u32 0,.int .i32 0,.int .u32 0,.nilIface,.slice (some ⟨g,0,none⟩) 4 c] 204 (0,0))) (hA:Kd.C Kd.string w (some ⟨g,0,none⟩) 4 old4) (hg:g≠b) (hB:Below w00.heap.size w00 w) (hbase:w00.heap.size≤b) :
  Calls Tryz.prog 188 #[.pointer (some ⟨b,0,none⟩),.func (.func 164) #[.pointer (some ⟨b,0,none⟩)] #[]] w fun e w'=>e=.returned (.tuple #[])∧Ready w00 b w':=by
 have c0:w.cell? ⟨b,0,none⟩=some (.int .u32 0):=(blk_cell hb 0).trans rfl
 have c1:w.cell? ⟨b,1,none⟩=some (.int .i32 0):=(blk_cell hb 1).trans rfl
 have z1:=blk_frozen hb 1
 have z0:=blk_frozen hb 0
 obtain ⟨W1,hW1⟩:∃ W1,W1=w.setCell ⟨b,1,none⟩ (.int .i32 1):=⟨_,rfl⟩
 have H1:=Aside0.mk (show W1.heap[b]? = some (.cells #[.int .u32 0,.int .i32 1,.int .u32 0,.nilIface,.slice (some ⟨g,0,none⟩) 4 c] 204 (0,0)) by rw [hW1];exact (blk5 hb _).2.1)
 have A1:=Aside0.mk (show Kd.C Kd.string W1 (some ⟨g,0,none⟩) 4 old4 by rw [hW1];exact C_far_str hA (by simpa using hg) _)
 have B1:=Aside0.mk (show Below w00.heap.size w00 W1 by rw [hW1];exact below_set hB hbase)
 have k0:W1.cell? ⟨b,0,none⟩=some (.int .u32 0):=(blk_cell H1.out 0).trans rfl
 have hnot:∀ (x:Bool) (w:World),(Op.unary .not (.bool x)).run Tryz.prog w=.ok (.bool (!x)) w:=fun _ _=>rfl
 clear hb hA
 go_enter_defers Tryz.func188,Tryz.ntmps188
 go_wp2_with (first | (go_at_call 213;refine (lock_free ⟨b,1,none⟩ _ c1 z1).mono ?_;rintro e w' ⟨rfl,rfl⟩;rw [←hW1];clear hW1) | (go_at_call 187;refine (load_c ⟨b,0,none⟩ 0 _ k0).mono ?_;rintro e w' ⟨rfl,rfl⟩) | (go_at_call 164;refine (buildOnce_c b _ _ _ _ g c _ H1.out A1.out).mono ?_;rintro e w2 ⟨rfl,gB,w3,HR,hw2⟩;have HW2:=Aside0.mk hw2;clear hw2))
 have K3:=Aside0.mk (blk_below H1.out HR.out.bel)
 have K5:=Aside0.mk (show w2.heap[b]? = some (.cells #[.int .u32 0,.int .i32 1,.int .u32 0,.iface 258 (.pointer (some ⟨gB,0,none⟩)),.slice none 0 0] 204 (0,0)) by rw [HW2.out];exact (blk5 (blk5 K3.out _).2.2.1 _).2.2.2)
 have R5:=Aside0.mk (show IsRep w00 w2 gB by rw [HW2.out];exact ((HR.out.lower B1.out).setb K3.out hbase 3 _).setb (blk5 K3.out _).2.2.1 hbase 4 _)
 clear HR HW2 K3
 have d0:w2.cell? ⟨b,0,none⟩=some (.int .u32 0):=(blk_cell K5.out 0).trans rfl
 have d1:w2.cell? ⟨b,1,none⟩=some (.int .i32 1):=(blk_cell K5.out 1).trans rfl
 have y0:=blk_frozen K5.out 0
 have y1:=blk_frozen K5.out 1
 first | go_wp2 | skip
 refine leaves_cons (f:=215) (args:=#[.pointer (some ⟨b,0,none⟩),.bool true]) (by simp) (by simp [go_sem]) ?_
 refine (store_deferred ⟨b,0,none⟩ (.int .u32 0) .returning _ d0 y0).mono ?_
 rintro e u' w'' ⟨rfl,rfl,hw''⟩
 have K6:=Aside0.mk (show w''.heap[b]? = some (.cells #[.int .u32 1,.int .i32 1,.int .u32 0,.iface 258 (.pointer (some ⟨gB,0,none⟩)),.slice none 0 0] 204 (0,0)) by rw [hw''];exact (blk5 (blk_drew K5.out) _).1)
 have R6:=Aside0.mk (show IsRep w00 w'' gB by rw [hw''];exact (R5.out.drew).setb (blk_drew K5.out) hbase 0 _)
 refine leaves_cons (f:=214) (args:=#[.pointer (some ⟨b,1,none⟩)]) (by simp [settle]) (by simp [go_sem]) ?_
 refine (unlock_deferred ⟨b,1,none⟩ _ _ ((blk_cell K6.out 1).trans rfl) (blk_frozen K6.out 1)).mono ?_
 rintro e u' w4 ⟨rfl,rfl,hw4⟩
 have QQ:Ready w00 b w4:=⟨gB,by rw [hw4];exact R6.out.setb K6.out hbase 1 _,by rw [hw4];exact (blk5 K6.out _).2.1⟩
 simp [Leaves,settle,results,Tryz.results188]
 exact QQ
end Go.Proofs.YtoaafohpmhdjnaaGreatDoor.RX
