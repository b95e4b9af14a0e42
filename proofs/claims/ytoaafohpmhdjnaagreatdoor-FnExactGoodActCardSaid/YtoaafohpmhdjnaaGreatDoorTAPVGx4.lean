import Derived.Test.YtoaafohpmhdjnaaGreatDoorTAPVGx0
import Derived.Test.YtoaafohpmhdjnaaGreatDoorTAPVGx2
import Derived.Test.YtoaafohpmhdjnaaGreatDoorTAPVGx3
namespace Go.Proofs.YtoaafohpmhdjnaaGreatDoor.PVG
open Go.RowKit Go.Proofs.YtoaafohpmhdjnaaGreatDoorW.PrintWords Go.Proofs.YtoaafohpmhdjnaaGreatDoorW.PrintLast Go.Proofs.YtoaafohpmhdjnaaGreatDoorW.PrintMore
attribute [local go_sem] max2_int min2_int max_two min_two max_three min_three max_four min_four
set_option linter.unusedVariables false
set_option linter.unusedSimpArgs false
/-! ### spec_l1Text: function 107 -/
mutual
def spec_l1Text.l0:Nat→ByteArray→List Int→Int→Int→List (S107)→Int→Int→ByteArray→ByteArray→Int→Option (ByteArray)
 | 0,_,_,_,_,_,_,_,_,_,_=>none
 | k+1,x6,x34,x35,x36,x149000,x151000,x151001,x151002,x151003,x151004=>if x36 < x35 then (if 0≤x36 then (if x36 < (x34.length:Int) then (if x36 > 0 then (if x6.size+1≤9223372036854775807 then (spec_l1Text.j1 k (x6++(⟨#[44]⟩:ByteArray)) (rd x34 x36) x34 x35 x36 x149000 x151000 x151001 x151002 x151003 x151004) else (none)) else (spec_l1Text.j1 k x6 (rd x34 x36) x34 x35 x36 x149000 x151000 x151001 x151002 x151003 x151004)) else (none)) else (none)) else (if x151000=7 then (if 1+x6.size≤9223372036854775807 then (if ((⟨#[123]⟩:ByteArray)++x6).size+1≤9223372036854775807 then (some (((⟨#[123]⟩:ByteArray)++x6)++(⟨#[125]⟩:ByteArray))) else (none)) else (none)) else (if 1+x6.size≤9223372036854775807 then (if ((⟨#[91]⟩:ByteArray)++x6).size+1≤9223372036854775807 then (some (((⟨#[91]⟩:ByteArray)++x6)++(⟨#[93]⟩:ByteArray))) else (none)) else (none)))
def spec_l1Text.j1:Nat→ByteArray→Int→List Int→Int→Int→List (S107)→Int→Int→ByteArray→ByteArray→Int→Option (ByteArray)
 | 0,_,_,_,_,_,_,_,_,_,_,_=>none
 | k+1,x6,x8,x34,x35,x36,x149000,x151000,x151001,x151002,x151003,x151004=>if x151000=7 then (if 0≤x8 then (if x8 < (x149000.length:Int) then ((spec_l1Quote.f k ((rd_T107 x149000 x8).f3)).bind fun t158=>(if t158.size+1≤9223372036854775807 then (if x6.size+(t158++(⟨#[58]⟩:ByteArray)).size≤9223372036854775807 then ((spec_l1Text.f k x149000 x8).bind fun t159=>(if (x6++(t158++(⟨#[58]⟩:ByteArray))).size+t159.size≤9223372036854775807 then (spec_l1Text.l0 k ((x6++(t158++(⟨#[58]⟩:ByteArray)))++t159) x34 x35 (wrap64 (x36+1)) x149000 x151000 x151001 x151002 x151003 x151004) else (none))) else (none)) else (none))) else (none)) else (none)) else ((spec_l1Text.f k x149000 x8).bind fun t160=>(if x6.size+t160.size≤9223372036854775807 then (spec_l1Text.l0 k (x6++t160) x34 x35 (wrap64 (x36+1)) x149000 x151000 x151001 x151002 x151003 x151004) else (none)))
def spec_l1Text.f:Nat→List (S107)→Int→Option (ByteArray)
 | 0,_,_=>none
 | k+1,l0_0,a1=>if 0≤a1 then (if a1 < (l0_0.length:Int) then (if ((rd_T107 l0_0 a1).f0)=1 then (some (⟨#[110,117,108,108]⟩:ByteArray)) else (if ((rd_T107 l0_0 a1).f0)=2 then (some (⟨#[102,97,108,115,101]⟩:ByteArray)) else (if ((rd_T107 l0_0 a1).f0)=3 then (some (⟨#[116,114,117,101]⟩:ByteArray)) else (if ((rd_T107 l0_0 a1).f0)=4 then ((spec_l1Int.f k ((rd_T107 l0_0 a1).f1)).bind fun t151=>(some t151)) else (if ((rd_T107 l0_0 a1).f0)=5 then ((spec_l1Quote.f k ((rd_T107 l0_0 a1).f2)).bind fun t152=>(some t152)) else ((spec_l1Kids.f k l0_0 a1).bind fun t153=>(spec_l1Text.l0 k (⟨#[]⟩:ByteArray) t153 (t153.length:Int) 0 l0_0 ((rd_T107 l0_0 a1).f0) ((rd_T107 l0_0 a1).f1) ((rd_T107 l0_0 a1).f2) ((rd_T107 l0_0 a1).f3) ((rd_T107 l0_0 a1).f4)))))))) else (none)) else (none)
end
set_option maxHeartbeats 8000000 in
set_option maxRecDepth 100000 in
theorem spec_l1Text.calls (k:Nat):∀ (A0_0:Option Addr) (c0_0:Nat) (l0_0:List (S107)) (a1:Int) (r:ByteArray) (w:World) (hr0_0:Kd.C k107 w A0_0 l0_0.length l0_0) (hc0_0:l0_0.length≤c0_0) (h:spec_l1Text.f k l0_0 a1=some r),
  Calls Tryz.prog 107 #[.agg #[.slice A0_0 l0_0.length c0_0],.int .i64 a1] w fun e w'=>e=.returned (.string r)∧Below w.heap.size w w':=by
 induction k using Nat.strongRecOn with
 | _ k ih =>
 intro A0_0 c0_0 l0_0 a1 r w hr0_0 hc0_0 h
 cases k with
 | zero=>exact absurd h (by simp [spec_l1Text.f])
 | succ k =>
 simp only [spec_l1Text.f] at h
 have hu31:=Tryz.underlying31
 have hu107:=Tryz.underlying107
 have HR0_0:=Aside0.mk hr0_0
 have HC0_0:=Aside0.mk hc0_0
 clear hr0_0 hc0_0
 have HB:=Aside0.mk (Below.refl w.heap.size w)
 have H:(if 0≤a1 then (if a1 < (l0_0.length:Int) then (if ((rd_T107 l0_0 a1).f0)=1 then (some (⟨#[110,117,108,108]⟩:ByteArray)) else (if ((rd_T107 l0_0 a1).f0)=2 then (some (⟨#[102,97,108,115,101]⟩:ByteArray)) else (if ((rd_T107 l0_0 a1).f0)=3 then (some (⟨#[116,114,117,101]⟩:ByteArray)) else (if ((rd_T107 l0_0 a1).f0)=4 then ((spec_l1Int.f k ((rd_T107 l0_0 a1).f1)).bind fun t151=>(some t151)) else (if ((rd_T107 l0_0 a1).f0)=5 then ((spec_l1Quote.f k ((rd_T107 l0_0 a1).f2)).bind fun t152=>(some t152)) else ((spec_l1Kids.f k l0_0 a1).bind fun t153=>(spec_l1Text.l0 k (⟨#[]⟩:ByteArray) t153 (t153.length:Int) 0 l0_0 ((rd_T107 l0_0 a1).f0) ((rd_T107 l0_0 a1).f1) ((rd_T107 l0_0 a1).f2) ((rd_T107 l0_0 a1).f3) ((rd_T107 l0_0 a1).f4)))))))) else (none)) else (none))=some r:=h
 clear h
 by_cases c3:0≤a1
 ·rw [if_pos c3] at H
  have c3b0:decide (0≤a1)=true:=decide_eq_true c3
  clear c3
  by_cases c4:a1 < (l0_0.length:Int)
  ·rw [if_pos c4] at H
   have c4b0:decide (a1 < (l0_0.length:Int))=true:=decide_eq_true c4
   clear c4
   by_cases c5:((rd_T107 l0_0 a1).f0)=1
   ·rw [if_pos c5] at H
    have c5b0:(((rd_T107 l0_0 a1).f0)==1)=true:=beq_iff_eq.mpr c5
    have c5b1:(((rd_T107 l0_0 a1).f0) != 1)=false:=bne_eq_false_iff_eq.mpr c5
    clear c5
    obtain rfl:=Option.some.inj H
    go_enter Tryz.func107,Tryz.ntmps107
    go_wp2_with (first | ((with_reducible refine gate_dst (N:=2) rfl ?_);refine box_event ?hg (N:=2) ?hd (cs:=#[.slice A0_0 l0_0.length c0_0]) (t:=31) ?hr ?_;(case hd=>rfl);(case hg=>rfl);(case hr=>first | (go_simp;done) | (go_simp;rfl));intro gb148 hg w6 hbox hb;have n0_:=Aside0.mk (below_step (by repeat (first | (with_reducible first | exact HB.out | apply below_alloc | apply pw_below_drewN | apply below_drew1) | exact HB.out)) hb);have n1_:=Aside0.mk (hbox);have n2_:=Aside0.mk ((by rw [hg];exact (below_size (by repeat (first | (with_reducible first | exact HB.out | apply below_alloc | apply pw_below_drewN | apply below_drew1) | exact HB.out))):w.heap.size≤gb148));have n3_:=Aside0.mk ((by rw [hg];exact (below_size (by repeat (first | (with_reducible first | exact HB.out | apply below_alloc | apply pw_below_drewN | apply below_drew1) | exact HB.out))):w.heap.size≤gb148));clear HB;have HB:=n0_;have BK148:=n1_;have GW148:=n2_;have GE148:=n3_;clear n0_ n1_ n2_ n3_;clear hb hbox hg;have hcz7_0:w6.cell? ⟨gb148,0,none⟩=some (.slice A0_0 l0_0.length c0_0):=(blk_cell BK148.out 0).trans rfl;have hfz7_0:=blk_frozen BK148.out 0;have p149:0≤(a1:Int):=of_decide_eq_true (by first | (with_reducible assumption) | assumption);have q149:a1 < (l0_0.length:Int):=of_decide_eq_true (by first | (with_reducible assumption) | assumption);obtain ⟨ad149,e149,hx149_0,hx149_1,hx149_2,hx149_3,hx149_4⟩:=at_T107 HR0_0.out a1 p149 q149;cases e149;replace hx149_0:=(HB.out.cell (World.block_lt_of_cell? w _ hx149_0)).trans hx149_0;replace hx149_1:=(HB.out.cell (World.block_lt_of_cell? w _ hx149_1)).trans hx149_1;replace hx149_2:=(HB.out.cell (World.block_lt_of_cell? w _ hx149_2)).trans hx149_2;replace hx149_3:=(HB.out.cell (World.block_lt_of_cell? w _ hx149_3)).trans hx149_3;replace hx149_4:=(HB.out.cell (World.block_lt_of_cell? w _ hx149_4)).trans hx149_4;replace p149:=eq_true p149;replace q149:=eq_true q149) | ((with_reducible refine gate_dst (N:=5) rfl ?_);refine box_event ?hg (N:=5) ?hd (cs:=#[.int .i64 0,.int .i64 0,.string (⟨#[]⟩:ByteArray),.string (⟨#[]⟩:ByteArray),.int .i64 0]) (t:=107) ?hr ?_;(case hd=>rfl);(case hg=>rfl);(case hr=>first | (go_simp;done) | (go_simp;rfl));intro gb150 hg w8 hbox hb;have n0_:=Aside0.mk (blk_below (g:=gb148) (o:=.cells #[.slice (some ad149) l0_0.length c0_0] 31 (0,0)) (by (with_reducible repeat (first | refine blk_drewN ?_ _ | refine blk_drew ?_ | refine blk_alloc ?_ _));exact BK148.out) hb);have n1_:=Aside0.mk (below_step (by repeat (first | (with_reducible first | exact HB.out | apply below_alloc | apply pw_below_drewN | apply below_drew1 | refine below_set ?_ GE148.out) | exact HB.out)) hb);have n2_:=Aside0.mk (hbox);have n3_:=Aside0.mk ((by rw [hg];exact (below_size (by repeat (first | (with_reducible first | exact HB.out | apply below_alloc | apply pw_below_drewN | apply below_drew1 | refine below_set ?_ GE148.out) | exact HB.out))):w.heap.size≤gb150));have n4_:=Aside0.mk ((by rw [hg];exact (below_size (by repeat (first | (with_reducible first | exact HB.out | apply below_alloc | apply pw_below_drewN | apply below_drew1 | refine below_set ?_ GE148.out) | exact HB.out))):w.heap.size≤gb150));have n5_:=Aside0.mk ((by rw [hg];exact Nat.ne_of_lt (blk_lt (g:=gb148) (o:=.cells #[.slice (some ad149) l0_0.length c0_0] 31 (0,0)) (by (with_reducible repeat (first | refine blk_drewN ?_ _ | refine blk_drew ?_ | refine blk_alloc ?_ _));exact BK148.out)):gb148≠gb150));have n6_:=Aside0.mk ((by rw [hg];exact Nat.ne_of_gt (blk_lt (g:=gb148) (o:=.cells #[.slice (some ad149) l0_0.length c0_0] 31 (0,0)) (by (with_reducible repeat (first | refine blk_drewN ?_ _ | refine blk_drew ?_ | refine blk_alloc ?_ _));exact BK148.out)):gb150≠gb148));clear BK148;clear HB;have BK148:=n0_;have HB:=n1_;have BK150:=n2_;have GW150:=n3_;have GE150:=n4_;have NB148_150:=n5_;have NB150_148:=n6_;clear n0_ n1_ n2_ n3_ n4_ n5_ n6_;clear hb hbox hg;have hnb9:=NB150_148.out;have hnc9:=NB148_150.out;have hcz10_0:w8.cell? ⟨gb150,0,none⟩=some (.int .i64 0):=(blk_cell BK150.out 0).trans rfl;have hcz10_1:w8.cell? ⟨gb150,1,none⟩=some (.int .i64 0):=(blk_cell BK150.out 1).trans rfl;have hcz10_2:w8.cell? ⟨gb150,2,none⟩=some (.string (⟨#[]⟩:ByteArray)):=(blk_cell BK150.out 2).trans rfl;have hcz10_3:w8.cell? ⟨gb150,3,none⟩=some (.string (⟨#[]⟩:ByteArray)):=(blk_cell BK150.out 3).trans rfl;have hcz10_4:w8.cell? ⟨gb150,4,none⟩=some (.int .i64 0):=(blk_cell BK150.out 4).trans rfl;have hfz10_0:=blk_frozen BK150.out 0;have hfz10_1:=blk_frozen BK150.out 1;have hfz10_2:=blk_frozen BK150.out 2;have hfz10_3:=blk_frozen BK150.out 3;have hfz10_4:=blk_frozen BK150.out 4))
    go_ret
    exact ⟨by first | rfl | (simp [errW_none,errW_some] <;> rfl) | (simp [*,errW_none,errW_some] <;> rfl),by repeat (first | (with_reducible first | exact HB.out | apply below_alloc | apply pw_below_drewN | apply below_drew1 | refine below_set ?_ GE148.out | refine below_set ?_ GE150.out) | exact HB.out)⟩
   ·rw [if_neg c5] at H
    have c5b0:(((rd_T107 l0_0 a1).f0)==1)=false:=beq_eq_false_iff_ne.mpr c5
    have c5b1:(((rd_T107 l0_0 a1).f0) != 1)=true:=bne_iff_ne.mpr c5
    by_cases c11:((rd_T107 l0_0 a1).f0)=2
    ·rw [if_pos c11] at H
     have c11b0:(((rd_T107 l0_0 a1).f0)==2)=true:=beq_iff_eq.mpr c11
     have c11b1:(((rd_T107 l0_0 a1).f0) != 2)=false:=bne_eq_false_iff_eq.mpr c11
     clear c11
     obtain rfl:=Option.some.inj H
     go_enter Tryz.func107,Tryz.ntmps107
     go_wp2_with (first | ((with_reducible refine gate_dst (N:=2) rfl ?_);refine box_event ?hg (N:=2) ?hd (cs:=#[.slice A0_0 l0_0.length c0_0]) (t:=31) ?hr ?_;(case hd=>rfl);(case hg=>rfl);(case hr=>first | (go_simp;done) | (go_simp;rfl));intro gb148 hg w12 hbox hb;have n0_:=Aside0.mk (below_step (by repeat (first | (with_reducible first | exact HB.out | apply below_alloc | apply pw_below_drewN | apply below_drew1) | exact HB.out)) hb);have n1_:=Aside0.mk (hbox);have n2_:=Aside0.mk ((by rw [hg];exact (below_size (by repeat (first | (with_reducible first | exact HB.out | apply below_alloc | apply pw_below_drewN | apply below_drew1) | exact HB.out))):w.heap.size≤gb148));have n3_:=Aside0.mk ((by rw [hg];exact (below_size (by repeat (first | (with_reducible first | exact HB.out | apply below_alloc | apply pw_below_drewN | apply below_drew1) | exact HB.out))):w.heap.size≤gb148));clear HB;have HB:=n0_;have BK148:=n1_;have GW148:=n2_;have GE148:=n3_;clear n0_ n1_ n2_ n3_;clear hb hbox hg;have hcz13_0:w12.cell? ⟨gb148,0,none⟩=some (.slice A0_0 l0_0.length c0_0):=(blk_cell BK148.out 0).trans rfl;have hfz13_0:=blk_frozen BK148.out 0;have p149:0≤(a1:Int):=of_decide_eq_true (by first | (with_reducible assumption) | assumption);have q149:a1 < (l0_0.length:Int):=of_decide_eq_true (by first | (with_reducible assumption) | assumption);obtain ⟨ad149,e149,hx149_0,hx149_1,hx149_2,hx149_3,hx149_4⟩:=at_T107 HR0_0.out a1 p149 q149;cases e149;replace hx149_0:=(HB.out.cell (World.block_lt_of_cell? w _ hx149_0)).trans hx149_0;replace hx149_1:=(HB.out.cell (World.block_lt_of_cell? w _ hx149_1)).trans hx149_1;replace hx149_2:=(HB.out.cell (World.block_lt_of_cell? w _ hx149_2)).trans hx149_2;replace hx149_3:=(HB.out.cell (World.block_lt_of_cell? w _ hx149_3)).trans hx149_3;replace hx149_4:=(HB.out.cell (World.block_lt_of_cell? w _ hx149_4)).trans hx149_4;replace p149:=eq_true p149;replace q149:=eq_true q149) | ((with_reducible refine gate_dst (N:=5) rfl ?_);refine box_event ?hg (N:=5) ?hd (cs:=#[.int .i64 0,.int .i64 0,.string (⟨#[]⟩:ByteArray),.string (⟨#[]⟩:ByteArray),.int .i64 0]) (t:=107) ?hr ?_;(case hd=>rfl);(case hg=>rfl);(case hr=>first | (go_simp;done) | (go_simp;rfl));intro gb150 hg w14 hbox hb;have n0_:=Aside0.mk (blk_below (g:=gb148) (o:=.cells #[.slice (some ad149) l0_0.length c0_0] 31 (0,0)) (by (with_reducible repeat (first | refine blk_drewN ?_ _ | refine blk_drew ?_ | refine blk_alloc ?_ _));exact BK148.out) hb);have n1_:=Aside0.mk (below_step (by repeat (first | (with_reducible first | exact HB.out | apply below_alloc | apply pw_below_drewN | apply below_drew1 | refine below_set ?_ GE148.out) | exact HB.out)) hb);have n2_:=Aside0.mk (hbox);have n3_:=Aside0.mk ((by rw [hg];exact (below_size (by repeat (first | (with_reducible first | exact HB.out | apply below_alloc | apply pw_below_drewN | apply below_drew1 | refine below_set ?_ GE148.out) | exact HB.out))):w.heap.size≤gb150));have n4_:=Aside0.mk ((by rw [hg];exact (below_size (by repeat (first | (with_reducible first | exact HB.out | apply below_alloc | apply pw_below_drewN | apply below_drew1 | refine below_set ?_ GE148.out) | exact HB.out))):w.heap.size≤gb150));have n5_:=Aside0.mk ((by rw [hg];exact Nat.ne_of_lt (blk_lt (g:=gb148) (o:=.cells #[.slice (some ad149) l0_0.length c0_0] 31 (0,0)) (by (with_reducible repeat (first | refine blk_drewN ?_ _ | refine blk_drew ?_ | refine blk_alloc ?_ _));exact BK148.out)):gb148≠gb150));have n6_:=Aside0.mk ((by rw [hg];exact Nat.ne_of_gt (blk_lt (g:=gb148) (o:=.cells #[.slice (some ad149) l0_0.length c0_0] 31 (0,0)) (by (with_reducible repeat (first | refine blk_drewN ?_ _ | refine blk_drew ?_ | refine blk_alloc ?_ _));exact BK148.out)):gb150≠gb148));clear BK148;clear HB;have BK148:=n0_;have HB:=n1_;have BK150:=n2_;have GW150:=n3_;have GE150:=n4_;have NB148_150:=n5_;have NB150_148:=n6_;clear n0_ n1_ n2_ n3_ n4_ n5_ n6_;clear hb hbox hg;have hnb15:=NB150_148.out;have hnc15:=NB148_150.out;have hcz16_0:w14.cell? ⟨gb150,0,none⟩=some (.int .i64 0):=(blk_cell BK150.out 0).trans rfl;have hcz16_1:w14.cell? ⟨gb150,1,none⟩=some (.int .i64 0):=(blk_cell BK150.out 1).trans rfl;have hcz16_2:w14.cell? ⟨gb150,2,none⟩=some (.string (⟨#[]⟩:ByteArray)):=(blk_cell BK150.out 2).trans rfl;have hcz16_3:w14.cell? ⟨gb150,3,none⟩=some (.string (⟨#[]⟩:ByteArray)):=(blk_cell BK150.out 3).trans rfl;have hcz16_4:w14.cell? ⟨gb150,4,none⟩=some (.int .i64 0):=(blk_cell BK150.out 4).trans rfl;have hfz16_0:=blk_frozen BK150.out 0;have hfz16_1:=blk_frozen BK150.out 1;have hfz16_2:=blk_frozen BK150.out 2;have hfz16_3:=blk_frozen BK150.out 3;have hfz16_4:=blk_frozen BK150.out 4))
     go_ret
     exact ⟨by first | rfl | (simp [errW_none,errW_some] <;> rfl) | (simp [*,errW_none,errW_some] <;> rfl),by repeat (first | (with_reducible first | exact HB.out | apply below_alloc | apply pw_below_drewN | apply below_drew1 | refine below_set ?_ GE148.out | refine below_set ?_ GE150.out) | exact HB.out)⟩
    ·rw [if_neg c11] at H
     have c11b0:(((rd_T107 l0_0 a1).f0)==2)=false:=beq_eq_false_iff_ne.mpr c11
     have c11b1:(((rd_T107 l0_0 a1).f0) != 2)=true:=bne_iff_ne.mpr c11
     by_cases c17:((rd_T107 l0_0 a1).f0)=3
     ·rw [if_pos c17] at H
      have c17b0:(((rd_T107 l0_0 a1).f0)==3)=true:=beq_iff_eq.mpr c17
      have c17b1:(((rd_T107 l0_0 a1).f0) != 3)=false:=bne_eq_false_iff_eq.mpr c17
      clear c17
      obtain rfl:=Option.some.inj H
      go_enter Tryz.func107,Tryz.ntmps107
      go_wp2_with (first | ((with_reducible refine gate_dst (N:=2) rfl ?_);refine box_event ?hg (N:=2) ?hd (cs:=#[.slice A0_0 l0_0.length c0_0]) (t:=31) ?hr ?_;(case hd=>rfl);(case hg=>rfl);(case hr=>first | (go_simp;done) | (go_simp;rfl));intro gb148 hg w18 hbox hb;have n0_:=Aside0.mk (below_step (by repeat (first | (with_reducible first | exact HB.out | apply below_alloc | apply pw_below_drewN | apply below_drew1) | exact HB.out)) hb);have n1_:=Aside0.mk (hbox);have n2_:=Aside0.mk ((by rw [hg];exact (below_size (by repeat (first | (with_reducible first | exact HB.out | apply below_alloc | apply pw_below_drewN | apply below_drew1) | exact HB.out))):w.heap.size≤gb148));have n3_:=Aside0.mk ((by rw [hg];exact (below_size (by repeat (first | (with_reducible first | exact HB.out | apply below_alloc | apply pw_below_drewN | apply below_drew1) | exact HB.out))):w.heap.size≤gb148));clear HB;have HB:=n0_;have BK148:=n1_;have GW148:=n2_;have GE148:=n3_;clear n0_ n1_ n2_ n3_;clear hb hbox hg;have hcz19_0:w18.cell? ⟨gb148,0,none⟩=some (.slice A0_0 l0_0.length c0_0):=(blk_cell BK148.out 0).trans rfl;have hfz19_0:=blk_frozen BK148.out 0;have p149:0≤(a1:Int):=of_decide_eq_true (by first | (with_reducible assumption) | assumption);have q149:a1 < (l0_0.length:Int):=of_decide_eq_true (by first | (with_reducible assumption) | assumption);obtain ⟨ad149,e149,hx149_0,hx149_1,hx149_2,hx149_3,hx149_4⟩:=at_T107 HR0_0.out a1 p149 q149;cases e149;replace hx149_0:=(HB.out.cell (World.block_lt_of_cell? w _ hx149_0)).trans hx149_0;replace hx149_1:=(HB.out.cell (World.block_lt_of_cell? w _ hx149_1)).trans hx149_1;replace hx149_2:=(HB.out.cell (World.block_lt_of_cell? w _ hx149_2)).trans hx149_2;replace hx149_3:=(HB.out.cell (World.block_lt_of_cell? w _ hx149_3)).trans hx149_3;replace hx149_4:=(HB.out.cell (World.block_lt_of_cell? w _ hx149_4)).trans hx149_4;replace p149:=eq_true p149;replace q149:=eq_true q149) | ((with_reducible refine gate_dst (N:=5) rfl ?_);refine box_event ?hg (N:=5) ?hd (cs:=#[.int .i64 0,.int .i64 0,.string (⟨#[]⟩:ByteArray),.string (⟨#[]⟩:ByteArray),.int .i64 0]) (t:=107) ?hr ?_;(case hd=>rfl);(case hg=>rfl);(case hr=>first | (go_simp;done) | (go_simp;rfl));intro gb150 hg w20 hbox hb;have n0_:=Aside0.mk (blk_below (g:=gb148) (o:=.cells #[.slice (some ad149) l0_0.length c0_0] 31 (0,0)) (by (with_reducible repeat (first | refine blk_drewN ?_ _ | refine blk_drew ?_ | refine blk_alloc ?_ _));exact BK148.out) hb);have n1_:=Aside0.mk (below_step (by repeat (first | (with_reducible first | exact HB.out | apply below_alloc | apply pw_below_drewN | apply below_drew1 | refine below_set ?_ GE148.out) | exact HB.out)) hb);have n2_:=Aside0.mk (hbox);have n3_:=Aside0.mk ((by rw [hg];exact (below_size (by repeat (first | (with_reducible first | exact HB.out | apply below_alloc | apply pw_below_drewN | apply below_drew1 | refine below_set ?_ GE148.out) | exact HB.out))):w.heap.size≤gb150));have n4_:=Aside0.mk ((by rw [hg];exact (below_size (by repeat (first | (with_reducible first | exact HB.out | apply below_alloc | apply pw_below_drewN | apply below_drew1 | refine below_set ?_ GE148.out) | exact HB.out))):w.heap.size≤gb150));have n5_:=Aside0.mk ((by rw [hg];exact Nat.ne_of_lt (blk_lt (g:=gb148) (o:=.cells #[.slice (some ad149) l0_0.length c0_0] 31 (0,0)) (by (with_reducible repeat (first | refine blk_drewN ?_ _ | refine blk_drew ?_ | refine blk_alloc ?_ _));exact BK148.out)):gb148≠gb150));have n6_:=Aside0.mk ((by rw [hg];exact Nat.ne_of_gt (blk_lt (g:=gb148) (o:=.cells #[.slice (some ad149) l0_0.length c0_0] 31 (0,0)) (by (with_reducible repeat (first | refine blk_drewN ?_ _ | refine blk_drew ?_ | refine blk_alloc ?_ _));exact BK148.out)):gb150≠gb148));clear BK148;clear HB;have BK148:=n0_;have HB:=n1_;have BK150:=n2_;have GW150:=n3_;have GE150:=n4_;have NB148_150:=n5_;have NB150_148:=n6_;clear n0_ n1_ n2_ n3_ n4_ n5_ n6_;clear hb hbox hg;have hnb21:=NB150_148.out;have hnc21:=NB148_150.out;have hcz22_0:w20.cell? ⟨gb150,0,none⟩=some (.int .i64 0):=(blk_cell BK150.out 0).trans rfl;have hcz22_1:w20.cell? ⟨gb150,1,none⟩=some (.int .i64 0):=(blk_cell BK150.out 1).trans rfl;have hcz22_2:w20.cell? ⟨gb150,2,none⟩=some (.string (⟨#[]⟩:ByteArray)):=(blk_cell BK150.out 2).trans rfl;have hcz22_3:w20.cell? ⟨gb150,3,none⟩=some (.string (⟨#[]⟩:ByteArray)):=(blk_cell BK150.out 3).trans rfl;have hcz22_4:w20.cell? ⟨gb150,4,none⟩=some (.int .i64 0):=(blk_cell BK150.out 4).trans rfl;have hfz22_0:=blk_frozen BK150.out 0;have hfz22_1:=blk_frozen BK150.out 1;have hfz22_2:=blk_frozen BK150.out 2;have hfz22_3:=blk_frozen BK150.out 3;have hfz22_4:=blk_frozen BK150.out 4))
      go_ret
      exact ⟨by first | rfl | (simp [errW_none,errW_some] <;> rfl) | (simp [*,errW_none,errW_some] <;> rfl),by repeat (first | (with_reducible first | exact HB.out | apply below_alloc | apply pw_below_drewN | apply below_drew1 | refine below_set ?_ GE148.out | refine below_set ?_ GE150.out) | exact HB.out)⟩
     ·rw [if_neg c17] at H
      have c17b0:(((rd_T107 l0_0 a1).f0)==3)=false:=beq_eq_false_iff_ne.mpr c17
      have c17b1:(((rd_T107 l0_0 a1).f0) != 3)=true:=bne_iff_ne.mpr c17
      by_cases c23:((rd_T107 l0_0 a1).f0)=4
      ·rw [if_pos c23] at H
       have c23b0:(((rd_T107 l0_0 a1).f0)==4)=true:=beq_iff_eq.mpr c23
       have c23b1:(((rd_T107 l0_0 a1).f0) != 4)=false:=bne_eq_false_iff_eq.mpr c23
       clear c23
       replace H:=Option.bind_eq_some_iff.mp H
       obtain ⟨t151,A240,H⟩:=H
       replace H:(some t151)=some r:=H
       have A24:=Aside0.mk A240
       clear A240
       obtain rfl:=Option.some.inj H
       go_enter Tryz.func107,Tryz.ntmps107
       go_wp2_with (first | ((with_reducible refine gate_dst (N:=2) rfl ?_);refine box_event ?hg (N:=2) ?hd (cs:=#[.slice A0_0 l0_0.length c0_0]) (t:=31) ?hr ?_;(case hd=>rfl);(case hg=>rfl);(case hr=>first | (go_simp;done) | (go_simp;rfl));intro gb148 hg w25 hbox hb;have n0_:=Aside0.mk (below_step (by repeat (first | (with_reducible first | exact HB.out | apply below_alloc | apply pw_below_drewN | apply below_drew1) | exact HB.out)) hb);have n1_:=Aside0.mk (hbox);have n2_:=Aside0.mk ((by rw [hg];exact (below_size (by repeat (first | (with_reducible first | exact HB.out | apply below_alloc | apply pw_below_drewN | apply below_drew1) | exact HB.out))):w.heap.size≤gb148));have n3_:=Aside0.mk ((by rw [hg];exact (below_size (by repeat (first | (with_reducible first | exact HB.out | apply below_alloc | apply pw_below_drewN | apply below_drew1) | exact HB.out))):w.heap.size≤gb148));clear HB;have HB:=n0_;have BK148:=n1_;have GW148:=n2_;have GE148:=n3_;clear n0_ n1_ n2_ n3_;clear hb hbox hg;have hcz26_0:w25.cell? ⟨gb148,0,none⟩=some (.slice A0_0 l0_0.length c0_0):=(blk_cell BK148.out 0).trans rfl;have hfz26_0:=blk_frozen BK148.out 0;have p149:0≤(a1:Int):=of_decide_eq_true (by first | (with_reducible assumption) | assumption);have q149:a1 < (l0_0.length:Int):=of_decide_eq_true (by first | (with_reducible assumption) | assumption);obtain ⟨ad149,e149,hx149_0,hx149_1,hx149_2,hx149_3,hx149_4⟩:=at_T107 HR0_0.out a1 p149 q149;cases e149;replace hx149_0:=(HB.out.cell (World.block_lt_of_cell? w _ hx149_0)).trans hx149_0;replace hx149_1:=(HB.out.cell (World.block_lt_of_cell? w _ hx149_1)).trans hx149_1;replace hx149_2:=(HB.out.cell (World.block_lt_of_cell? w _ hx149_2)).trans hx149_2;replace hx149_3:=(HB.out.cell (World.block_lt_of_cell? w _ hx149_3)).trans hx149_3;replace hx149_4:=(HB.out.cell (World.block_lt_of_cell? w _ hx149_4)).trans hx149_4;replace p149:=eq_true p149;replace q149:=eq_true q149) | ((with_reducible refine gate_dst (N:=5) rfl ?_);refine box_event ?hg (N:=5) ?hd (cs:=#[.int .i64 0,.int .i64 0,.string (⟨#[]⟩:ByteArray),.string (⟨#[]⟩:ByteArray),.int .i64 0]) (t:=107) ?hr ?_;(case hd=>rfl);(case hg=>rfl);(case hr=>first | (go_simp;done) | (go_simp;rfl));intro gb150 hg w27 hbox hb;have n0_:=Aside0.mk (blk_below (g:=gb148) (o:=.cells #[.slice (some ad149) l0_0.length c0_0] 31 (0,0)) (by (with_reducible repeat (first | refine blk_drewN ?_ _ | refine blk_drew ?_ | refine blk_alloc ?_ _));exact BK148.out) hb);have n1_:=Aside0.mk (below_step (by repeat (first | (with_reducible first | exact HB.out | apply below_alloc | apply pw_below_drewN | apply below_drew1 | refine below_set ?_ GE148.out) | exact HB.out)) hb);have n2_:=Aside0.mk (hbox);have n3_:=Aside0.mk ((by rw [hg];exact (below_size (by repeat (first | (with_reducible first | exact HB.out | apply below_alloc | apply pw_below_drewN | apply below_drew1 | refine below_set ?_ GE148.out) | exact HB.out))):w.heap.size≤gb150));have n4_:=Aside0.mk ((by rw [hg];exact (below_size (by repeat (first | (with_reducible first | exact HB.out | apply below_alloc | apply pw_below_drewN | apply below_drew1 | refine below_set ?_ GE148.out) | exact HB.out))):w.heap.size≤gb150));have n5_:=Aside0.mk ((by rw [hg];exact Nat.ne_of_lt (blk_lt (g:=gb148) (o:=.cells #[.slice (some ad149) l0_0.length c0_0] 31 (0,0)) (by (with_reducible repeat (first | refine blk_drewN ?_ _ | refine blk_drew ?_ | refine blk_alloc ?_ _));exact BK148.out)):gb148≠gb150));have n6_:=Aside0.mk ((by rw [hg];exact Nat.ne_of_gt (blk_lt (g:=gb148) (o:=.cells #[.slice (some ad149) l0_0.length c0_0] 31 (0,0)) (by (with_reducible repeat (first | refine blk_drewN ?_ _ | refine blk_drew ?_ | refine blk_alloc ?_ _));exact BK148.out)):gb150≠gb148));clear BK148;clear HB;have BK148:=n0_;have HB:=n1_;have BK150:=n2_;have GW150:=n3_;have GE150:=n4_;have NB148_150:=n5_;have NB150_148:=n6_;clear n0_ n1_ n2_ n3_ n4_ n5_ n6_;clear hb hbox hg;have hnb28:=NB150_148.out;have hnc28:=NB148_150.out;have hcz29_0:w27.cell? ⟨gb150,0,none⟩=some (.int .i64 0):=(blk_cell BK150.out 0).trans rfl;have hcz29_1:w27.cell? ⟨gb150,1,none⟩=some (.int .i64 0):=(blk_cell BK150.out 1).trans rfl;have hcz29_2:w27.cell? ⟨gb150,2,none⟩=some (.string (⟨#[]⟩:ByteArray)):=(blk_cell BK150.out 2).trans rfl;have hcz29_3:w27.cell? ⟨gb150,3,none⟩=some (.string (⟨#[]⟩:ByteArray)):=(blk_cell BK150.out 3).trans rfl;have hcz29_4:w27.cell? ⟨gb150,4,none⟩=some (.int .i64 0):=(blk_cell BK150.out 4).trans rfl;have hfz29_0:=blk_frozen BK150.out 0;have hfz29_1:=blk_frozen BK150.out 1;have hfz29_2:=blk_frozen BK150.out 2;have hfz29_3:=blk_frozen BK150.out 3;have hfz29_4:=blk_frozen BK150.out 4) | ((with_reducible refine gate_callee (f:=153) rfl ?_);refine goesL_ (some 26) rfl rfl Tryz.func153 (by kernel_rfl) rfl #[.int .i64 ((rd_T107 l0_0 a1).f1)] rfl (by (try simp only [List.map_toArray,List.map_cons,List.map_nil]);first | done | rfl | (simp only [List.length_drop,List.length_take];rfl)) ?_;(with_reducible refine (spec_l1Int.calls k ((rd_T107 l0_0 a1).f1) t151 _ A24.out).mono ?_);rintro e w30 ⟨rfl,hb⟩;refine ⟨_,rfl,?_⟩;have n0_:=Aside0.mk (blk_below (g:=gb148) (o:=.cells #[.slice (some ad149) l0_0.length c0_0] 31 (0,0)) (by (with_reducible repeat (first | refine blk_drewN ?_ _ | refine blk_drew ?_ | refine blk_alloc ?_ _));refine blk_far ?_ NB148_150.out _;(with_reducible repeat (first | refine blk_drewN ?_ _ | refine blk_drew ?_ | refine blk_alloc ?_ _));refine blk_far ?_ NB148_150.out _;(with_reducible repeat (first | refine blk_drewN ?_ _ | refine blk_drew ?_ | refine blk_alloc ?_ _));refine blk_far ?_ NB148_150.out _;(with_reducible repeat (first | refine blk_drewN ?_ _ | refine blk_drew ?_ | refine blk_alloc ?_ _));refine blk_far ?_ NB148_150.out _;(with_reducible repeat (first | refine blk_drewN ?_ _ | refine blk_drew ?_ | refine blk_alloc ?_ _));refine blk_far ?_ NB148_150.out _;(with_reducible repeat (first | refine blk_drewN ?_ _ | refine blk_drew ?_ | refine blk_alloc ?_ _));exact BK148.out) hb);have n1_:=Aside0.mk (blk_below (g:=gb150) (o:=.cells #[.int .i64 ((rd_T107 l0_0 a1).f0),.int .i64 ((rd_T107 l0_0 a1).f1),.string ((rd_T107 l0_0 a1).f2),.string ((rd_T107 l0_0 a1).f3),.int .i64 ((rd_T107 l0_0 a1).f4)] 107 (0,0)) (by (with_reducible repeat (first | refine blk_drewN ?_ _ | refine blk_drew ?_ | refine blk_alloc ?_ _));refine blk_put (cs:=#[.int .i64 ((rd_T107 l0_0 a1).f0),.int .i64 ((rd_T107 l0_0 a1).f1),.string ((rd_T107 l0_0 a1).f2),.string ((rd_T107 l0_0 a1).f3),.int .i64 0]) ?_ 4 _ rfl;(with_reducible repeat (first | refine blk_drewN ?_ _ | refine blk_drew ?_ | refine blk_alloc ?_ _));refine blk_put (cs:=#[.int .i64 ((rd_T107 l0_0 a1).f0),.int .i64 ((rd_T107 l0_0 a1).f1),.string ((rd_T107 l0_0 a1).f2),.string (⟨#[]⟩:ByteArray),.int .i64 0]) ?_ 3 _ rfl;(with_reducible repeat (first | refine blk_drewN ?_ _ | refine blk_drew ?_ | refine blk_alloc ?_ _));refine blk_put (cs:=#[.int .i64 ((rd_T107 l0_0 a1).f0),.int .i64 ((rd_T107 l0_0 a1).f1),.string (⟨#[]⟩:ByteArray),.string (⟨#[]⟩:ByteArray),.int .i64 0]) ?_ 2 _ rfl;(with_reducible repeat (first | refine blk_drewN ?_ _ | refine blk_drew ?_ | refine blk_alloc ?_ _));refine blk_put (cs:=#[.int .i64 ((rd_T107 l0_0 a1).f0),.int .i64 0,.string (⟨#[]⟩:ByteArray),.string (⟨#[]⟩:ByteArray),.int .i64 0]) ?_ 1 _ rfl;(with_reducible repeat (first | refine blk_drewN ?_ _ | refine blk_drew ?_ | refine blk_alloc ?_ _));refine blk_put (cs:=#[.int .i64 0,.int .i64 0,.string (⟨#[]⟩:ByteArray),.string (⟨#[]⟩:ByteArray),.int .i64 0]) ?_ 0 _ rfl;(with_reducible repeat (first | refine blk_drewN ?_ _ | refine blk_drew ?_ | refine blk_alloc ?_ _));exact BK150.out) hb);have n2_:=Aside0.mk (below_step (by repeat (first | (with_reducible first | exact HB.out | apply below_alloc | apply pw_below_drewN | apply below_drew1 | refine below_set ?_ GE148.out | refine below_set ?_ GE150.out) | exact HB.out)) hb);clear BK148;clear BK150;clear HB;have BK148:=n0_;have BK150:=n1_;have HB:=n2_;clear n0_ n1_ n2_;(try clear hb);(try clear hb2);(try clear hk);(try clear hi)))
       go_ret
       exact ⟨by first | rfl | (simp [errW_none,errW_some] <;> rfl) | (simp [*,errW_none,errW_some] <;> rfl),by repeat (first | (with_reducible first | exact HB.out | apply below_alloc | apply pw_below_drewN | apply below_drew1 | refine below_set ?_ GE148.out | refine below_set ?_ GE150.out) | exact HB.out)⟩
      ·rw [if_neg c23] at H
       have c23b0:(((rd_T107 l0_0 a1).f0)==4)=false:=beq_eq_false_iff_ne.mpr c23
       have c23b1:(((rd_T107 l0_0 a1).f0) != 4)=true:=bne_iff_ne.mpr c23
       by_cases c31:((rd_T107 l0_0 a1).f0)=5
       ·rw [if_pos c31] at H
        have c31b0:(((rd_T107 l0_0 a1).f0)==5)=true:=beq_iff_eq.mpr c31
        have c31b1:(((rd_T107 l0_0 a1).f0) != 5)=false:=bne_eq_false_iff_eq.mpr c31
        clear c31
        replace H:=Option.bind_eq_some_iff.mp H
        obtain ⟨t152,A320,H⟩:=H
        replace H:(some t152)=some r:=H
        have A32:=Aside0.mk A320
        clear A320
        obtain rfl:=Option.some.inj H
        go_enter Tryz.func107,Tryz.ntmps107
        go_wp2_with (first | ((with_reducible refine gate_dst (N:=2) rfl ?_);refine box_event ?hg (N:=2) ?hd (cs:=#[.slice A0_0 l0_0.length c0_0]) (t:=31) ?hr ?_;(case hd=>rfl);(case hg=>rfl);(case hr=>first | (go_simp;done) | (go_simp;rfl));intro gb148 hg w33 hbox hb;have n0_:=Aside0.mk (below_step (by repeat (first | (with_reducible first | exact HB.out | apply below_alloc | apply pw_below_drewN | apply below_drew1) | exact HB.out)) hb);have n1_:=Aside0.mk (hbox);have n2_:=Aside0.mk ((by rw [hg];exact (below_size (by repeat (first | (with_reducible first | exact HB.out | apply below_alloc | apply pw_below_drewN | apply below_drew1) | exact HB.out))):w.heap.size≤gb148));have n3_:=Aside0.mk ((by rw [hg];exact (below_size (by repeat (first | (with_reducible first | exact HB.out | apply below_alloc | apply pw_below_drewN | apply below_drew1) | exact HB.out))):w.heap.size≤gb148));clear HB;have HB:=n0_;have BK148:=n1_;have GW148:=n2_;have GE148:=n3_;clear n0_ n1_ n2_ n3_;clear hb hbox hg;have hcz34_0:w33.cell? ⟨gb148,0,none⟩=some (.slice A0_0 l0_0.length c0_0):=(blk_cell BK148.out 0).trans rfl;have hfz34_0:=blk_frozen BK148.out 0;have p149:0≤(a1:Int):=of_decide_eq_true (by first | (with_reducible assumption) | assumption);have q149:a1 < (l0_0.length:Int):=of_decide_eq_true (by first | (with_reducible assumption) | assumption);obtain ⟨ad149,e149,hx149_0,hx149_1,hx149_2,hx149_3,hx149_4⟩:=at_T107 HR0_0.out a1 p149 q149;cases e149;replace hx149_0:=(HB.out.cell (World.block_lt_of_cell? w _ hx149_0)).trans hx149_0;replace hx149_1:=(HB.out.cell (World.block_lt_of_cell? w _ hx149_1)).trans hx149_1;replace hx149_2:=(HB.out.cell (World.block_lt_of_cell? w _ hx149_2)).trans hx149_2;replace hx149_3:=(HB.out.cell (World.block_lt_of_cell? w _ hx149_3)).trans hx149_3;replace hx149_4:=(HB.out.cell (World.block_lt_of_cell? w _ hx149_4)).trans hx149_4;replace p149:=eq_true p149;replace q149:=eq_true q149) | ((with_reducible refine gate_dst (N:=5) rfl ?_);refine box_event ?hg (N:=5) ?hd (cs:=#[.int .i64 0,.int .i64 0,.string (⟨#[]⟩:ByteArray),.string (⟨#[]⟩:ByteArray),.int .i64 0]) (t:=107) ?hr ?_;(case hd=>rfl);(case hg=>rfl);(case hr=>first | (go_simp;done) | (go_simp;rfl));intro gb150 hg w35 hbox hb;have n0_:=Aside0.mk (blk_below (g:=gb148) (o:=.cells #[.slice (some ad149) l0_0.length c0_0] 31 (0,0)) (by (with_reducible repeat (first | refine blk_drewN ?_ _ | refine blk_drew ?_ | refine blk_alloc ?_ _));exact BK148.out) hb);have n1_:=Aside0.mk (below_step (by repeat (first | (with_reducible first | exact HB.out | apply below_alloc | apply pw_below_drewN | apply below_drew1 | refine below_set ?_ GE148.out) | exact HB.out)) hb);have n2_:=Aside0.mk (hbox);have n3_:=Aside0.mk ((by rw [hg];exact (below_size (by repeat (first | (with_reducible first | exact HB.out | apply below_alloc | apply pw_below_drewN | apply below_drew1 | refine below_set ?_ GE148.out) | exact HB.out))):w.heap.size≤gb150));have n4_:=Aside0.mk ((by rw [hg];exact (below_size (by repeat (first | (with_reducible first | exact HB.out | apply below_alloc | apply pw_below_drewN | apply below_drew1 | refine below_set ?_ GE148.out) | exact HB.out))):w.heap.size≤gb150));have n5_:=Aside0.mk ((by rw [hg];exact Nat.ne_of_lt (blk_lt (g:=gb148) (o:=.cells #[.slice (some ad149) l0_0.length c0_0] 31 (0,0)) (by (with_reducible repeat (first | refine blk_drewN ?_ _ | refine blk_drew ?_ | refine blk_alloc ?_ _));exact BK148.out)):gb148≠gb150));have n6_:=Aside0.mk ((by rw [hg];exact Nat.ne_of_gt (blk_lt (g:=gb148) (o:=.cells #[.slice (some ad149) l0_0.length c0_0] 31 (0,0)) (by (with_reducible repeat (first | refine blk_drewN ?_ _ | refine blk_drew ?_ | refine blk_alloc ?_ _));exact BK148.out)):gb150≠gb148));clear BK148;clear HB;have BK148:=n0_;have HB:=n1_;have BK150:=n2_;have GW150:=n3_;have GE150:=n4_;have NB148_150:=n5_;have NB150_148:=n6_;clear n0_ n1_ n2_ n3_ n4_ n5_ n6_;clear hb hbox hg;have hnb36:=NB150_148.out;have hnc36:=NB148_150.out;have hcz37_0:w35.cell? ⟨gb150,0,none⟩=some (.int .i64 0):=(blk_cell BK150.out 0).trans rfl;have hcz37_1:w35.cell? ⟨gb150,1,none⟩=some (.int .i64 0):=(blk_cell BK150.out 1).trans rfl;have hcz37_2:w35.cell? ⟨gb150,2,none⟩=some (.string (⟨#[]⟩:ByteArray)):=(blk_cell BK150.out 2).trans rfl;have hcz37_3:w35.cell? ⟨gb150,3,none⟩=some (.string (⟨#[]⟩:ByteArray)):=(blk_cell BK150.out 3).trans rfl;have hcz37_4:w35.cell? ⟨gb150,4,none⟩=some (.int .i64 0):=(blk_cell BK150.out 4).trans rfl;have hfz37_0:=blk_frozen BK150.out 0;have hfz37_1:=blk_frozen BK150.out 1;have hfz37_2:=blk_frozen BK150.out 2;have hfz37_3:=blk_frozen BK150.out 3;have hfz37_4:=blk_frozen BK150.out 4) | ((with_reducible refine gate_callee (f:=154) rfl ?_);refine goesL_ (some 31) rfl rfl Tryz.func154 (by kernel_rfl) rfl #[.string ((rd_T107 l0_0 a1).f2)] rfl (by (try simp only [List.map_toArray,List.map_cons,List.map_nil]);first | done | rfl | (simp only [List.length_drop,List.length_take];rfl)) ?_;(with_reducible refine (spec_l1Quote.calls k ((rd_T107 l0_0 a1).f2) t152 _ A32.out).mono ?_);rintro e w' ⟨rfl,⟨nd,rfl⟩⟩;refine ⟨_,rfl,?_⟩))
        go_ret
        exact ⟨by first | rfl | (simp [errW_none,errW_some] <;> rfl) | (simp [*,errW_none,errW_some] <;> rfl),by repeat (first | (with_reducible first | exact HB.out | apply below_alloc | apply pw_below_drewN | apply below_drew1 | refine below_set ?_ GE148.out | refine below_set ?_ GE150.out) | exact HB.out)⟩
       ·rw [if_neg c31] at H
        have c31b0:(((rd_T107 l0_0 a1).f0)==5)=false:=beq_eq_false_iff_ne.mpr c31
        have c31b1:(((rd_T107 l0_0 a1).f0) != 5)=true:=bne_iff_ne.mpr c31
        replace H:=Option.bind_eq_some_iff.mp H
        obtain ⟨t153,A380,H⟩:=H
        replace H:(spec_l1Text.l0 k (⟨#[]⟩:ByteArray) t153 (t153.length:Int) 0 l0_0 ((rd_T107 l0_0 a1).f0) ((rd_T107 l0_0 a1).f1) ((rd_T107 l0_0 a1).f2) ((rd_T107 l0_0 a1).f3) ((rd_T107 l0_0 a1).f4))=some r:=H
        have A38:=Aside0.mk A380
        clear A380
        have H':=Aside0.mk H
        clear H
        go_enter Tryz.func107,Tryz.ntmps107
        go_wp2_with (first | ((with_reducible refine gate_dst (N:=2) rfl ?_);refine box_event ?hg (N:=2) ?hd (cs:=#[.slice A0_0 l0_0.length c0_0]) (t:=31) ?hr ?_;(case hd=>rfl);(case hg=>rfl);(case hr=>first | (go_simp;done) | (go_simp;rfl));intro gb148 hg w39 hbox hb;have n0_:=Aside0.mk (below_step (by repeat (first | (with_reducible first | exact HB.out | apply below_alloc | apply pw_below_drewN | apply below_drew1) | exact HB.out)) hb);have n1_:=Aside0.mk (hbox);have n2_:=Aside0.mk ((by rw [hg];exact (below_size (by repeat (first | (with_reducible first | exact HB.out | apply below_alloc | apply pw_below_drewN | apply below_drew1) | exact HB.out))):w.heap.size≤gb148));have n3_:=Aside0.mk ((by rw [hg];exact (below_size (by repeat (first | (with_reducible first | exact HB.out | apply below_alloc | apply pw_below_drewN | apply below_drew1) | exact HB.out))):w.heap.size≤gb148));clear HB;have HB:=n0_;have BK148:=n1_;have GW148:=n2_;have GE148:=n3_;clear n0_ n1_ n2_ n3_;clear hb hbox hg;have hcz40_0:w39.cell? ⟨gb148,0,none⟩=some (.slice A0_0 l0_0.length c0_0):=(blk_cell BK148.out 0).trans rfl;have hfz40_0:=blk_frozen BK148.out 0;have p149:0≤(a1:Int):=of_decide_eq_true (by first | (with_reducible assumption) | assumption);have q149:a1 < (l0_0.length:Int):=of_decide_eq_true (by first | (with_reducible assumption) | assumption);obtain ⟨ad149,e149,hx149_0,hx149_1,hx149_2,hx149_3,hx149_4⟩:=at_T107 HR0_0.out a1 p149 q149;cases e149;replace hx149_0:=(HB.out.cell (World.block_lt_of_cell? w _ hx149_0)).trans hx149_0;replace hx149_1:=(HB.out.cell (World.block_lt_of_cell? w _ hx149_1)).trans hx149_1;replace hx149_2:=(HB.out.cell (World.block_lt_of_cell? w _ hx149_2)).trans hx149_2;replace hx149_3:=(HB.out.cell (World.block_lt_of_cell? w _ hx149_3)).trans hx149_3;replace hx149_4:=(HB.out.cell (World.block_lt_of_cell? w _ hx149_4)).trans hx149_4;replace p149:=eq_true p149;replace q149:=eq_true q149) | ((with_reducible refine gate_dst (N:=5) rfl ?_);refine box_event ?hg (N:=5) ?hd (cs:=#[.int .i64 0,.int .i64 0,.string (⟨#[]⟩:ByteArray),.string (⟨#[]⟩:ByteArray),.int .i64 0]) (t:=107) ?hr ?_;(case hd=>rfl);(case hg=>rfl);(case hr=>first | (go_simp;done) | (go_simp;rfl));intro gb150 hg w41 hbox hb;have n0_:=Aside0.mk (blk_below (g:=gb148) (o:=.cells #[.slice (some ad149) l0_0.length c0_0] 31 (0,0)) (by (with_reducible repeat (first | refine blk_drewN ?_ _ | refine blk_drew ?_ | refine blk_alloc ?_ _));exact BK148.out) hb);have n1_:=Aside0.mk (below_step (by repeat (first | (with_reducible first | exact HB.out | apply below_alloc | apply pw_below_drewN | apply below_drew1 | refine below_set ?_ GE148.out) | exact HB.out)) hb);have n2_:=Aside0.mk (hbox);have n3_:=Aside0.mk ((by rw [hg];exact (below_size (by repeat (first | (with_reducible first | exact HB.out | apply below_alloc | apply pw_below_drewN | apply below_drew1 | refine below_set ?_ GE148.out) | exact HB.out))):w.heap.size≤gb150));have n4_:=Aside0.mk ((by rw [hg];exact (below_size (by repeat (first | (with_reducible first | exact HB.out | apply below_alloc | apply pw_below_drewN | apply below_drew1 | refine below_set ?_ GE148.out) | exact HB.out))):w.heap.size≤gb150));have n5_:=Aside0.mk ((by rw [hg];exact Nat.ne_of_lt (blk_lt (g:=gb148) (o:=.cells #[.slice (some ad149) l0_0.length c0_0] 31 (0,0)) (by (with_reducible repeat (first | refine blk_drewN ?_ _ | refine blk_drew ?_ | refine blk_alloc ?_ _));exact BK148.out)):gb148≠gb150));have n6_:=Aside0.mk ((by rw [hg];exact Nat.ne_of_gt (blk_lt (g:=gb148) (o:=.cells #[.slice (some ad149) l0_0.length c0_0] 31 (0,0)) (by (with_reducible repeat (first | refine blk_drewN ?_ _ | refine blk_drew ?_ | refine blk_alloc ?_ _));exact BK148.out)):gb150≠gb148));clear BK148;clear HB;have BK148:=n0_;have HB:=n1_;have BK150:=n2_;have GW150:=n3_;have GE150:=n4_;have NB148_150:=n5_;have NB150_148:=n6_;clear n0_ n1_ n2_ n3_ n4_ n5_ n6_;clear hb hbox hg;have hnb42:=NB150_148.out;have hnc42:=NB148_150.out;have hcz43_0:w41.cell? ⟨gb150,0,none⟩=some (.int .i64 0):=(blk_cell BK150.out 0).trans rfl;have hcz43_1:w41.cell? ⟨gb150,1,none⟩=some (.int .i64 0):=(blk_cell BK150.out 1).trans rfl;have hcz43_2:w41.cell? ⟨gb150,2,none⟩=some (.string (⟨#[]⟩:ByteArray)):=(blk_cell BK150.out 2).trans rfl;have hcz43_3:w41.cell? ⟨gb150,3,none⟩=some (.string (⟨#[]⟩:ByteArray)):=(blk_cell BK150.out 3).trans rfl;have hcz43_4:w41.cell? ⟨gb150,4,none⟩=some (.int .i64 0):=(blk_cell BK150.out 4).trans rfl;have hfz43_0:=blk_frozen BK150.out 0;have hfz43_1:=blk_frozen BK150.out 1;have hfz43_2:=blk_frozen BK150.out 2;have hfz43_3:=blk_frozen BK150.out 3;have hfz43_4:=blk_frozen BK150.out 4;have hcz44_0:w41.cell? ⟨gb148,0,none⟩=some (.slice (some ad149) l0_0.length c0_0):=(blk_cell BK148.out 0).trans rfl;have hfz44_0:=blk_frozen BK148.out 0) | ((with_reducible refine gate_callee (f:=110) rfl ?_);refine goesL_ (some 34) rfl rfl Tryz.func110 (by kernel_rfl) rfl #[.agg #[.slice (some ad149) l0_0.length c0_0],.int .i64 a1] rfl (by (try simp only [List.map_toArray,List.map_cons,List.map_nil]);first | done | rfl | (simp only [List.length_drop,List.length_take];rfl)) ?_;(with_reducible refine (spec_l1Kids.calls k _ _ l0_0 a1 t153 _ ?side1 ?side2 A38.out).mono ?_);(case side1=>exact Kd.C_below HR0_0.out (by repeat (first | (with_reducible first | exact HB.out | apply below_alloc | apply pw_below_drewN | apply below_drew1 | refine below_set ?_ GE148.out | refine below_set ?_ GE150.out) | exact HB.out)));(case side2=>exact HC0_0.out);rintro e w45 ⟨v154,rfl,ho0,hb⟩;refine ⟨_,rfl,?_⟩;have n0_:=Aside0.mk (Kd.R_lower ho0 (below_size (by repeat (first | (with_reducible first | exact HB.out | apply below_alloc | apply pw_below_drewN | apply below_drew1 | refine below_set ?_ GE148.out | refine below_set ?_ GE150.out) | exact HB.out))));have n1_:=Aside0.mk (blk_below (g:=gb148) (o:=.cells #[.slice (some ad149) l0_0.length c0_0] 31 (0,0)) (by (with_reducible repeat (first | refine blk_drewN ?_ _ | refine blk_drew ?_ | refine blk_alloc ?_ _));refine blk_far ?_ NB148_150.out _;(with_reducible repeat (first | refine blk_drewN ?_ _ | refine blk_drew ?_ | refine blk_alloc ?_ _));refine blk_far ?_ NB148_150.out _;(with_reducible repeat (first | refine blk_drewN ?_ _ | refine blk_drew ?_ | refine blk_alloc ?_ _));refine blk_far ?_ NB148_150.out _;(with_reducible repeat (first | refine blk_drewN ?_ _ | refine blk_drew ?_ | refine blk_alloc ?_ _));refine blk_far ?_ NB148_150.out _;(with_reducible repeat (first | refine blk_drewN ?_ _ | refine blk_drew ?_ | refine blk_alloc ?_ _));refine blk_far ?_ NB148_150.out _;(with_reducible repeat (first | refine blk_drewN ?_ _ | refine blk_drew ?_ | refine blk_alloc ?_ _));exact BK148.out) hb);have n2_:=Aside0.mk (blk_below (g:=gb150) (o:=.cells #[.int .i64 ((rd_T107 l0_0 a1).f0),.int .i64 ((rd_T107 l0_0 a1).f1),.string ((rd_T107 l0_0 a1).f2),.string ((rd_T107 l0_0 a1).f3),.int .i64 ((rd_T107 l0_0 a1).f4)] 107 (0,0)) (by (with_reducible repeat (first | refine blk_drewN ?_ _ | refine blk_drew ?_ | refine blk_alloc ?_ _));refine blk_put (cs:=#[.int .i64 ((rd_T107 l0_0 a1).f0),.int .i64 ((rd_T107 l0_0 a1).f1),.string ((rd_T107 l0_0 a1).f2),.string ((rd_T107 l0_0 a1).f3),.int .i64 0]) ?_ 4 _ rfl;(with_reducible repeat (first | refine blk_drewN ?_ _ | refine blk_drew ?_ | refine blk_alloc ?_ _));refine blk_put (cs:=#[.int .i64 ((rd_T107 l0_0 a1).f0),.int .i64 ((rd_T107 l0_0 a1).f1),.string ((rd_T107 l0_0 a1).f2),.string (⟨#[]⟩:ByteArray),.int .i64 0]) ?_ 3 _ rfl;(with_reducible repeat (first | refine blk_drewN ?_ _ | refine blk_drew ?_ | refine blk_alloc ?_ _));refine blk_put (cs:=#[.int .i64 ((rd_T107 l0_0 a1).f0),.int .i64 ((rd_T107 l0_0 a1).f1),.string (⟨#[]⟩:ByteArray),.string (⟨#[]⟩:ByteArray),.int .i64 0]) ?_ 2 _ rfl;(with_reducible repeat (first | refine blk_drewN ?_ _ | refine blk_drew ?_ | refine blk_alloc ?_ _));refine blk_put (cs:=#[.int .i64 ((rd_T107 l0_0 a1).f0),.int .i64 0,.string (⟨#[]⟩:ByteArray),.string (⟨#[]⟩:ByteArray),.int .i64 0]) ?_ 1 _ rfl;(with_reducible repeat (first | refine blk_drewN ?_ _ | refine blk_drew ?_ | refine blk_alloc ?_ _));refine blk_put (cs:=#[.int .i64 0,.int .i64 0,.string (⟨#[]⟩:ByteArray),.string (⟨#[]⟩:ByteArray),.int .i64 0]) ?_ 0 _ rfl;(with_reducible repeat (first | refine blk_drewN ?_ _ | refine blk_drew ?_ | refine blk_alloc ?_ _));exact BK150.out) hb);have n3_:=Aside0.mk (below_step (by repeat (first | (with_reducible first | exact HB.out | apply below_alloc | apply pw_below_drewN | apply below_drew1 | refine below_set ?_ GE148.out | refine below_set ?_ GE150.out) | exact HB.out)) hb);clear BK148;clear BK150;clear HB;have HO155:=n0_;have BK148:=n1_;have BK150:=n2_;have HB:=n3_;clear n0_ n1_ n2_ n3_;(try clear hb);(try clear hb2);(try clear hk);(try clear hi);(try clear ho0);obtain ⟨Ao46,co46,eo46⟩:=Kd.R_slice HO155.out;subst eo46))
        go_loopg [6,36] k (fun kq v6 v36 w'=>∃ (x6_1:ByteArray) (x36_1:Int),v6=.string x6_1∧v36=.int .i64 x36_1∧Aside0 (spec_l1Text.l0 kq x6_1 t153 (t153.length:Int) x36_1 l0_0 ((rd_T107 l0_0 a1).f0) ((rd_T107 l0_0 a1).f1) ((rd_T107 l0_0 a1).f2) ((rd_T107 l0_0 a1).f3) ((rd_T107 l0_0 a1).f4)=some r)∧Aside0 (kq≤k)∧Aside0 (Kd.R (Kd.int .i64) 3 w' w.heap.size (fun _=>True) (.slice Ao46 t153.length co46) t153)∧Aside0 (w'.heap[gb148]? = some (.cells #[(.slice (some ad149) l0_0.length c0_0)] 31 (0,0)))∧Aside0 (w'.heap[gb150]? = some (.cells #[.int .i64 ((rd_T107 l0_0 a1).f0),.int .i64 ((rd_T107 l0_0 a1).f1),.string ((rd_T107 l0_0 a1).f2),.string ((rd_T107 l0_0 a1).f3),.int .i64 ((rd_T107 l0_0 a1).f4)] 107 (0,0)))∧Aside0 (Below w.heap.size w w'))
        case atStart=>exact ⟨((⟨#[]⟩:ByteArray)),(0),(by first | rfl | (simp;done) | (simp [*];done)),(by first | rfl | (simp;done) | (simp [*];done)),H',⟨Nat.le_refl _⟩,⟨by (with_reducible repeat (first | apply Kd.R_alloc | apply Kd.R_drewN | apply Kd.R_drew));exact HO155.out⟩,⟨by (with_reducible repeat (first | refine blk_drewN ?_ _ | refine blk_drew ?_ | refine blk_alloc ?_ _));exact BK148.out⟩,⟨by (with_reducible repeat (first | refine blk_drewN ?_ _ | refine blk_drew ?_ | refine blk_alloc ?_ _));exact BK150.out⟩,⟨by repeat (first | (with_reducible first | exact HB.out | apply below_alloc | apply pw_below_drewN | apply below_drew1 | refine below_set ?_ GE148.out | refine below_set ?_ GE150.out) | exact HB.out)⟩⟩
        case round =>
         clear H'
         try clear c1
         try clear p1
         try clear q1
         try clear hx1
         try clear c2
         try clear p2
         try clear c3
         try clear c3b0
         try clear c4
         try clear c4b0
         try clear c5
         try clear c5b0
         try clear c5b1
         try clear c9
         try clear c10
         try clear c11
         try clear c11b0
         try clear c11b1
         try clear p14
         try clear q14
         try clear hx14
         try clear c15
         try clear c17
         try clear c17b0
         try clear c17b1
         try clear c21
         try clear c23
         try clear c23b0
         try clear c23b1
         try clear c28
         try clear c31
         try clear c31b0
         try clear c31b1
         try clear c36
         try clear c42
         try clear hcz10_0
         try clear hcz10_1
         try clear hcz10_2
         try clear hcz10_3
         try clear hcz10_4
         try clear hcz13_0
         try clear hcz16_0
         try clear hcz16_1
         try clear hcz16_2
         try clear hcz16_3
         try clear hcz16_4
         try clear hcz19_0
         try clear hcz22_0
         try clear hcz22_1
         try clear hcz22_2
         try clear hcz22_3
         try clear hcz22_4
         try clear hcz26_0
         try clear hcz29_0
         try clear hcz29_1
         try clear hcz29_2
         try clear hcz29_3
         try clear hcz29_4
         try clear hcz34_0
         try clear hcz37_0
         try clear hcz37_1
         try clear hcz37_2
         try clear hcz37_3
         try clear hcz37_4
         try clear hcz40_0
         try clear hcz43_0
         try clear hcz43_1
         try clear hcz43_2
         try clear hcz43_3
         try clear hcz43_4
         try clear hcz44_0
         try clear hcz7_0
         try clear hfz10_0
         try clear hfz10_1
         try clear hfz10_2
         try clear hfz10_3
         try clear hfz10_4
         try clear hfz13_0
         try clear hfz16_0
         try clear hfz16_1
         try clear hfz16_2
         try clear hfz16_3
         try clear hfz16_4
         try clear hfz19_0
         try clear hfz22_0
         try clear hfz22_1
         try clear hfz22_2
         try clear hfz22_3
         try clear hfz22_4
         try clear hfz26_0
         try clear hfz29_0
         try clear hfz29_1
         try clear hfz29_2
         try clear hfz29_3
         try clear hfz29_4
         try clear hfz34_0
         try clear hfz37_0
         try clear hfz37_1
         try clear hfz37_2
         try clear hfz37_3
         try clear hfz37_4
         try clear hfz40_0
         try clear hfz43_0
         try clear hfz43_1
         try clear hfz43_2
         try clear hfz43_3
         try clear hfz43_4
         try clear hfz44_0
         try clear hfz7_0
         try clear hx149_0
         try clear hx149_1
         try clear hx149_2
         try clear hx149_3
         try clear hx149_4
         try clear p149
         try clear q149
         obtain ⟨x6_1,x36_1,rfl,rfl,HA,HK1,HO_34,BK148,BK150,HB⟩:=hrel
         cases gk with
         | zero=>exact absurd HA.out (by simp [spec_l1Text.l0])
         | succ k1 =>
          have H:=HA.out
          clear HA
          simp only [spec_l1Text.l0] at H
          by_cases c47:x36_1 < (t153.length:Int)
          ·rw [if_pos c47] at H
           have c47b0:decide (x36_1 < (t153.length:Int))=true:=decide_eq_true c47
           clear c47
           by_cases c48:0≤x36_1
           ·rw [if_pos c48] at H
            have c48b0:decide (0≤x36_1)=true:=decide_eq_true c48
            clear c48
            by_cases c49:x36_1 < (t153.length:Int)
            ·rw [if_pos c49] at H
             have c49b0:decide (x36_1 < (t153.length:Int))=true:=decide_eq_true c49
             clear c49
             have HC50:=Aside0.mk H
             clear H
             have p156:0≤(x36_1:Int):=of_decide_eq_true (by first | (with_reducible assumption) | assumption)
             have q156:x36_1 < (t153.length:Int):=of_decide_eq_true (by first | (with_reducible assumption) | assumption)
             obtain ⟨ad156,e156,hx156_0⟩:=Kd.at_int (Kd.R_reads' HO_34.out).2.2 x36_1 p156 q156
             cases e156
             replace p156:=eq_true p156
             replace q156:=eq_true q156
             go_upto_if 42 with (fail)
             go_cut [6] (fun v6 wc=>∃ (kq:Nat) (x6_49:ByteArray),v6=.string x6_49∧Aside0 (spec_l1Text.j1 kq x6_49 (rd t153 x36_1) t153 (t153.length:Int) x36_1 l0_0 ((rd_T107 l0_0 a1).f0) ((rd_T107 l0_0 a1).f1) ((rd_T107 l0_0 a1).f2) ((rd_T107 l0_0 a1).f3) ((rd_T107 l0_0 a1).f4)=some r)∧Aside0 (kq≤k1)∧Aside0 (Kd.R (Kd.int .i64) 3 wc w.heap.size (fun _=>True) (.slice (some ad156) t153.length co46) t153)∧Aside0 (wc.heap[gb148]? = some (.cells #[(.slice (some ad149) l0_0.length c0_0)] 31 (0,0)))∧Aside0 (wc.heap[gb150]? = some (.cells #[.int .i64 ((rd_T107 l0_0 a1).f0),.int .i64 ((rd_T107 l0_0 a1).f1),.string ((rd_T107 l0_0 a1).f2),.string ((rd_T107 l0_0 a1).f3),.int .i64 ((rd_T107 l0_0 a1).f4)] 107 (0,0)))∧Aside0 (Below w.heap.size w wc))
             case first =>
              have H:=HC50.out
              clear HC50
              by_cases c51:x36_1 > 0
              ·rw [if_pos c51] at H
               have c51b0:decide (0 < x36_1)=true:=decide_eq_true c51
               clear c51
               (first | rw [c51b0] | (simp only [i64_w,i32_w];rw [c51b0]) | skip)
               by_cases c52:x6_1.size+1≤9223372036854775807
               ·rw [if_pos c52] at H
                have c52b0:=eq_true c52
                have c52b1:decide (x6_1.size+1≤9223372036854775807)=true:=decide_eq_true c52
                try have c52b2:(9223372036854775807 < x6_1.size+1)=False:=eq_false (Nat.not_lt.2 c52)
                have H':=Aside0.mk H
                clear H
                go_wp2
                go_meet
                case rel=>exact ⟨_,(x6_1++(⟨#[44]⟩:ByteArray)),(by first | rfl | (simp;done) | (simp [*];done)),H',⟨by have:=HK1.out;first | omega | exact Nat.le_refl _⟩,⟨by (with_reducible repeat (first | apply Kd.R_alloc | apply Kd.R_drewN | apply Kd.R_drew));exact HO_34.out⟩,⟨by (with_reducible repeat (first | refine blk_drewN ?_ _ | refine blk_drew ?_ | refine blk_alloc ?_ _));exact BK148.out⟩,⟨by (with_reducible repeat (first | refine blk_drewN ?_ _ | refine blk_drew ?_ | refine blk_alloc ?_ _));exact BK150.out⟩,⟨by repeat (first | (with_reducible first | exact HB.out | apply below_alloc | apply pw_below_drewN | apply below_drew1 | refine below_set ?_ GE148.out | refine below_set ?_ GE150.out) | exact HB.out)⟩⟩
               ·rw [if_neg c52] at H
                exact absurd H (by simp)
              ·rw [if_neg c51] at H
               have c51b0:decide (0 < x36_1)=false:=decide_eq_false c51
               clear c51
               (first | rw [c51b0] | (simp only [i64_w,i32_w];rw [c51b0]) | skip)
               have H':=Aside0.mk H
               clear H
               go_wp2
               go_meet
               case rel=>exact ⟨_,(x6_1),(by first | rfl | (simp;done) | (simp [*];done)),H',⟨by have:=HK1.out;first | omega | exact Nat.le_refl _⟩,⟨by (with_reducible repeat (first | apply Kd.R_alloc | apply Kd.R_drewN | apply Kd.R_drew));exact HO_34.out⟩,⟨by (with_reducible repeat (first | refine blk_drewN ?_ _ | refine blk_drew ?_ | refine blk_alloc ?_ _));exact BK148.out⟩,⟨by (with_reducible repeat (first | refine blk_drewN ?_ _ | refine blk_drew ?_ | refine blk_alloc ?_ _));exact BK150.out⟩,⟨by repeat (first | (with_reducible first | exact HB.out | apply below_alloc | apply pw_below_drewN | apply below_drew1 | refine below_set ?_ GE148.out | refine below_set ?_ GE150.out) | exact HB.out)⟩⟩
             case rest =>
              clear HC50
              try clear c1
              try clear p1
              try clear q1
              try clear hx1
              try clear c2
              try clear p2
              try clear c3
              try clear c3b0
              try clear c4
              try clear c4b0
              try clear c5
              try clear c5b0
              try clear c5b1
              try clear c9
              try clear c10
              try clear c11
              try clear c11b0
              try clear c11b1
              try clear p14
              try clear q14
              try clear hx14
              try clear c15
              try clear p15
              try clear q15
              try clear hx15
              try clear c17
              try clear c17b0
              try clear c17b1
              try clear c21
              try clear c23
              try clear c23b0
              try clear c23b1
              try clear c28
              try clear c31
              try clear c31b0
              try clear c31b1
              try clear c36
              try clear c42
              try clear c47
              try clear c47b0
              try clear c48
              try clear c48b0
              try clear c49
              try clear c49b0
              try clear c51
              try clear c51b0
              try clear c52
              try clear c52b0
              try clear c52b1
              try clear c52b2
              try clear hcz10_0
              try clear hcz10_1
              try clear hcz10_2
              try clear hcz10_3
              try clear hcz10_4
              try clear hcz13_0
              try clear hcz16_0
              try clear hcz16_1
              try clear hcz16_2
              try clear hcz16_3
              try clear hcz16_4
              try clear hcz19_0
              try clear hcz22_0
              try clear hcz22_1
              try clear hcz22_2
              try clear hcz22_3
              try clear hcz22_4
              try clear hcz26_0
              try clear hcz29_0
              try clear hcz29_1
              try clear hcz29_2
              try clear hcz29_3
              try clear hcz29_4
              try clear hcz34_0
              try clear hcz37_0
              try clear hcz37_1
              try clear hcz37_2
              try clear hcz37_3
              try clear hcz37_4
              try clear hcz40_0
              try clear hcz43_0
              try clear hcz43_1
              try clear hcz43_2
              try clear hcz43_3
              try clear hcz43_4
              try clear hcz44_0
              try clear hcz7_0
              try clear hfz10_0
              try clear hfz10_1
              try clear hfz10_2
              try clear hfz10_3
              try clear hfz10_4
              try clear hfz13_0
              try clear hfz16_0
              try clear hfz16_1
              try clear hfz16_2
              try clear hfz16_3
              try clear hfz16_4
              try clear hfz19_0
              try clear hfz22_0
              try clear hfz22_1
              try clear hfz22_2
              try clear hfz22_3
              try clear hfz22_4
              try clear hfz26_0
              try clear hfz29_0
              try clear hfz29_1
              try clear hfz29_2
              try clear hfz29_3
              try clear hfz29_4
              try clear hfz34_0
              try clear hfz37_0
              try clear hfz37_1
              try clear hfz37_2
              try clear hfz37_3
              try clear hfz37_4
              try clear hfz40_0
              try clear hfz43_0
              try clear hfz43_1
              try clear hfz43_2
              try clear hfz43_3
              try clear hfz43_4
              try clear hfz44_0
              try clear hfz7_0
              try clear hx149_0
              try clear hx149_1
              try clear hx149_2
              try clear hx149_3
              try clear hx149_4
              try clear hx156_0
              try clear p1
              try clear p14
              try clear p149
              try clear p156
              try clear p2
              try clear q1
              try clear q14
              try clear q149
              try clear q156
              obtain ⟨kq,x6_49,rfl,HA,HJ49,HO_34,BK148,BK150,HB⟩:=hcut
              cases kq with
              | zero=>exact absurd HA.out (by simp [spec_l1Text.j1])
              | succ kj49 =>
               have H:=HA.out
               clear HA
               simp only [spec_l1Text.j1] at H
               by_cases c53:((rd_T107 l0_0 a1).f0)=7
               ·rw [if_pos c53] at H
                have c53b0:(((rd_T107 l0_0 a1).f0)==7)=true:=beq_iff_eq.mpr c53
                have c53b1:(((rd_T107 l0_0 a1).f0) != 7)=false:=bne_eq_false_iff_eq.mpr c53
                clear c53
                by_cases c54:0≤(rd t153 x36_1)
                ·rw [if_pos c54] at H
                 have c54b0:decide (0≤(rd t153 x36_1))=true:=decide_eq_true c54
                 clear c54
                 by_cases c55:(rd t153 x36_1) < (l0_0.length:Int)
                 ·rw [if_pos c55] at H
                  have c55b0:decide ((rd t153 x36_1) < (l0_0.length:Int))=true:=decide_eq_true c55
                  clear c55
                  replace H:=Option.bind_eq_some_iff.mp H
                  obtain ⟨t158,A560,H⟩:=H
                  replace H:(if t158.size+1≤9223372036854775807 then (if x6_49.size+(t158++(⟨#[58]⟩:ByteArray)).size≤9223372036854775807 then ((spec_l1Text.f kj49 l0_0 (rd t153 x36_1)).bind fun t159=>(if (x6_49++(t158++(⟨#[58]⟩:ByteArray))).size+t159.size≤9223372036854775807 then (spec_l1Text.l0 kj49 ((x6_49++(t158++(⟨#[58]⟩:ByteArray)))++t159) t153 (t153.length:Int) (wrap64 (x36_1+1)) l0_0 ((rd_T107 l0_0 a1).f0) ((rd_T107 l0_0 a1).f1) ((rd_T107 l0_0 a1).f2) ((rd_T107 l0_0 a1).f3) ((rd_T107 l0_0 a1).f4)) else (none))) else (none)) else (none))=some r:=H
                  have A56:=Aside0.mk A560
                  clear A560
                  by_cases c57:t158.size+1≤9223372036854775807
                  ·rw [if_pos c57] at H
                   have c57b0:=eq_true c57
                   have c57b1:decide (t158.size+1≤9223372036854775807)=true:=decide_eq_true c57
                   try have c57b2:(9223372036854775807 < t158.size+1)=False:=eq_false (Nat.not_lt.2 c57)
                   by_cases c58:x6_49.size+(t158++(⟨#[58]⟩:ByteArray)).size≤9223372036854775807
                   ·rw [if_pos c58] at H
                    have c58b0:=eq_true c58
                    have c58b1:decide (x6_49.size+(t158++(⟨#[58]⟩:ByteArray)).size≤9223372036854775807)=true:=decide_eq_true c58
                    try have c58b2:(9223372036854775807 < x6_49.size+(t158++(⟨#[58]⟩:ByteArray)).size)=False:=eq_false (Nat.not_lt.2 c58)
                    try have c58b3:(9223372036854775807 < x6_49.size+(t158.size+1))=False:=by first | (simpa [ByteArray.size_append] using c58b2) | exact eq_false (by have h_:=of_eq_false c58b2;simp only [ByteArray.size_append] at h_;exact h_)
                    replace H:=Option.bind_eq_some_iff.mp H
                    obtain ⟨t159,A590,H⟩:=H
                    replace H:(if (x6_49++(t158++(⟨#[58]⟩:ByteArray))).size+t159.size≤9223372036854775807 then (spec_l1Text.l0 kj49 ((x6_49++(t158++(⟨#[58]⟩:ByteArray)))++t159) t153 (t153.length:Int) (wrap64 (x36_1+1)) l0_0 ((rd_T107 l0_0 a1).f0) ((rd_T107 l0_0 a1).f1) ((rd_T107 l0_0 a1).f2) ((rd_T107 l0_0 a1).f3) ((rd_T107 l0_0 a1).f4)) else (none))=some r:=H
                    have A59:=Aside0.mk A590
                    clear A590
                    by_cases c60:(x6_49++(t158++(⟨#[58]⟩:ByteArray))).size+t159.size≤9223372036854775807
                    ·rw [if_pos c60] at H
                     have c60b0:=eq_true c60
                     have c60b1:decide ((x6_49++(t158++(⟨#[58]⟩:ByteArray))).size+t159.size≤9223372036854775807)=true:=decide_eq_true c60
                     try have c60b2:(9223372036854775807 < (x6_49++(t158++(⟨#[58]⟩:ByteArray))).size+t159.size)=False:=eq_false (Nat.not_lt.2 c60)
                     try have c60b3:(9223372036854775807 < x6_49.size+(t158.size+1)+t159.size)=False:=by first | (simpa [ByteArray.size_append] using c60b2) | exact eq_false (by have h_:=of_eq_false c60b2;simp only [ByteArray.size_append] at h_;exact h_)
                     have H':=Aside0.mk H
                     clear H
                     have hnb61:=NB150_148.out
                     have hnc61:=NB148_150.out
                     have hcz62_0:wc.cell? ⟨gb150,0,none⟩=some (.int .i64 ((rd_T107 l0_0 a1).f0)):=(blk_cell BK150.out 0).trans rfl
                     have hcz62_1:wc.cell? ⟨gb150,1,none⟩=some (.int .i64 ((rd_T107 l0_0 a1).f1)):=(blk_cell BK150.out 1).trans rfl
                     have hcz62_2:wc.cell? ⟨gb150,2,none⟩=some (.string ((rd_T107 l0_0 a1).f2)):=(blk_cell BK150.out 2).trans rfl
                     have hcz62_3:wc.cell? ⟨gb150,3,none⟩=some (.string ((rd_T107 l0_0 a1).f3)):=(blk_cell BK150.out 3).trans rfl
                     have hcz62_4:wc.cell? ⟨gb150,4,none⟩=some (.int .i64 ((rd_T107 l0_0 a1).f4)):=(blk_cell BK150.out 4).trans rfl
                     have hfz62_0:=blk_frozen BK150.out 0
                     have hfz62_1:=blk_frozen BK150.out 1
                     have hfz62_2:=blk_frozen BK150.out 2
                     have hfz62_3:=blk_frozen BK150.out 3
                     have hfz62_4:=blk_frozen BK150.out 4
                     have hcz63_0:wc.cell? ⟨gb148,0,none⟩=some (.slice (some ad149) l0_0.length c0_0):=(blk_cell BK148.out 0).trans rfl
                     have hfz63_0:=blk_frozen BK148.out 0
                     have p157:0≤((rd t153 x36_1):Int):=of_decide_eq_true (by first | (with_reducible assumption) | assumption)
                     have q157:(rd t153 x36_1) < (l0_0.length:Int):=of_decide_eq_true (by first | (with_reducible assumption) | assumption)
                     obtain ⟨ad157,e157,hx157_0,hx157_1,hx157_2,hx157_3,hx157_4⟩:=at_T107 HR0_0.out (rd t153 x36_1) p157 q157
                     obtain rfl:ad149=ad157:=(by injection e157)
                     replace hx157_0:=(HB.out.cell (World.block_lt_of_cell? w _ hx157_0)).trans hx157_0
                     replace hx157_1:=(HB.out.cell (World.block_lt_of_cell? w _ hx157_1)).trans hx157_1
                     replace hx157_2:=(HB.out.cell (World.block_lt_of_cell? w _ hx157_2)).trans hx157_2
                     replace hx157_3:=(HB.out.cell (World.block_lt_of_cell? w _ hx157_3)).trans hx157_3
                     replace hx157_4:=(HB.out.cell (World.block_lt_of_cell? w _ hx157_4)).trans hx157_4
                     replace p157:=eq_true p157
                     replace q157:=eq_true q157
                     go_wp2_with (first | ((with_reducible refine gate_callee (f:=154) rfl ?_);refine goesL_ (some 55) rfl rfl Tryz.func154 (by kernel_rfl) rfl #[.string ((rd_T107 l0_0 (rd t153 x36_1)).f3)] rfl (by (try simp only [List.map_toArray,List.map_cons,List.map_nil]);first | done | rfl | (simp only [List.length_drop,List.length_take];rfl)) ?_;(with_reducible refine (spec_l1Quote.calls kj49 ((rd_T107 l0_0 (rd t153 x36_1)).f3) t158 _ A56.out).mono ?_);rintro e w' ⟨rfl,⟨nd,rfl⟩⟩;refine ⟨_,rfl,?_⟩) | ((with_reducible refine gate_callee (f:=107) rfl ?_);refine goesL_ (some 61) rfl rfl Tryz.func107 (by kernel_rfl) rfl #[.agg #[.slice (some ad149) l0_0.length c0_0],.int .i64 (rd t153 x36_1)] rfl (by (try simp only [List.map_toArray,List.map_cons,List.map_nil]);first | done | rfl | (simp only [List.length_drop,List.length_take];rfl)) ?_;(with_reducible refine (ih kj49 (by have:=HK1.out;have:=HJ49.out;omega) _ _ l0_0 (rd t153 x36_1) t159 _ ?side1 ?side2 A59.out).mono ?_);(case side1=>repeat (first | exact (Kd.C_below HR0_0.out (by repeat (first | (with_reducible first | exact HB.out | apply below_alloc | apply pw_below_drewN | apply below_drew1 | refine below_set ?_ GE148.out | refine below_set ?_ GE150.out) | exact HB.out))) | (with_reducible refine Kd.C_alloc ?_ _) | (with_reducible refine Kd.C_drewN ?_ _) | (with_reducible refine Kd.C_drew ?_)));(case side2=>exact HC0_0.out);rintro e w64 ⟨rfl,hb⟩;refine ⟨_,rfl,?_⟩;have n0_:=Aside0.mk (Kd.R_below (by (with_reducible repeat (first | apply Kd.R_alloc | apply Kd.R_drewN | apply Kd.R_drew));exact HO_34.out) hb);have n1_:=Aside0.mk (blk_below (g:=gb148) (o:=.cells #[.slice (some ad149) l0_0.length c0_0] 31 (0,0)) (by (with_reducible repeat (first | refine blk_drewN ?_ _ | refine blk_drew ?_ | refine blk_alloc ?_ _));exact BK148.out) hb);have n2_:=Aside0.mk (blk_below (g:=gb150) (o:=.cells #[.int .i64 ((rd_T107 l0_0 a1).f0),.int .i64 ((rd_T107 l0_0 a1).f1),.string ((rd_T107 l0_0 a1).f2),.string ((rd_T107 l0_0 a1).f3),.int .i64 ((rd_T107 l0_0 a1).f4)] 107 (0,0)) (by (with_reducible repeat (first | refine blk_drewN ?_ _ | refine blk_drew ?_ | refine blk_alloc ?_ _));exact BK150.out) hb);have n3_:=Aside0.mk (below_step (by repeat (first | (with_reducible first | exact HB.out | apply below_alloc | apply pw_below_drewN | apply below_drew1 | refine below_set ?_ GE148.out | refine below_set ?_ GE150.out) | exact HB.out)) hb);clear HO_34;clear BK148;clear BK150;clear HB;have HO_34:=n0_;have BK148:=n1_;have BK150:=n2_;have HB:=n3_;clear n0_ n1_ n2_ n3_;(try clear hb);(try clear hb2);(try clear hk);(try clear hi)))
                     go_roundg kj49
                     case measure=>have:=HK1.out;have:=HJ49.out;omega
                     case rel=>exact ⟨((x6_49++(t158++(⟨#[58]⟩:ByteArray)))++t159),(wrap64 (x36_1+1)),(by first | rfl | (simp;done) | (simp [*];done)),(by first | rfl | (simp;done) | (simp [*];done)),H',⟨by have:=HK1.out;have:=HJ49.out;omega⟩,⟨by (with_reducible repeat (first | apply Kd.R_alloc | apply Kd.R_drewN | apply Kd.R_drew));exact HO_34.out⟩,⟨by (with_reducible repeat (first | refine blk_drewN ?_ _ | refine blk_drew ?_ | refine blk_alloc ?_ _));exact BK148.out⟩,⟨by (with_reducible repeat (first | refine blk_drewN ?_ _ | refine blk_drew ?_ | refine blk_alloc ?_ _));exact BK150.out⟩,⟨by repeat (first | (with_reducible first | exact HB.out | apply below_alloc | apply pw_below_drewN | apply below_drew1 | refine below_set ?_ GE148.out | refine below_set ?_ GE150.out) | exact HB.out)⟩⟩
                    ·rw [if_neg c60] at H
                     exact absurd H (by simp)
                   ·rw [if_neg c58] at H
                    exact absurd H (by simp)
                  ·rw [if_neg c57] at H
                   exact absurd H (by simp)
                 ·rw [if_neg c55] at H
                  exact absurd H (by simp)
                ·rw [if_neg c54] at H
                 exact absurd H (by simp)
               ·rw [if_neg c53] at H
                have c53b0:(((rd_T107 l0_0 a1).f0)==7)=false:=beq_eq_false_iff_ne.mpr c53
                have c53b1:(((rd_T107 l0_0 a1).f0) != 7)=true:=bne_iff_ne.mpr c53
                replace H:=Option.bind_eq_some_iff.mp H
                obtain ⟨t160,A650,H⟩:=H
                replace H:(if x6_49.size+t160.size≤9223372036854775807 then (spec_l1Text.l0 kj49 (x6_49++t160) t153 (t153.length:Int) (wrap64 (x36_1+1)) l0_0 ((rd_T107 l0_0 a1).f0) ((rd_T107 l0_0 a1).f1) ((rd_T107 l0_0 a1).f2) ((rd_T107 l0_0 a1).f3) ((rd_T107 l0_0 a1).f4)) else (none))=some r:=H
                have A65:=Aside0.mk A650
                clear A650
                by_cases c66:x6_49.size+t160.size≤9223372036854775807
                ·rw [if_pos c66] at H
                 have c66b0:=eq_true c66
                 have c66b1:decide (x6_49.size+t160.size≤9223372036854775807)=true:=decide_eq_true c66
                 try have c66b2:(9223372036854775807 < x6_49.size+t160.size)=False:=eq_false (Nat.not_lt.2 c66)
                 have H':=Aside0.mk H
                 clear H
                 have hnb67:=NB150_148.out
                 have hnc67:=NB148_150.out
                 have hcz68_0:wc.cell? ⟨gb150,0,none⟩=some (.int .i64 ((rd_T107 l0_0 a1).f0)):=(blk_cell BK150.out 0).trans rfl
                 have hcz68_1:wc.cell? ⟨gb150,1,none⟩=some (.int .i64 ((rd_T107 l0_0 a1).f1)):=(blk_cell BK150.out 1).trans rfl
                 have hcz68_2:wc.cell? ⟨gb150,2,none⟩=some (.string ((rd_T107 l0_0 a1).f2)):=(blk_cell BK150.out 2).trans rfl
                 have hcz68_3:wc.cell? ⟨gb150,3,none⟩=some (.string ((rd_T107 l0_0 a1).f3)):=(blk_cell BK150.out 3).trans rfl
                 have hcz68_4:wc.cell? ⟨gb150,4,none⟩=some (.int .i64 ((rd_T107 l0_0 a1).f4)):=(blk_cell BK150.out 4).trans rfl
                 have hfz68_0:=blk_frozen BK150.out 0
                 have hfz68_1:=blk_frozen BK150.out 1
                 have hfz68_2:=blk_frozen BK150.out 2
                 have hfz68_3:=blk_frozen BK150.out 3
                 have hfz68_4:=blk_frozen BK150.out 4
                 have hcz69_0:wc.cell? ⟨gb148,0,none⟩=some (.slice (some ad149) l0_0.length c0_0):=(blk_cell BK148.out 0).trans rfl
                 have hfz69_0:=blk_frozen BK148.out 0
                 go_wp2_with (first | ((with_reducible refine gate_callee (f:=107) rfl ?_);refine goesL_ (some 61) rfl rfl Tryz.func107 (by kernel_rfl) rfl #[.agg #[.slice (some ad149) l0_0.length c0_0],.int .i64 (rd t153 x36_1)] rfl (by (try simp only [List.map_toArray,List.map_cons,List.map_nil]);first | done | rfl | (simp only [List.length_drop,List.length_take];rfl)) ?_;(with_reducible refine (ih kj49 (by have:=HK1.out;have:=HJ49.out;omega) _ _ l0_0 (rd t153 x36_1) t160 _ ?side1 ?side2 A65.out).mono ?_);(case side1=>repeat (first | exact (Kd.C_below HR0_0.out HB.out) | (with_reducible refine Kd.C_alloc ?_ _) | (with_reducible refine Kd.C_drewN ?_ _) | (with_reducible refine Kd.C_drew ?_)));(case side2=>exact HC0_0.out);rintro e w70 ⟨rfl,hb⟩;refine ⟨_,rfl,?_⟩;have n0_:=Aside0.mk (Kd.R_below (by (with_reducible repeat (first | apply Kd.R_alloc | apply Kd.R_drewN | apply Kd.R_drew));exact HO_34.out) hb);have n1_:=Aside0.mk (blk_below (g:=gb148) (o:=.cells #[.slice (some ad149) l0_0.length c0_0] 31 (0,0)) (by (with_reducible repeat (first | refine blk_drewN ?_ _ | refine blk_drew ?_ | refine blk_alloc ?_ _));exact BK148.out) hb);have n2_:=Aside0.mk (blk_below (g:=gb150) (o:=.cells #[.int .i64 ((rd_T107 l0_0 a1).f0),.int .i64 ((rd_T107 l0_0 a1).f1),.string ((rd_T107 l0_0 a1).f2),.string ((rd_T107 l0_0 a1).f3),.int .i64 ((rd_T107 l0_0 a1).f4)] 107 (0,0)) (by (with_reducible repeat (first | refine blk_drewN ?_ _ | refine blk_drew ?_ | refine blk_alloc ?_ _));exact BK150.out) hb);have n3_:=Aside0.mk (below_step (by repeat (first | (with_reducible first | exact HB.out | apply below_alloc | apply pw_below_drewN | apply below_drew1 | refine below_set ?_ GE148.out | refine below_set ?_ GE150.out) | exact HB.out)) hb);clear HO_34;clear BK148;clear BK150;clear HB;have HO_34:=n0_;have BK148:=n1_;have BK150:=n2_;have HB:=n3_;clear n0_ n1_ n2_ n3_;(try clear hb);(try clear hb2);(try clear hk);(try clear hi)))
                 go_roundg kj49
                 case measure=>have:=HK1.out;have:=HJ49.out;omega
                 case rel=>exact ⟨(x6_49++t160),(wrap64 (x36_1+1)),(by first | rfl | (simp;done) | (simp [*];done)),(by first | rfl | (simp;done) | (simp [*];done)),H',⟨by have:=HK1.out;have:=HJ49.out;omega⟩,⟨by (with_reducible repeat (first | apply Kd.R_alloc | apply Kd.R_drewN | apply Kd.R_drew));exact HO_34.out⟩,⟨by (with_reducible repeat (first | refine blk_drewN ?_ _ | refine blk_drew ?_ | refine blk_alloc ?_ _));exact BK148.out⟩,⟨by (with_reducible repeat (first | refine blk_drewN ?_ _ | refine blk_drew ?_ | refine blk_alloc ?_ _));exact BK150.out⟩,⟨by repeat (first | (with_reducible first | exact HB.out | apply below_alloc | apply pw_below_drewN | apply below_drew1 | refine below_set ?_ GE148.out | refine below_set ?_ GE150.out) | exact HB.out)⟩⟩
                ·rw [if_neg c66] at H
                 exact absurd H (by simp)
            ·rw [if_neg c49] at H
             exact absurd H (by simp)
           ·rw [if_neg c48] at H
            exact absurd H (by simp)
          ·rw [if_neg c47] at H
           have c47b0:decide (x36_1 < (t153.length:Int))=false:=decide_eq_false c47
           clear c47
           by_cases c71:((rd_T107 l0_0 a1).f0)=7
           ·rw [if_pos c71] at H
            have c71b0:(((rd_T107 l0_0 a1).f0)==7)=true:=beq_iff_eq.mpr c71
            have c71b1:(((rd_T107 l0_0 a1).f0) != 7)=false:=bne_eq_false_iff_eq.mpr c71
            clear c71
            by_cases c72:1+x6_1.size≤9223372036854775807
            ·rw [if_pos c72] at H
             have c72b0:=eq_true c72
             have c72b1:decide (1+x6_1.size≤9223372036854775807)=true:=decide_eq_true c72
             try have c72b2:(9223372036854775807 < 1+x6_1.size)=False:=eq_false (Nat.not_lt.2 c72)
             by_cases c73:((⟨#[123]⟩:ByteArray)++x6_1).size+1≤9223372036854775807
             ·rw [if_pos c73] at H
              have c73b0:=eq_true c73
              have c73b1:decide (((⟨#[123]⟩:ByteArray)++x6_1).size+1≤9223372036854775807)=true:=decide_eq_true c73
              try have c73b2:(9223372036854775807 < ((⟨#[123]⟩:ByteArray)++x6_1).size+1)=False:=eq_false (Nat.not_lt.2 c73)
              try have c73b3:(9223372036854775807 < 1+x6_1.size+1)=False:=by first | (simpa [ByteArray.size_append] using c73b2) | exact eq_false (by have h_:=of_eq_false c73b2;simp only [ByteArray.size_append] at h_;exact h_)
              obtain rfl:=Option.some.inj H
              have hnb74:=NB150_148.out
              have hnc74:=NB148_150.out
              have hcz75_0:wr.cell? ⟨gb150,0,none⟩=some (.int .i64 ((rd_T107 l0_0 a1).f0)):=(blk_cell BK150.out 0).trans rfl
              have hcz75_1:wr.cell? ⟨gb150,1,none⟩=some (.int .i64 ((rd_T107 l0_0 a1).f1)):=(blk_cell BK150.out 1).trans rfl
              have hcz75_2:wr.cell? ⟨gb150,2,none⟩=some (.string ((rd_T107 l0_0 a1).f2)):=(blk_cell BK150.out 2).trans rfl
              have hcz75_3:wr.cell? ⟨gb150,3,none⟩=some (.string ((rd_T107 l0_0 a1).f3)):=(blk_cell BK150.out 3).trans rfl
              have hcz75_4:wr.cell? ⟨gb150,4,none⟩=some (.int .i64 ((rd_T107 l0_0 a1).f4)):=(blk_cell BK150.out 4).trans rfl
              have hfz75_0:=blk_frozen BK150.out 0
              have hfz75_1:=blk_frozen BK150.out 1
              have hfz75_2:=blk_frozen BK150.out 2
              have hfz75_3:=blk_frozen BK150.out 3
              have hfz75_4:=blk_frozen BK150.out 4
              go_wp2
              go_ret
              exact ⟨by first | rfl | (simp [errW_none,errW_some] <;> rfl) | (simp [*,errW_none,errW_some] <;> rfl),by repeat (first | (with_reducible first | exact HB.out | apply below_alloc | apply pw_below_drewN | apply below_drew1 | refine below_set ?_ GE148.out | refine below_set ?_ GE150.out) | exact HB.out)⟩
             ·rw [if_neg c73] at H
              exact absurd H (by simp)
            ·rw [if_neg c72] at H
             exact absurd H (by simp)
           ·rw [if_neg c71] at H
            have c71b0:(((rd_T107 l0_0 a1).f0)==7)=false:=beq_eq_false_iff_ne.mpr c71
            have c71b1:(((rd_T107 l0_0 a1).f0) != 7)=true:=bne_iff_ne.mpr c71
            by_cases c76:1+x6_1.size≤9223372036854775807
            ·rw [if_pos c76] at H
             have c76b0:=eq_true c76
             have c76b1:decide (1+x6_1.size≤9223372036854775807)=true:=decide_eq_true c76
             try have c76b2:(9223372036854775807 < 1+x6_1.size)=False:=eq_false (Nat.not_lt.2 c76)
             by_cases c77:((⟨#[91]⟩:ByteArray)++x6_1).size+1≤9223372036854775807
             ·rw [if_pos c77] at H
              have c77b0:=eq_true c77
              have c77b1:decide (((⟨#[91]⟩:ByteArray)++x6_1).size+1≤9223372036854775807)=true:=decide_eq_true c77
              try have c77b2:(9223372036854775807 < ((⟨#[91]⟩:ByteArray)++x6_1).size+1)=False:=eq_false (Nat.not_lt.2 c77)
              try have c77b3:(9223372036854775807 < 1+x6_1.size+1)=False:=by first | (simpa [ByteArray.size_append] using c77b2) | exact eq_false (by have h_:=of_eq_false c77b2;simp only [ByteArray.size_append] at h_;exact h_)
              obtain rfl:=Option.some.inj H
              have hnb78:=NB150_148.out
              have hnc78:=NB148_150.out
              have hcz79_0:wr.cell? ⟨gb150,0,none⟩=some (.int .i64 ((rd_T107 l0_0 a1).f0)):=(blk_cell BK150.out 0).trans rfl
              have hcz79_1:wr.cell? ⟨gb150,1,none⟩=some (.int .i64 ((rd_T107 l0_0 a1).f1)):=(blk_cell BK150.out 1).trans rfl
              have hcz79_2:wr.cell? ⟨gb150,2,none⟩=some (.string ((rd_T107 l0_0 a1).f2)):=(blk_cell BK150.out 2).trans rfl
              have hcz79_3:wr.cell? ⟨gb150,3,none⟩=some (.string ((rd_T107 l0_0 a1).f3)):=(blk_cell BK150.out 3).trans rfl
              have hcz79_4:wr.cell? ⟨gb150,4,none⟩=some (.int .i64 ((rd_T107 l0_0 a1).f4)):=(blk_cell BK150.out 4).trans rfl
              have hfz79_0:=blk_frozen BK150.out 0
              have hfz79_1:=blk_frozen BK150.out 1
              have hfz79_2:=blk_frozen BK150.out 2
              have hfz79_3:=blk_frozen BK150.out 3
              have hfz79_4:=blk_frozen BK150.out 4
              go_wp2
              go_ret
              exact ⟨by first | rfl | (simp [errW_none,errW_some] <;> rfl) | (simp [*,errW_none,errW_some] <;> rfl),by repeat (first | (with_reducible first | exact HB.out | apply below_alloc | apply pw_below_drewN | apply below_drew1 | refine below_set ?_ GE148.out | refine below_set ?_ GE150.out) | exact HB.out)⟩
             ·rw [if_neg c77] at H
              exact absurd H (by simp)
            ·rw [if_neg c76] at H
             exact absurd H (by simp)
  ·rw [if_neg c4] at H
   exact absurd H (by simp)
 ·rw [if_neg c3] at H
  exact absurd H (by simp)
end Go.Proofs.YtoaafohpmhdjnaaGreatDoor.PVG
