import Derived.Test.YtoaafohpmhdjnaaGreatDoorPIPVGx0
import Derived.Test.YtoaafohpmhdjnaaGreatDoorPIPVGx4
import Derived.Test.YtoaafohpmhdjnaaGreatDoorPIPVGx5
namespace Go.Proofs.YtoaafohpmhdjnaaGreatDoor.PVG
open Go.RowKit Go.Proofs.YtoaafohpmhdjnaaGreatDoorW.PrintWords Go.Proofs.YtoaafohpmhdjnaaGreatDoorW.PrintLast Go.Proofs.YtoaafohpmhdjnaaGreatDoorW.PrintMore
attribute [local go_sem] max2_int min2_int max_two min_two max_three min_three max_four min_four
set_option linter.unusedVariables false
set_option linter.unusedSimpArgs false
/-! ### spec_GoodValue: function 63 -/
def spec_GoodValue.f (k:Nat) (l0_0:List (S107)):Option (Bool):=(spec_l1Shape.f l0_0).bind fun t162=>(if t162=true then ((spec_l1Text.f k l0_0 0).bind fun t163=>(some (decide ((t163.size:Int)≤300)))) else (some false))
set_option maxHeartbeats 8000000 in
set_option maxRecDepth 100000 in
theorem spec_GoodValue.calls (k:Nat) (A0_0:Option Addr) (c0_0:Nat) (l0_0:List (S107)) (r:Bool) (w:World) (hr0_0:Kd.C k107 w A0_0 l0_0.length l0_0) (hc0_0:l0_0.length≤c0_0) (h:spec_GoodValue.f k l0_0=some r) :
  Calls Tryz.prog 63 #[.agg #[.slice A0_0 l0_0.length c0_0]] w fun e w'=>e=.returned (.bool r)∧Below w.heap.size w w':=by
 have hu31:=Tryz.underlying31
 have HR0_0:=Aside0.mk hr0_0
 have HC0_0:=Aside0.mk hc0_0
 clear hr0_0 hc0_0
 have HB:=Aside0.mk (Below.refl w.heap.size w)
 have H:((spec_l1Shape.f l0_0).bind fun t162=>(if t162=true then ((spec_l1Text.f k l0_0 0).bind fun t163=>(some (decide ((t163.size:Int)≤300)))) else (some false)))=some r:=h
 clear h
 replace H:=Option.bind_eq_some_iff.mp H
 obtain ⟨t162,A20,H⟩:=H
 replace H:(if t162=true then ((spec_l1Text.f k l0_0 0).bind fun t163=>(some (decide ((t163.size:Int)≤300)))) else (some false))=some r:=H
 have A2:=Aside0.mk A20
 clear A20
 by_cases c3:t162=true
 ·subst c3
  have H1:((spec_l1Text.f k l0_0 0).bind fun t163=>(some (decide ((t163.size:Int)≤300))))=some r:=by rw [if_pos rfl] at H;exact H
  clear H
  have H:=H1
  clear H1
  replace H:=Option.bind_eq_some_iff.mp H
  obtain ⟨t163,A40,H⟩:=H
  replace H:(some (decide ((t163.size:Int)≤300)))=some r:=H
  have A4:=Aside0.mk A40
  clear A40
  obtain rfl:=Option.some.inj H
  go_enter Tryz.func63,Tryz.ntmps63
  go_wp2_with (first | ((with_reducible refine gate_dst (N:=1) rfl ?_);(try (refine gate_guard (by rfl) ?_;dsimp only));refine box_event ?hg (N:=1) ?hd (cs:=#[.slice A0_0 l0_0.length c0_0]) (t:=31) ?hr ?_;(case hd=>rfl);(case hg=>rfl);(case hr=>first | (go_simp;done) | (go_simp;rfl));intro gb161 hg w5 hbox hb;have n0_:=Aside0.mk (below_step (by repeat (first | (with_reducible first | exact HB.out | apply below_alloc | apply pw_below_drewN | apply below_drew1) | exact HB.out)) hb);have n1_:=Aside0.mk (hbox);have n2_:=Aside0.mk ((by rw [hg];exact (below_size (by repeat (first | (with_reducible first | exact HB.out | apply below_alloc | apply pw_below_drewN | apply below_drew1) | exact HB.out))):w.heap.size≤gb161));have n3_:=Aside0.mk ((by rw [hg];exact (below_size (by repeat (first | (with_reducible first | exact HB.out | apply below_alloc | apply pw_below_drewN | apply below_drew1) | exact HB.out))):w.heap.size≤gb161));clear HB;have HB:=n0_;have BK161:=n1_;have GW161:=n2_;have GE161:=n3_;clear n0_ n1_ n2_ n3_;clear hb hbox hg;have hcz6_0:w5.cell? ⟨gb161,0,none⟩=some (.slice A0_0 l0_0.length c0_0):=(blk_cell BK161.out 0).trans rfl;have hfz6_0:=blk_frozen BK161.out 0) | ((with_reducible refine gate_callee (f:=106) rfl ?_);refine goesL_ (some 4) rfl rfl Tryz.func106 (by kernel_rfl) rfl #[.agg #[.slice A0_0 l0_0.length c0_0]] rfl (by (try simp only [List.map_toArray,List.map_cons,List.map_nil]);first | done | rfl | (simp only [List.length_drop,List.length_take];rfl)) ?_;(with_reducible refine (spec_l1Shape.calls _ _ l0_0 true _ ?side1 ?side2 A2.out).mono ?_);(case side1=>repeat (first | exact (Kd.C_below HR0_0.out HB.out) | (with_reducible refine Kd.C_alloc ?_ _) | (with_reducible refine Kd.C_drewN ?_ _) | (with_reducible refine Kd.C_drew ?_)));(case side2=>exact HC0_0.out);rintro e w7 ⟨rfl,hb⟩;refine ⟨_,rfl,?_⟩;have n0_:=Aside0.mk (blk_below (g:=gb161) (o:=.cells #[.slice A0_0 l0_0.length c0_0] 31 (0,0)) (by (with_reducible repeat (first | refine blk_drewN ?_ _ | refine blk_drew ?_ | refine blk_alloc ?_ _));exact BK161.out) hb);have n1_:=Aside0.mk (below_step (by repeat (first | (with_reducible first | exact HB.out | apply below_alloc | apply pw_below_drewN | apply below_drew1 | refine below_set ?_ GE161.out) | exact HB.out)) hb);clear BK161;clear HB;have BK161:=n0_;have HB:=n1_;clear n0_ n1_;(try clear hb);(try clear hb2);(try clear hk);(try clear hi);have hcz8_0:w7.cell? ⟨gb161,0,none⟩=some (.slice A0_0 l0_0.length c0_0):=(blk_cell BK161.out 0).trans rfl;have hfz8_0:=blk_frozen BK161.out 0) | (go_at_call 107;(with_reducible refine (spec_l1Text.calls k _ _ l0_0 0 t163 _ ?side1 ?side2 A4.out).mono ?_);(case side1=>repeat (first | exact (Kd.C_below HR0_0.out HB.out) | (with_reducible refine Kd.C_alloc ?_ _) | (with_reducible refine Kd.C_drewN ?_ _) | (with_reducible refine Kd.C_drew ?_)));(case side2=>exact HC0_0.out);rintro e w9 ⟨rfl,hb⟩;have n0_:=Aside0.mk (blk_below (g:=gb161) (o:=.cells #[.slice A0_0 l0_0.length c0_0] 31 (0,0)) (by (with_reducible repeat (first | refine blk_drewN ?_ _ | refine blk_drew ?_ | refine blk_alloc ?_ _));exact BK161.out) hb);have n1_:=Aside0.mk (below_step (by repeat (first | (with_reducible first | exact HB.out | apply below_alloc | apply pw_below_drewN | apply below_drew1 | refine below_set ?_ GE161.out) | exact HB.out)) hb);clear BK161;clear HB;have BK161:=n0_;have HB:=n1_;clear n0_ n1_;(try clear hb);(try clear hb2);(try clear hk);(try clear hi)))
  go_ret
  exact ⟨by first | rfl | (simp [errW_none,errW_some] <;> rfl) | (simp [*,errW_none,errW_some] <;> rfl),by repeat (first | (with_reducible first | exact HB.out | apply below_alloc | apply pw_below_drewN | apply below_drew1 | refine below_set ?_ GE161.out) | exact HB.out)⟩
 ·replace c3:=Bool.eq_false_iff.mpr c3
  subst c3
  have H1:(some false)=some r:=by rw [if_neg (show ¬(false=true) by decide)] at H;exact H
  clear H
  have H:=H1
  clear H1
  obtain rfl:=Option.some.inj H
  go_enter Tryz.func63,Tryz.ntmps63
  go_wp2_with (first | ((with_reducible refine gate_dst (N:=1) rfl ?_);(try (refine gate_guard (by rfl) ?_;dsimp only));refine box_event ?hg (N:=1) ?hd (cs:=#[.slice A0_0 l0_0.length c0_0]) (t:=31) ?hr ?_;(case hd=>rfl);(case hg=>rfl);(case hr=>first | (go_simp;done) | (go_simp;rfl));intro gb161 hg w10 hbox hb;have n0_:=Aside0.mk (below_step (by repeat (first | (with_reducible first | exact HB.out | apply below_alloc | apply pw_below_drewN | apply below_drew1) | exact HB.out)) hb);have n1_:=Aside0.mk (hbox);have n2_:=Aside0.mk ((by rw [hg];exact (below_size (by repeat (first | (with_reducible first | exact HB.out | apply below_alloc | apply pw_below_drewN | apply below_drew1) | exact HB.out))):w.heap.size≤gb161));have n3_:=Aside0.mk ((by rw [hg];exact (below_size (by repeat (first | (with_reducible first | exact HB.out | apply below_alloc | apply pw_below_drewN | apply below_drew1) | exact HB.out))):w.heap.size≤gb161));clear HB;have HB:=n0_;have BK161:=n1_;have GW161:=n2_;have GE161:=n3_;clear n0_ n1_ n2_ n3_;clear hb hbox hg;have hcz11_0:w10.cell? ⟨gb161,0,none⟩=some (.slice A0_0 l0_0.length c0_0):=(blk_cell BK161.out 0).trans rfl;have hfz11_0:=blk_frozen BK161.out 0) | ((with_reducible refine gate_callee (f:=106) rfl ?_);refine goesL_ (some 4) rfl rfl Tryz.func106 (by kernel_rfl) rfl #[.agg #[.slice A0_0 l0_0.length c0_0]] rfl (by (try simp only [List.map_toArray,List.map_cons,List.map_nil]);first | done | rfl | (simp only [List.length_drop,List.length_take];rfl)) ?_;(with_reducible refine (spec_l1Shape.calls _ _ l0_0 false _ ?side1 ?side2 A2.out).mono ?_);(case side1=>repeat (first | exact (Kd.C_below HR0_0.out HB.out) | (with_reducible refine Kd.C_alloc ?_ _) | (with_reducible refine Kd.C_drewN ?_ _) | (with_reducible refine Kd.C_drew ?_)));(case side2=>exact HC0_0.out);rintro e w12 ⟨rfl,hb⟩;refine ⟨_,rfl,?_⟩;have n0_:=Aside0.mk (blk_below (g:=gb161) (o:=.cells #[.slice A0_0 l0_0.length c0_0] 31 (0,0)) (by (with_reducible repeat (first | refine blk_drewN ?_ _ | refine blk_drew ?_ | refine blk_alloc ?_ _));exact BK161.out) hb);have n1_:=Aside0.mk (below_step (by repeat (first | (with_reducible first | exact HB.out | apply below_alloc | apply pw_below_drewN | apply below_drew1 | refine below_set ?_ GE161.out) | exact HB.out)) hb);clear BK161;clear HB;have BK161:=n0_;have HB:=n1_;clear n0_ n1_;(try clear hb);(try clear hb2);(try clear hk);(try clear hi)))
  go_ret
  exact ⟨by first | rfl | (simp [errW_none,errW_some] <;> rfl) | (simp [*,errW_none,errW_some] <;> rfl),by repeat (first | (with_reducible first | exact HB.out | apply below_alloc | apply pw_below_drewN | apply below_drew1 | refine below_set ?_ GE161.out) | exact HB.out)⟩
def laws_markText.l0:Nat→Int→ByteArray→Option (ByteArray)
 | 0,_,_=>none
 | k+1,x0,x3=>if x0 > 0 then ((some (([(wrap64 (48+(Int.tmod x0 10))) % 256]:List Int):List Int)).bind fun y164=>(if (strOfNums y164).size+x3.size≤9223372036854775807 then (laws_markText.l0 k (wrap64 (Int.tdiv x0 10)) ((strOfNums y164)++x3)) else (none))) else (if 1+x3.size≤9223372036854775807 then (some ((⟨#[109]⟩:ByteArray)++x3)) else (none))
def laws_markText.f (k:Nat) (a0:Int):Option (ByteArray):=if a0≤0 then (some (⟨#[109,48]⟩:ByteArray)) else (laws_markText.l0 k a0 (⟨#[]⟩:ByteArray))
set_option maxHeartbeats 8000000 in
set_option maxRecDepth 100000 in
theorem laws_markText.calls (k:Nat) (a0:Int) (r:ByteArray) (w:World) (h:laws_markText.f k a0=some r) :
  Calls Tryz.prog 73 #[.int .i64 a0] w fun e w'=>e=.returned (.string r)∧Below w.heap.size w w':=by
 have HB:=Aside0.mk (Below.refl w.heap.size w)
 have H:(if a0≤0 then (some (⟨#[109,48]⟩:ByteArray)) else (laws_markText.l0 k a0 (⟨#[]⟩:ByteArray)))=some r:=h
 clear h
 by_cases c2:a0≤0
 ·rw [if_pos c2] at H
  have c2b0:decide (a0≤0)=true:=decide_eq_true c2
  clear c2
  obtain rfl:=Option.some.inj H
  go_enter Tryz.func73,Tryz.ntmps73
  go_wp2
  go_ret
  exact ⟨by first | rfl | (simp [errW_none,errW_some] <;> rfl) | (simp [*,errW_none,errW_some] <;> rfl),by repeat (first | (with_reducible first | exact HB.out | apply below_alloc | apply pw_below_drewN | apply below_drew1) | exact HB.out)⟩
 ·rw [if_neg c2] at H
  have c2b0:decide (a0≤0)=false:=decide_eq_false c2
  clear c2
  have H':=Aside0.mk H
  clear H
  go_enter Tryz.func73,Tryz.ntmps73
  go_wp2
  go_loopg [0,3] k (fun kq v0 v3 w'=>∃ (x0_1:Int) (x3_1:ByteArray),v0=.int .i64 x0_1∧v3=.string x3_1∧Aside0 (laws_markText.l0 kq x0_1 x3_1=some r)∧Aside0 (kq≤k)∧Aside0 (Below w.heap.size w w'))
  case atStart=>exact ⟨(a0),((⟨#[]⟩:ByteArray)),(by first | rfl | (simp;done) | (simp [*];done)),(by first | rfl | (simp;done) | (simp [*];done)),H',⟨Nat.le_refl _⟩,⟨by repeat (first | (with_reducible first | exact HB.out | apply below_alloc | apply pw_below_drewN | apply below_drew1) | exact HB.out)⟩⟩
  case round =>
   clear H'
   try clear c2
   try clear c2b0
   try clear p2
   obtain ⟨x0_1,x3_1,rfl,rfl,HA,HK1,HB⟩:=hrel
   cases gk with
   | zero=>exact absurd HA.out (by simp [laws_markText.l0])
   | succ k1 =>
    have H:=HA.out
    clear HA
    simp only [laws_markText.l0] at H
    by_cases c3:x0_1 > 0
    ·rw [if_pos c3] at H
     have c3b0:decide (0 < x0_1)=true:=decide_eq_true c3
     clear c3
     obtain ⟨y164,hy164⟩:∃ y_:List Int,y_=(([(wrap64 (48+(Int.tmod x0_1 10))) % 256]:List Int)):=⟨_,rfl⟩
     replace H:(if (strOfNums y164).size+x3_1.size≤9223372036854775807 then (laws_markText.l0 k1 (wrap64 (Int.tdiv x0_1 10)) ((strOfNums y164)++x3_1)) else (none))=some r:=by first | (rw [hy164];with_reducible exact H) | (have H2_:=(Option.bind_some _ _).symm.trans H;rw [hy164];with_reducible exact H2_) | (have H2_:=(Option.bind_some _ _).symm.trans H;with_reducible exact H2_) | with_reducible exact H | (rw [hy164];exact H) | exact H
     have Ny164:=Aside0.mk hy164
     clear hy164
     by_cases c4:(strOfNums y164).size+x3_1.size≤9223372036854775807
     ·rw [if_pos c4] at H
      have c4b0:=eq_true c4
      have c4b1:decide ((strOfNums y164).size+x3_1.size≤9223372036854775807)=true:=decide_eq_true c4
      try have c4b2:(9223372036854775807 < (strOfNums y164).size+x3_1.size)=False:=eq_false (Nat.not_lt.2 c4)
      have H':=Aside0.mk H
      clear H
      go_wp2_with (first | ((with_reducible refine gate_dst (N:=12) rfl ?_);refine Kd.R_lit (Kd.int .u8) _ 5 ?hg (N:=12) ?hd (xs:=([(wrap64 (48+(Int.tmod x0_1 10))) % 256]:List Int)) (inner:=[.int .u8 ((wrap64 (48+(Int.tmod x0_1 10))) % 256)]) (ok:=fun _=>True) (okp:=fun _=>True) ?hr ?hp (fun _ hk=>hk) trivial (Below.refl _ _) (Nat.le_refl _) (by simp) ?_;(case hd=>rfl);(case hg=>rfl);(case hr=>first | (go_simp;done) | (go_simp;rfl));(case hp=>exact (Reps.one (show Kd.M (Kd.int .u8) _ _ _ ((wrap64 (48+(Int.tmod x0_1 10))) % 256) [.int .u8 ((wrap64 (48+(Int.tmod x0_1 10))) % 256)] from rfl) (Reps.none _ _)));intro v165 w5 ho6 hb hg_ hnew_;clear hg_ hnew_;(first | rw [←Ny164.out] at ho6 | (simp only [Int.reduceToNat] at ho6;rw [←Ny164.out] at ho6));have n0_:=Aside0.mk (Kd.R_lower ho6 (below_size (by repeat (first | (with_reducible first | exact HB.out | apply below_alloc | apply pw_below_drewN | apply below_drew1) | exact HB.out))));have n1_:=Aside0.mk (below_step (by repeat (first | (with_reducible first | exact HB.out | apply below_alloc | apply pw_below_drewN | apply below_drew1) | exact HB.out)) hb);clear HB;have HO166:=n0_;have HB:=n1_;clear n0_ n1_;clear hb ho6;have hcv7:=own_string (P:=Tryz.prog) Tryz.underlying147 Tryz.underlying5 Tryz.underlying9 (Kd.own_of_R HO166.out)))
      go_roundg k1
      case measure=>have:=HK1.out;omega
      case rel=>exact ⟨(wrap64 (Int.tdiv x0_1 10)),((strOfNums y164)++x3_1),(by first | rfl | (simp;done) | (simp [*];done)),(by first | rfl | (simp;done) | (simp [*];done)),H',⟨by have:=HK1.out;omega⟩,⟨by repeat (first | (with_reducible first | exact HB.out | apply below_alloc | apply pw_below_drewN | apply below_drew1) | exact HB.out)⟩⟩
     ·rw [if_neg c4] at H
      exact absurd H (by simp)
    ·rw [if_neg c3] at H
     have c3b0:decide (0 < x0_1)=false:=decide_eq_false c3
     clear c3
     by_cases c8:1+x3_1.size≤9223372036854775807
     ·rw [if_pos c8] at H
      have c8b0:=eq_true c8
      have c8b1:decide (1+x3_1.size≤9223372036854775807)=true:=decide_eq_true c8
      try have c8b2:(9223372036854775807 < 1+x3_1.size)=False:=eq_false (Nat.not_lt.2 c8)
      obtain rfl:=Option.some.inj H
      go_wp2
      go_ret
      exact ⟨by first | rfl | (simp [errW_none,errW_some] <;> rfl) | (simp [*,errW_none,errW_some] <;> rfl),by repeat (first | (with_reducible first | exact HB.out | apply below_alloc | apply pw_below_drewN | apply below_drew1) | exact HB.out)⟩
     ·rw [if_neg c8] at H
      exact absurd H (by simp)
def laws_markNodeS.l0:Nat→List (S107)→Int→Int→Option (Int×(List (S107)))
 | 0,_,_,_=>none
 | k+1,x0,x1,x5=>if x5 < (x0.length:Int) then (if 0≤x5 then ((some (x0.set (x5:Int).toNat (⟨x1,(rd_T107 x0 x5).f1,(rd_T107 x0 x5).f2,(rd_T107 x0 x5).f3,(rd_T107 x0 x5).f4⟩:S107):List (S107))).bind fun y167=>((some (y167.set (x5:Int).toNat (⟨(rd_T107 y167 x5).f0,wrap64 (x1+1),(rd_T107 y167 x5).f2,(rd_T107 y167 x5).f3,(rd_T107 y167 x5).f4⟩:S107):List (S107))).bind fun y168=>((laws_markText.f k (wrap64 ((wrap64 (x1+1))+1))).bind fun t169=>((some (y168.set (x5:Int).toNat (⟨(rd_T107 y168 x5).f0,(rd_T107 y168 x5).f1,t169,(rd_T107 y168 x5).f3,(rd_T107 y168 x5).f4⟩:S107):List (S107))).bind fun y170=>((laws_markText.f k (wrap64 ((wrap64 ((wrap64 (x1+1))+1))+1))).bind fun t171=>((some (y170.set (x5:Int).toNat (⟨(rd_T107 y170 x5).f0,(rd_T107 y170 x5).f1,(rd_T107 y170 x5).f2,t171,(rd_T107 y170 x5).f4⟩:S107):List (S107))).bind fun y172=>(laws_markNodeS.l0 k (y172.set (x5:Int).toNat (⟨(rd_T107 y172 x5).f0,(rd_T107 y172 x5).f1,(rd_T107 y172 x5).f2,(rd_T107 y172 x5).f3,wrap64 ((wrap64 ((wrap64 ((wrap64 (x1+1))+1))+1))+1)⟩:S107)) (wrap64 ((wrap64 ((wrap64 ((wrap64 ((wrap64 (x1+1))+1))+1))+1))+1)) (wrap64 (x5+1))))))))) else (none)) else (some (x1,x0))
def laws_markNodeS.f (k:Nat) (l0:List (S107)) (a1:Int):Option (Int×(List (S107))):=laws_markNodeS.l0 k l0 a1 0
set_option maxHeartbeats 8000000 in
set_option maxRecDepth 100000 in
theorem laws_markNodeS.calls (k:Nat) (P0_:Nat→Prop) (u9000_:Value) (l0:List (S107)) (a1:Int) (r1:Int) (r2:List (S107)) (w0 w:World) (hB:Below w0.heap.size w0 w) (ho0:Kd.R k107 107 w w0.heap.size P0_ u9000_ l0) (h:laws_markNodeS.f k l0 a1=some (r1,r2)) :
  Calls Tryz.prog 72 #[u9000_,.int .i64 a1] w fun e w'=>e=.returned (.int .i64 r1)∧Kd.R k107 107 w' w0.heap.size (fun k_=>(P0_ k_∨w.heap.size≤k_)) u9000_ r2∧Below w0.heap.size w0 w'∧Kept w w' (fun k_=>P0_ k_):=by
 have HO0:=Aside0.mk (show Kd.R k107 107 w w0.heap.size (fun k_=>(P0_ k_∨w.heap.size≤k_)) u9000_ l0 from Kd.R_mono ho0 (fun k_ hk=>(.inl hk)))
 have HK:=Aside0.mk (Kept.refl w (fun k_=>P0_ k_))
 have HW0:=Aside0.mk hB.size
 have HB:=Aside0.mk hB
 clear hB
 have H:(laws_markNodeS.l0 k l0 a1 0)=some (r1,r2):=h
 clear h
 have H':=Aside0.mk H
 clear H
 go_enter Tryz.func72,Tryz.ntmps72
 go_wp2
 go_loopg [1,5] k (fun kq v1 v5 w'=>∃ (x0_1:List (S107)) (x1_1:Int) (x5_1:Int),v1=.int .i64 x1_1∧v5=.int .i64 x5_1∧Aside0 (laws_markNodeS.l0 kq x0_1 x1_1 x5_1=some (r1,r2))∧Aside0 (kq≤k)∧Aside0 (Kd.R k107 107 w' w0.heap.size (fun k_=>(P0_ k_∨w.heap.size≤k_)) u9000_ x0_1)∧Aside0 (Kept w w' (fun k_=>P0_ k_))∧Aside0 (Below w0.heap.size w0 w'))
 case atStart=>exact ⟨(l0),(a1),(0),(by first | rfl | (simp;done) | (simp [*];done)),(by first | rfl | (simp;done) | (simp [*];done)),H',⟨Nat.le_refl _⟩,⟨by (with_reducible repeat (first | apply Kd.R_alloc | apply Kd.R_drewN | apply Kd.R_drew));exact HO0.out⟩,⟨by repeat (first | (with_reducible first | exact HK.out | apply Kept.alloc | apply Kept.drewN | apply Kept.drew) | exact HK.out)⟩,⟨by repeat (first | (with_reducible first | exact HB.out | apply below_alloc | apply pw_below_drewN | apply below_drew1) | exact HB.out)⟩⟩
 case round =>
  clear H'
  try clear p2
  obtain ⟨x0_1,x1_1,x5_1,rfl,rfl,HA,HK1,HO_0,HK,HB⟩:=hrel
  cases gk with
  | zero=>exact absurd HA.out (by simp [laws_markNodeS.l0])
  | succ k1 =>
   have H:=HA.out
   clear HA
   simp only [laws_markNodeS.l0] at H
   by_cases c3:x5_1 < (x0_1.length:Int)
   ·rw [if_pos c3] at H
    have c3b0:decide (x5_1 < (x0_1.length:Int))=true:=decide_eq_true c3
    clear c3
    by_cases c4:0≤x5_1
    ·rw [if_pos c4] at H
     have c4b0:decide (0≤x5_1)=true:=decide_eq_true c4
     clear c4
     obtain ⟨y167,hy167⟩:∃ y_:List (S107),y_=(x0_1.set (x5_1:Int).toNat (⟨x1_1,(rd_T107 x0_1 x5_1).f1,(rd_T107 x0_1 x5_1).f2,(rd_T107 x0_1 x5_1).f3,(rd_T107 x0_1 x5_1).f4⟩:S107)):=⟨_,rfl⟩
     replace H:((some (y167.set (x5_1:Int).toNat (⟨(rd_T107 y167 x5_1).f0,wrap64 (x1_1+1),(rd_T107 y167 x5_1).f2,(rd_T107 y167 x5_1).f3,(rd_T107 y167 x5_1).f4⟩:S107):List (S107))).bind fun y168=>((laws_markText.f k1 (wrap64 ((wrap64 (x1_1+1))+1))).bind fun t169=>((some (y168.set (x5_1:Int).toNat (⟨(rd_T107 y168 x5_1).f0,(rd_T107 y168 x5_1).f1,t169,(rd_T107 y168 x5_1).f3,(rd_T107 y168 x5_1).f4⟩:S107):List (S107))).bind fun y170=>((laws_markText.f k1 (wrap64 ((wrap64 ((wrap64 (x1_1+1))+1))+1))).bind fun t171=>((some (y170.set (x5_1:Int).toNat (⟨(rd_T107 y170 x5_1).f0,(rd_T107 y170 x5_1).f1,(rd_T107 y170 x5_1).f2,t171,(rd_T107 y170 x5_1).f4⟩:S107):List (S107))).bind fun y172=>(laws_markNodeS.l0 k1 (y172.set (x5_1:Int).toNat (⟨(rd_T107 y172 x5_1).f0,(rd_T107 y172 x5_1).f1,(rd_T107 y172 x5_1).f2,(rd_T107 y172 x5_1).f3,wrap64 ((wrap64 ((wrap64 ((wrap64 (x1_1+1))+1))+1))+1)⟩:S107)) (wrap64 ((wrap64 ((wrap64 ((wrap64 ((wrap64 (x1_1+1))+1))+1))+1))+1)) (wrap64 (x5_1+1))))))))=some (r1,r2):=by first | (rw [hy167];with_reducible exact H) | (have H2_:=(Option.bind_some _ _).symm.trans H;rw [hy167];with_reducible exact H2_) | (have H2_:=(Option.bind_some _ _).symm.trans H;with_reducible exact H2_) | with_reducible exact H | (rw [hy167];exact H) | exact H
     have Ny167:=Aside0.mk hy167
     clear hy167
     obtain ⟨y168,hy168⟩:∃ y_:List (S107),y_=(y167.set (x5_1:Int).toNat (⟨(rd_T107 y167 x5_1).f0,wrap64 (x1_1+1),(rd_T107 y167 x5_1).f2,(rd_T107 y167 x5_1).f3,(rd_T107 y167 x5_1).f4⟩:S107)):=⟨_,rfl⟩
     replace H:((laws_markText.f k1 (wrap64 ((wrap64 (x1_1+1))+1))).bind fun t169=>((some (y168.set (x5_1:Int).toNat (⟨(rd_T107 y168 x5_1).f0,(rd_T107 y168 x5_1).f1,t169,(rd_T107 y168 x5_1).f3,(rd_T107 y168 x5_1).f4⟩:S107):List (S107))).bind fun y170=>((laws_markText.f k1 (wrap64 ((wrap64 ((wrap64 (x1_1+1))+1))+1))).bind fun t171=>((some (y170.set (x5_1:Int).toNat (⟨(rd_T107 y170 x5_1).f0,(rd_T107 y170 x5_1).f1,(rd_T107 y170 x5_1).f2,t171,(rd_T107 y170 x5_1).f4⟩:S107):List (S107))).bind fun y172=>(laws_markNodeS.l0 k1 (y172.set (x5_1:Int).toNat (⟨(rd_T107 y172 x5_1).f0,(rd_T107 y172 x5_1).f1,(rd_T107 y172 x5_1).f2,(rd_T107 y172 x5_1).f3,wrap64 ((wrap64 ((wrap64 ((wrap64 (x1_1+1))+1))+1))+1)⟩:S107)) (wrap64 ((wrap64 ((wrap64 ((wrap64 ((wrap64 (x1_1+1))+1))+1))+1))+1)) (wrap64 (x5_1+1)))))))=some (r1,r2):=by first | (rw [hy168];with_reducible exact H) | (have H2_:=(Option.bind_some _ _).symm.trans H;rw [hy168];with_reducible exact H2_) | (have H2_:=(Option.bind_some _ _).symm.trans H;with_reducible exact H2_) | with_reducible exact H | (rw [hy168];exact H) | exact H
     have Ny168:=Aside0.mk hy168
     clear hy168
     replace H:=Option.bind_eq_some_iff.mp H
     obtain ⟨t169,A70,H⟩:=H
     replace H:((some (y168.set (x5_1:Int).toNat (⟨(rd_T107 y168 x5_1).f0,(rd_T107 y168 x5_1).f1,t169,(rd_T107 y168 x5_1).f3,(rd_T107 y168 x5_1).f4⟩:S107):List (S107))).bind fun y170=>((laws_markText.f k1 (wrap64 ((wrap64 ((wrap64 (x1_1+1))+1))+1))).bind fun t171=>((some (y170.set (x5_1:Int).toNat (⟨(rd_T107 y170 x5_1).f0,(rd_T107 y170 x5_1).f1,(rd_T107 y170 x5_1).f2,t171,(rd_T107 y170 x5_1).f4⟩:S107):List (S107))).bind fun y172=>(laws_markNodeS.l0 k1 (y172.set (x5_1:Int).toNat (⟨(rd_T107 y172 x5_1).f0,(rd_T107 y172 x5_1).f1,(rd_T107 y172 x5_1).f2,(rd_T107 y172 x5_1).f3,wrap64 ((wrap64 ((wrap64 ((wrap64 (x1_1+1))+1))+1))+1)⟩:S107)) (wrap64 ((wrap64 ((wrap64 ((wrap64 ((wrap64 (x1_1+1))+1))+1))+1))+1)) (wrap64 (x5_1+1))))))=some (r1,r2):=H
     have A7:=Aside0.mk A70
     clear A70
     obtain ⟨y170,hy170⟩:∃ y_:List (S107),y_=(y168.set (x5_1:Int).toNat (⟨(rd_T107 y168 x5_1).f0,(rd_T107 y168 x5_1).f1,t169,(rd_T107 y168 x5_1).f3,(rd_T107 y168 x5_1).f4⟩:S107)):=⟨_,rfl⟩
     replace H:((laws_markText.f k1 (wrap64 ((wrap64 ((wrap64 (x1_1+1))+1))+1))).bind fun t171=>((some (y170.set (x5_1:Int).toNat (⟨(rd_T107 y170 x5_1).f0,(rd_T107 y170 x5_1).f1,(rd_T107 y170 x5_1).f2,t171,(rd_T107 y170 x5_1).f4⟩:S107):List (S107))).bind fun y172=>(laws_markNodeS.l0 k1 (y172.set (x5_1:Int).toNat (⟨(rd_T107 y172 x5_1).f0,(rd_T107 y172 x5_1).f1,(rd_T107 y172 x5_1).f2,(rd_T107 y172 x5_1).f3,wrap64 ((wrap64 ((wrap64 ((wrap64 (x1_1+1))+1))+1))+1)⟩:S107)) (wrap64 ((wrap64 ((wrap64 ((wrap64 ((wrap64 (x1_1+1))+1))+1))+1))+1)) (wrap64 (x5_1+1)))))=some (r1,r2):=by first | (rw [hy170];with_reducible exact H) | (have H2_:=(Option.bind_some _ _).symm.trans H;rw [hy170];with_reducible exact H2_) | (have H2_:=(Option.bind_some _ _).symm.trans H;with_reducible exact H2_) | with_reducible exact H | (rw [hy170];exact H) | exact H
     have Ny170:=Aside0.mk hy170
     clear hy170
     replace H:=Option.bind_eq_some_iff.mp H
     obtain ⟨t171,A90,H⟩:=H
     replace H:((some (y170.set (x5_1:Int).toNat (⟨(rd_T107 y170 x5_1).f0,(rd_T107 y170 x5_1).f1,(rd_T107 y170 x5_1).f2,t171,(rd_T107 y170 x5_1).f4⟩:S107):List (S107))).bind fun y172=>(laws_markNodeS.l0 k1 (y172.set (x5_1:Int).toNat (⟨(rd_T107 y172 x5_1).f0,(rd_T107 y172 x5_1).f1,(rd_T107 y172 x5_1).f2,(rd_T107 y172 x5_1).f3,wrap64 ((wrap64 ((wrap64 ((wrap64 (x1_1+1))+1))+1))+1)⟩:S107)) (wrap64 ((wrap64 ((wrap64 ((wrap64 ((wrap64 (x1_1+1))+1))+1))+1))+1)) (wrap64 (x5_1+1))))=some (r1,r2):=H
     have A9:=Aside0.mk A90
     clear A90
     obtain ⟨y172,hy172⟩:∃ y_:List (S107),y_=(y170.set (x5_1:Int).toNat (⟨(rd_T107 y170 x5_1).f0,(rd_T107 y170 x5_1).f1,(rd_T107 y170 x5_1).f2,t171,(rd_T107 y170 x5_1).f4⟩:S107)):=⟨_,rfl⟩
     replace H:(laws_markNodeS.l0 k1 (y172.set (x5_1:Int).toNat (⟨(rd_T107 y172 x5_1).f0,(rd_T107 y172 x5_1).f1,(rd_T107 y172 x5_1).f2,(rd_T107 y172 x5_1).f3,wrap64 ((wrap64 ((wrap64 ((wrap64 (x1_1+1))+1))+1))+1)⟩:S107)) (wrap64 ((wrap64 ((wrap64 ((wrap64 ((wrap64 (x1_1+1))+1))+1))+1))+1)) (wrap64 (x5_1+1)))=some (r1,r2):=by first | (rw [hy172];with_reducible exact H) | (have H2_:=(Option.bind_some _ _).symm.trans H;rw [hy172];with_reducible exact H2_) | (have H2_:=(Option.bind_some _ _).symm.trans H;with_reducible exact H2_) | with_reducible exact H | (rw [hy172];exact H) | exact H
     have Ny172:=Aside0.mk hy172
     clear hy172
     obtain ⟨y173,hy173⟩:∃ y_:List (S107),y_=(y172.set (x5_1:Int).toNat (⟨(rd_T107 y172 x5_1).f0,(rd_T107 y172 x5_1).f1,(rd_T107 y172 x5_1).f2,(rd_T107 y172 x5_1).f3,wrap64 ((wrap64 ((wrap64 ((wrap64 (x1_1+1))+1))+1))+1)⟩:S107)):=⟨_,rfl⟩
     replace H:(laws_markNodeS.l0 k1 y173 (wrap64 ((wrap64 ((wrap64 ((wrap64 ((wrap64 (x1_1+1))+1))+1))+1))+1)) (wrap64 (x5_1+1)))=some (r1,r2):=by first | (rw [hy173];with_reducible exact H) | (have H2_:=(Option.bind_some _ _).symm.trans H;rw [hy173];with_reducible exact H2_) | (have H2_:=(Option.bind_some _ _).symm.trans H;with_reducible exact H2_) | with_reducible exact H | (rw [hy173];exact H) | exact H
     have Ny173:=Aside0.mk hy173
     clear hy173
     have H':=Aside0.mk H
     clear H
     obtain ⟨Ao12,co12,eo12⟩:=Kd.R_slice HO_0.out
     subst eo12
     have p5:0≤(x5_1:Int):=of_decide_eq_true (by first | (with_reducible assumption) | assumption)
     have q5:(x5_1:Int) < ((x0_1.length:Int):Int):=of_decide_eq_true (by first | (with_reducible assumption) | assumption)
     obtain ⟨go5,co5,eo5,gb5,gl5,cl5,HG5⟩:=Kd.R_form HO_0.out (by omega)
     (first | cases eo5 | (injection eo5 with ea_ en_ ec_;(first | subst ea_ | (injection ea_ with ea_;subst ea_));subst ec_;clear en_))
     have GB5:=Aside0.mk gb5
     have GG5:=Aside0.mk HG5
     clear gb5 gl5 HG5
     have HMgo5:=Aside0.mk (show (P0_ go5∨w.heap.size≤go5) from (HO_0.out.1 _ rfl))
     obtain ⟨ce5,hcl5,hM5,hcc5,hfr5⟩:=Kd.R_elem HO_0.out z107 (x5_1:Int) p5 q5
     obtain rfl:=k107_openM hM5
     have hx5_0:wr.cell? ⟨go5,(x5_1:Int).toNat * 5,none⟩=some (.int .i64 ((rd_T107 x0_1 x5_1).f0)):=hcc5 0 _ rfl
     have hx5_1:wr.cell? ⟨go5,(x5_1:Int).toNat * 5+1,none⟩=some (.int .i64 ((rd_T107 x0_1 x5_1).f1)):=hcc5 1 _ rfl
     have hx5_2:wr.cell? ⟨go5,(x5_1:Int).toNat * 5+2,none⟩=some (.string ((rd_T107 x0_1 x5_1).f2)):=hcc5 2 _ rfl
     have hx5_3:wr.cell? ⟨go5,(x5_1:Int).toNat * 5+3,none⟩=some (.string ((rd_T107 x0_1 x5_1).f3)):=hcc5 3 _ rfl
     have hx5_4:wr.cell? ⟨go5,(x5_1:Int).toNat * 5+4,none⟩=some (.int .i64 ((rd_T107 x0_1 x5_1).f4)):=hcc5 4 _ rfl
     have hf5_0:wr.frozen? ⟨go5,(x5_1:Int).toNat * 5,none⟩=false:=hfr5 0
     have hf5_1:wr.frozen? ⟨go5,(x5_1:Int).toNat * 5+1,none⟩=false:=hfr5 1
     have hf5_2:wr.frozen? ⟨go5,(x5_1:Int).toNat * 5+2,none⟩=false:=hfr5 2
     have hf5_3:wr.frozen? ⟨go5,(x5_1:Int).toNat * 5+3,none⟩=false:=hfr5 3
     have hf5_4:wr.frozen? ⟨go5,(x5_1:Int).toNat * 5+4,none⟩=false:=hfr5 4
     clear hcl5 hcc5 hfr5 hM5
     replace p5:=eq_true p5
     replace q5:=eq_true q5
     have HX13:=Aside0.mk (show Kd.R k107 107 wr w0.heap.size (fun k_=>(P0_ k_∨w.heap.size≤k_)) (.slice (some ⟨go5,0,none⟩) x0_1.length co12) x0_1 from (by (with_reducible repeat (first | apply Kd.R_alloc | apply Kd.R_drewN | apply Kd.R_drew));exact HO_0.out))
     obtain ⟨ce13,hcl13,hM13,hcc13,hfr13⟩:=Kd.R_elem HX13.out z107 (x5_1:Int) (of_decide_eq_true (by first | (with_reducible assumption) | assumption)) (by have h_:(x5_1:Int) < ((x0_1.length:Int):Int):=of_decide_eq_true (by first | (with_reducible assumption) | assumption);first | exact h_ | (have e_:=(Kd.R_reads' HO_0.out).1;omega) | simpa using h_)
     obtain rfl:=k107_openM hM13
     have HP13:=Kd.R_seg HX13.out (x5_1:Int) (of_decide_eq_true (by first | (with_reducible assumption) | assumption)) (by have h_:(x5_1:Int) < ((x0_1.length:Int):Int):=of_decide_eq_true (by first | (with_reducible assumption) | assumption);first | exact h_ | (have e_:=(Kd.R_reads' HO_0.out).1;omega) | simpa using h_) (seg:=[.int .i64 x1_1]) (j:=0) hcl13 hcc13 (show 1≤5 from by decide) (x':=(⟨x1_1,(rd_T107 x0_1 x5_1).f1,(rd_T107 x0_1 x5_1).f2,(rd_T107 x0_1 x5_1).f3,(rd_T107 x0_1 x5_1).f4⟩:S107)) (k107_mkM _ _ _ (⟨x1_1,(rd_T107 x0_1 x5_1).f1,(rd_T107 x0_1 x5_1).f2,(rd_T107 x0_1 x5_1).f3,(rd_T107 x0_1 x5_1).f4⟩:S107) ) (fun _ hk=>hk)
     have hx13_0:=hcc13 0 _ rfl
     (try simp only [show (k107).sz=5 from rfl,Nat.mul_one,Nat.add_zero] at hx13_0)
     have hf13_0:=hfr13 0
     (try simp only [show (k107).sz=5 from rfl,Nat.mul_one,Nat.add_zero] at hf13_0)
     clear hcl13 hcc13 hfr13 hM13
     go_wp2_with (first | ((with_reducible refine gate_store (t:=3) (p:=16) rfl ?_);refine store_event (t:=3) (p:=16) (v:=?vo_w14) (w1:=(wr.setCell ⟨go5,(x5_1:Int).toNat * 5,none⟩ (.int .i64 x1_1))) ?hg ?ho ?hn ?hr ?_;(case ho=>rfl);(case hg=>rfl);(case hn=>rfl);(case hr=>first | (go_simp;done) | (go_simp;rfl));intro w14 hw;have hg:wr.grownBy w14 (some go5):=(by rw [hw];exact HP13.2);have hp_:Kd.R k107 107 w14 w0.heap.size (fun k_=>(P0_ k_∨w.heap.size≤k_)) (.slice (some ⟨go5,0,none⟩) x0_1.length co12) y167:=(by rw [hw,Ny167.out];exact HP13.1);clear HP13;have n0_:=Aside0.mk (hp_);have n1_:=Aside0.mk ((by rw [hw];exact below_set (HB.out) GB5.out:Below w0.heap.size w0 w14));have n2_:=Aside0.mk (Kept.of_grown (S:=(fun k_=>P0_ k_)) hg (by repeat (first | (with_reducible first | exact HK.out | apply Kept.alloc | apply Kept.drewN | apply Kept.drew) | exact HK.out)) (fun k_ e_=>(HO_0.out.1 k_ e_)));clear HO_0;clear HB;clear HK;have HO_0:=n0_;have HB:=n1_;have HK:=n2_;clear n0_ n1_ n2_;clear hg hw hp_;have p6:0≤(x5_1:Int):=of_decide_eq_true (by first | (with_reducible assumption) | assumption);have q6:(x5_1:Int) < ((x0_1.length:Int):Int):=of_decide_eq_true (by first | (with_reducible assumption) | assumption);obtain ⟨ce6,hcl6,hM6,hcc6,hfr6⟩:=Kd.R_elem HO_0.out z107 (x5_1:Int) p6 q6;obtain rfl:=k107_openM hM6;have hx6_0:w14.cell? ⟨go5,(x5_1:Int).toNat * 5,none⟩=some (.int .i64 ((rd_T107 y167 x5_1).f0)):=hcc6 0 _ rfl;have hx6_1:w14.cell? ⟨go5,(x5_1:Int).toNat * 5+1,none⟩=some (.int .i64 ((rd_T107 y167 x5_1).f1)):=hcc6 1 _ rfl;have hx6_2:w14.cell? ⟨go5,(x5_1:Int).toNat * 5+2,none⟩=some (.string ((rd_T107 y167 x5_1).f2)):=hcc6 2 _ rfl;have hx6_3:w14.cell? ⟨go5,(x5_1:Int).toNat * 5+3,none⟩=some (.string ((rd_T107 y167 x5_1).f3)):=hcc6 3 _ rfl;have hx6_4:w14.cell? ⟨go5,(x5_1:Int).toNat * 5+4,none⟩=some (.int .i64 ((rd_T107 y167 x5_1).f4)):=hcc6 4 _ rfl;have hf6_0:w14.frozen? ⟨go5,(x5_1:Int).toNat * 5,none⟩=false:=hfr6 0;have hf6_1:w14.frozen? ⟨go5,(x5_1:Int).toNat * 5+1,none⟩=false:=hfr6 1;have hf6_2:w14.frozen? ⟨go5,(x5_1:Int).toNat * 5+2,none⟩=false:=hfr6 2;have hf6_3:w14.frozen? ⟨go5,(x5_1:Int).toNat * 5+3,none⟩=false:=hfr6 3;have hf6_4:w14.frozen? ⟨go5,(x5_1:Int).toNat * 5+4,none⟩=false:=hfr6 4;clear hcl6 hcc6 hfr6 hM6;replace p6:=eq_true p6;replace q6:=eq_true q6;have HX15:=Aside0.mk (show Kd.R k107 107 w14 w0.heap.size (fun k_=>(P0_ k_∨w.heap.size≤k_)) (.slice (some ⟨go5,0,none⟩) x0_1.length co12) y167 from (by (with_reducible repeat (first | apply Kd.R_alloc | apply Kd.R_drewN | apply Kd.R_drew));exact HO_0.out));obtain ⟨ce15,hcl15,hM15,hcc15,hfr15⟩:=Kd.R_elem HX15.out z107 (x5_1:Int) (of_decide_eq_true (by first | (with_reducible assumption) | assumption)) (by have h_:(x5_1:Int) < ((x0_1.length:Int):Int):=of_decide_eq_true (by first | (with_reducible assumption) | assumption);first | exact h_ | (have e_:=(Kd.R_reads' HO_0.out).1;omega) | simpa using h_);obtain rfl:=k107_openM hM15;have HP15:=Kd.R_seg HX15.out (x5_1:Int) (of_decide_eq_true (by first | (with_reducible assumption) | assumption)) (by have h_:(x5_1:Int) < ((x0_1.length:Int):Int):=of_decide_eq_true (by first | (with_reducible assumption) | assumption);first | exact h_ | (have e_:=(Kd.R_reads' HO_0.out).1;omega) | simpa using h_) (seg:=[.int .i64 (wrap64 (x1_1+1))]) (j:=1) hcl15 hcc15 (show 2≤5 from by decide) (x':=(⟨(rd_T107 y167 x5_1).f0,wrap64 (x1_1+1),(rd_T107 y167 x5_1).f2,(rd_T107 y167 x5_1).f3,(rd_T107 y167 x5_1).f4⟩:S107)) (k107_mkM _ _ _ (⟨(rd_T107 y167 x5_1).f0,wrap64 (x1_1+1),(rd_T107 y167 x5_1).f2,(rd_T107 y167 x5_1).f3,(rd_T107 y167 x5_1).f4⟩:S107) ) (fun _ hk=>hk);have hx15_1:=hcc15 1 _ rfl;(try simp only [show (k107).sz=5 from rfl,Nat.mul_one,Nat.add_zero] at hx15_1);have hf15_1:=hfr15 1;(try simp only [show (k107).sz=5 from rfl,Nat.mul_one,Nat.add_zero] at hf15_1);clear hcl15 hcc15 hfr15 hM15) | ((with_reducible refine gate_store (t:=3) (p:=23) rfl ?_);refine store_event (t:=3) (p:=23) (v:=?vo_w16) (w1:=(w14.setCell ⟨go5,(x5_1:Int).toNat * 5+1,none⟩ (.int .i64 (wrap64 (x1_1+1))))) ?hg ?ho ?hn ?hr ?_;(case ho=>rfl);(case hg=>rfl);(case hn=>rfl);(case hr=>first | (go_simp;done) | (go_simp;rfl));intro w16 hw;have hg:w14.grownBy w16 (some go5):=(by rw [hw];exact HP15.2);have hp_:Kd.R k107 107 w16 w0.heap.size (fun k_=>(P0_ k_∨w.heap.size≤k_)) (.slice (some ⟨go5,0,none⟩) x0_1.length co12) y168:=(by rw [hw,Ny168.out];exact HP15.1);clear HP15;have n0_:=Aside0.mk (hp_);have n1_:=Aside0.mk ((by rw [hw];exact below_set (HB.out) GB5.out:Below w0.heap.size w0 w16));have n2_:=Aside0.mk (Kept.of_grown (S:=(fun k_=>P0_ k_)) hg (by repeat (first | (with_reducible first | exact HK.out | apply Kept.alloc | apply Kept.drewN | apply Kept.drew) | exact HK.out)) (fun k_ e_=>(HO_0.out.1 k_ e_)));clear HO_0;clear HB;clear HK;have HO_0:=n0_;have HB:=n1_;have HK:=n2_;clear n0_ n1_ n2_;clear hg hw hp_) | ((with_reducible refine gate_callee (f:=73) rfl ?_);refine goesL_ (some 29) rfl rfl Tryz.func73 (by kernel_rfl) rfl #[.int .i64 (wrap64 ((wrap64 (x1_1+1))+1))] rfl (by (try simp only [List.map_toArray,List.map_cons,List.map_nil]);first | done | rfl | (simp only [List.length_drop,List.length_take];rfl)) ?_;(with_reducible refine (laws_markText.calls k1 (wrap64 ((wrap64 (x1_1+1))+1)) t169 _ A7.out).mono ?_);rintro e w17 ⟨rfl,hb⟩;refine ⟨_,rfl,?_⟩;have n0_:=Aside0.mk (Kd.R_below (by (with_reducible repeat (first | apply Kd.R_alloc | apply Kd.R_drewN | apply Kd.R_drew));exact HO_0.out) hb);have n1_:=Aside0.mk (Kept.below (S:=(fun k_=>P0_ k_)) (by repeat (first | (with_reducible first | exact HK.out | apply Kept.alloc | apply Kept.drewN | apply Kept.drew) | exact HK.out)) hb);have n2_:=Aside0.mk (below_step (by repeat (first | (with_reducible first | exact HB.out | apply below_alloc | apply pw_below_drewN | apply below_drew1) | exact HB.out)) hb);clear HO_0;clear HK;clear HB;have HO_0:=n0_;have HK:=n1_;have HB:=n2_;clear n0_ n1_ n2_;(try clear hb);(try clear hb2);(try clear hk);(try clear hi);have p8:0≤(x5_1:Int):=of_decide_eq_true (by first | (with_reducible assumption) | assumption);have q8:(x5_1:Int) < ((x0_1.length:Int):Int):=of_decide_eq_true (by first | (with_reducible assumption) | assumption);obtain ⟨ce8,hcl8,hM8,hcc8,hfr8⟩:=Kd.R_elem HO_0.out z107 (x5_1:Int) p8 q8;obtain rfl:=k107_openM hM8;have hx8_0:w17.cell? ⟨go5,(x5_1:Int).toNat * 5,none⟩=some (.int .i64 ((rd_T107 y168 x5_1).f0)):=hcc8 0 _ rfl;have hx8_1:w17.cell? ⟨go5,(x5_1:Int).toNat * 5+1,none⟩=some (.int .i64 ((rd_T107 y168 x5_1).f1)):=hcc8 1 _ rfl;have hx8_2:w17.cell? ⟨go5,(x5_1:Int).toNat * 5+2,none⟩=some (.string ((rd_T107 y168 x5_1).f2)):=hcc8 2 _ rfl;have hx8_3:w17.cell? ⟨go5,(x5_1:Int).toNat * 5+3,none⟩=some (.string ((rd_T107 y168 x5_1).f3)):=hcc8 3 _ rfl;have hx8_4:w17.cell? ⟨go5,(x5_1:Int).toNat * 5+4,none⟩=some (.int .i64 ((rd_T107 y168 x5_1).f4)):=hcc8 4 _ rfl;have hf8_0:w17.frozen? ⟨go5,(x5_1:Int).toNat * 5,none⟩=false:=hfr8 0;have hf8_1:w17.frozen? ⟨go5,(x5_1:Int).toNat * 5+1,none⟩=false:=hfr8 1;have hf8_2:w17.frozen? ⟨go5,(x5_1:Int).toNat * 5+2,none⟩=false:=hfr8 2;have hf8_3:w17.frozen? ⟨go5,(x5_1:Int).toNat * 5+3,none⟩=false:=hfr8 3;have hf8_4:w17.frozen? ⟨go5,(x5_1:Int).toNat * 5+4,none⟩=false:=hfr8 4;clear hcl8 hcc8 hfr8 hM8;replace p8:=eq_true p8;replace q8:=eq_true q8;have HX18:=Aside0.mk (show Kd.R k107 107 w17 w0.heap.size (fun k_=>(P0_ k_∨w.heap.size≤k_)) (.slice (some ⟨go5,0,none⟩) x0_1.length co12) y168 from (by (with_reducible repeat (first | apply Kd.R_alloc | apply Kd.R_drewN | apply Kd.R_drew));exact HO_0.out));obtain ⟨ce18,hcl18,hM18,hcc18,hfr18⟩:=Kd.R_elem HX18.out z107 (x5_1:Int) (of_decide_eq_true (by first | (with_reducible assumption) | assumption)) (by have h_:(x5_1:Int) < ((x0_1.length:Int):Int):=of_decide_eq_true (by first | (with_reducible assumption) | assumption);first | exact h_ | (have e_:=(Kd.R_reads' HO_0.out).1;omega) | simpa using h_);obtain rfl:=k107_openM hM18;have HP18:=Kd.R_seg HX18.out (x5_1:Int) (of_decide_eq_true (by first | (with_reducible assumption) | assumption)) (by have h_:(x5_1:Int) < ((x0_1.length:Int):Int):=of_decide_eq_true (by first | (with_reducible assumption) | assumption);first | exact h_ | (have e_:=(Kd.R_reads' HO_0.out).1;omega) | simpa using h_) (seg:=[.string t169]) (j:=2) hcl18 hcc18 (show 3≤5 from by decide) (x':=(⟨(rd_T107 y168 x5_1).f0,(rd_T107 y168 x5_1).f1,t169,(rd_T107 y168 x5_1).f3,(rd_T107 y168 x5_1).f4⟩:S107)) (k107_mkM _ _ _ (⟨(rd_T107 y168 x5_1).f0,(rd_T107 y168 x5_1).f1,t169,(rd_T107 y168 x5_1).f3,(rd_T107 y168 x5_1).f4⟩:S107) ) (fun _ hk=>hk);have hx18_2:=hcc18 2 _ rfl;(try simp only [show (k107).sz=5 from rfl,Nat.mul_one,Nat.add_zero] at hx18_2);have hf18_2:=hfr18 2;(try simp only [show (k107).sz=5 from rfl,Nat.mul_one,Nat.add_zero] at hf18_2);clear hcl18 hcc18 hfr18 hM18) | ((with_reducible refine gate_store (t:=9) (p:=31) rfl ?_);refine store_event (t:=9) (p:=31) (v:=?vo_w19) (w1:=(w17.setCell ⟨go5,(x5_1:Int).toNat * 5+2,none⟩ (.string t169))) ?hg ?ho ?hn ?hr ?_;(case ho=>rfl);(case hg=>rfl);(case hn=>rfl);(case hr=>first | (go_simp;done) | (go_simp;rfl));intro w19 hw;have hg:w17.grownBy w19 (some go5):=(by rw [hw];exact HP18.2);have hp_:Kd.R k107 107 w19 w0.heap.size (fun k_=>(P0_ k_∨w.heap.size≤k_)) (.slice (some ⟨go5,0,none⟩) x0_1.length co12) y170:=(by rw [hw,Ny170.out];exact HP18.1);clear HP18;have n0_:=Aside0.mk (hp_);have n1_:=Aside0.mk ((by rw [hw];exact below_set (HB.out) GB5.out:Below w0.heap.size w0 w19));have n2_:=Aside0.mk (Kept.of_grown (S:=(fun k_=>P0_ k_)) hg (by repeat (first | (with_reducible first | exact HK.out | apply Kept.alloc | apply Kept.drewN | apply Kept.drew) | exact HK.out)) (fun k_ e_=>(HO_0.out.1 k_ e_)));clear HO_0;clear HB;clear HK;have HO_0:=n0_;have HB:=n1_;have HK:=n2_;clear n0_ n1_ n2_;clear hg hw hp_) | ((with_reducible refine gate_callee (f:=73) rfl ?_);refine goesL_ (some 37) rfl rfl Tryz.func73 (by kernel_rfl) rfl #[.int .i64 (wrap64 ((wrap64 ((wrap64 (x1_1+1))+1))+1))] rfl (by (try simp only [List.map_toArray,List.map_cons,List.map_nil]);first | done | rfl | (simp only [List.length_drop,List.length_take];rfl)) ?_;(with_reducible refine (laws_markText.calls k1 (wrap64 ((wrap64 ((wrap64 (x1_1+1))+1))+1)) t171 _ A9.out).mono ?_);rintro e w20 ⟨rfl,hb⟩;refine ⟨_,rfl,?_⟩;have n0_:=Aside0.mk (Kd.R_below (by (with_reducible repeat (first | apply Kd.R_alloc | apply Kd.R_drewN | apply Kd.R_drew));exact HO_0.out) hb);have n1_:=Aside0.mk (Kept.below (S:=(fun k_=>P0_ k_)) (by repeat (first | (with_reducible first | exact HK.out | apply Kept.alloc | apply Kept.drewN | apply Kept.drew) | exact HK.out)) hb);have n2_:=Aside0.mk (below_step (by repeat (first | (with_reducible first | exact HB.out | apply below_alloc | apply pw_below_drewN | apply below_drew1) | exact HB.out)) hb);clear HO_0;clear HK;clear HB;have HO_0:=n0_;have HK:=n1_;have HB:=n2_;clear n0_ n1_ n2_;(try clear hb);(try clear hb2);(try clear hk);(try clear hi);have p10:0≤(x5_1:Int):=of_decide_eq_true (by first | (with_reducible assumption) | assumption);have q10:(x5_1:Int) < ((x0_1.length:Int):Int):=of_decide_eq_true (by first | (with_reducible assumption) | assumption);obtain ⟨ce10,hcl10,hM10,hcc10,hfr10⟩:=Kd.R_elem HO_0.out z107 (x5_1:Int) p10 q10;obtain rfl:=k107_openM hM10;have hx10_0:w20.cell? ⟨go5,(x5_1:Int).toNat * 5,none⟩=some (.int .i64 ((rd_T107 y170 x5_1).f0)):=hcc10 0 _ rfl;have hx10_1:w20.cell? ⟨go5,(x5_1:Int).toNat * 5+1,none⟩=some (.int .i64 ((rd_T107 y170 x5_1).f1)):=hcc10 1 _ rfl;have hx10_2:w20.cell? ⟨go5,(x5_1:Int).toNat * 5+2,none⟩=some (.string ((rd_T107 y170 x5_1).f2)):=hcc10 2 _ rfl;have hx10_3:w20.cell? ⟨go5,(x5_1:Int).toNat * 5+3,none⟩=some (.string ((rd_T107 y170 x5_1).f3)):=hcc10 3 _ rfl;have hx10_4:w20.cell? ⟨go5,(x5_1:Int).toNat * 5+4,none⟩=some (.int .i64 ((rd_T107 y170 x5_1).f4)):=hcc10 4 _ rfl;have hf10_0:w20.frozen? ⟨go5,(x5_1:Int).toNat * 5,none⟩=false:=hfr10 0;have hf10_1:w20.frozen? ⟨go5,(x5_1:Int).toNat * 5+1,none⟩=false:=hfr10 1;have hf10_2:w20.frozen? ⟨go5,(x5_1:Int).toNat * 5+2,none⟩=false:=hfr10 2;have hf10_3:w20.frozen? ⟨go5,(x5_1:Int).toNat * 5+3,none⟩=false:=hfr10 3;have hf10_4:w20.frozen? ⟨go5,(x5_1:Int).toNat * 5+4,none⟩=false:=hfr10 4;clear hcl10 hcc10 hfr10 hM10;replace p10:=eq_true p10;replace q10:=eq_true q10;have HX21:=Aside0.mk (show Kd.R k107 107 w20 w0.heap.size (fun k_=>(P0_ k_∨w.heap.size≤k_)) (.slice (some ⟨go5,0,none⟩) x0_1.length co12) y170 from (by (with_reducible repeat (first | apply Kd.R_alloc | apply Kd.R_drewN | apply Kd.R_drew));exact HO_0.out));obtain ⟨ce21,hcl21,hM21,hcc21,hfr21⟩:=Kd.R_elem HX21.out z107 (x5_1:Int) (of_decide_eq_true (by first | (with_reducible assumption) | assumption)) (by have h_:(x5_1:Int) < ((x0_1.length:Int):Int):=of_decide_eq_true (by first | (with_reducible assumption) | assumption);first | exact h_ | (have e_:=(Kd.R_reads' HO_0.out).1;omega) | simpa using h_);obtain rfl:=k107_openM hM21;have HP21:=Kd.R_seg HX21.out (x5_1:Int) (of_decide_eq_true (by first | (with_reducible assumption) | assumption)) (by have h_:(x5_1:Int) < ((x0_1.length:Int):Int):=of_decide_eq_true (by first | (with_reducible assumption) | assumption);first | exact h_ | (have e_:=(Kd.R_reads' HO_0.out).1;omega) | simpa using h_) (seg:=[.string t171]) (j:=3) hcl21 hcc21 (show 4≤5 from by decide) (x':=(⟨(rd_T107 y170 x5_1).f0,(rd_T107 y170 x5_1).f1,(rd_T107 y170 x5_1).f2,t171,(rd_T107 y170 x5_1).f4⟩:S107)) (k107_mkM _ _ _ (⟨(rd_T107 y170 x5_1).f0,(rd_T107 y170 x5_1).f1,(rd_T107 y170 x5_1).f2,t171,(rd_T107 y170 x5_1).f4⟩:S107) ) (fun _ hk=>hk);have hx21_3:=hcc21 3 _ rfl;(try simp only [show (k107).sz=5 from rfl,Nat.mul_one,Nat.add_zero] at hx21_3);have hf21_3:=hfr21 3;(try simp only [show (k107).sz=5 from rfl,Nat.mul_one,Nat.add_zero] at hf21_3);clear hcl21 hcc21 hfr21 hM21) | ((with_reducible refine gate_store (t:=9) (p:=39) rfl ?_);refine store_event (t:=9) (p:=39) (v:=?vo_w22) (w1:=(w20.setCell ⟨go5,(x5_1:Int).toNat * 5+3,none⟩ (.string t171))) ?hg ?ho ?hn ?hr ?_;(case ho=>rfl);(case hg=>rfl);(case hn=>rfl);(case hr=>first | (go_simp;done) | (go_simp;rfl));intro w22 hw;have hg:w20.grownBy w22 (some go5):=(by rw [hw];exact HP21.2);have hp_:Kd.R k107 107 w22 w0.heap.size (fun k_=>(P0_ k_∨w.heap.size≤k_)) (.slice (some ⟨go5,0,none⟩) x0_1.length co12) y172:=(by rw [hw,Ny172.out];exact HP21.1);clear HP21;have n0_:=Aside0.mk (hp_);have n1_:=Aside0.mk ((by rw [hw];exact below_set (HB.out) GB5.out:Below w0.heap.size w0 w22));have n2_:=Aside0.mk (Kept.of_grown (S:=(fun k_=>P0_ k_)) hg (by repeat (first | (with_reducible first | exact HK.out | apply Kept.alloc | apply Kept.drewN | apply Kept.drew) | exact HK.out)) (fun k_ e_=>(HO_0.out.1 k_ e_)));clear HO_0;clear HB;clear HK;have HO_0:=n0_;have HB:=n1_;have HK:=n2_;clear n0_ n1_ n2_;clear hg hw hp_;have p11:0≤(x5_1:Int):=of_decide_eq_true (by first | (with_reducible assumption) | assumption);have q11:(x5_1:Int) < ((x0_1.length:Int):Int):=of_decide_eq_true (by first | (with_reducible assumption) | assumption);obtain ⟨ce11,hcl11,hM11,hcc11,hfr11⟩:=Kd.R_elem HO_0.out z107 (x5_1:Int) p11 q11;obtain rfl:=k107_openM hM11;have hx11_0:w22.cell? ⟨go5,(x5_1:Int).toNat * 5,none⟩=some (.int .i64 ((rd_T107 y172 x5_1).f0)):=hcc11 0 _ rfl;have hx11_1:w22.cell? ⟨go5,(x5_1:Int).toNat * 5+1,none⟩=some (.int .i64 ((rd_T107 y172 x5_1).f1)):=hcc11 1 _ rfl;have hx11_2:w22.cell? ⟨go5,(x5_1:Int).toNat * 5+2,none⟩=some (.string ((rd_T107 y172 x5_1).f2)):=hcc11 2 _ rfl;have hx11_3:w22.cell? ⟨go5,(x5_1:Int).toNat * 5+3,none⟩=some (.string ((rd_T107 y172 x5_1).f3)):=hcc11 3 _ rfl;have hx11_4:w22.cell? ⟨go5,(x5_1:Int).toNat * 5+4,none⟩=some (.int .i64 ((rd_T107 y172 x5_1).f4)):=hcc11 4 _ rfl;have hf11_0:w22.frozen? ⟨go5,(x5_1:Int).toNat * 5,none⟩=false:=hfr11 0;have hf11_1:w22.frozen? ⟨go5,(x5_1:Int).toNat * 5+1,none⟩=false:=hfr11 1;have hf11_2:w22.frozen? ⟨go5,(x5_1:Int).toNat * 5+2,none⟩=false:=hfr11 2;have hf11_3:w22.frozen? ⟨go5,(x5_1:Int).toNat * 5+3,none⟩=false:=hfr11 3;have hf11_4:w22.frozen? ⟨go5,(x5_1:Int).toNat * 5+4,none⟩=false:=hfr11 4;clear hcl11 hcc11 hfr11 hM11;replace p11:=eq_true p11;replace q11:=eq_true q11;have HX23:=Aside0.mk (show Kd.R k107 107 w22 w0.heap.size (fun k_=>(P0_ k_∨w.heap.size≤k_)) (.slice (some ⟨go5,0,none⟩) x0_1.length co12) y172 from (by (with_reducible repeat (first | apply Kd.R_alloc | apply Kd.R_drewN | apply Kd.R_drew));exact HO_0.out));obtain ⟨ce23,hcl23,hM23,hcc23,hfr23⟩:=Kd.R_elem HX23.out z107 (x5_1:Int) (of_decide_eq_true (by first | (with_reducible assumption) | assumption)) (by have h_:(x5_1:Int) < ((x0_1.length:Int):Int):=of_decide_eq_true (by first | (with_reducible assumption) | assumption);first | exact h_ | (have e_:=(Kd.R_reads' HO_0.out).1;omega) | simpa using h_);obtain rfl:=k107_openM hM23;have HP23:=Kd.R_seg HX23.out (x5_1:Int) (of_decide_eq_true (by first | (with_reducible assumption) | assumption)) (by have h_:(x5_1:Int) < ((x0_1.length:Int):Int):=of_decide_eq_true (by first | (with_reducible assumption) | assumption);first | exact h_ | (have e_:=(Kd.R_reads' HO_0.out).1;omega) | simpa using h_) (seg:=[.int .i64 (wrap64 ((wrap64 ((wrap64 ((wrap64 (x1_1+1))+1))+1))+1))]) (j:=4) hcl23 hcc23 (show 5≤5 from by decide) (x':=(⟨(rd_T107 y172 x5_1).f0,(rd_T107 y172 x5_1).f1,(rd_T107 y172 x5_1).f2,(rd_T107 y172 x5_1).f3,wrap64 ((wrap64 ((wrap64 ((wrap64 (x1_1+1))+1))+1))+1)⟩:S107)) (k107_mkM _ _ _ (⟨(rd_T107 y172 x5_1).f0,(rd_T107 y172 x5_1).f1,(rd_T107 y172 x5_1).f2,(rd_T107 y172 x5_1).f3,wrap64 ((wrap64 ((wrap64 ((wrap64 (x1_1+1))+1))+1))+1)⟩:S107) ) (fun _ hk=>hk);have hx23_4:=hcc23 4 _ rfl;(try simp only [show (k107).sz=5 from rfl,Nat.mul_one,Nat.add_zero] at hx23_4);have hf23_4:=hfr23 4;(try simp only [show (k107).sz=5 from rfl,Nat.mul_one,Nat.add_zero] at hf23_4);clear hcl23 hcc23 hfr23 hM23) | ((with_reducible refine gate_store (t:=3) (p:=46) rfl ?_);refine store_event (t:=3) (p:=46) (v:=?vo_w24) (w1:=(w22.setCell ⟨go5,(x5_1:Int).toNat * 5+4,none⟩ (.int .i64 (wrap64 ((wrap64 ((wrap64 ((wrap64 (x1_1+1))+1))+1))+1))))) ?hg ?ho ?hn ?hr ?_;(case ho=>rfl);(case hg=>rfl);(case hn=>rfl);(case hr=>first | (go_simp;done) | (go_simp;rfl));intro w24 hw;have hg:w22.grownBy w24 (some go5):=(by rw [hw];exact HP23.2);have hp_:Kd.R k107 107 w24 w0.heap.size (fun k_=>(P0_ k_∨w.heap.size≤k_)) (.slice (some ⟨go5,0,none⟩) x0_1.length co12) y173:=(by rw [hw,Ny173.out];exact HP23.1);clear HP23;have n0_:=Aside0.mk (hp_);have n1_:=Aside0.mk ((by rw [hw];exact below_set (HB.out) GB5.out:Below w0.heap.size w0 w24));have n2_:=Aside0.mk (Kept.of_grown (S:=(fun k_=>P0_ k_)) hg (by repeat (first | (with_reducible first | exact HK.out | apply Kept.alloc | apply Kept.drewN | apply Kept.drew) | exact HK.out)) (fun k_ e_=>(HO_0.out.1 k_ e_)));clear HO_0;clear HB;clear HK;have HO_0:=n0_;have HB:=n1_;have HK:=n2_;clear n0_ n1_ n2_;clear hg hw hp_))
     go_roundg k1
     case measure=>have:=HK1.out;omega
     case rel=>exact ⟨(y173),(wrap64 ((wrap64 ((wrap64 ((wrap64 ((wrap64 (x1_1+1))+1))+1))+1))+1)),(wrap64 (x5_1+1)),(by first | rfl | (simp;done) | (simp [*];done)),(by first | rfl | (simp;done) | (simp [*];done)),H',⟨by have:=HK1.out;omega⟩,⟨by (with_reducible repeat (first | apply Kd.R_alloc | apply Kd.R_drewN | apply Kd.R_drew));exact HO_0.out⟩,⟨by repeat (first | (with_reducible first | exact HK.out | apply Kept.alloc | apply Kept.drewN | apply Kept.drew) | exact HK.out)⟩,⟨by repeat (first | (with_reducible first | exact HB.out | apply below_alloc | apply pw_below_drewN | apply below_drew1) | exact HB.out)⟩⟩
    ·rw [if_neg c4] at H
     exact absurd H (by simp)
   ·rw [if_neg c3] at H
    have c3b0:decide (x5_1 < (x0_1.length:Int))=false:=decide_eq_false c3
    clear c3
    simp only [Option.some.injEq,Prod.mk.injEq] at H
    obtain ⟨rfl,rfl⟩:=H
    obtain ⟨Ao25,co25,eo25⟩:=Kd.R_slice HO_0.out
    subst eo25
    go_wp2
    go_ret
    exact ⟨by first | rfl | (simp [errW_none,errW_some] <;> rfl) | (simp [*,errW_none,errW_some] <;> rfl),by (with_reducible repeat (first | apply Kd.R_alloc | apply Kd.R_drewN | apply Kd.R_drew));exact HO_0.out,by repeat (first | (with_reducible first | exact HB.out | apply below_alloc | apply pw_below_drewN | apply below_drew1) | exact HB.out),by repeat (first | (with_reducible first | exact HK.out | apply Kept.alloc | apply Kept.drewN | apply Kept.drew) | exact HK.out)⟩
def laws_markValue.f (k:Nat) (l0_0:List (S107)) (a1:Int):Option (Int×(List (S107))):=(laws_markNodeS.f k l0_0 a1).bind fun bt175=>(some (bt175.1,bt175.2))
set_option maxHeartbeats 8000000 in
set_option maxRecDepth 100000 in
theorem laws_markValue.calls (k:Nat) (P0_0_:Nat→Prop) (u9000_:Value) (l0_0:List (S107)) (a1:Int) (r1:Int) (r2:List (S107)) (w0 w:World) (hB:Below w0.heap.size w0 w) (ho0_0:Kd.R k107 107 w w0.heap.size P0_0_ u9000_ l0_0) (h:laws_markValue.f k l0_0 a1=some (r1,r2)) :
  Calls Tryz.prog 21 #[.agg #[u9000_],.int .i64 a1] w fun e w'=>e=.returned (.int .i64 r1)∧Kd.R k107 107 w' w0.heap.size (fun k_=>(P0_0_ k_∨w.heap.size≤k_)) u9000_ r2∧Below w0.heap.size w0 w'∧Kept w w' (fun k_=>P0_0_ k_):=by
 have hu31:=Tryz.underlying31
 have HO0_0:=Aside0.mk (show Kd.R k107 107 w w0.heap.size (fun k_=>(P0_0_ k_∨w.heap.size≤k_)) u9000_ l0_0 from Kd.R_mono ho0_0 (fun k_ hk=>(.inl hk)))
 have HK:=Aside0.mk (Kept.refl w (fun k_=>P0_0_ k_))
 have HW0:=Aside0.mk hB.size
 have HB:=Aside0.mk hB
 clear hB
 have H:((laws_markNodeS.f k l0_0 a1).bind fun bt175=>(some (bt175.1,bt175.2)))=some (r1,r2):=h
 clear h
 replace H:=Option.bind_eq_some_iff.mp H
 obtain ⟨⟨t175,t176⟩,A30,H⟩:=H
 replace H:(some (t175,t176))=some (r1,r2):=H
 have A3:=Aside0.mk A30
 clear A30
 simp only [Option.some.injEq,Prod.mk.injEq] at H
 obtain ⟨rfl,rfl⟩:=H
 obtain ⟨Ao4,co4,eo4⟩:=Kd.R_slice HO0_0.out
 subst eo4
 go_enter Tryz.func21,Tryz.ntmps21
 go_wp2_with (first | ((with_reducible refine gate_dst (N:=2) rfl ?_);refine box_event ?hg (N:=2) ?hd (cs:=#[.slice Ao4 l0_0.length co4]) (t:=31) ?hr ?_;(case hd=>rfl);(case hg=>rfl);(case hr=>first | (go_simp;done) | (go_simp;rfl));intro gb174 hg w5 hbox hb;have n0_:=Aside0.mk (Kd.R_below (by (with_reducible repeat (first | apply Kd.R_alloc | apply Kd.R_drewN | apply Kd.R_drew));exact HO0_0.out) hb);have n1_:=Aside0.mk (Kept.below (S:=(fun k_=>P0_0_ k_)) (by repeat (first | (with_reducible first | exact HK.out | apply Kept.alloc | apply Kept.drewN | apply Kept.drew) | exact HK.out)) hb);have n2_:=Aside0.mk (below_step (by repeat (first | (with_reducible first | exact HB.out | apply below_alloc | apply pw_below_drewN | apply below_drew1) | exact HB.out)) hb);have n3_:=Aside0.mk (hbox);have n4_:=Aside0.mk ((by rw [hg];exact (by first | exact HK.out.1 | exact (show Kept w _ (fun k_=>P0_0_ k_) from by repeat (first | (with_reducible first | exact HK.out | apply Kept.alloc | apply Kept.drewN | apply Kept.drew) | exact HK.out)).1):w.heap.size≤gb174));have n5_:=Aside0.mk ((by rw [hg];exact (below_size (by repeat (first | (with_reducible first | exact HB.out | apply below_alloc | apply pw_below_drewN | apply below_drew1) | exact HB.out))):w0.heap.size≤gb174));clear HO0_0;clear HK;clear HB;have HO0_0:=n0_;have HK:=n1_;have HB:=n2_;have BK174:=n3_;have GW174:=n4_;have GE174:=n5_;clear n0_ n1_ n2_ n3_ n4_ n5_;clear hb hbox hg;have hcz6_0:w5.cell? ⟨gb174,0,none⟩=some (.slice Ao4 l0_0.length co4):=(blk_cell BK174.out 0).trans rfl;have hfz6_0:=blk_frozen BK174.out 0) | ((with_reducible refine gate_callee (f:=72) rfl ?_);refine goesL_ (some 8) rfl rfl Tryz.func72 (by kernel_rfl) rfl #[.slice Ao4 l0_0.length co4,.int .i64 a1] rfl (by (try simp only [List.map_toArray,List.map_cons,List.map_nil]);first | done | rfl | (simp only [List.length_drop,List.length_take];rfl)) ?_;(with_reducible refine (laws_markNodeS.calls k (fun k_=>some k_=(.slice Ao4 l0_0.length co4:Value).ownBlock) (.slice Ao4 l0_0.length co4) l0_0 a1 t175 t176 w0 _ ?side1 ?side2 A3.out).mono ?_);(case side1=>repeat (first | (with_reducible first | exact HB.out | apply below_alloc | apply pw_below_drewN | apply below_drew1 | refine below_set ?_ GE174.out) | exact HB.out));(case side2=>exact Kd.R_tight rfl HO0_0.out);rintro e w7 ⟨rfl,hy0,hb,hkp⟩;refine ⟨_,rfl,?_⟩;have n0_:=Aside0.mk (Kd.R_reok rfl hy0 (fun k_ e_=>HO0_0.out.1 k_ e_));have n1_:=Aside0.mk (blk_kept (by (with_reducible repeat (first | refine blk_drewN ?_ _ | refine blk_drew ?_ | refine blk_alloc ?_ _));exact BK174.out) hkp (fun hs_=>(fun e_=>(Kd.R_ne HO0_0.out BK174.out (by decide)) e_) hs_));have n2_:=Aside0.mk (Kept.then_ (S:=(fun k_=>P0_0_ k_)) (by repeat (first | (with_reducible first | exact HK.out | apply Kept.alloc | apply Kept.drewN | apply Kept.drew | refine Kept.setCell ?_ (.inr GW174.out) _) | exact HK.out)) hkp (fun k_ hs_=>(fun e_=>(HO0_0.out.1 k_ e_.symm)) hs_));have n3_:=Aside0.mk (hb);clear HO0_0;clear BK174;clear HK;clear HB;have HO0_0:=n0_;have BK174:=n1_;have HK:=n2_;have HB:=n3_;clear n0_ n1_ n2_ n3_;(try clear hb);(try clear hkp);(try clear hy0)))
 go_ret
 exact ⟨by first | rfl | (simp [errW_none,errW_some] <;> rfl) | (simp [*,errW_none,errW_some] <;> rfl),by (with_reducible repeat (first | apply Kd.R_alloc | apply Kd.R_drewN | apply Kd.R_drew));exact HO0_0.out,by repeat (first | (with_reducible first | exact HB.out | apply below_alloc | apply pw_below_drewN | apply below_drew1 | refine below_set ?_ GE174.out) | exact HB.out),by repeat (first | (with_reducible first | exact HK.out | apply Kept.alloc | apply Kept.drewN | apply Kept.drew | refine Kept.setCell ?_ (.inr GW174.out) _) | exact HK.out)⟩
end Go.Proofs.YtoaafohpmhdjnaaGreatDoor.PVG
