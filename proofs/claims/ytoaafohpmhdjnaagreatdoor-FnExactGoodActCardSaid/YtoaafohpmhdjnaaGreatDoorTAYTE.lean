import Derived.Test.YtoaafohpmhdjnaaGreatDoorTAYTC
import Derived.Test.YtoaafohpmhdjnaaGreatDoorTAPVGxB
import Derived.Test.YtoaafohpmhdjnaaGreatDoorTAPVGxA
/- The law FnExactGoodAct walked. Conditions: the powers of ten stand. -/
namespace Go.Proofs.YtoaafohpmhdjnaaGreatDoor.VT
open Go.RowKit Go.Proofs.YtoaafohpmhdjnaaGreatDoor.RX Go.Proofs.YtoaafohpmhdjnaaGreatDoor.RY Go.Proofs.YtoaafohpmhdjnaaGreatDoor.PVG Go.Proofs.YtoaafohpmhdjnaaGreatDoorW.PrintWords Go.Proofs.YtoaafohpmhdjnaaGreatDoorW.PrintLast Go.Proofs.YtoaafohpmhdjnaaGreatDoorW.PrintMore
set_option linter.unusedVariables false
set_option linter.unusedSimpArgs false
theorem szAct_c (kd:Int) (p:ByteArray) {l:List S136} (hf:Fits l) (hp:p.size≤maxLen):∃ r:Int,(0≤r→Small (tov l)∧l.length≤1048576∧p.size≤1048576)∧∀ (A:Option Addr) (c:Nat) (w:World),Kd.C k136 w A l.length l→l.length≤c →
  Calls Tryz.prog 29 #[.agg #[.int .i64 kd,.string p,.slice A l.length c],.int .i64 1048576] w fun e w'=>e=.returned (.int .i64 r)∧Below w.heap.size w w':=by
 have hw:wrap64 (1048576 - (p.size:Int))=1048576 - p.size:=by unfold maxLen at hp;unfold wrap64;omega
 by_cases h1:1048576 - (p.size:Int) < 0
 ·exact ⟨-1,fun h=>by omega,fun A c w hr hc=>laws_szAct.calls 0 kd p A c l 1048576 (-1) w hr hc (by unfold laws_szAct.f;rw [hw,if_pos h1])⟩
 ·obtain ⟨r,e,h2,h3⟩:=sz_evn hf (1048576 - p.size) (by omega)
  obtain ⟨k,hk⟩:=e.rounds
  refine ⟨if r < 0 then -1 else r,fun h=>?_,fun A c w hr hc=>laws_szAct.calls k kd p A c l 1048576 _ w hr hc (by unfold laws_szAct.f;rw [hw,if_neg h1,hk,Option.bind_some];split <;> rfl)⟩
  have hr0:0≤r:=by
   by_cases hh:r < 0
   ·rw [if_pos hh] at h;omega
   ·omega
  obtain ⟨h4,h5⟩:=h3 hr0
  exact ⟨h4,h5,by omega⟩
theorem toAct_c (kd:Int) (p:ByteArray) {l:List S136} (hl:l.length≤1048576) (A:Option Addr) (c:Nat) (w:World) (hr:Kd.C k136 w A l.length l) (hc:l.length≤c) :
  Calls Tryz.prog 31 #[.agg #[.int .i64 kd,.string p,.slice A l.length c]] w fun e w'=>∃ B d,e=.returned (.agg #[.int .i64 kd,.string p,.slice B (tov l).length d])∧(tov l).length≤d∧Kd.C k107 w' B (tov l).length (tov l)∧Below w.heap.size w w':=by
 obtain ⟨k,hk⟩:=(to_ev hl).rounds
 refine (laws_toAct.calls k kd p A c l kd p (tov l) w hr hc (by unfold laws_toAct.f;rw [hk];rfl)).mono fun e w' h=>?_
 obtain ⟨v2,rfl,ho,hb⟩:=h
 obtain ⟨B,d,rfl⟩:=Kd.R_slice ho
 exact ⟨B,d,rfl,(Kd.R_reads' ho).2.1,(Kd.R_reads' ho).2.2,hb⟩
theorem eqAct_c (kd:Int) (p:ByteArray) {l:List S107} (hl:l.length≤1048576) (A:Option Addr) (c:Nat) (B:Option Addr) (d:Nat) (w:World) (hr:Kd.C k107 w A l.length l) (hc:l.length≤c) (hs:Kd.C k107 w B l.length l) (hd:l.length≤d) :
  Calls Tryz.prog 33 #[.agg #[.int .i64 kd,.string p,.slice A l.length c],.agg #[.int .i64 kd,.string p,.slice B l.length d]] w fun e w'=>e=.returned (.bool true)∧Below w.heap.size w w':=by
 obtain ⟨k,hk⟩:=(eq_ev hl).rounds
 exact laws_eqAct.calls k kd p A c l kd p B d l true w hr hc hs hd (by unfold laws_eqAct.f;rw [if_pos rfl,if_pos rfl,hk];rfl)
set_option maxRecDepth 100000 in
set_option maxHeartbeats 4000000 in
theorem act_law (kd:Int) (p:ByteArray) (A:Option Addr) (c:Nat) (l:List S136) (w:World) (ht:HT w) (hf:Fits l) (hp:p.size≤maxLen) (hr:Kd.C k136 w A l.length l) (hc:l.length≤c) :
  Calls Tryz.prog 6 #[.agg #[.int .i64 kd,.string p,.slice A l.length c]] w fun e w'=>e=.returned (.bool true)∧Below w.heap.size w w':=by
 have HTT:=Aside0.mk ht
 have HR:=Aside0.mk hr
 have HC:=Aside0.mk hc
 obtain ⟨r,hr2,hz⟩:=szAct_c kd p hf hp
 have HZ:=Aside0.mk hz
 have HB1:=Aside0.mk (below_alloc (Below.refl w.heap.size w) (.cells #[.int .i64 kd,.string p,.slice A l.length c] 44))
 have K1:=Aside0.mk (blk_new w (.cells #[.int .i64 kd,.string p,.slice A l.length c] 44))
 clear ht hr hc hz hp
 cases hr0:decide (r < 0) with
 | true =>
  clear hr2
  go_enter Tryz.func6,Tryz.ntmps6
  go_wp2_with (first | (go_at_call 29;(with_reducible refine (HZ.out A c _ (Kd.C_alloc HR.out _) HC.out).mono ?_);rintro e w2 ⟨rfl,hb⟩;have HB2:=Aside0.mk (below_step HB1.out hb);clear hb))
  go_ret
  exact ⟨rfl,HB2.out⟩
 | false =>
  obtain ⟨hS,hL,hP⟩:=hr2 (by simpa using hr0)
  have SM:=Aside0.mk hS
  have LL:=Aside0.mk hL
  have LT:=Aside0.mk (show (tov l).length≤1048576 by rw [tov_len];exact hL)
  obtain ⟨g,hg⟩:∃ g,actV kd p (tov l)=g:=⟨_,rfl⟩
  have SC:=Aside0.mk (show ∀ (B:Option Addr) (d:Nat) (W:World),Kd.C k107 W B (tov l).length (tov l)→(tov l).length≤d→Calls Tryz.prog 30 #[.agg #[.int .i64 kd,.string p,.slice B (tov l).length d]] W fun e w'=>e=.returned (.bool g)∧Below W.heap.size W w' from
   fun B d W h1 h2=>by rw [←hg];exact goodAct_s kd p (tov l) B d W SM.out h1 h2)
  have IC:=Aside0.mk (show ∀ (B:Option Addr) (d:Nat) (W:World),Below w.heap.size w W→Kd.C k107 W B (tov l).length (tov l)→(tov l).length≤d→Calls Tryz.prog 32 #[.agg #[.int .i64 kd,.string p,.slice B (tov l).length d]] W fun e w'=>e=.returned (.bool g)∧Below W.heap.size W w' from
   fun B d W h0 h1 h2=>by rw [←hg];exact goodAct_c kd p (tov l) B d W (HTT.out.below h0) h1 h2)
  clear hS hL hr2 hg hP
  go_enter Tryz.func6,Tryz.ntmps6
  go_upto_region 5 with (first | (go_at_call 29;(with_reducible refine (HZ.out A c _ (Kd.C_alloc HR.out _) HC.out).mono ?_);rintro e w2 ⟨rfl,hb⟩;have HB2:=Aside0.mk (below_step HB1.out hb);have K2:=Aside0.mk (blk_below K1.out hb);have p0:w2.cell? ⟨w.heap.size,0,none⟩=some (.int .i64 kd):=(blk_cell K2.out 0).trans rfl;have p1:w2.cell? ⟨w.heap.size,1,none⟩=some (.string p):=(blk_cell K2.out 1).trans rfl;have p2:w2.cell? ⟨w.heap.size,2,none⟩=some (.slice A l.length c):=(blk_cell K2.out 2).trans rfl;clear hb))
  go_upto_region 6 with (first | (go_at_call 31;(with_reducible refine (toAct_c kd p LL.out A c _ (Kd.C_below HR.out HB2.out) HC.out).mono ?_);rintro e w3 ⟨B3,d3,rfl,e3,R3,hb⟩;have E3:=Aside0.mk e3;have RR3:=Aside0.mk R3;have HB3:=Aside0.mk (below_step HB2.out hb);have K3:=Aside0.mk (blk_below K2.out hb);clear e3 R3 hb) | (go_at_call 30;(with_reducible refine (SC.out B3 d3 _ RR3.out E3.out).mono ?_);rintro e w4 ⟨rfl,hb⟩;have HB4:=Aside0.mk (below_step HB3.out hb);have K4:=Aside0.mk (blk_below K3.out hb);have q0:w4.cell? ⟨w.heap.size,0,none⟩=some (.int .i64 kd):=(blk_cell K4.out 0).trans rfl;have q1:w4.cell? ⟨w.heap.size,1,none⟩=some (.string p):=(blk_cell K4.out 1).trans rfl;have q2:w4.cell? ⟨w.heap.size,2,none⟩=some (.slice A l.length c):=(blk_cell K4.out 2).trans rfl;clear hb))
  clear p0 p1 p2
  go_upto_region 7 with (first | (go_at_call 31;(with_reducible refine (toAct_c kd p LL.out A c _ (Kd.C_below HR.out HB4.out) HC.out).mono ?_);rintro e w5 ⟨B5,d5,rfl,e5,R5,hb⟩;have E5:=Aside0.mk e5;have RR5:=Aside0.mk R5;have HB5:=Aside0.mk (below_step HB4.out hb);have K5:=Aside0.mk (blk_below K4.out hb);clear e5 R5 hb))
  obtain ⟨W6,hW6⟩:∃ W6,W6=w5.alloc (.cells #[.int .i64 kd,.string p,.slice B5 (tov l).length d5] 48):=⟨_,rfl⟩
  obtain ⟨gb,hgb⟩:∃ gb,gb=w5.heap.size:=⟨_,rfl⟩
  have hal:Below w5.heap.size w5 W6:=by rw [hW6];exact below_alloc (Below.refl _ _) _
  have HB6:=Aside0.mk (below_step HB5.out hal)
  have RR6:=Aside0.mk (Kd.C_below RR5.out hal)
  have K6:=Aside0.mk (blk_below K5.out hal)
  have G6:=Aside0.mk (show W6.heap[gb]? = some (.cells #[.int .i64 kd,.string p,.slice B5 (tov l).length d5] 48 (0,0)) by rw [hW6,hgb];exact blk_new w5 _)
  rw [←hW6,←hgb]
  clear hal hW6 hgb q0 q1 q2
  have p0:W6.cell? ⟨gb,0,none⟩=some (.int .i64 kd):=(blk_cell G6.out 0).trans rfl
  have p1:W6.cell? ⟨gb,1,none⟩=some (.string p):=(blk_cell G6.out 1).trans rfl
  have p2:W6.cell? ⟨gb,2,none⟩=some (.slice B5 (tov l).length d5):=(blk_cell G6.out 2).trans rfl
  go_upto_region 8 with (first | (go_at_call 32;(with_reducible refine (IC.out B5 d5 _ HB6.out RR6.out E5.out).mono ?_);rintro e w7 ⟨rfl,hb⟩;have HB7:=Aside0.mk (below_step HB6.out hb);have RR7:=Aside0.mk (Kd.C_below RR6.out hb);have K7:=Aside0.mk (blk_below K6.out hb);have G7:=Aside0.mk (blk_below G6.out hb);clear hb))
  clear p0 p1 p2
  cases g
  all_goals
   go_upto_region 10 with fail
   refine start_ (n:=5) (S:=fun w'=>w'.cell? ⟨gb,0,none⟩=some (.int .i64 kd)∧w'.cell? ⟨gb,1,none⟩=some (.string p)∧w'.cell? ⟨gb,2,none⟩=some (.slice B5 (tov l).length d5)∧w'.cell? ⟨w.heap.size,0,none⟩=some (.int .i64 kd)∧w'.cell? ⟨w.heap.size,1,none⟩=some (.string p)∧w'.cell? ⟨w.heap.size,2,none⟩=some (.slice A l.length c)) (ds:=[]) #[false,false,false,false,false] (by kernel_rfl) rfl rfl ⟨(blk_cell (blk_below G7.out (below_drew1 (Below.refl _ _))) 0).trans rfl,(blk_cell (blk_below G7.out (below_drew1 (Below.refl _ _))) 1).trans rfl,(blk_cell (blk_below G7.out (below_drew1 (Below.refl _ _))) 2).trans rfl,(blk_cell (blk_below K7.out (below_drew1 (Below.refl _ _))) 0).trans rfl,(blk_cell (blk_below K7.out (below_drew1 (Below.refl _ _))) 1).trans rfl,(blk_cell (blk_below K7.out (below_drew1 (Below.refl _ _))) 2).trans rfl⟩ (fun hHeld=>?_)
   have HBd:=Aside0.mk (below_drew1 HB7.out)
   have RRd:=Aside0.mk (Kd.C_below RR7.out (below_drew1 (Below.refl _ _)))
   have Kd7:=Aside0.mk (blk_below K7.out (below_drew1 (Below.refl _ _)))
   have Gd7:=Aside0.mk (blk_below G7.out (below_drew1 (Below.refl _ _)))
   generalize w7.drew=wd at HBd RRd Kd7 Gd7 hHeld ⊢
   refine take_ (i:=0) (N:=(some 22)) (v:=?_) (a':=?_) #[true,false,false,false,false] rfl rfl (by kernel_rfl) (fun _ _ _ h=>h) (Or.inl ⟨by rfl,?_⟩) hHeld ?_ ?_
   rotate_left
   ·rintro w' ⟨s0,s1,s2,s3,s4,s5⟩
    go_simp
    with_reducible rfl
   rotate_left
   ·simp only [Act.put,List.setIfInBounds_toArray,List.set_cons_zero,List.set_cons_succ,i64_w,i32_w]
    rfl
   refine take_ (i:=1) (N:=(some 23)) (v:=?_) (a':=?_) #[true,true,false,false,false] rfl rfl (by kernel_rfl) (fun _ _ _ h=>h) (Or.inl ⟨by rfl,?_⟩) hHeld ?_ ?_
   rotate_left
   ·rintro w' ⟨s0,s1,s2,s3,s4,s5⟩
    go_simp
    with_reducible rfl
   rotate_left
   ·simp only [Act.put,List.setIfInBounds_toArray,List.set_cons_zero,List.set_cons_succ,i64_w,i32_w]
    rfl
   refine one_ (i:=2) (N:=(some 24)) #[true,true,true,false,false] rfl rfl (by kernel_rfl) (by decide) (fun K hK=>?_)
   refine goes_ Tryz.func31 (by kernel_rfl) rfl #[.agg #[.int .i64 kd,.string p,.slice A l.length c]] (by rfl) rfl rfl (by (try simp only [List.map_toArray,List.map_cons,List.map_nil]);first | done | rfl) ?_
   refine (toAct_c kd p LL.out A c _ (Kd.C_below HR.out HBd.out) HC.out).mono ?_
   rintro e w8 ⟨B8,d8,rfl,e8,R8,hb⟩
   refine ⟨_,rfl,?_⟩
   have E8:=Aside0.mk e8
   have RR8:=Aside0.mk R8
   have HB8:=Aside0.mk (below_step HBd.out hb)
   have RX8:=Aside0.mk (Kd.C_below RRd.out hb)
   have K8:=Aside0.mk (blk_below Kd7.out hb)
   have G8:=Aside0.mk (blk_below Gd7.out hb)
   clear e8 R8 hb
   refine hK.out _ _ ⟨(blk_cell G8.out 0).trans rfl,(blk_cell G8.out 1).trans rfl,(blk_cell G8.out 2).trans rfl,(blk_cell K8.out 0).trans rfl,(blk_cell K8.out 1).trans rfl,(blk_cell K8.out 2).trans rfl⟩ (fun hHeld=>?_)
   clear hK K
   refine norm_ (a':=?_) ?_ ?_
   rotate_left
   ·show Act.put _ (some 24) _=_
    simp only [Act.put,List.setIfInBounds_toArray,List.set_cons_zero,List.set_cons_succ,i64_w,i32_w]
    rfl
   refine one_ (i:=3) (N:=(some 25)) #[true,true,true,true,false] rfl rfl (by kernel_rfl) (by decide) (fun K hK=>?_)
   refine goes_ Tryz.func33 (by kernel_rfl) rfl #[.agg #[.int .i64 kd,.string p,.slice B5 (tov l).length d5],.agg #[.int .i64 kd,.string p,.slice B8 (tov l).length d8]] (by rfl) rfl rfl (by (try simp only [List.map_toArray,List.map_cons,List.map_nil]);first | done | rfl) ?_
   refine (eqAct_c kd p LT.out B5 d5 B8 d8 _ RX8.out E5.out RR8.out E8.out).mono ?_
   rintro e w9 ⟨rfl,hb⟩
   refine ⟨_,rfl,?_⟩
   have HB9:=Aside0.mk (below_step HB8.out hb)
   have K9:=Aside0.mk (blk_below K8.out hb)
   have G9:=Aside0.mk (blk_below G8.out hb)
   clear hb
   refine hK.out _ _ ⟨(blk_cell G9.out 0).trans rfl,(blk_cell G9.out 1).trans rfl,(blk_cell G9.out 2).trans rfl,(blk_cell K9.out 0).trans rfl,(blk_cell K9.out 1).trans rfl,(blk_cell K9.out 2).trans rfl⟩ (fun hHeld=>?_)
   clear hK K
   refine norm_ (a':=?_) ?_ ?_
   rotate_left
   ·show Act.put _ (some 25) _=_
    simp only [Act.put,List.setIfInBounds_toArray,List.set_cons_zero,List.set_cons_succ,i64_w,i32_w]
    rfl
   refine pure_ (i:=4) (N:=(some 26)) (v:=?_) (a':=?_) #[true,true,true,true,true] rfl rfl (by kernel_rfl) (fun _ _ _ h=>h) (Or.inl ⟨by rfl,?_⟩) ?_ ?_
   rotate_left
   ·intro w'
    go_simp
    with_reducible rfl
   rotate_left
   ·simp only [Act.put,List.setIfInBounds_toArray,List.set_cons_zero,List.set_cons_succ,i64_w,i32_w]
    rfl
   refine done_ (by kernel_rfl) ?_
   go_wp2
   go_ret
   exact ⟨rfl,HB9.out⟩
end Go.Proofs.YtoaafohpmhdjnaaGreatDoor.VT
