import Derived.Test.YtoaafohpmhdjnaaGreatDoorGAYLE
import Derived.Test.YtoaafohpmhdjnaaGreatDoorGARYE
import Derived.Test.YtoaafohpmhdjnaaGreatDoorGAVWA
import Derived.Handy
import Derived.Shelf.Strings.SplitCore
import Derived.Test.YtoaafohpmhdjnaaGreatDoorGAYPA
import Derived.Test.YtoaafohpmhdjnaaGreatDoorGAShelf
/- spec.l3Get along a path: walked. Conditions: a right tree, short names. -/
namespace Go.Proofs.YtoaafohpmhdjnaaGreatDoor.VT
open Go.RowKit Go.Proofs.YtoaafohpmhdjnaaGreatDoor.RX Go.Proofs.YtoaafohpmhdjnaaGreatDoor.RY Go.Proofs.YtoaafohpmhdjnaaGreatDoor.PVG Go.Proofs.YtoaafohpmhdjnaaGreatDoorW.PrintWords Go.Proofs.YtoaafohpmhdjnaaGreatDoorW.PrintLast Go.Proofs.YtoaafohpmhdjnaaGreatDoorW.PrintMore
set_option linter.unusedVariables false
set_option linter.unusedSimpArgs false
theorem put5 {w:World} {g t:Nat} {a b c d e a' b' c' d' e':Value} (h:w.heap[g]? = some (.cells #[a,b,c,d,e] t (0,0))) :
    (((((w.setCell ⟨g,0,none⟩ a').setCell ⟨g,1,none⟩ b').setCell ⟨g,2,none⟩ c').setCell ⟨g,3,none⟩ d').setCell ⟨g,4,none⟩ e').heap[g]? = some (.cells #[a',b',c',d',e'] t (0,0)) :=
  blk_put (cs:=#[a',b',c',d',e]) (blk_put (cs:=#[a',b',c',d,e]) (blk_put (cs:=#[a',b',c,d,e]) (blk_put (cs:=#[a',b,c,d,e]) (blk_put (cs:=#[a,b,c,d,e]) h 0 _ rfl) 1 _ rfl) 2 _ rfl) 3 _ rfl) 4 _ rfl
theorem kR_openF {W:World} {ok:Nat→Prop} {x:S89} {cs:List Value} (h:Kd.FK k89 W ok x cs):∃ A3 c3 A4 c4,cs=[.int .i64 x.f0,.int .i64 x.f1,.string x.f2,.slice A3 x.f3.length c3,.slice A4 x.f4.length c4]∧x.f3.length≤c3∧Kd.F Kd.string W ok A3 x.f3.length x.f3∧x.f4.length≤c4∧Kd.F k89 W ok A4 x.f4.length x.f4:=by
 obtain ⟨A3,c3,A4,c4,rfl,l3,_,l4,_⟩:=k89_open (Kd.FK_now h)
 exact ⟨A3,c3,A4,c4,rfl,l3,(fun W' hW=>by obtain ⟨A3_,c3_,A4_,c4_,he,l3_,g3_,l4_,g4_⟩:=k89_open (h W' hW);injection (Option.some.inj (show some (Value.slice A3 x.f3.length c3)=some (Value.slice A3_ x.f3.length c3_) from congrArg (fun l=>l[3]?) he)) with ha_ _ _;rw [ha_];exact g3_),l4,(fun W' hW=>by obtain ⟨A3_,c3_,A4_,c4_,he,l3_,g3_,l4_,g4_⟩:=k89_open (h W' hW);injection (Option.some.inj (show some (Value.slice A4 x.f4.length c4)=some (Value.slice A4_ x.f4.length c4_) from congrArg (fun l=>l[4]?) he)) with ha_ _ _;rw [ha_];exact g4_)⟩
theorem rec_at {w:World} {P:Nat→Prop} {A4:Option Addr} {c4:Nat} {ks:List S89} (hs:Kd.V k89 89 w w.heap.size P (.slice A4 ks.length c4) ks) (i:Nat) (hi:i < ks.length) :
    ∃ ad a3 d3 a4 d4,A4=some ad∧(∀ W,Below w.heap.size w W→W.cell? (ad.add (i * 5))=some (.int .i64 (rd_T89 ks i).f0)∧W.cell? ⟨(ad.add (i * 5)).block,(ad.add (i * 5)).off+1,none⟩=some (.int .i64 (rd_T89 ks i).f1)∧W.cell? ⟨(ad.add (i * 5)).block,(ad.add (i * 5)).off+2,none⟩=some (.string (rd_T89 ks i).f2)∧W.cell? ⟨(ad.add (i * 5)).block,(ad.add (i * 5)).off+3,none⟩=some (.slice a3 (rd_T89 ks i).f3.length d3)∧W.cell? ⟨(ad.add (i * 5)).block,(ad.add (i * 5)).off+4,none⟩=some (.slice a4 (rd_T89 ks i).f4.length d4)) ∧
      Kd.V Kd.string 9 w w.heap.size P (.slice a3 (rd_T89 ks i).f3.length d3) (rd_T89 ks i).f3∧Kd.V k89 89 w w.heap.size P (.slice a4 (rd_T89 ks i).f4.length d4) (rd_T89 ks i).f4:=by
  obtain ⟨ad,a3,d3,a4,d4,e,h0,h1,h2,h3,h4,_⟩:=at_T89 (Kd.V_reads' hs).2.2 (i:Int) (by omega) (by omega)
  subst e
  obtain ⟨ce,hce,hMe,hcc⟩:=Kd.V_get hs z89 (i:Int) (by omega) (by omega)
  obtain ⟨ua3,uc3,ua4,uc4,rfl,ul3,ge3,ul4,ge4⟩:=kR_openF hMe
  have hv3:=hcc 3 _ rfl
  rw [add_field _ _ 3 (by omega)] at hv3
  replace hv3:=Option.some.inj (hv3.symm.trans h3)
  injection hv3 with q1 q2 q3
  subst q1 q3
  have hv4:=hcc 4 _ rfl
  rw [add_field _ _ 4 (by omega)] at hv4
  replace hv4:=Option.some.inj (hv4.symm.trans h4)
  injection hv4 with q1 q2 q3
  subst q1 q3
  have q:∀ {W a v},Below w.heap.size w W→w.cell? a=.some v→W.cell? a=.some v:=fun {W a v} hb e=>(hb.cell (World.block_lt_of_cell? w _ e)).trans e
  exact ⟨ad,_,_,_,_,rfl,fun W hb=>⟨q hb h0,q hb h1,q hb h2,q hb h3,q hb h4⟩,Kd.V_mk ul3 ge3,Kd.V_mk ul4 ge4⟩
theorem below_put5 {w0 w:World} {g:Nat} {a b c d e:Value} (h:Below w0.heap.size w0 w) (hg:w0.heap.size≤g) :
    Below w0.heap.size w0 (((((w.setCell ⟨g,0,none⟩ a).setCell ⟨g,1,none⟩ b).setCell ⟨g,2,none⟩ c).setCell ⟨g,3,none⟩ d).setCell ⟨g,4,none⟩ e) :=
  below_set (below_set (below_set (below_set (below_set h hg) hg) hg) hg) hg
theorem far5 {w:World} {g g2:Nat} {t:TypeId} {cs:Array Value} {a b c d e:Value} (h:w.heap[g]? = some (.cells cs t (0,0))) (hp:g≠g2) :
    (((((w.setCell ⟨g2,0,none⟩ a).setCell ⟨g2,1,none⟩ b).setCell ⟨g2,2,none⟩ c).setCell ⟨g2,3,none⟩ d).setCell ⟨g2,4,none⟩ e).heap[g]? = some (.cells cs t (0,0)) :=
  blk_far (blk_far (blk_far (blk_far (blk_far h hp _) hp _) hp _) hp _) hp _
structure TV (w:World) (P:Nat→Prop) (t:Tr) (A3 A4:Option Addr) (c3 c4:Nat):Prop where
  n:Kd.V Kd.string 9 w w.heap.size P (.slice A3 t.ns.length c3) t.ns
  k:Kd.V k89 89 w w.heap.size P (.slice A4 t.ks.length c4) (toSL t.ks)
def rec5 (t:Tr) (A3 A4:Option Addr) (c3 c4:Nat):Array Value:=#[.int .i64 t.kd,.int .i64 t.nu,.string t.tx,.slice A3 t.ns.length c3,.slice A4 t.ks.length c4]
theorem TV.kid {w:World} {P:Nat→Prop} {t:Tr} {A3 A4:Option Addr} {c3 c4:Nat} (h:TV w P t A3 A4 c3 c4) (i:Nat) (hi:i < t.ks.length) :
    ∃ ad a3 d3 a4 d4,A4=some ad∧(∀ W,Below w.heap.size w W→W.cell? (ad.add (i * 5))=some (.int .i64 t.ks[i].kd)∧W.cell? ⟨(ad.add (i * 5)).block,(ad.add (i * 5)).off+1,none⟩=some (.int .i64 t.ks[i].nu)∧W.cell? ⟨(ad.add (i * 5)).block,(ad.add (i * 5)).off+2,none⟩=some (.string t.ks[i].tx)∧W.cell? ⟨(ad.add (i * 5)).block,(ad.add (i * 5)).off+3,none⟩=some (.slice a3 t.ks[i].ns.length d3)∧W.cell? ⟨(ad.add (i * 5)).block,(ad.add (i * 5)).off+4,none⟩=some (.slice a4 t.ks[i].ks.length d4))∧TV w P t.ks[i] a3 a4 d3 d4:=by
  have hk:=h.k
  rw [←toSL_len t.ks] at hk
  obtain ⟨ad,a3,d3,a4,d4,e,hc,h3,h4⟩:=rec_at hk i (by rw [toSL_len];exact hi)
  have hx:rd_T89 (toSL t.ks) (i:Int)=toS t.ks[i]:=rd_toS (List.getElem?_eq_getElem hi)
  rw [hx] at hc h3 h4
  obtain ⟨u,hu⟩:∃ u,u=t.ks[i]:=⟨_,rfl⟩
  rw [←hu] at hc h3 h4 ⊢
  cases u with
  | mk kd nu tx ns ks =>
    have e4:(toS (.mk kd nu tx ns ks)).f4=toSL ks:=rfl
    rw [e4,toSL_len] at h4
    refine ⟨ad,a3,d3,a4,d4,e,fun W hb=>?_,⟨h3,h4⟩⟩
    have:=hc W hb
    rw [e4,toSL_len] at this
    exact this
structure Got3 (w:World) (P:Nat→Prop) (o:Option Tr) (e:Ending) (w':World):Prop where
  out:(match o with
    | none=>e=.returned (.tuple #[.agg #[.int .i64 0,.int .i64 0,.string ⟨#[]⟩,.slice none 0 0,.slice none 0 0],.bool false])
    | some u=>∃ A3 A4 c3 c4,e=.returned (.tuple #[.agg (rec5 u A3 A4 c3 c4),.bool true])∧TV w P u A3 A4 c3 c4)∧Below w.heap.size w w'
set_option maxRecDepth 100000 in
set_option maxHeartbeats 8000000 in
theorem l3Get_c (t:Tr) (names:List ByteArray) (A:Option Addr) (n c:Nat) (P:Nat→Prop) (A3 A4:Option Addr) (c3 c4:Nat) (w:World) (hw:wf t=true) (hc:cnt t≤1073741824) (hv:TV w P t A3 A4 c3 c4) (hl:names.length=n) (hn:n≤1073741824) (hr:Kd.C Kd.string w A n names) :
    Calls Tryz.prog 75 #[.agg #[.int .i64 t.kd,.int .i64 t.nu,.string t.tx,.slice A3 t.ns.length c3,.slice A4 t.ks.length c4],.slice A n c] w (Got3 w P (getT t names)):=by
  obtain ⟨W1,hW1⟩:∃ W1,W1=w.alloc (.cells #[.int .i64 t.kd,.int .i64 t.nu,.string t.tx,.slice A3 t.ns.length c3,.slice A4 t.ks.length c4] 89):=⟨_,rfl⟩
  obtain ⟨W2,hW2⟩:∃ W2,W2=W1.alloc (.cells #[.int .i64 0,.int .i64 0,.string ⟨#[]⟩,.slice none 0 0,.slice none 0 0] 89):=⟨_,rfl⟩
  obtain ⟨gb,hgb⟩:∃ g,g=w.heap.size:=⟨_,rfl⟩
  obtain ⟨g0,hg0⟩:∃ g,g=w.heap.size+1:=⟨_,rfl⟩
  have hs1:W1.heap.size=w.heap.size+1:=by rw [hW1];simp
  have HB1:=Aside0.mk (show Below w.heap.size w W1 by rw [hW1];exact below_alloc (Below.refl _ _) _)
  have HB2:=Aside0.mk (below_step HB1.out (show Below W1.heap.size W1 W2 by rw [hW2];exact below_alloc (Below.refl _ _) _))
  have KB:=Aside0.mk (blk_below (show W1.heap[gb]? = some (.cells #[.int .i64 t.kd,.int .i64 t.nu,.string t.tx,.slice A3 t.ns.length c3,.slice A4 t.ks.length c4] 89 (0,0)) by rw [hW1,hgb];exact blk_new w _) (show Below W1.heap.size W1 W2 by rw [hW2];exact below_alloc (Below.refl _ _) _))
  have K0:=Aside0.mk (show W2.heap[g0]? = some (.cells #[.int .i64 0,.int .i64 0,.string ⟨#[]⟩,.slice none 0 0,.slice none 0 0] 89 (0,0)) by rw [hW2,hg0,←hs1];exact blk_new W1 _)
  have GE:=Aside0.mk (show w.heap.size≤g0∧w.heap.size≤gb∧gb≠g0 by rw [hg0,hgb];omega)
  have HL:=Aside0.mk hl
  have HN:=Aside0.mk hn
  have NAM:=Aside0.mk (show ∀ i (hi:i < names.length),∃ ad,A=some ad∧w.cell? (ad.add i)=some (.string names[i]) from fun i hi=>by
    rw [←hl] at hr
    obtain ⟨ad,c,e,_,hK,hc⟩:=Kd.C_get hr nil_ (i:Int) (by omega) (by omega)
    obtain rfl:c=[.string (names.getD (i:Int).toNat nil_)]:=hK
    have h0:=hc 0 _ rfl
    have e1:(i:Int).toNat * Kd.string.sz+0=i:=by show (i:Int).toNat * 1+0=i;omega
    rw [e1,Int.toNat_natCast,List.getD_eq_getElem?_getD,List.getElem?_eq_getElem hi] at h0
    exact ⟨ad,e,h0⟩)
  have HV:=Aside0.mk (And.intro hv (And.intro hw hc))
  clear hl hn hr hv hw hc
  go_enter Tryz.func75,Tryz.ntmps75
  go_upto_region 1 with fail
  rw [←hW1,←hW2,←hg0,←hgb]
  clear hW1 hW2 hg0 hgb hs1
  go_wp2
  go_loopg [11] n (fun m v11 W=>∃ (i:Nat) (u:Tr) (B3 B4:Option Addr) (d3 d4:Nat),v11=.int .i64 (i:Int)∧Aside0 (i+m=n)∧Aside0 (TV w P u B3 B4 d3 d4∧wf u=true∧cnt u≤1073741824)∧Aside0 (getT t names=getT u (names.drop i))∧Aside0 (Below w.heap.size w W)∧Aside0 (W.heap[gb]? = some (.cells #[.int .i64 u.kd,.int .i64 u.nu,.string u.tx,.slice B3 u.ns.length d3,.slice B4 u.ks.length d4] 89 (0,0)))∧Aside0 (W.heap[g0]? = some (.cells #[.int .i64 0,.int .i64 0,.string ⟨#[]⟩,.slice none 0 0,.slice none 0 0] 89 (0,0))))
  case atStart=>exact ⟨0,t,A3,A4,c3,c4,rfl,⟨by omega⟩,HV,⟨by rw [List.drop_zero]⟩,HB2,KB,K0⟩
  case round =>
    obtain ⟨i,u,B3,B4,d3,d4,rfl,HM,HU,HG,HB,HKB,HK0⟩:=hrel
    clear KB K0
    have y0:wr.cell? ⟨gb,0,none⟩=some (.int .i64 u.kd):=(blk_cell HKB.out 0).trans rfl
    have y1:wr.cell? ⟨gb,1,none⟩=some (.int .i64 u.nu):=(blk_cell HKB.out 1).trans rfl
    have y2:wr.cell? ⟨gb,2,none⟩=some (.string u.tx):=(blk_cell HKB.out 2).trans rfl
    have y3:wr.cell? ⟨gb,3,none⟩=some (.slice B3 u.ns.length d3):=(blk_cell HKB.out 3).trans rfl
    have y4:wr.cell? ⟨gb,4,none⟩=some (.slice B4 u.ks.length d4):=(blk_cell HKB.out 4).trans rfl
    cases gk with
    | zero =>
      have hlt:decide (i < n)=false:=decide_eq_false (by have:=HM.out;omega)
      have HG2:=Aside0.mk (show getT t names=some u by rw [HG.out,List.drop_of_length_le (by have:=HM.out;have:=HL.out;omega)];rfl)
      have z0:wr.cell? ⟨g0,0,none⟩=some (.int .i64 0):=(blk_cell HK0.out 0).trans rfl
      have z1:wr.cell? ⟨g0,1,none⟩=some (.int .i64 0):=(blk_cell HK0.out 1).trans rfl
      have z2:wr.cell? ⟨g0,2,none⟩=some (.string ⟨#[]⟩):=(blk_cell HK0.out 2).trans rfl
      have z3:wr.cell? ⟨g0,3,none⟩=some (.slice none 0 0):=(blk_cell HK0.out 3).trans rfl
      have z4:wr.cell? ⟨g0,4,none⟩=some (.slice none 0 0):=(blk_cell HK0.out 4).trans rfl
      have f0:=blk_frozen HK0.out 0
      have f1:=blk_frozen HK0.out 1
      have f2:=blk_frozen HK0.out 2
      have f3:=blk_frozen HK0.out 3
      have f4:=blk_frozen HK0.out 4
      go_wp2
      refine bodyPost_ret (results_ct rfl _ _ g0 89 _ (0,0) _ rfl (put5 HK0.out) Tryz.underlying89 rfl (by kernel_rfl)) rfl ?_
      exact ⟨by rw [HG2.out];exact ⟨⟨B3,B4,d3,d4,rfl,HU.out.1⟩,below_put5 HB.out GE.out.1⟩⟩
    | succ m =>
      have hi:i < names.length:=by have:=HM.out;have:=HL.out;omega
      have hin:decide (i < n)=true:=decide_eq_true (by have:=HL.out;omega)
      have hi2:i < n:=by have:=HL.out;omega
      have b1:(i:Int)≤1073741824:=by have:=HN.out;omega
      obtain ⟨ad,rfl,kn⟩:=NAM.out i hi
      obtain ⟨s,hss⟩:∃ s,s=names[i]:=⟨_,rfl⟩
      rw [←hss] at kn
      have ks:wr.cell? (ad.add i)=some (.string s):=(HB.out.cell (World.block_lt_of_cell? w _ kn)).trans kn
      have HD:=Aside0.mk (show names.drop i=s :: names.drop (i+1) by rw [List.drop_eq_getElem_cons hi,hss])
      have PC:=Aside0.mk (l3At_t u HU.out.2.1 HU.out.2.2 s B3 B4 d3 d4 wr (Kd.C_below (Kd.V_reads' HU.out.1.n).2.2 HB.out))
      clear kn hss hi
      by_cases hneg:plT u s < 0
      · have HG2:=Aside0.mk (show getT t names=none by rw [HG.out,HD.out,getT_no hneg])
        obtain ⟨k,hk⟩:∃ k,k=plT u s:=⟨_,rfl⟩
        rw [←hk] at PC hneg
        have hneg2:decide (k < 0)=true:=decide_eq_true hneg
        clear hk hneg
        go_wp2_with (first | (go_at_call 120;(with_reducible refine PC.out.mono ?_);rintro e w2 ⟨rfl,hb⟩;have B2:=Aside0.mk (below_step HB.out hb);have K2:=Aside0.mk (blk_below HK0.out hb);have z0:w2.cell? ⟨g0,0,none⟩=some (.int .i64 0):=(blk_cell K2.out 0).trans rfl;have z1:w2.cell? ⟨g0,1,none⟩=some (.int .i64 0):=(blk_cell K2.out 1).trans rfl;have z2:w2.cell? ⟨g0,2,none⟩=some (.string ⟨#[]⟩):=(blk_cell K2.out 2).trans rfl;have z3:w2.cell? ⟨g0,3,none⟩=some (.slice none 0 0):=(blk_cell K2.out 3).trans rfl;have z4:w2.cell? ⟨g0,4,none⟩=some (.slice none 0 0):=(blk_cell K2.out 4).trans rfl;have f0:=blk_frozen K2.out 0;have f1:=blk_frozen K2.out 1;have f2:=blk_frozen K2.out 2;have f3:=blk_frozen K2.out 3;have f4:=blk_frozen K2.out 4;clear hb))
        refine bodyPost_ret (results_ct rfl _ _ g0 89 _ (0,0) _ rfl (put5 K2.out) Tryz.underlying89 rfl (by kernel_rfl)) rfl ?_
        exact ⟨by rw [HG2.out];exact ⟨rfl,below_put5 B2.out GE.out.1⟩⟩
      · obtain ⟨k,hk⟩:∃ k:Nat,plT u s=(k:Int):=⟨(plT u s).toNat,by omega⟩
        have hkl:=plT_lt HU.out.2.1 k hk
        have HG2:=Aside0.mk (show getT t names=getT u.ks[k] (names.drop (i+1)) by rw [HG.out,HD.out,getT_yes k hk hkl])
        rw [hk] at PC
        obtain ⟨a4,E3,e3,E4,e4,rfl,hcell,hTV⟩:=HU.out.1.kid k hkl
        have HC:=Aside0.mk hcell
        have HT3:=Aside0.mk hTV
        have HW2:=Aside0.mk (And.intro (wf_kid HU.out.2.1 (List.getElem_mem hkl)) (Nat.le_trans (cnt_kid (List.getElem_mem hkl)) HU.out.2.2))
        obtain ⟨u2,hu2⟩:∃ u2,u2=u.ks[k]:=⟨_,rfl⟩
        rw [←hu2] at HG2 HC HT3 HW2
        have hneg2:decide ((k:Int) < 0)=false:=decide_eq_false (by omega)
        have b2:(k:Int)≤1073741824:=by have:=cnt_ks u;have:=HU.out.2.2;omega
        have hki:(k:Int) < (u.ks.length:Int):=by omega
        clear hcell hTV hk hneg hu2
        go_wp2_with (first | (go_at_call 120;(with_reducible refine PC.out.mono ?_);rintro e w2 ⟨rfl,hb⟩;have B2:=Aside0.mk (below_step HB.out hb);have K2:=Aside0.mk (blk_below HK0.out hb);have KB2:=Aside0.mk (blk_below HKB.out hb);obtain ⟨x0,x1,x2,x3,x4⟩:=HC.out w2 B2.out;have q0:w2.cell? ⟨gb,0,none⟩=some (.int .i64 u.kd):=(blk_cell KB2.out 0).trans rfl;have q1:w2.cell? ⟨gb,1,none⟩=some (.int .i64 u.nu):=(blk_cell KB2.out 1).trans rfl;have q2:w2.cell? ⟨gb,2,none⟩=some (.string u.tx):=(blk_cell KB2.out 2).trans rfl;have q3:w2.cell? ⟨gb,3,none⟩=some (.slice B3 u.ns.length d3):=(blk_cell KB2.out 3).trans rfl;have q4:w2.cell? ⟨gb,4,none⟩=some (.slice (some a4) u.ks.length d4):=(blk_cell KB2.out 4).trans rfl;have f0:=blk_frozen KB2.out 0;have f1:=blk_frozen KB2.out 1;have f2:=blk_frozen KB2.out 2;have f3:=blk_frozen KB2.out 3;have f4:=blk_frozen KB2.out 4;clear hb))
        go_roundg m
        · exact ⟨i+1,u2,E3,E4,e3,e4,by push_cast;rfl,⟨by have:=HM.out;omega⟩,⟨⟨HT3.out,HW2.out.1,HW2.out.2⟩⟩,HG2,⟨below_put5 B2.out GE.out.2.1⟩,⟨put5 KB2.out⟩,⟨far5 K2.out (fun e=>GE.out.2.2 e.symm)⟩⟩
        · exact Nat.lt_succ_self _
end Go.Proofs.YtoaafohpmhdjnaaGreatDoor.VT
namespace Go.Proofs.YtoaafohpmhdjnaaGreatDoor.RY
open Go.RowKit Go.Proofs.YtoaafohpmhdjnaaGreatDoor.RX Go.Proofs.YtoaafohpmhdjnaaGreatDoor.PVG Go.Proofs.YtoaafohpmhdjnaaGreatDoorW.PrintWords Go.Proofs.YtoaafohpmhdjnaaGreatDoorW.PrintLast Go.Proofs.YtoaafohpmhdjnaaGreatDoorW.PrintMore
set_option linter.unusedVariables false
set_option linter.unusedSimpArgs false
set_option maxRecDepth 100000 in
set_option maxHeartbeats 1600000 in
theorem escAll_c (w00:World) (b g c:Nat) (s:ByteArray) (w:World) (hb:w.heap[b]? = some (.cells #[.int .u32 0,.int .i32 0,.int .u32 0,.nilIface,.slice (some ⟨g,0,none⟩) 4 c] 204 (0,0))) (hA:Kd.C Kd.string w (some ⟨g,0,none⟩) 4 oldE) (hg:g≠b) (hB:Below w00.heap.size w00 w) (hbase:w00.heap.size≤b) (hs:s.size≤1073741824) :
    Calls Tryz.prog 123 #[.pointer (some ⟨b,0,none⟩),.string s] w fun e w'=>e=.returned (.string ⟨(escL s.data.toList).toArray⟩)∧Below w00.heap.size w00 w':=by
  have hmf:∀ (fn:Fn) (first cap:Array Value) (w:World),(Instr.makeFunc fn first cap).run Tryz.prog w=.ok (.func fn first cap) w:=fun _ _ _ _=>rfl
  have HB:=Aside0.mk hb
  have HA:=Aside0.mk hA
  clear hb hA
  go_enter Tryz.func123,Tryz.ntmps123
  go_upto_region 2 with (first | (go_at_call 163;refine (mkE.do_ w00 b g c _ HB.out HA.out hg hB hbase).mono ?_;rintro e w2 ⟨rfl,HQ⟩))
  obtain ⟨gB,hR,hK⟩:=HQ.out.out
  have HR:=Aside0.mk hR
  obtain ⟨k1,k2,g2,c1,c2,c3,hat⟩:=hR.at_
  have HAT:=Aside0.mk hat
  have d3:w2.cell? ⟨b,3,none⟩=some (.iface 258 (.pointer (some ⟨gB,0,none⟩))):=(blk_cell hK 3).trans rfl
  clear hR hat hK HB HA
  go_wp2_with (first | (go_at_call 294;refine (replaceE_c gB k1 k2 g2 c1 c2 c3 s _ HAT.out hs).mono ?_;rintro e w4 ⟨rfl,hb4⟩;have B4:=Aside0.mk (below_step HR.out.bel hb4);clear hb4))
  go_ret
  exact ⟨rfl,B4.out⟩
def escB (s:ByteArray):ByteArray:=⟨(escL s.data.toList).toArray⟩
set_option maxRecDepth 100000 in
set_option maxHeartbeats 1600000 in
theorem escaped_c (s:ByteArray) (w:World) (hs:s.size≤1073741824) :
    Calls Tryz.prog 116 #[.string s] w fun e w'=>e=.returned (.string (escB s))∧Below w.heap.size w w':=by
  go_enter Tryz.func116,Tryz.ntmps116
  go_wp2_with (first | (go_at_call 122;obtain ⟨W1,hW1⟩:∃ W1,W1=w.alloc (.cells #[.string ⟨#[126]⟩,.string ⟨#[126,48]⟩,.string ⟨#[47]⟩,.string ⟨#[126,49]⟩] 9):=⟨_,rfl⟩;have B1:=Aside0.mk (show Below w.heap.size w W1 by rw [hW1];exact below_alloc (Below.refl _ _) _);have C1:=Aside0.mk (show Kd.C Kd.string W1 (some ⟨w.heap.size,0,none⟩) 4 oldE by rw [hW1];exact C_four _ _ _ _ w);rw [←hW1];clear hW1;refine (newG_c oldE rfl w.heap.size 4 W1 C1.out).mono ?_;rintro e w2 ⟨b,g,c,rfl,h1,h2,h3,h4,h5⟩;have Q:=Aside0.mk (And.intro h1 (And.intro h2 (And.intro h3 (And.intro (below_step B1.out h4) (Nat.le_trans B1.out.size h5)))));clear h1 h2 h3 h4 h5 C1) | (go_at_call 123;refine (escAll_c w b g c s w2 Q.out.1 Q.out.2.1 Q.out.2.2.1 Q.out.2.2.2.1 Q.out.2.2.2.2 hs).mono ?_;rintro e w3 ⟨rfl,hb3⟩;have B3:=Aside0.mk hb3;clear hb3))
  go_ret
  exact ⟨rfl,B3.out⟩
end Go.Proofs.YtoaafohpmhdjnaaGreatDoor.RY
namespace Go.Proofs.YtoaafohpmhdjnaaGreatDoor.VT
open Go.RowKit Go.Proofs.YtoaafohpmhdjnaaGreatDoor.RY Go.Proofs.YtoaafohpmhdjnaaGreatDoor.PVG Go.Proofs.YtoaafohpmhdjnaaGreatDoorW.PrintWords Go.Proofs.YtoaafohpmhdjnaaGreatDoorW.PrintLast Go.Proofs.YtoaafohpmhdjnaaGreatDoorW.PrintMore
set_option linter.unusedVariables false
set_option linter.unusedSimpArgs false
theorem genSplit47 (s:ByteArray) (w:World) (hs:s.size≤60) :
    Calls Tryz.prog 162 #[.string s,.string ⟨#[47]⟩,.int .i64 0,.int .i64 (-1)] w fun e w'=>e=.returned (.slice (some ⟨w.heap.size,0,none⟩) (Lib.splitB ⟨#[47]⟩ 0 (Lib.countB s ⟨#[47]⟩) s).length (Lib.countB s ⟨#[47]⟩+1))∧w'=w.alloc (.cells (Lib.cellsOf (Lib.splitB ⟨#[47]⟩ 0 (Lib.countB s ⟨#[47]⟩) s) (Lib.countB s ⟨#[47]⟩+1)) 9):=by
  have hle:=Lib.countB_le ⟨#[47]⟩ (by decide) s.size s (Nat.le_refl _)
  have c:=Any.strings_genSplit_core Tryz.lays221 (by kernel_rfl) s ⟨#[47]⟩ 0 (-1) (Lib.countB s ⟨#[47]⟩+1) w (by omega) (by decide) (Nat.zero_le _)
    (fun x c hx=>by
      have h:=Tryz.strings_Index_one x 47 (w.alloc (.cells c 9))
      rw [←Lib.index_one] at h
      exact h)
    (by
      have h:=Tryz.strings_Count_one s 47 w
      rw [show Lib.countByte s.data.toList 47=Lib.countB s ⟨#[47]⟩ from (Lib.count_one 47 s.data.toList).symm] at h
      exact h) (by decide) (by decide) (by rw [if_pos (by decide)];omega)
  rw [Nat.add_sub_cancel] at c
  exact c
theorem split47_c (s:ByteArray) (w:World) (hs:s.size≤60):∃ ps:List ByteArray,ps.map (·.data.toList)=cutL s.data.toList ∧
    Calls Tryz.prog 121 #[.string s,.string ⟨#[47]⟩] w fun e w'=>e=.returned (.slice (some ⟨w.heap.size,0,none⟩) ps.length ps.length)∧w'=w.alloc (.cells (ps.map Value.string).toArray 9):=by
  have c:=genSplit47 s w hs
  have hlen:=Lib.splitB_all ⟨#[47]⟩ (by decide) 0 _ s rfl
  have hp:=pieces s
  obtain ⟨ps,hps⟩:∃ ps,ps=Lib.splitB ⟨#[47]⟩ 0 (Lib.countB s ⟨#[47]⟩) s:=⟨_,rfl⟩
  rw [←hps] at c hlen hp
  rw [←hlen,Lib.cellsOf_full] at c
  have C:=Aside0.mk c
  refine ⟨ps,hp,?_⟩
  clear hp hps hlen c
  go_enter Tryz.func121,Tryz.ntmps121
  go_wp2_with (first | (go_at_call 162;(with_reducible refine C.out.mono ?_);rintro e w2 ⟨rfl,rfl⟩))
  go_ret
  exact ⟨rfl,rfl⟩
end Go.Proofs.YtoaafohpmhdjnaaGreatDoor.VT
