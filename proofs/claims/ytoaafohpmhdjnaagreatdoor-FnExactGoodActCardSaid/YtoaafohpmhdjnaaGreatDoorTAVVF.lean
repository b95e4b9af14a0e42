import Derived.Test.YtoaafohpmhdjnaaGreatDoorTAVK
import Derived.Test.YtoaafohpmhdjnaaGreatDoorTAVCB
import Derived.WalkLawsBesides
import Derived.Test.YtoaafohpmhdjnaaGreatDoorTAPVGx0
/- impl.valFrom, walked. Conditions: at most 2^30 nodes. -/
namespace Go.Proofs.YtoaafohpmhdjnaaGreatDoor.VT
open Go.RowKit Go.Proofs.YtoaafohpmhdjnaaGreatDoor.PVG Go.Proofs.YtoaafohpmhdjnaaGreatDoorW.PrintWords Go.Proofs.YtoaafohpmhdjnaaGreatDoorW.PrintLast Go.Proofs.YtoaafohpmhdjnaaGreatDoorW.PrintMore
set_option linter.unusedVariables false
set_option linter.unusedSimpArgs false
theorem info92:(Tryz.prog.info? 92).map (fun i=>(i.zero,i.size,i.bytes))=some (some (.pointer none),1,8):=by kernel_rfl
structure VF (w:World) (b8 g:Nat) (x:S107) (A3:Option Addr) (c3:Nat) (A4:Option Addr) (c4:Nat) (ns:List ByteArray) (ks:List Tr) (W:World):Prop where
 bel:Below w.heap.size w W
 g8:w.heap.size≤b8
 gg:w.heap.size≤g
 ne:b8≠g
 k8:W.heap[b8]? = some (.cells #[.int .i64 x.f0,.int .i64 x.f1,.string x.f2,.string x.f3,.int .i64 x.f4] 107 (0,0))
 kg:W.heap[g]? = some (.cells #[.int .i64 x.f0,.int .i64 x.f1,.string x.f2,.slice A3 ns.length c3,.slice A4 ks.length c4] 110 (0,0))
 r3:Kd.R Kd.string 9 W w.heap.size (fun j=>j≠g) (.slice A3 ns.length c3) ns
 r4:kP.R 92 W w.heap.size (fun j=>j≠g∧some j≠(Value.slice A3 ns.length c3).ownBlock) (.slice A4 ks.length c4) ks
section
variable {w W W':World} {b8 g:Nat} {x:S107} {A3 A4:Option Addr} {c3 c4:Nat} {ns:List ByteArray} {ks:List Tr}
theorem VF.below (h:VF w b8 g x A3 c3 A4 c4 ns ks W) (hb:Below W.heap.size W W'):VF w b8 g x A3 c3 A4 c4 ns ks W' :=
 ⟨below_step h.bel hb,h.g8,h.gg,h.ne,blk_below h.k8 hb,blk_below h.kg hb,Kd.R_below h.r3 hb,Kd.R_below h.r4 hb⟩
theorem VF.box (h:VF w b8 g x A3 c3 A4 c4 ns ks W):W.cell? ⟨b8,0,none⟩=some (.int .i64 x.f0):=(blk_cell h.k8 0).trans rfl
theorem VF.cells (h:VF w b8 g x A3 c3 A4 c4 ns ks W):W.cell? ⟨g,3,none⟩=some (.slice A3 ns.length c3)∧W.cell? ⟨g,4,none⟩=some (.slice A4 ks.length c4)∧W.frozen? ⟨g,3,none⟩=false∧W.frozen? ⟨g,4,none⟩=false :=
 ⟨(blk_cell h.kg 3).trans rfl,(blk_cell h.kg 4).trans rfl,blk_frozen h.kg 3,blk_frozen h.kg 4⟩
theorem lastLt_eq {ns:List ByteArray} (h:0 < ns.length) (s:ByteArray):lastLt ns s=lt (ns[ns.length - 1]'(by omega)) s:=by
 unfold lastLt
 rw [List.getLast?_eq_getElem?,List.getElem?_eq_getElem (by omega)]
theorem VF.last (h:VF w b8 g x A3 c3 A4 c4 ns ks W) (hn:0 < ns.length):∃ ad,A3=some ad∧W.cell? (ad.add (ns.length - 1))=some (.string (ns[ns.length - 1]'(by omega))):=by
 obtain ⟨_,_,hC⟩:=Kd.R_reads' h.r3
 obtain ⟨ad,c,e,_,hK,hc⟩:=Kd.C_get hC nil_ ((ns.length - 1:Nat):Int) (by omega) (by omega)
 obtain rfl:c=[.string (ns.getD ((ns.length - 1:Nat):Int).toNat nil_)]:=hK
 have h0:=hc 0 _ rfl
 have e1:((ns.length - 1:Nat):Int).toNat * Kd.string.sz+0=ns.length - 1:=by show _ * 1+0=_;omega
 rw [e1,List.getD_eq_getElem?_getD,Int.toNat_natCast,List.getElem?_eq_getElem (by omega)] at h0
 exact ⟨ad,e,h0⟩
theorem VF.fresh3 (h:VF w b8 g x A3 c3 A4 c4 ns ks W):∀ k,W.heap.size≤k→k≠g:=fun k hk e=>by
 have:=blk_lt h.kg
 omega
theorem VF.fresh4 (h:VF w b8 g x A3 c3 A4 c4 ns ks W):∀ k,W.heap.size≤k→k≠g∧some k≠(Value.slice A3 ns.length c3).ownBlock:=fun k hk=>⟨h.fresh3 k hk,fun e=>by
 obtain ⟨inner,ho⟩:=Kd.R_own h.r3
 have:=own_lt ho k e.symm
 omega⟩
theorem VF.name (h:VF w b8 g x A3 c3 A4 c4 ns ks W) {s:ByteArray} {A3':Option Addr} {c3':Nat} (ho:Kd.R Kd.string 9 W' w.heap.size (fun j=>j≠g) (.slice A3' (ns++[s]).length c3') (ns++[s])) (hb:Below w.heap.size W W') (hg:W.grownBy W' (Value.slice A3 ns.length c3).ownBlock)
  (hat:(Value.slice A3' (ns++[s]).length c3').ownBlock=(Value.slice A3 ns.length c3).ownBlock∨∃ b,(Value.slice A3' (ns++[s]).length c3').ownBlock=some b∧W.heap.size≤b) :
  VF w b8 g x A3' c3' A4 c4 (ns++[s]) ks (W'.setCell ⟨g,3,none⟩ (.slice A3' (ns.length+1) c3')):=by
 rw [show ns.length+1=(ns++[s]).length by simp]
 have k8:=blk_grown h.k8 hg (Kd.R_ne h.r3 h.k8 (by decide))
 have kg:=blk_grown h.kg hg (Kd.R_ne h.r3 h.kg (by decide))
 refine ⟨below_set (below_weaken h.bel (Nat.le_refl _) hb) h.gg,h.g8,h.gg,h.ne,blk_far k8 h.ne _,?_,Kd.R_far ho (fun _ hk=>hk) _,Kd.R_far (Kd.R_after h.r4 hg hat) (fun _ hk=>hk.1) _⟩
 have:=blk_set kg 3 (.slice A3' (ns++[s]).length c3')
 simpa using this
theorem part_far {X Y:Nat} {t:Tr} {cs:List Value} {row:Option Nat} (hM:kP.M W X (fun k=>X≤k∧k < Y) t cs) (hg:W.grownBy W' row) (hr:∀ k,row=some k→k < X):kP.M W' X (fun k=>X≤k∧k < Y) t cs :=
 Kd.M_grown hM hg (fun k hk e=>by have:=hr k e.symm;omega)
theorem part_set {X Y:Nat} {t:Tr} {cs:List Value} (hM:kP.M W X (fun k=>X≤k∧k < Y) t cs) {g:Nat} (hg:g < X) (i:Nat) (u:Value):kP.M (W.setCell ⟨g,i,none⟩ u) X (fun k=>X≤k∧k < Y) t cs :=
 Kd.M_far hM (fun k hk e=>by simp at e;omega) u
theorem part_fresh {X:Nat} {t:Tr} {cs:List Value} (hM:kP.M W X (fun _=>True) t cs):kP.M W X (fun k=>X≤k∧k < W.heap.size) t cs:=kP.M_mono (fun k hk=>⟨hk.2.1,hk.2.2.1⟩) (kP.M_bound hM)
theorem VF.lt3 (h:VF w b8 g x A3 c3 A4 c4 ns ks W):∀ k,(Value.slice A3 ns.length c3).ownBlock=some k→k < W.heap.size:=fun k e=>by
 obtain ⟨inner,ho⟩:=Kd.R_own h.r3
 exact own_lt ho k e
theorem VF.lt4 (h:VF w b8 g x A3 c3 A4 c4 ns ks W):∀ k,(Value.slice A4 ks.length c4).ownBlock=some k→k < W.heap.size:=fun k e=>by
 obtain ⟨inner,ho⟩:=Kd.R_own h.r4
 exact own_lt ho k e
theorem VF.part (h:VF w b8 g x A3 c3 A4 c4 ns ks W) {t:Tr} {A4':Option Addr} {c4':Nat} (ho:kP.R 92 W' w.heap.size (fun j=>j≠g∧some j≠(Value.slice A3 ns.length c3).ownBlock) (.slice A4' (ks++[t]).length c4') (ks++[t])) (hb:Below w.heap.size W W') (hg:W.grownBy W' (Value.slice A4 ks.length c4).ownBlock) :
  VF w b8 g x A3 c3 A4' c4' ns (ks++[t]) (W'.setCell ⟨g,4,none⟩ (.slice A4' (ks.length+1) c4')):=by
 rw [show ks.length+1=(ks++[t]).length by simp]
 have k8:=blk_grown h.k8 hg (Kd.R_ne h.r4 h.k8 (by decide))
 have kg:=blk_grown h.kg hg (Kd.R_ne h.r4 h.kg (by decide))
 have r3:Kd.R Kd.string 9 W' w.heap.size (fun j=>j≠g) (.slice A3 ns.length c3) ns:=by
  cases hq:(Value.slice A4 ks.length c4).ownBlock with
  | none=>rw [hq] at hg;exact Kd.R_grown h.r3 hg (fun _ _=>by simp)
  | some b =>
   obtain ⟨inner,hw⟩:=Kd.R_own h.r4
   obtain ⟨cs,hcs⟩:=own_typed hw b hq
   rw [hq] at hg
   exact Kd.R_mono (Kd.R_grown (Kd.R_types h.r3 hcs (by decide)) hg (fun k hk e=>hk.2 (by cases e;rfl))) (fun _ hk=>hk.1)
 refine ⟨below_set (below_weaken h.bel (Nat.le_refl _) hb) h.gg,h.g8,h.gg,h.ne,blk_far k8 h.ne _,?_,Kd.R_far r3 (fun _ hk=>hk) _,Kd.R_far ho (fun _ hk=>hk.1) _⟩
 have:=blk_set kg 4 (.slice A4' (ks++[t]).length c4')
 simpa using this
theorem VF.tree (h:VF w b8 g x A3 c3 A4 c4 ns ks W):kP.M W w.heap.size (fun _=>True) (.mk x.f0 x.f1 x.f2 ns ks) [.pointer (some ⟨g,0,none⟩)] :=
 kP_mkM W w.heap.size (fun _=>True) (.mk x.f0 x.f1 x.f2 ns ks) trivial h.gg h.kg (Kd.R_mono h.r3 (fun _ hk=>⟨trivial,hk⟩)) (Kd.R_mono h.r4 (fun _ hk=>⟨trivial,hk.1⟩))
end
def VPost (l:List S107) (k:Nat) (up:Int) (w:World) (e:Ending) (w':World):Prop :=
 Below w.heap.size w w'∧((par l k up=none∧e=.returned (.tuple #[.pointer none,.int .i64 0]))∨∃ t e2 g,par l k up=some (t,e2)∧e=.returned (.tuple #[.pointer (some ⟨g,0,none⟩),.int .i64 (e2:Nat)])∧kP.M w' w.heap.size (fun _=>True) t [.pointer (some ⟨g,0,none⟩)])
theorem VPost.none {l:List S107} {k:Nat} {up:Int} {w w':World} (h:par l k up=none) (hb:Below w.heap.size w w'):VPost l k up w (.returned (.tuple #[.pointer none,.int .i64 0])) w':=⟨hb,.inl ⟨h,rfl⟩⟩
theorem VPost.some {l:List S107} {k:Nat} {up:Int} {w w':World} {t:Tr} {e2 g:Nat} (h:par l k up=.some (t,e2)) (hb:Below w.heap.size w w') (hM:kP.M w' w.heap.size (fun _=>True) t [.pointer (.some ⟨g,0,.none⟩)]):VPost l k up w (.returned (.tuple #[.pointer (.some ⟨g,0,.none⟩),.int .i64 (e2:Nat)])) w':=⟨hb,.inr ⟨t,e2,g,h,rfl,hM⟩⟩
theorem node_at {w W:World} {A:Option Addr} {l:List S107} (hr:Kd.C k107 w A l.length l) (hb:Below w.heap.size w W) (i:Nat) (hi:i < l.length):∃ ad,A=.some ad∧W.cell? (ad.add (i * 5))=.some (.int .i64 (nd l i).f0)∧W.cell? ⟨(ad.add (i * 5)).block,(ad.add (i * 5)).off+1,.none⟩=.some (.int .i64 (nd l i).f1)∧W.cell? ⟨(ad.add (i * 5)).block,(ad.add (i * 5)).off+2,.none⟩=.some (.string (nd l i).f2)∧W.cell? ⟨(ad.add (i * 5)).block,(ad.add (i * 5)).off+3,.none⟩=.some (.string (nd l i).f3)∧W.cell? ⟨(ad.add (i * 5)).block,(ad.add (i * 5)).off+4,.none⟩=.some (.int .i64 (nd l i).f4):=by
 obtain ⟨ad,e,h0,h1,h2,h3,h4⟩:=at_T107 hr (i:Int) (by omega) (by omega)
 have q:∀ {a:Addr} {v:Value},w.cell? a=.some v→W.cell? a=.some v:=fun {a v} e=>(hb.cell (World.block_lt_of_cell? w _ e)).trans e
 exact ⟨ad,e,q h0,q h1,q h2,q h3,q h4⟩
theorem VPost.no {l:List S107} {k:Nat} {up:Int} {w:World} {xs:Array Value} (h:Calls Tryz.prog 113 xs w (VPost l k up w)) (hp:par l k up=.none):Calls Tryz.prog 113 xs w fun e w'=>e=.returned (.tuple #[.pointer .none,.int .i64 0])∧Below w.heap.size w w' :=
 h.mono fun e w' hq=>by
  obtain ⟨hb,⟨_,rfl⟩ | ⟨t,e2,g,h2,_⟩⟩:=hq
  ·exact ⟨rfl,hb⟩
  ·rw [hp] at h2;cases h2
theorem VPost.yes {l:List S107} {k:Nat} {up:Int} {w:World} {xs:Array Value} {t:Tr} {e2:Nat} (h:Calls Tryz.prog 113 xs w (VPost l k up w)) (hp:par l k up=.some (t,e2)):Calls Tryz.prog 113 xs w fun e w'=>∃ g,e=.returned (.tuple #[.pointer (.some ⟨g,0,.none⟩),.int .i64 (e2:Nat)])∧Below w.heap.size w w'∧kP.M w' w.heap.size (fun _=>True) t [.pointer (.some ⟨g,0,.none⟩)] :=
 h.mono fun e w' hq=>by
  obtain ⟨hb,⟨h2,_⟩ | ⟨t',e2',g,h2,rfl,hM⟩⟩:=hq
  ·rw [hp] at h2;cases h2
  ·rw [hp] at h2
   cases h2
   exact ⟨g,rfl,hb,hM⟩
theorem parL_stop {l:List S107} {k e:Nat} {kd:Int} {ns:List ByteArray} {ks:List Tr} (h:¬(e < l.length∧holdsB kd=true∧(nd l e).f4=(k:Int))):parL l k kd e ns ks=.some (ns,ks,e):=by
 rw [parL]
 split
 ·rename_i he
  rw [getD_at he]
  split
  ·rename_i hh
   simp at hh
   exact absurd ⟨he,hh.1,hh.2⟩ h
  ·rfl
 ·rfl
theorem parL_go {l:List S107} {k e:Nat} {kd:Int} {ns:List ByteArray} {ks:List Tr} (he:e < l.length) (hh:holdsB kd=true) (hu:(nd l e).f4=(k:Int)):parL l k kd e ns ks=(if kd==7&&!(lastLt ns (nd l e).f3) then .none else match par l e kd with
   | .none=>.none
   | .some (t,e')=>if h2:e < e' then parL l k kd e' (if kd==7 then ns++[(nd l e).f3] else ns) (ks++[t]) else .none):=by
 rw [parL,dif_pos he]
 simp only [getD_at he,hh,hu,Bool.true_and,beq_self_eq_true,if_true]
 cases par l e kd with
 | none=>rfl
 | some r=>cases r;rfl
theorem parL_bad {l:List S107} {k e:Nat} {kd:Int} {ns:List ByteArray} {ks:List Tr} (he:e < l.length) (hh:holdsB kd=true) (hu:(nd l e).f4=(k:Int)) (h7:kd=7) (hb:lastLt ns (nd l e).f3=false):parL l k kd e ns ks=.none:=by
 rw [parL_go he hh hu,if_pos (by rw [h7,hb];rfl)]
theorem parL_no {l:List S107} {k e:Nat} {kd:Int} {ns:List ByteArray} {ks:List Tr} (he:e < l.length) (hh:holdsB kd=true) (hu:(nd l e).f4=(k:Int)) (hb:kd=7→lastLt ns (nd l e).f3=true) (hp:par l e kd=.none):parL l k kd e ns ks=.none:=by
 rw [parL_go he hh hu,if_neg (by
   by_cases h:kd=7
   ·rw [hb h];simp
   ·simp [h]),hp]
theorem parL_next {l:List S107} {k e e':Nat} {kd:Int} {ns:List ByteArray} {ks:List Tr} {t:Tr} (he:e < l.length) (hh:holdsB kd=true) (hu:(nd l e).f4=(k:Int)) (hb:kd=7→lastLt ns (nd l e).f3=true) (hp:par l e kd=.some (t,e')):parL l k kd e ns ks=parL l k kd e' (if kd==7 then ns++[(nd l e).f3] else ns) (ks++[t]):=by
 rw [parL_go he hh hu,if_neg (by
   by_cases h:kd=7
   ·rw [hb h];simp
   ·simp [h]),hp]
 exact dif_pos (par_lt _ _ _ _ _ (Nat.le_refl _) hp)
set_option maxRecDepth 100000 in
set_option maxHeartbeats 8000000 in
theorem valFrom_c (l:List S107) (A:Option Addr) (c:Nat) (hl:l.length≤1073741824) (hc:l.length≤c):∀ (n k:Nat) (up:Int) (w:World),l.length - k≤n→k < l.length→Kd.C k107 w A l.length l→Calls Tryz.prog 113 #[.slice A l.length c,.int .i64 (k:Int),.int .i64 up] w (VPost l k up w):=by
 intro n
 induction n with
 | zero=>intro k up w h1 h2;omega
 | succ n ih =>
  intro k up w hn hk hr
  have IH:=Aside0.mk ih
  have HN:=Aside0.mk hn
  have HL:=Aside0.mk hl
  have HR:=Aside0.mk hr
  clear ih hn hl
  obtain ⟨ad,rfl,n0,n1,n2,n3,n4⟩:=node_at hr (Below.refl _ _) k hk
  clear hr
  have hk1:(k:Int)≤1073741824:=by have:=HL.out;omega
  go_enter Tryz.func113,Tryz.ntmps113
  go_upto_region 2 with (fail)
  have K1:=Aside0.mk (blk_new w (.cells #[.int .i64 (nd l k).f0,.int .i64 (nd l k).f1,.string (nd l k).f2,.string (nd l k).f3,.int .i64 (nd l k).f4] 107))
  have B1:=Aside0.mk (below_alloc (Below.refl w.heap.size w) (.cells #[.int .i64 (nd l k).f0,.int .i64 (nd l k).f1,.string (nd l k).f2,.string (nd l k).f3,.int .i64 (nd l k).f4] 107))
  obtain ⟨W1,hW1⟩:∃ W1,W1=w.alloc (.cells #[.int .i64 (nd l k).f0,.int .i64 (nd l k).f1,.string (nd l k).f2,.string (nd l k).f3,.int .i64 (nd l k).f4] 107):=⟨_,rfl⟩
  obtain ⟨b8,hb8⟩:∃ b8,b8=w.heap.size:=⟨_,rfl⟩
  rw [←hW1,←hb8] at K1
  rw [←hW1] at B1
  rw [←hW1,←hb8]
  have G8:=Aside0.mk (show w.heap.size≤b8 by omega)
  clear hW1 hb8 n0 n1 n2 n3 n4
  have k0:W1.cell? ⟨b8,0,none⟩=some (.int .i64 (nd l k).f0):=(blk_cell K1.out 0).trans rfl
  have k1:W1.cell? ⟨b8,1,none⟩=some (.int .i64 (nd l k).f1):=(blk_cell K1.out 1).trans rfl
  have k2:W1.cell? ⟨b8,2,none⟩=some (.string (nd l k).f2):=(blk_cell K1.out 2).trans rfl
  have k3:W1.cell? ⟨b8,3,none⟩=some (.string (nd l k).f3):=(blk_cell K1.out 3).trans rfl
  have k4:W1.cell? ⟨b8,4,none⟩=some (.int .i64 (nd l k).f4):=(blk_cell K1.out 4).trans rfl
  cases eo:nodeOK (nd l k) up with
  | false =>
   go_wp2_with (first | (go_at_call 155;(with_reducible refine (nodeOK_c (nd l k) up _).mono ?_);rintro e w2 ⟨rfl,hb⟩;have B2:=Aside0.mk (below_step B1.out hb);clear hb))
   go_ret2
   exact VPost.none (by rw [par,dif_pos hk,getD_at hk,if_neg (by rw [eo];simp)]) B2.out
  | true =>
   have HP:=Aside0.mk (show par l k up=(parL l k (nd l k).f0 (k+1) [] []).map (fun r=>(Tr.mk (nd l k).f0 (nd l k).f1 (nd l k).f2 r.1 r.2.1,r.2.2)) by
    rw [par,dif_pos hk,getD_at hk,if_pos eo]
    cases parL l k (nd l k).f0 (k+1) [] [] <;> rfl)
   go_upto_region 4 with (first | (go_at_call 155;(with_reducible refine (nodeOK_c (nd l k) up _).mono ?_);rintro e w2 ⟨rfl,hb⟩;have B2:=Aside0.mk (below_step B1.out hb);have K2:=Aside0.mk (blk_below K1.out hb);clear hb))
   clear k0 k1 k2 k3 k4 B1 K1 eo
   have k0:w2.cell? ⟨b8,0,none⟩=some (.int .i64 (nd l k).f0):=(blk_cell K2.out 0).trans rfl
   have k1:w2.cell? ⟨b8,1,none⟩=some (.int .i64 (nd l k).f1):=(blk_cell K2.out 1).trans rfl
   have k2:w2.cell? ⟨b8,2,none⟩=some (.string (nd l k).f2):=(blk_cell K2.out 2).trans rfl
   go_wp2
   have S0:=Aside0.mk (show VF w b8 w2.heap.size (nd l k) .none 0 .none 0 [] [] (w2.alloc (.cells #[.int .i64 (nd l k).f0,.int .i64 (nd l k).f1,.string (nd l k).f2,.slice .none 0 0,.slice .none 0 0] 110)) from ⟨below_alloc B2.out _,G8.out,below_size B2.out,by have:=blk_lt K2.out;omega,blk_alloc K2.out _,blk_new w2 _,Kd.R_nil _ _ _ _ _,Kd.R_nil _ _ _ _ _⟩)
   obtain ⟨W3,hW3⟩:∃ W3,W3=w2.alloc (.cells #[.int .i64 (nd l k).f0,.int .i64 (nd l k).f1,.string (nd l k).f2,.slice none 0 0,.slice none 0 0] 110):=⟨_,rfl⟩
   obtain ⟨g,hg⟩:∃ g,g=w2.heap.size:=⟨_,rfl⟩
   rw [←hW3,←hg] at S0 ⊢
   clear hW3 hg k0 k1 k2 B2 K2
   go_loopg [10] l.length (fun m v10 W=>∃ (e:Nat) (ns:List ByteArray) (ks:List Tr) (A3:Option Addr) (c3:Nat) (A4:Option Addr) (c4:Nat),v10=.int .i64 (e:Int)∧Aside0 (k < e∧e≤l.length∧l.length≤e+m∧ns.length≤e∧ks.length≤e)∧Aside0 (parL l k (nd l k).f0 e ns ks=parL l k (nd l k).f0 (k+1) [] [])∧Aside0 (VF w b8 g (nd l k) A3 c3 A4 c4 ns ks W))
   case atStart=>exact ⟨k+1,[],[],none,0,none,0,by first | rfl | go_num,⟨by simp;omega⟩,⟨rfl⟩,S0⟩
   case round =>
    clear S0 G8
    obtain ⟨e,ns,ks,A3,c3,A4,c4,rfl,HE,HQ,HS⟩:=hrel
    have k0:=HS.out.box
    have HK:=Aside0.mk hk
    have he0:=HE.out
    have he1:(e:Int)≤1073741824:=by have:=HL.out;omega
    clear hk
    have STOP:¬(e < l.length∧holdsB (nd l k).f0=true∧(nd l e).f4=(k:Int))→∀ W,VF w b8 g (nd l k) A3 c3 A4 c4 ns ks W→VPost l k up w (.returned (.tuple #[.pointer (some ⟨g,0,none⟩),.int .i64 (e:Int)])) W:=fun hs W hv =>
     VPost.some (by rw [HP.out,←HQ.out,parL_stop hs];rfl) hv.bel hv.tree
    have ST:=Aside0.mk STOP
    clear STOP
    cases eh:holdsB (nd l k).f0 with
    | false =>
     have EH:=Aside0.mk eh
     clear eh he0
     go_wp2_with (first | (go_at_call 156;(with_reducible refine (holds_c _ _ _ EH.out).mono ?_);rintro e w' ⟨rfl,⟨n_,rfl⟩⟩))
     go_ret2
     exact ST.out (by rw [EH.out];simp) _ (HS.out.below (pw_below_drewN (Below.refl _ _) _))
    | true =>
     have EH:=Aside0.mk eh
     clear eh
     by_cases hel:e < l.length
     ·obtain ⟨ad',ea,m0,m1,m2,m3,m4⟩:=node_at HR.out HS.out.bel e hel
      cases ea
      clear he0
      by_cases hu:(nd l e).f4=(k:Int)
      ·have hub:((nd l e).f4==(k:Int))=true:=by simp [hu]
       have HU:=Aside0.mk hu
       clear hu
       obtain ⟨m,rfl⟩:∃ m,gk=m+1:=⟨gk - 1,by have:=HE.out;omega⟩
       have HEL:=Aside0.mk hel
       obtain ⟨kc3,kc4,fz3,fz4⟩:=HS.out.cells
       go_upto_region 9 with (first | (go_at_call 156;(with_reducible refine (holds_c _ _ _ EH.out).mono ?_);rintro e w' ⟨rfl,⟨n_,rfl⟩⟩))
       have S4:=Aside0.mk (HS.out.below (pw_below_drewN (Below.refl _ _) n_))
       obtain ⟨W4,hW4⟩:∃ W4,W4=wr.drewN n_:=⟨_,rfl⟩
       rw [←hW4] at S4 ⊢
       clear hW4 HS k0 kc3 kc4 fz3 fz4 m0 m1 m2 m3 m4 ST hub hel
       go_cut [79] (fun v79 wc=>v79=.bool ((nd l k).f0==7&&!lastLt ns (nd l e).f3)∧Aside0 (VF w b8 g (nd l k) A3 c3 A4 c4 ns ks wc))
       case first=>as_aux_lemma =>
        have k0:=S4.out.box
        obtain ⟨kc3,kc4,fz3,fz4⟩:=S4.out.cells
        by_cases h7:(nd l k).f0=7
        ·have h7b:((nd l k).f0==7)=true:=by simp [h7]
         have H7:=Aside0.mk h7
         clear h7
         by_cases hns:0 < ns.length
         ·obtain ⟨ad3,ea,kl⟩:=S4.out.last hns
          have HLL:=Aside0.mk (lastLt_eq hns (nd l e).f3)
          obtain ⟨s,hs⟩:∃ s,s=ns[ns.length - 1]'(by omega):=⟨_,rfl⟩
          rw [←hs] at kl HLL
          clear hs
          subst ea
          have hn1:(ns.length:Int)≤1073741824:=by have:=HE.out;omega
          have hn2:1≤(ns.length:Int):=by omega
          have hn3:((ns.length:Int) - 1).toNat=ns.length - 1:=by omega
          have hn4:(ns.length:Int) - 1 < (ns.length:Int):=by omega
          have hn5:0≤(ns.length:Int) - 1:=by omega
          cases elt:lt s (nd l e).f3 with
          | false =>
           have elt':Op.bytesLess s.toList (nd l e).f3.toList=false:=elt
           clear elt
           go_wp2
           go_meet
           case rel=>exact ⟨by rw [HLL.out,h7b];show _=Value.bool (true&&!(Op.bytesLess s.toList (nd l e).f3.toList));rw [elt'];rfl,S4⟩
          | true =>
           have elt':Op.bytesLess s.toList (nd l e).f3.toList=true:=elt
           clear elt
           go_wp2
           go_meet
           case rel=>exact ⟨by rw [HLL.out,h7b];show _=Value.bool (true&&!(Op.bytesLess s.toList (nd l e).f3.toList));rw [elt'];rfl,S4⟩
         ·have hz:decide (0 < ns.length)=false:=decide_eq_false (by omega)
          have HNS:=Aside0.mk (show ns=[] by cases ns;rfl;simp at hns)
          clear hns
          go_wp2
          go_meet
          case rel=>exact ⟨by rw [HNS.out];simp [lastLt],S4⟩
        ·have h7b:((nd l k).f0==7)=false:=by simp [h7]
         clear h7
         go_wp2
         go_meet
         case rel=>exact ⟨by rw [h7b];rfl,S4⟩
       case rest=>as_aux_lemma =>
        clear S4
        obtain ⟨rfl,S5⟩:=hcut
        cases ebad:((nd l k).f0==7&&!lastLt ns (nd l e).f3) with
        | true =>
         have EB:=Aside0.mk ebad
         clear ebad
         go_wp2
         go_ret2
         have h1:=EB.out
         simp at h1
         exact VPost.none (by rw [HP.out,←HQ.out,parL_bad HEL.out EH.out HU.out h1.1 h1.2];rfl) S5.out.bel
        | false =>
         have HLT:=Aside0.mk (show (nd l k).f0=7→lastLt ns (nd l e).f3=true by intro h;rw [h] at ebad;simpa using ebad)
         clear ebad
         have k0:=S5.out.box
         have ih1:=fun W (hb:Below w.heap.size w W)=>IH.out e (nd l k).f0 W (by have:=HN.out;have:=HE.out;omega) HEL.out (Kd.C_below HR.out hb)
         have IH1:=Aside0.mk ih1
         clear ih1
         cases hp:par l e (nd l k).f0 with
         | none =>
          have HPN:=Aside0.mk hp
          clear hp
          go_wp2_with (first | (go_at_call 113;(with_reducible refine (VPost.no (IH1.out _ S5.out.bel) HPN.out).mono ?_);rintro e1 w6 ⟨rfl,hb⟩;have B6:=Aside0.mk (below_step S5.out.bel hb);clear hb))
          go_ret2
          exact VPost.none (by rw [HP.out,←HQ.out,parL_no HEL.out EH.out HU.out HLT.out HPN.out];rfl) B6.out
         | some r =>
          obtain ⟨t,e2⟩:=r
          have HPS:=Aside0.mk hp
          clear hp
          go_upto_region 14 with (first | (go_at_call 113;(with_reducible refine (VPost.yes (IH1.out _ S5.out.bel) HPS.out).mono ?_);rintro e1 w6 ⟨p,rfl,hb,hM⟩;have S6:=Aside0.mk (S5.out.below hb);have M6:=Aside0.mk (part_fresh hM);clear hb hM))
          clear k0
          by_cases h7:(nd l k).f0=7
          ·have h7b:((nd l k).f0==7)=true:=by simp [h7]
           clear h7
           have k0:=S6.out.box
           obtain ⟨kc3,kc4,fz3,fz4⟩:=S6.out.cells
           go_upto_region 16 with (first | ((with_reducible refine gate_builtin (b:=.append) (xs:=#[.tmp 97,.tmp 99]) rfl ?_);at_builtin;refine Kd.R_append Kd.string w.heap.size rfl (.tmp 97) (.tmp 99) 26 9 (.string ⟨#[]⟩) 16 rfl Tryz.underlying26 info9 rfl (by decide) (by omega) (.slice A3 ns.length c3) ns (nd l e).f3 [.string (nd l e).f3] (fun j=>j≠g) (fun _=>False) rfl rfl ?aP (fun _ hk=>hk.elim) ?aF ?aO (Below.refl _ _) ?aS ?aL ?_;(case aP=>exact rfl);(case aF=>exact S6.out.fresh3);(case aO=>exact S6.out.r3);(case aS=>exact S6.out.bel.size);(case aL=>have:=HE.out;have:=HL.out;omega);intro v3 w7 ho hb hg hat;obtain ⟨A3',c3',rfl⟩:=Kd.R_slice ho;have S7:=Aside0.mk (S6.out.name ho hb hg hat);have M7:=Aside0.mk (part_set (part_far M6.out hg S5.out.lt3) (blk_lt S5.out.kg) 3 (.slice A3' (ns.length+1) c3'));have HAT:=Aside0.mk hat;have kz:w7.cell? ⟨g,3,none⟩=some (.slice A3 ns.length c3):=(blk_cell (blk_grown S6.out.kg hg (Kd.R_ne S6.out.r3 S6.out.kg (by decide))) 3).trans rfl;have fz:=blk_frozen (blk_grown S6.out.kg hg (Kd.R_ne S6.out.r3 S6.out.kg (by decide))) 3;clear ho hb hg hat))
           have OKP:=Aside0.mk (show ∀ j,(wc.heap.size≤j∧j < w6.heap.size)→(j≠g∧some j≠(Value.slice A3' (ns++[(nd l e).f3]).length c3').ownBlock)∧some j≠(Value.slice A4 ks.length c4).ownBlock from fun j hj=>⟨⟨fun e=>by have:=blk_lt S5.out.kg;omega,fun e=>by
            rcases HAT.out with h | ⟨b,h,hb⟩
            ·rw [h] at e;have:=S5.out.lt3 j e.symm;omega
            ·rw [h] at e;cases e;omega⟩,fun e=>by have:=S5.out.lt4 j e.symm;omega⟩)
           obtain ⟨w8,hw8⟩:∃ w8,w8=w7.setCell ⟨g,3,none⟩ (.slice A3' (ns.length+1) c3'):=⟨_,rfl⟩
           rw [←hw8] at S7 M7 ⊢
           have S8:=S7
           have M8:=M7
           clear hw8 S7 M7 kz fz k0 kc3 kc4 fz3 fz4 M6 S6 HAT
           have k0:=S8.out.box
           obtain ⟨kc3,kc4,fz3,fz4⟩:=S8.out.cells
           go_upto_region 17 with (first | ((with_reducible refine gate_builtin (b:=.append) (xs:=#[.tmp 107,.tmp 109]) rfl ?_);at_builtin;refine Kd.R_append kP w.heap.size rfl (.tmp 107) (.tmp 109) 108 92 (.pointer none) 8 rfl Tryz.underlying108 info92 rfl (by decide) (by omega) (.slice A4 ks.length c4) ks t [.pointer (some ⟨p,0,none⟩)] (fun j=>j≠g∧some j≠(Value.slice A3' (ns++[(nd l e).f3]).length c3').ownBlock) (fun j=>wc.heap.size≤j∧j < w6.heap.size) rfl rfl ?aP ?aQ ?aF ?aO (Below.refl _ _) ?aS ?aL ?_;(case aP=>exact kP.M_lower S5.out.bel.size M8.out);(case aQ=>exact OKP.out);(case aF=>exact S8.out.fresh4);(case aO=>exact S8.out.r4);(case aS=>exact S8.out.bel.size);(case aL=>have:=HE.out;have:=HL.out;omega);intro v4 w9 ho hb hg hat;obtain ⟨A4',c4',rfl⟩:=Kd.R_slice ho;have S9:=Aside0.mk (S8.out.part ho hb hg);have kz4:w9.cell? ⟨g,4,none⟩=some (.slice A4 ks.length c4):=(blk_cell (blk_grown S8.out.kg hg (Kd.R_ne S8.out.r4 S8.out.kg (by decide))) 4).trans rfl;have fz4':=blk_frozen (blk_grown S8.out.kg hg (Kd.R_ne S8.out.r4 S8.out.kg (by decide))) 4;clear ho hb hg hat))
           clear k0 kc3 kc4 fz3 fz4
           go_wp2
           go_roundg m
           case rel=>exact ⟨e2,(ns++[(nd l e).f3]),ks++[t],A3',c3',A4',c4',rfl,⟨by have:=HE.out;have:=(par_read HPS.out).e_;have:=cnt_pos t;have:=(par_read HPS.out).le;simp;omega⟩,⟨by rw [←HQ.out,parL_next HEL.out EH.out HU.out HLT.out HPS.out,h7b];rfl⟩,S9⟩
           case measure=>omega
          ·have h7b:((nd l k).f0==7)=false:=by simp [h7]
           clear h7
           have k0:=S6.out.box
           have OKP:=Aside0.mk (show ∀ j,(wc.heap.size≤j∧j < w6.heap.size)→(j≠g∧some j≠(Value.slice A3 ns.length c3).ownBlock)∧some j≠(Value.slice A4 ks.length c4).ownBlock from fun j hj=>⟨⟨fun e=>by have:=blk_lt S5.out.kg;omega,fun e=>by have:=S5.out.lt3 j e.symm;omega⟩,fun e=>by have:=S5.out.lt4 j e.symm;omega⟩)
           have S8:=S6
           have M8:=M6
           clear S6 M6
           obtain ⟨kc3,kc4,fz3,fz4⟩:=S8.out.cells
           go_upto_region 17 with (first | ((with_reducible refine gate_builtin (b:=.append) (xs:=#[.tmp 107,.tmp 109]) rfl ?_);at_builtin;refine Kd.R_append kP w.heap.size rfl (.tmp 107) (.tmp 109) 108 92 (.pointer none) 8 rfl Tryz.underlying108 info92 rfl (by decide) (by omega) (.slice A4 ks.length c4) ks t [.pointer (some ⟨p,0,none⟩)] (fun j=>j≠g∧some j≠(Value.slice A3 ns.length c3).ownBlock) (fun j=>wc.heap.size≤j∧j < w6.heap.size) rfl rfl ?aP ?aQ ?aF ?aO (Below.refl _ _) ?aS ?aL ?_;(case aP=>exact kP.M_lower S5.out.bel.size M8.out);(case aQ=>exact OKP.out);(case aF=>exact S8.out.fresh4);(case aO=>exact S8.out.r4);(case aS=>exact S8.out.bel.size);(case aL=>have:=HE.out;have:=HL.out;omega);intro v4 w9 ho hb hg hat;obtain ⟨A4',c4',rfl⟩:=Kd.R_slice ho;have S9:=Aside0.mk (S8.out.part ho hb hg);have kz4:w9.cell? ⟨g,4,none⟩=some (.slice A4 ks.length c4):=(blk_cell (blk_grown S8.out.kg hg (Kd.R_ne S8.out.r4 S8.out.kg (by decide))) 4).trans rfl;have fz4':=blk_frozen (blk_grown S8.out.kg hg (Kd.R_ne S8.out.r4 S8.out.kg (by decide))) 4;clear ho hb hg hat))
           clear k0 kc3 kc4 fz3 fz4
           go_wp2
           go_roundg m
           case rel=>exact ⟨e2,ns,ks++[t],A3,c3,A4',c4',rfl,⟨by have:=HE.out;have:=(par_read HPS.out).e_;have:=cnt_pos t;have:=(par_read HPS.out).le;simp;omega⟩,⟨by rw [←HQ.out,parL_next HEL.out EH.out HU.out HLT.out HPS.out,h7b];rfl⟩,S9⟩
           case measure=>omega
      ·have hub:((nd l e).f4==(k:Int))=false:=by simp [hu]
       have HU:=Aside0.mk hu
       clear hu
       go_wp2_with (first | (go_at_call 156;(with_reducible refine (holds_c _ _ _ EH.out).mono ?_);rintro e w' ⟨rfl,⟨n_,rfl⟩⟩))
       go_ret2
       exact ST.out (fun h=>HU.out h.2.2) _ (HS.out.below (pw_below_drewN (Below.refl _ _) _))
     ·have hlt:decide (e < l.length)=false:=by simp;omega
      have HEL:=Aside0.mk hel
      clear hel he0
      go_wp2_with (first | (go_at_call 156;(with_reducible refine (holds_c _ _ _ EH.out).mono ?_);rintro e w' ⟨rfl,⟨n_,rfl⟩⟩))
      go_ret2
      exact ST.out (fun h=>HEL.out h.1) _ (HS.out.below (pw_below_drewN (Below.refl _ _) _))
end Go.Proofs.YtoaafohpmhdjnaaGreatDoor.VT
