import Derived.Test.YtoaafohpmhdjnaaGreatDoorGAVPB
import Derived.Test.YtoaafohpmhdjnaaGreatDoorGAVTR
import Derived.Test.YtoaafohpmhdjnaaGreatDoorGAVTG
import Derived.Test.YtoaafohpmhdjnaaGreatDoorGAPVGx0
import Derived.Test.YtoaafohpmhdjnaaGreatDoorGAPVGx6
import Derived.Test.YtoaafohpmhdjnaaGreatDoorGAPVGx2
import Derived.Test.YtoaafohpmhdjnaaGreatDoorGAVWB
/- The reference's comparing of two trees, walked. Conditions: right trees. -/
namespace Go.Proofs.YtoaafohpmhdjnaaGreatDoor.VT
open Go.RowKit Go.Proofs.YtoaafohpmhdjnaaGreatDoor.PVG Go.Proofs.YtoaafohpmhdjnaaGreatDoorW.PrintWords Go.Proofs.YtoaafohpmhdjnaaGreatDoorW.PrintLast Go.Proofs.YtoaafohpmhdjnaaGreatDoorW.PrintMore
set_option linter.unusedVariables false
set_option linter.unusedSimpArgs false
structure SAt (w:World) (t:Tr) (A3:Option Addr) (c3:Nat) (A4:Option Addr) (c4:Nat):Prop where
 l3:t.ns.length≤c3
 g3:Kd.string.C w A3 t.ns.length t.ns
 l4:t.ks.length≤c4
 g4:k89.C w A4 t.ks.length (toSL t.ks)
theorem SAt.below {w w':World} {t:Tr} {A3:Option Addr} {c3:Nat} {A4:Option Addr} {c4:Nat} (h:SAt w t A3 c3 A4 c4) (hb:Below w.heap.size w w'):SAt w' t A3 c3 A4 c4:=⟨h.l3,Kd.C_below h.g3 hb,h.l4,Kd.C_below h.g4 hb⟩
theorem SAt.name {w:World} {t:Tr} {A3:Option Addr} {c3:Nat} {A4:Option Addr} {c4:Nat} (h:SAt w t A3 c3 A4 c4) (i:Nat) (hi:i < t.ns.length):∃ ad,A3=some ad∧w.cell? (ad.add i)=some (.string (t.ns[i])):=by
 obtain ⟨ad,c,e,_,hK,hc⟩:=Kd.C_get h.g3 nil_ (i:Int) (by omega) (by omega)
 have hK:c=[.string (t.ns.getD (i:Int).toNat nil_)]:=hK
 rw [List.getD_eq_getElem?_getD,Int.toNat_natCast,List.getElem?_eq_getElem hi] at hK
 subst hK
 have h0:=hc 0 _ rfl
 have e1:(i:Int).toNat * Kd.string.sz+0=i:=by show (i:Int).toNat * 1+0=i;omega
 rw [e1] at h0
 exact ⟨ad,e,h0⟩
theorem SAt.kid {w:World} {t:Tr} {A3:Option Addr} {c3:Nat} {A4:Option Addr} {c4:Nat} (h:SAt w t A3 c3 A4 c4) (i:Nat) (hi:i < t.ks.length):∃ ad B3 d3 B4 d4,A4=some ad ∧
  w.cell? (ad.add (i * 5))=some (.int .i64 t.ks[i].kd)∧w.cell? ⟨(ad.add (i * 5)).block,(ad.add (i * 5)).off+1,none⟩=some (.int .i64 t.ks[i].nu)∧w.cell? ⟨(ad.add (i * 5)).block,(ad.add (i * 5)).off+2,none⟩=some (.string t.ks[i].tx) ∧
  w.cell? ⟨(ad.add (i * 5)).block,(ad.add (i * 5)).off+3,none⟩=some (.slice B3 t.ks[i].ns.length d3)∧w.cell? ⟨(ad.add (i * 5)).block,(ad.add (i * 5)).off+4,none⟩=some (.slice B4 t.ks[i].ks.length d4)∧SAt w t.ks[i] B3 d3 B4 d4:=by
 obtain ⟨ad,B3,d3,B4,d4,e,q0,q1,q2,q3,q4,l3,g3,l4,g4⟩:=at_T89 h.g4 (i:Int) (by omega) (by omega)
 have hr:rd_T89 (toSL t.ks) (i:Int)=toS t.ks[i]:=by
  unfold rd_T89
  rw [Int.toNat_natCast,toSL_map,List.getD_eq_getElem?_getD,List.getElem?_map,List.getElem?_eq_getElem hi]
  rfl
 rw [hr,toS_eq] at q0 q1 q2 q3 q4 l3 g3 l4 g4
 simp only [Int.toNat_natCast,toSL_len] at q0 q1 q2 q3 q4 l3 g3 l4 g4
 exact ⟨ad,B3,d3,B4,d4,e,q0,q1,q2,q3,q4,l3,g3,l4,g4⟩
structure Wf1 (kd nu:Int) (tx:ByteArray) (ns:List ByteArray) (ks:List Tr):Prop where
 nu0:kd≠4→nu=0
 tx0:kd≠5→tx=nil_
 hlen:kd=7→ns.length=ks.length
 ks0:kd≠6→kd≠7→ks=[]
 hks:wfL ks=true
theorem wf1 {kd nu:Int} {tx:ByteArray} {ns:List ByteArray} {ks:List Tr} (h:wf (.mk kd nu tx ns ks)=true):Wf1 kd nu tx ns ks:=by
 rw [wf] at h
 simp only [Bool.and_eq_true,nodeG,Bool.or_eq_true,beq_iff_eq] at h
 refine ⟨fun h4=>by rcases h.1.1.1.1.1.1.2 with e | e;exact absurd e h4;exact e,fun h5=>by rcases h.1.1.1.1.2 with e | e;exact absurd e h5;exact emp_iff.1 e,fun h7=>?_,fun h6 h7=>?_,h.2⟩
 ·have h8:=h.1.1.2
  rw [if_pos h7] at h8
  simp at h8
  exact h8.1.1
 ·rcases h.1.2 with e | e
  ·simp [holdsB,h6,h7] at e
  ·simpa using e
theorem ci_self (a:Int):ci a a=0:=by unfold ci;rw [if_neg (by omega),if_neg (by omega)]
theorem cs_self (a:ByteArray):cs a a=0:=by
 have h:=bytesLess_tri a.toList a.toList
 have h2:Op.bytesLess a.toList a.toList=false:=by
  cases e:Op.bytesLess a.toList a.toList with
  | false=>rfl
  | true=>rw [e] at h;simp at h
 unfold cs
 rw [h2];rfl
end Go.Proofs.YtoaafohpmhdjnaaGreatDoor.VT
namespace Go.Proofs.YtoaafohpmhdjnaaGreatDoor.VT
open Go.RowKit Go.Proofs.YtoaafohpmhdjnaaGreatDoor.PVG Go.Proofs.YtoaafohpmhdjnaaGreatDoorW.PrintWords Go.Proofs.YtoaafohpmhdjnaaGreatDoorW.PrintLast Go.Proofs.YtoaafohpmhdjnaaGreatDoorW.PrintMore
set_option linter.unusedVariables false
set_option linter.unusedSimpArgs false
theorem flatL_take {ks:List Tr} {m:Bool} {ns:List ByteArray} {self k i:Nat} (h:i < ks.length):flatL (ks.take (i+1)) m ns self k=flatL (ks.take i) m ns self k++flat ks[i] (if m then (ns.drop i).headD nil_ else nil_) self (k+cntL (ks.take i)):=by
 rw [List.take_succ_eq_append_getElem h,flatL_append,flatL,flatL,List.append_nil,List.length_take,Nat.min_eq_left (by omega)]
def NdCall (t:Tr):Prop:=∀ (w0 w:World) (g:Nat) (v:Value) (l:List S107) (nm:ByteArray) (up:Int),IsV w0 g t→fit t=true→Below w0.heap.size w0 w→Kd.R k107 107 w w0.heap.size (fun _=>True) v l→l.length+cnt t≤1073741824 →
 Calls Tryz.prog 126 #[.pointer (some ⟨g,0,none⟩),v,.string nm,.int .i64 up] w fun e w'=>∃ v',e=.returned v'∧Kd.R k107 107 w' w0.heap.size (fun _=>True) v' (l++flat t nm up l.length)∧Below w0.heap.size w0 w'
theorem NdCall.go {t:Tr} (h:NdCall t) (w0 w:World) (g:Nat) (v:Value) (l:List S107) (nm:ByteArray) (up:Int) (h1:IsV w0 g t) (h2:fit t=true) (h3:Below w0.heap.size w0 w) (h4:Kd.R k107 107 w w0.heap.size (fun _=>True) v l) (h5:l.length+cnt t≤1073741824) :
 Calls Tryz.prog 126 #[.pointer (some ⟨g,0,none⟩),v,.string nm,.int .i64 up] w fun e w'=>∃ v',e=.returned v'∧Kd.R k107 107 w' w0.heap.size (fun _=>True) v' (l++flat t nm up l.length)∧Below w0.heap.size w0 w':=h w0 w g v l nm up h1 h2 h3 h4 h5
set_option maxRecDepth 100000 in
set_option maxHeartbeats 8000000 in
theorem nodes_c (t:Tr):NdCall t:=by
 refine Tr.ind (P:=NdCall) ?_ t
 intro kd nu tx ns ks ih w0 w g v l nm up hv hf hb0 hr hn
 obtain ⟨A,c,rfl⟩:=Kd.R_slice hr
 obtain ⟨A3,c3,A4,c4,ha⟩:=hv.at_
 have hfit:=fit1 hf
 have HA:=Aside0.mk ha
 have HLEN:=Aside0.mk hfit.hlen
 have FITS:=Aside0.mk ((fitL_iff ks).1 hfit.hks)
 have IH:=Aside0.mk ih
 have HN:=Aside0.mk hn
 have HR:=Aside0.mk hr
 have HB0:=Aside0.mk hb0
 have CL:=Aside0.mk (show ∀ W,Below w0.heap.size w0 W→W.cell? ⟨g,0,none⟩=some (.int .i64 kd)∧W.cell? ⟨g,1,none⟩=some (.int .i64 nu)∧W.cell? ⟨g,2,none⟩=some (.string tx)∧W.cell? ⟨g,3,none⟩=some (.slice A3 ns.length c3)∧W.cell? ⟨g,4,none⟩=some (.slice A4 ks.length c4) from
  fun W hb=>by
   obtain ⟨k0,k1,k2,k3,k4⟩:=ha.cells
   exact ⟨(hb.cell ha.lt).trans k0,(hb.cell ha.lt).trans k1,(hb.cell ha.lt).trans k2,(hb.cell ha.lt).trans k3,(hb.cell ha.lt).trans k4⟩)
 have HELD:=Aside0.mk (show ∀ w':World,Below w0.heap.size w0 w'→w'.cell? ⟨g,0,none⟩=some (.int .i64 kd)∧w'.cell? ⟨g,1,none⟩=some (.int .i64 nu)∧w'.cell? ⟨g,2,none⟩=some (.string tx) from fun w' hb=>⟨(CL.out w' hb).1,(CL.out w' hb).2.1,(CL.out w' hb).2.2.1⟩)
 have NAM:=Aside0.mk (show ∀ i (h:i < ns.length),∃ ad,A3=some ad∧∀ W,Below w0.heap.size w0 W→W.cell? (ad.add i)=some (.string ns[i]) from fun i h=>by
  obtain ⟨ad,e,hc⟩:=ha.name i h
  exact ⟨ad,e,fun W hb=>(hb.cell (World.block_lt_of_cell? w0 _ hc)).trans hc⟩)
 have hl:l.length≤1073741824:=by omega
 clear ha hf hn hr hb0 hfit hv ih
 go_enter Tryz.func126,Tryz.ntmps126
 go_upto_region 2 with fail
 clear hl
 refine start_ (n:=19) (S:=fun w'=>w'.cell? ⟨g,0,none⟩=some (.int .i64 kd)∧w'.cell? ⟨g,1,none⟩=some (.int .i64 nu)∧w'.cell? ⟨g,2,none⟩=some (.string tx)) (ds:=[]) #[false,false,false,false,false,false,false,false,false,false,false,false,false,false,false,false,false,false,false] (by kernel_rfl) rfl rfl (HELD.out _ (below_drew1 HB0.out)) (fun hHeld=>?_)
 have R1:=Aside0.mk (Kd.R_drew HR.out)
 have B1:=Aside0.mk (below_drew1 HB0.out)
 generalize w.drew=w1 at R1 B1 hHeld ⊢
 refine pure_ (i:=0) (N:=(some 15)) (v:=?_) (a':=?_) #[true,false,false,false,false,false,false,false,false,false,false,false,false,false,false,false,false,false,false] rfl rfl (by kernel_rfl) (fun _ _ _ h=>h) (Or.inl ⟨by rfl,?_⟩) ?_ ?_
 rotate_left
 ·intro w'
  go_simp
  with_reducible rfl
 rotate_left
 ·simp only [Act.put,List.setIfInBounds_toArray,List.set_cons_zero,List.set_cons_succ,i64_w,i32_w]
  rfl
 refine pure_ (i:=1) (N:=(some 16)) (v:=?_) (a':=?_) #[true,true,false,false,false,false,false,false,false,false,false,false,false,false,false,false,false,false,false] rfl rfl (by kernel_rfl) (fun _ _ _ h=>h) (Or.inl ⟨by rfl,?_⟩) ?_ ?_
 rotate_left
 ·intro w'
  go_simp
  with_reducible rfl
 rotate_left
 ·simp only [Act.put,List.setIfInBounds_toArray,List.set_cons_zero,List.set_cons_succ,i64_w,i32_w]
  rfl
 refine pure_ (i:=2) (N:=(some 17)) (v:=?_) (a':=?_) #[true,true,true,false,false,false,false,false,false,false,false,false,false,false,false,false,false,false,false] rfl rfl (by kernel_rfl) (fun _ _ _ h=>h) (Or.inl ⟨by rfl,?_⟩) ?_ ?_
 rotate_left
 ·intro w'
  go_simp
  with_reducible rfl
 rotate_left
 ·simp only [Act.put,List.setIfInBounds_toArray,List.set_cons_zero,List.set_cons_succ,i64_w,i32_w]
  rfl
 refine pure_ (i:=3) (N:=(some 18)) (v:=?_) (a':=?_) #[true,true,true,true,false,false,false,false,false,false,false,false,false,false,false,false,false,false,false] rfl rfl (by kernel_rfl) (fun _ _ _ h=>h) (Or.inl ⟨by rfl,?_⟩) ?_ ?_
 rotate_left
 ·intro w'
  go_simp
  with_reducible rfl
 rotate_left
 ·simp only [Act.put,List.setIfInBounds_toArray,List.set_cons_zero,List.set_cons_succ,i64_w,i32_w]
  rfl
 refine pure_ (i:=5) (N:=(some 20)) (v:=?_) (a':=?_) #[true,true,true,true,false,true,false,false,false,false,false,false,false,false,false,false,false,false,false] rfl rfl (by kernel_rfl) (fun _ _ _ h=>h) (Or.inl ⟨by rfl,?_⟩) ?_ ?_
 rotate_left
 ·intro w'
  go_simp
  with_reducible rfl
 rotate_left
 ·simp only [Act.put,List.setIfInBounds_toArray,List.set_cons_zero,List.set_cons_succ,i64_w,i32_w]
  rfl
 refine pure_ (i:=6) (N:=(some 21)) (v:=?_) (a':=?_) #[true,true,true,true,false,true,true,false,false,false,false,false,false,false,false,false,false,false,false] rfl rfl (by kernel_rfl) (fun _ _ _ h=>h) (Or.inl ⟨by rfl,?_⟩) ?_ ?_
 rotate_left
 ·intro w'
  go_simp
  with_reducible rfl
 rotate_left
 ·simp only [Act.put,List.setIfInBounds_toArray,List.set_cons_zero,List.set_cons_succ,i64_w,i32_w]
  rfl
 refine pure_ (i:=7) (N:=(some 22)) (v:=?_) (a':=?_) #[true,true,true,true,false,true,true,true,false,false,false,false,false,false,false,false,false,false,false] rfl rfl (by kernel_rfl) (fun _ _ _ h=>h) (Or.inl ⟨by rfl,?_⟩) ?_ ?_
 rotate_left
 ·intro w'
  go_simp
  with_reducible rfl
 rotate_left
 ·simp only [Act.put,List.setIfInBounds_toArray,List.set_cons_zero,List.set_cons_succ,i64_w,i32_w]
  rfl
 refine pure_ (i:=9) (N:=(some 24)) (v:=?_) (a':=?_) #[true,true,true,true,false,true,true,true,false,true,false,false,false,false,false,false,false,false,false] rfl rfl (by kernel_rfl) (fun _ _ _ h=>h) (Or.inl ⟨by rfl,?_⟩) ?_ ?_
 rotate_left
 ·intro w'
  go_simp
  with_reducible rfl
 rotate_left
 ·simp only [Act.put,List.setIfInBounds_toArray,List.set_cons_zero,List.set_cons_succ,i64_w,i32_w]
  rfl
 refine pure_ (i:=10) (N:=(some 25)) (v:=?_) (a':=?_) #[true,true,true,true,false,true,true,true,false,true,true,false,false,false,false,false,false,false,false] rfl rfl (by kernel_rfl) (fun _ _ _ h=>h) (Or.inl ⟨by rfl,?_⟩) ?_ ?_
 rotate_left
 ·intro w'
  go_simp
  with_reducible rfl
 rotate_left
 ·simp only [Act.put,List.setIfInBounds_toArray,List.set_cons_zero,List.set_cons_succ,i64_w,i32_w]
  rfl
 refine pure_ (i:=11) (N:=(some 26)) (v:=?_) (a':=?_) #[true,true,true,true,false,true,true,true,false,true,true,true,false,false,false,false,false,false,false] rfl rfl (by kernel_rfl) (fun _ _ _ h=>h) (Or.inl ⟨by rfl,?_⟩) ?_ ?_
 rotate_left
 ·intro w'
  go_simp
  with_reducible rfl
 rotate_left
 ·simp only [Act.put,List.setIfInBounds_toArray,List.set_cons_zero,List.set_cons_succ,i64_w,i32_w]
  rfl
 refine pure_ (i:=13) (N:=(some 28)) (v:=?_) (a':=?_) #[true,true,true,true,false,true,true,true,false,true,true,true,false,true,false,false,false,false,false] rfl rfl (by kernel_rfl) (fun _ _ _ h=>h) (Or.inl ⟨by rfl,?_⟩) ?_ ?_
 rotate_left
 ·intro w'
  go_simp
  with_reducible rfl
 rotate_left
 ·simp only [Act.put,List.setIfInBounds_toArray,List.set_cons_zero,List.set_cons_succ,i64_w,i32_w]
  rfl
 refine pure_ (i:=14) (N:=(some 29)) (v:=?_) (a':=?_) #[true,true,true,true,false,true,true,true,false,true,true,true,false,true,true,false,false,false,false] rfl rfl (by kernel_rfl) (fun _ _ _ h=>h) (Or.inl ⟨by rfl,?_⟩) ?_ ?_
 rotate_left
 ·intro w'
  go_simp
  with_reducible rfl
 rotate_left
 ·simp only [Act.put,List.setIfInBounds_toArray,List.set_cons_zero,List.set_cons_succ,i64_w,i32_w]
  rfl
 refine take_ (i:=4) (N:=(some 19)) (v:=?_) (a':=?_) #[true,true,true,true,true,true,true,true,false,true,true,true,false,true,true,false,false,false,false] rfl rfl (by kernel_rfl) (fun _ _ _ h=>h) (Or.inl ⟨by rfl,?_⟩) hHeld ?_ ?_
 rotate_left
 ·rintro w' ⟨s0,s1,s2⟩
  go_simp
  with_reducible rfl
 rotate_left
 ·simp only [Act.put,List.setIfInBounds_toArray,List.set_cons_zero,List.set_cons_succ,i64_w,i32_w]
  rfl
 refine take_ (i:=8) (N:=(some 23)) (v:=?_) (a':=?_) #[true,true,true,true,true,true,true,true,true,true,true,true,false,true,true,false,false,false,false] rfl rfl (by kernel_rfl) (fun _ _ _ h=>h) (Or.inl ⟨by rfl,?_⟩) hHeld ?_ ?_
 rotate_left
 ·rintro w' ⟨s0,s1,s2⟩
  go_simp
  with_reducible rfl
 rotate_left
 ·simp only [Act.put,List.setIfInBounds_toArray,List.set_cons_zero,List.set_cons_succ,i64_w,i32_w]
  rfl
 refine take_ (i:=12) (N:=(some 27)) (v:=?_) (a':=?_) #[true,true,true,true,true,true,true,true,true,true,true,true,true,true,true,false,false,false,false] rfl rfl (by kernel_rfl) (fun _ _ _ h=>h) (Or.inl ⟨by rfl,?_⟩) hHeld ?_ ?_
 rotate_left
 ·rintro w' ⟨s0,s1,s2⟩
  go_simp
  with_reducible rfl
 rotate_left
 ·simp only [Act.put,List.setIfInBounds_toArray,List.set_cons_zero,List.set_cons_succ,i64_w,i32_w]
  rfl
 refine pure_ (i:=15) (N:=(some 30)) (v:=?_) (a':=?_) #[true,true,true,true,true,true,true,true,true,true,true,true,true,true,true,true,false,false,false] rfl rfl (by kernel_rfl) (fun _ _ _ h=>h) (Or.inl ⟨by rfl,?_⟩) ?_ ?_
 rotate_left
 ·intro w'
  go_simp
  with_reducible rfl
 rotate_left
 ·simp only [Act.put,List.setIfInBounds_toArray,List.set_cons_zero,List.set_cons_succ,i64_w,i32_w]
  rfl
 refine one_ (i:=16) (N:=(some 31)) #[true,true,true,true,true,true,true,true,true,true,true,true,true,true,true,true,true,false,false] rfl rfl (by kernel_rfl) (by decide) (fun K hK=>?_)
 refine value_ (w1:=?_) (v:=?_) (by rfl) rfl ?_ ?_
 rotate_left 2
 ·go_simp
  constructor
  ·rfl
  ·rfl
 refine hK.out _ _ (HELD.out _ (below_step B1.out (below_alloc (Below.refl _ _) _))) (fun hHeld=>?_)
 clear hK K
 refine norm_ (a':=?_) ?_ ?_
 rotate_left
 ·show Act.put _ (some 31) _=_
  simp only [Act.put,List.setIfInBounds_toArray,List.set_cons_zero,List.set_cons_succ,i64_w,i32_w]
  rfl
 refine one_ (i:=17) (N:=(some 32)) #[true,true,true,true,true,true,true,true,true,true,true,true,true,true,true,true,true,true,false] rfl rfl (by kernel_rfl) (by decide) (fun K hK=>?_)
 refine Kd.R_append_step k107 (w0:=w0) w0.heap.size (by rfl) (.tmp 15) (.tmp 31) 29 107 (.agg #[(.int .i64 0),(.int .i64 0),(.string ⟨#[]⟩),(.string ⟨#[]⟩),(.int .i64 0)]) 56 rfl Tryz.underlying29 info107 rfl (by decide) (by omega) (.slice A l.length c) l ⟨kd,nu,tx,nm,up⟩ [.int .i64 kd,.int .i64 nu,.string tx,.string nm,.int .i64 up] (fun _=>True) (fun _=>False) rfl rfl ?aP (fun _ hk=>hk.elim) ?aF ?aO ?aB ?aS ?aL ?_
 (case aP=>exact k107_mkM _ _ _ (⟨kd,nu,tx,nm,up⟩:S107))
 (case aF=>exact fun _ _=>trivial)
 (case aO=>exact R1.out)
 (case aB=>exact B1.out)
 (case aS=>exact B1.out.size)
 (case aL=>have:=HN.out;have:=cnt_pos (.mk kd nu tx ns ks);omega)
 intro v2 w2 ho hb _ _
 have R2:=Aside0.mk ho
 have B2:=Aside0.mk hb
 clear ho hb
 refine hK.out _ _ (HELD.out _ B2.out) (fun hHeld=>?_)
 clear hK K
 refine norm_ (a':=?_) ?_ ?_
 rotate_left
 ·show Act.put _ (some 32) _=_
  simp only [Act.put,List.setIfInBounds_toArray,List.set_cons_zero,List.set_cons_succ,i64_w,i32_w]
  rfl
 refine pure_ (i:=18) (N:=(some 1)) (v:=?_) (a':=?_) #[true,true,true,true,true,true,true,true,true,true,true,true,true,true,true,true,true,true,true] rfl rfl (by kernel_rfl) (fun _ _ _ h=>h) (Or.inl ⟨by rfl,?_⟩) ?_ ?_
 rotate_left
 ·intro w'
  go_simp
  with_reducible rfl
 rotate_left
 ·simp only [Act.put,List.setIfInBounds_toArray,List.set_cons_zero,List.set_cons_succ,i64_w,i32_w]
  rfl
 refine done_ (by kernel_rfl) ?_
 obtain ⟨l2,hl2⟩:∃ l2,l2=l++[(⟨kd,nu,tx,nm,up⟩:S107)]:=⟨_,rfl⟩
 have HL2:=Aside0.mk (show l2.length=l.length+1 by rw [hl2];simp)
 have EL2:=Aside0.mk (show ∀ x:List S107,l2++x=l++(⟨kd,nu,tx,nm,up⟩:S107) :: x by intro x;rw [hl2];simp)
 have R3:=R2.out
 rw [←hl2] at R3
 have R3:=Aside0.mk R3
 clear R2 hl2 hHeld
 obtain ⟨_,_,_,_,k4⟩:=CL.out w2 B2.out
 obtain ⟨A2,c2,rfl⟩:=Kd.R_slice R3.out
 go_wp2
 clear k4
 go_loopg [1,38] ks.length (fun m v1 v38 W=>∃ i:Nat,v38=.int .i64 (i:Int)∧Aside0 (i+m=ks.length)∧Aside0 (Kd.R k107 107 W w0.heap.size (fun _=>True) v1 (l2++flatL (ks.take i) (kd==7) ns l.length (l.length+1)))∧Aside0 (Below w0.heap.size w0 W))
 case atStart=>exact ⟨0,rfl,⟨by omega⟩,⟨by simp [flatL];exact R3.out⟩,B2⟩
 case round =>
  obtain ⟨i,rfl,HM,HRR,HB⟩:=hrel
  cases gk with
  | zero =>
   have hlt:decide (i < ks.length)=false:=decide_eq_false (by have:=HM.out;omega)
   have R9:=HRR.out
   rw [show ks.take i=ks from List.take_of_length_le (by have:=HM.out;omega),EL2.out] at R9
   have R9:=Aside0.mk R9
   clear HRR
   go_wp2
   go_ret
   exact ⟨_,rfl,by rw [flat];exact R9.out,HB.out⟩
  | succ m =>
   have hi:i < ks.length:=by have:=HM.out;omega
   obtain ⟨lr,hlr⟩:∃ lr,lr=l2++flatL (ks.take i) (kd==7) ns l.length (l.length+1):=⟨_,rfl⟩
   have HLR:=Aside0.mk hlr
   have HR5:=HRR.out
   rw [←hlr] at HR5
   have HR5:=Aside0.mk HR5
   clear HRR hlr
   obtain ⟨A5,c5,rfl⟩:=Kd.R_slice HR5.out
   obtain ⟨ad,p,rfl,kc,_⟩:=HA.out.kid' HB.out i hi
   have KV:=Aside0.mk (show ∀ h:i < ks.length,IsV w0 p ks[i] from fun h=>by
    obtain ⟨ad2,p2,e2,kc2,kv2⟩:=HA.out.kid i hi
    obtain rfl:=Option.some.inj e2
    have:=(HB.out.cell (World.block_lt_of_cell? w0 _ kc2)).trans kc2
    rw [kc] at this
    cases this
    exact kv2)
   have HIm:=Aside0.mk (List.getElem_mem hi)
   have HS:=Aside0.mk (flatL_take (m:=kd==7) (ns:=ns) (self:=l.length) (k:=l.length+1) hi)
   have HC:=Aside0.mk (show lr.length+cnt ks[i]≤1073741824∧lr.length=l.length+1+cntL (ks.take i) by
    rw [HLR.out]
    have h1:=cntL_take_le ks (i+1)
    have h2:=cntL_take ks i hi
    have h3:=HN.out
    have h4:=HL2.out
    simp only [cnt] at h3
    rw [List.length_append,flatL_len]
    omega)
   have b4:(i:Int)≤1073741824:=by have:=cnt_ge_len ks;have:=HN.out;simp only [cnt] at this;omega
   have b5:(l.length:Int)≤1073741824:=by have:=HN.out;omega
   obtain ⟨k0,_,_,k3,_⟩:=CL.out wr HB.out
   by_cases h7:kd=7
   ·have hni:i < ns.length:=by rw [HLEN.out h7];exact hi
    obtain ⟨ad3,rfl,kn⟩:=NAM.out i hni
    have kn:=kn wr HB.out
    have h7b:(kd==7)=true:=by simpa using h7
    have HNM:=Aside0.mk (show (if (kd==7)=true then (ns.drop i).headD nil_ else nil_)=ns[i] by rw [if_pos h7b,List.headD_eq_head?_getD,List.head?_drop,List.getElem?_eq_getElem hni];rfl)
    clear h7
    go_wp2_with (first | (go_at_call 126;(with_reducible refine ((IH.out ks[i] HIm.out).go w0 _ p _ _ ns[i] (l.length:Int) (KV.out hi) (FITS.out _ HIm.out) HB.out HR5.out HC.out.1).mono ?_);rintro e w5 ⟨v5,rfl,ho,hb⟩;have R5:=Aside0.mk ho;have B5:=Aside0.mk hb;clear ho hb))
    go_roundg m
    case rel=>exact ⟨i+1,by go_num,⟨by have:=HM.out;omega⟩,⟨by rw [HS.out,HNM.out,←List.append_assoc,←HC.out.2,←HLR.out];exact R5.out⟩,B5⟩
    case measure=>omega
   ·have h7b:(kd==7)=false:=by simpa using h7
    have HNM:=Aside0.mk (show (if (kd==7)=true then (ns.drop i).headD nil_ else nil_)=nil_ by rw [if_neg (by rw [h7b];simp)])
    clear h7 k3
    go_wp2_with (first | (go_at_call 126;(with_reducible refine ((IH.out ks[i] HIm.out).go w0 _ p _ _ (⟨#[]⟩:ByteArray) (l.length:Int) (KV.out hi) (FITS.out _ HIm.out) HB.out HR5.out HC.out.1).mono ?_);rintro e w5 ⟨v5,rfl,ho,hb⟩;have R5:=Aside0.mk ho;have B5:=Aside0.mk hb;clear ho hb))
    go_roundg m
    case rel=>exact ⟨i+1,by go_num,⟨by have:=HM.out;omega⟩,⟨by rw [HS.out,HNM.out,←List.append_assoc,←HC.out.2,←HLR.out];exact R5.out⟩,B5⟩
    case measure=>omega
set_option maxRecDepth 100000 in
set_option maxHeartbeats 4000000 in
theorem value_c (t:Tr) (w:World) (g:Nat) (hv:IsV w g t) (hf:fit t=true) (hn:cnt t≤1073741824) :
  Calls Tryz.prog 79 #[.pointer (some ⟨g,0,none⟩)] w fun e w'=>∃ v',e=.returned (.agg #[v'])∧Kd.R k107 107 w' w.heap.size (fun _=>True) v' (flat t nil_ (-1) 0)∧Below w.heap.size w w':=by
 obtain ⟨W1,hW1⟩:∃ W1,W1=w.alloc (.cells #[.slice none 0 0] 31):=⟨_,rfl⟩
 obtain ⟨g0,hg0⟩:∃ g,g=w.heap.size:=⟨_,rfl⟩
 have HB1:=Aside0.mk (show Below w.heap.size w W1 by rw [hW1];exact below_alloc (Below.refl _ _) _)
 have K1:=Aside0.mk (show W1.heap[g0]? = some (.cells #[.slice none 0 0] 31 (0,0)) by rw [hW1,hg0];exact blk_new w _)
 have GE:=Aside0.mk (show w.heap.size≤g0 by rw [hg0];exact Nat.le_refl _)
 have ND:=Aside0.mk ((nodes_c t).go W1 W1 g (.slice none 0 0) [] (⟨#[]⟩:ByteArray) (-1) (hv.below HB1.out) hf (Below.refl _ _) (Kd.R_nil _ _ _ _ _) (by simpa using hn))
 clear hv hf hn
 go_enter Tryz.func79,Tryz.ntmps79
 go_upto_region 1 with fail
 rw [←hW1,←hg0]
 clear hW1 hg0
 go_wp2_with (first | (go_at_call 126;(with_reducible refine ND.out.mono ?_);rintro e w2 ⟨v2,rfl,ho,hb⟩;obtain ⟨A2,c2,rfl⟩:=Kd.R_slice ho;obtain ⟨n2,hn2⟩:∃ n,n=(([]:List S107)++flat t (⟨#[]⟩:ByteArray) (-1) ([]:List S107).length).length:=⟨_,rfl⟩;rw [←hn2] at ho ⊢;have R2:=Aside0.mk ho;have B2:=Aside0.mk hb;have K2:=blk_below K1.out hb;have p0:w2.cell? ⟨g0,0,none⟩=some (.slice none 0 0):=(blk_cell K2 0).trans rfl;have fz:w2.frozen? ⟨g0,0,none⟩=false:=blk_frozen K2 0;have KK:=Aside0.mk K2;clear ho hb K2 hn2))
 refine bodyPost_ret (results_cell_row rfl _ _ g0 31 #[.slice A2 n2 c2] (0,0) _ rfl (by simpa using blk_set KK.out 0 (.slice A2 n2 c2)) Tryz.underlying31 rfl (by kernel_rfl)) rfl ?_
 refine ⟨_,rfl,?_,below_set (below_step HB1.out B2.out) GE.out⟩
 exact Kd.R_lower (Kd.R_mono (Kd.R_far (Kd.R_types R2.out KK.out (by decide)) (fun k hk=>hk.2) _) (fun _ _=>trivial)) HB1.out.size
end Go.Proofs.YtoaafohpmhdjnaaGreatDoor.VT
