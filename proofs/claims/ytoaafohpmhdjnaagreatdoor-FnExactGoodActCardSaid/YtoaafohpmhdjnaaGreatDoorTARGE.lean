import Derived.Test.YtoaafohpmhdjnaaGreatDoorTARGA
/- strings.Replacer over longer texts: a key added at the root. Conditions: the root as it comes up for "~0", "~1". -/
namespace Go.Proofs.YtoaafohpmhdjnaaGreatDoor.RX
open Go.RowKit Go.Proofs.YtoaafohpmhdjnaaGreatDoor.PVG Go.Proofs.YtoaafohpmhdjnaaGreatDoorW.PrintWords Go.Proofs.YtoaafohpmhdjnaaGreatDoorW.PrintLast Go.Proofs.YtoaafohpmhdjnaaGreatDoorW.PrintMore
set_option linter.unusedVariables false
set_option linter.unusedSimpArgs false
set_option maxRecDepth 100000 in
set_option maxHeartbeats 4000000 in
theorem add_root1 (gR gT:Nat) (val:ByteArray) (p:Int) (f:Nat→Int) (w:World) (hR:w.heap[gR]? = some (.cells (grc (.slice (some ⟨gT,0,none⟩) 3 3) 3 f) 281 (0,0))) (hT:w.heap[gT]? = some (.cells #[.pointer none,.pointer none,.pointer none] 276 (0,0))) (h126:f 126=2) :
  Calls Tryz.prog 237 #[.pointer (some ⟨gR,0,none⟩),.string ⟨#[126,48]⟩,.string val,.int .i64 p,.pointer (some ⟨gR,0,none⟩)] w fun e w'=>e=.returned (.tuple #[])∧∃ n1 n2,w.heap.size≤n1∧w.heap.size≤n2∧w'.heap[gT]? = some (.cells #[.pointer none,.pointer none,.pointer (some ⟨n1,0,none⟩)] 276 (0,0))∧w'.heap[n1]? = some (.cells (nd5 (⟨#[]⟩:ByteArray) 0 ⟨#[48]⟩ (.pointer (some ⟨n2,0,none⟩)) (.slice none 0 0)) 279 (0,0))∧w'.heap[n2]? = some (.cells (nd5 val p (⟨#[]⟩:ByteArray) (.pointer none) (.slice none 0 0)) 279 (0,0))∧Kept w w' (fun k=>k=gT)∧∀ w00:World,Below w00.heap.size w00 w→w00.heap.size≤gT→Below w00.heap.size w00 w':=by
 obtain ⟨r0,r1,r2,r3,r4,r5⟩:=gr_cells hR
 have m126:w.cell? ⟨gR,132,none⟩=some (.int .u8 2):=(gr_map hR 126 (by decide)).trans (by rw [h126])
 have hb1:∀ h:0 < (⟨#[126,48]⟩:ByteArray).size,((⟨#[126,48]⟩:ByteArray)[0]'h).toNat=126:=fun _=>rfl
 have hnil:∀ W:World,(binOp .neq 277 (.slice none 0 0) (.slice none 0 0)).run Tryz.prog W=.ok (.bool false) W:=fun W=>by simpa using Go.run_neq_slice_nil (P:=Tryz.prog) (w:=W) 277 276 none 0 0 Tryz.underlying277
 have hnn:∀ (k c:Nat) (W:World),(binOp .neq 277 (.slice (some ⟨k,0,none⟩) 3 c) (.slice none 0 0)).run Tryz.prog W=.ok (.bool true) W:=fun k c W=>by simpa using Go.run_neq_slice_nil (P:=Tryz.prog) (w:=W) 277 276 (some ⟨k,0,none⟩) 3 c Tryz.underlying277
 have t2:w.cell? ⟨gT,2,none⟩=some (.pointer none):=(blk_cell hT 2).trans rfl
 have NR:=Aside0.mk (blk_ne hR hT (by decide))
 have HR:=Aside0.mk hR
 have HT:=Aside0.mk hT
 clear hR hT
 go_enter Tryz.func237,Tryz.ntmps237
 go_upto_region 28 with fail
 go_quiet (fail)
 go_upto_region 30 with fail
 obtain ⟨W1,hW1⟩:∃ W,W=w.drewN nq:=⟨_,rfl⟩
 have T1:=Aside0.mk (show W1.heap[gT]? = some (.cells #[.pointer none,.pointer none,.pointer none] 276 (0,0)) by rw [hW1];exact blk_drewN HT.out _)
 have R1:=Aside0.mk (show W1.heap[gR]? = some (.cells (grc (.slice (some ⟨gT,0,none⟩) 3 3) 3 f) 281 (0,0)) by rw [hW1];exact blk_drewN HR.out _)
 have Q1:=Aside0.mk (show ∀ w00:World,Below w00.heap.size w00 w→w00.heap.size≤gT→Below w00.heap.size w00 W1 from fun w00 hb hn=>by rw [hW1];exact below_drewN hb nq)
 have P1:=Aside0.mk (show Kept w W1 (fun k=>k=gT) by rw [hW1];exact (Kept.refl w _).drewN _)
 rw [←hW1]
 clear hW1 t2 r0 r1 r2 r3 r5 m126
 have r4:W1.cell? ⟨gR,4,none⟩=some (.slice (some ⟨gT,0,none⟩) 3 3):=(gr_cells R1.out).2.2.2.2.1
 go_upto_region 31 with (first | ((with_reducible refine gate_dst (N:=210) rfl ?_);refine box_event ?hg (N:=210) ?hd (cs:=nd5 (⟨#[]⟩:ByteArray) 0 (⟨#[]⟩:ByteArray) (.pointer none) (.slice none 0 0)) (t:=279) ?hr ?_;(case hd=>rfl);(case hg=>rfl);(case hr=>first | (go_simp;done) | (go_simp;rfl));intro gxa hg wxa hbox hb;have GXa:=Aside0.mk hg;have KXa:=Aside0.mk hbox;have BXa:=Aside0.mk hb;have d2:wxa.cell? ⟨gT,2,none⟩=some (.pointer none):=(blk_cell (blk_below T1.out hb) 2).trans rfl;have y2:=blk_frozen (blk_below T1.out hb) 2;clear hb hbox hg))
 obtain ⟨n1,hn1⟩:∃ m,m=gxa:=⟨_,rfl⟩
 obtain ⟨W2,hW2⟩:∃ W,W=wxa.setCell ⟨gT,2,none⟩ (.pointer (some ⟨gxa,0,none⟩)):=⟨_,rfl⟩
 rw [←hW2]
 rw [←hn1] at GXa KXa hW2 ⊢
 clear hn1
 have NE:=Aside0.mk (show gT < n1∧gR < n1∧w.heap.size≤n1 by have:=blk_lt T1.out;have:=blk_lt R1.out;have:=P1.out.1;have:=GXa.out;omega)
 have T2d:=Aside0.mk (show W2.drew.heap[gT]? = some (.cells #[.pointer none,.pointer none,.pointer (some ⟨n1,0,none⟩)] 276 (0,0)) by have:=blk_set (blk_below T1.out BXa.out) 2 (.pointer (some ⟨n1,0,none⟩));rw [hW2];exact blk_drew (by simpa using this))
 have R2d:=Aside0.mk (show W2.drew.heap[gR]? = some (.cells (grc (.slice (some ⟨gT,0,none⟩) 3 3) 3 f) 281 (0,0)) by rw [hW2];exact blk_drew (blk_far (blk_below R1.out BXa.out) (show gR≠gT from NR.out) _))
 have N2d:=Aside0.mk (show W2.drew.heap[n1]? = some (.cells (nd5 (⟨#[]⟩:ByteArray) 0 (⟨#[]⟩:ByteArray) (.pointer none) (.slice none 0 0)) 279 (0,0)) by rw [hW2];exact blk_drew (blk_far KXa.out (show n1≠gT by have:=NE.out;omega) _))
 have Q2d:=Aside0.mk (show ∀ w00:World,Below w00.heap.size w00 w→w00.heap.size≤gT→Below w00.heap.size w00 W2.drew from fun w00 hb hn=>by rw [hW2];exact below_drew1 (below_set (below_step (Q1.out w00 hb hn) BXa.out) hn))
 have P2d:=Aside0.mk (show Kept w W2.drew (fun k=>k=gT) by rw [hW2];exact ((P1.out.below BXa.out).setCell (p:=⟨gT,2,none⟩) (.inl rfl) _).drew)
 clear hW2 T1 R1 P1 d2 y2 r4
 go_upto_region 31 with fail
 refine start_ (n:=13) (S:=fun w'=>w'.cell? ⟨gT,2,none⟩=some (.pointer (some ⟨n1,0,none⟩))∧w'.cell? ⟨gR,4,none⟩=some (.slice (some ⟨gT,0,none⟩) 3 3)) (ds:=[]) #[false,false,false,false,false,false,false,false,false,false,false,false,false] (by kernel_rfl) rfl rfl ⟨(blk_cell T2d.out 2).trans rfl,(gr_cells R2d.out).2.2.2.2.1⟩ (fun hHeld=>?_)
 generalize W2.drew=W2d at T2d R2d N2d P2d Q2d hHeld ⊢
 refine pure_ (i:=0) (N:=(some 212)) (v:=?_) (a':=?_) #[true,false,false,false,false,false,false,false,false,false,false,false,false] rfl rfl (by kernel_rfl) (fun _ _ _ h=>h) (Or.inl ⟨by rfl,?_⟩) ?_ ?_
 rotate_left
 ·intro w'
  go_simp
  with_reducible rfl
 rotate_left
 ·simp only [Act.put,List.setIfInBounds_toArray,List.set_cons_zero,List.set_cons_succ,i64_w,i32_w]
  rfl
 refine pure_ (i:=1) (N:=(some 213)) (v:=?_) (a':=?_) #[true,true,false,false,false,false,false,false,false,false,false,false,false] rfl rfl (by kernel_rfl) (fun _ _ _ h=>h) (Or.inl ⟨by rfl,?_⟩) ?_ ?_
 rotate_left
 ·intro w'
  go_simp
  with_reducible rfl
 rotate_left
 ·simp only [Act.put,List.setIfInBounds_toArray,List.set_cons_zero,List.set_cons_succ,i64_w,i32_w]
  rfl
 refine pure_ (i:=2) (N:=(some 214)) (v:=?_) (a':=?_) #[true,true,true,false,false,false,false,false,false,false,false,false,false] rfl rfl (by kernel_rfl) (fun _ _ _ h=>h) (Or.inl ⟨by rfl,?_⟩) ?_ ?_
 rotate_left
 ·intro w'
  go_simp
  with_reducible rfl
 rotate_left
 ·simp only [Act.put,List.setIfInBounds_toArray,List.set_cons_zero,List.set_cons_succ,i64_w,i32_w]
  rfl
 refine pure_ (i:=4) (N:=(some 216)) (v:=?_) (a':=?_) #[true,true,true,false,true,false,false,false,false,false,false,false,false] rfl rfl (by kernel_rfl) (fun _ _ _ h=>h) (Or.inl ⟨by rfl,?_⟩) ?_ ?_
 rotate_left
 ·intro w'
  go_simp
  with_reducible rfl
 rotate_left
 ·simp only [Act.put,List.setIfInBounds_toArray,List.set_cons_zero,List.set_cons_succ,i64_w,i32_w]
  rfl
 refine pure_ (i:=7) (N:=(some 219)) (v:=?_) (a':=?_) #[true,true,true,false,true,false,false,true,false,false,false,false,false] rfl rfl (by kernel_rfl) (fun _ _ _ h=>h) (Or.inl ⟨by rfl,?_⟩) ?_ ?_
 rotate_left
 ·intro w'
  go_simp
  with_reducible rfl
 rotate_left
 ·simp only [Act.put,List.setIfInBounds_toArray,List.set_cons_zero,List.set_cons_succ,i64_w,i32_w]
  rfl
 refine pure_ (i:=8) (N:=(some 220)) (v:=?_) (a':=?_) #[true,true,true,false,true,false,false,true,true,false,false,false,false] rfl rfl (by kernel_rfl) (fun _ _ _ h=>h) (Or.inl ⟨by rfl,?_⟩) ?_ ?_
 rotate_left
 ·intro w'
  go_simp
  with_reducible rfl
 rotate_left
 ·simp only [Act.put,List.setIfInBounds_toArray,List.set_cons_zero,List.set_cons_succ,i64_w,i32_w]
  rfl
 refine pure_ (i:=9) (N:=(some 221)) (v:=?_) (a':=?_) #[true,true,true,false,true,false,false,true,true,true,false,false,false] rfl rfl (by kernel_rfl) (fun _ _ _ h=>h) (Or.inl ⟨by rfl,?_⟩) ?_ ?_
 rotate_left
 ·intro w'
  go_simp
  with_reducible rfl
 rotate_left
 ·simp only [Act.put,List.setIfInBounds_toArray,List.set_cons_zero,List.set_cons_succ,i64_w,i32_w]
  rfl
 refine pure_ (i:=10) (N:=(some 222)) (v:=?_) (a':=?_) #[true,true,true,false,true,false,false,true,true,true,true,false,false] rfl rfl (by kernel_rfl) (fun _ _ _ h=>h) (Or.inl ⟨by rfl,?_⟩) ?_ ?_
 rotate_left
 ·intro w'
  go_simp
  with_reducible rfl
 rotate_left
 ·simp only [Act.put,List.setIfInBounds_toArray,List.set_cons_zero,List.set_cons_succ,i64_w,i32_w]
  rfl
 refine pure_ (i:=11) (N:=(some 223)) (v:=?_) (a':=?_) #[true,true,true,false,true,false,false,true,true,true,true,true,false] rfl rfl (by kernel_rfl) (fun _ _ _ h=>h) (Or.inl ⟨by rfl,?_⟩) ?_ ?_
 rotate_left
 ·intro w'
  go_simp
  with_reducible rfl
 rotate_left
 ·simp only [Act.put,List.setIfInBounds_toArray,List.set_cons_zero,List.set_cons_succ,i64_w,i32_w]
  rfl
 refine take_ (i:=3) (N:=(some 215)) (v:=?_) (a':=?_) #[true,true,true,true,true,false,false,true,true,true,true,true,false] rfl rfl (by kernel_rfl) (fun _ _ _ h=>h) (Or.inl ⟨by rfl,?_⟩) hHeld ?_ ?_
 rotate_left
 ·rintro w' ⟨s0,s1⟩
  go_simp
  with_reducible rfl
 rotate_left
 ·simp only [Act.put,List.setIfInBounds_toArray,List.set_cons_zero,List.set_cons_succ,i64_w,i32_w]
  rfl
 refine pure_ (i:=5) (N:=(some 217)) (v:=?_) (a':=?_) #[true,true,true,true,true,true,false,true,true,true,true,true,false] rfl rfl (by kernel_rfl) (fun _ _ _ h=>h) (Or.inl ⟨by rfl,?_⟩) ?_ ?_
 rotate_left
 ·intro w'
  go_simp
  with_reducible rfl
 rotate_left
 ·simp only [Act.put,List.setIfInBounds_toArray,List.set_cons_zero,List.set_cons_succ,i64_w,i32_w]
  rfl
 refine take_ (i:=6) (N:=(some 218)) (v:=?_) (a':=?_) #[true,true,true,true,true,true,true,true,true,true,true,true,false] rfl rfl (by kernel_rfl) (fun _ _ _ h=>h) (Or.inl ⟨by rfl,?_⟩) hHeld ?_ ?_
 rotate_left
 ·rintro w' ⟨s0,s1⟩
  go_simp
  with_reducible rfl
 rotate_left
 ·simp only [Act.put,List.setIfInBounds_toArray,List.set_cons_zero,List.set_cons_succ,i64_w,i32_w]
  rfl
 refine one_ (i:=12) (N:=(some 224)) #[true,true,true,true,true,true,true,true,true,true,true,true,true] rfl rfl (by kernel_rfl) (by decide) (fun K hK=>?_)
 refine goes_ Tryz.func237 (by kernel_rfl) rfl #[.pointer (some ⟨n1,0,none⟩),.string ⟨#[48]⟩,.string val,.int .i64 p,.pointer (some ⟨gR,0,none⟩)] (by rfl) rfl rfl (by (try simp only [List.map_toArray,List.map_cons,List.map_nil]);first | done | rfl) ?_
 refine (add_new n1 48 rfl val p _ W2d N2d.out).mono ?_
 rintro e W3 ⟨rfl,m,hm1,hm2,hm3,hm4,hm5⟩
 refine ⟨_,rfl,?_⟩
 have M:=Aside0.mk (And.intro hm1 (And.intro hm2 (And.intro hm3 hm4)))
 have WW:=Aside0.mk hm5
 clear hm1 hm2 hm3 hm4 hm5
 refine hK.out _ _ ⟨(blk_cell (blk_kept T2d.out M.out.2.2.2 (fun e=>by have:=NE.out;omega)) 2).trans rfl,(gr_cells (blk_kept R2d.out M.out.2.2.2 (fun e=>by have:=NE.out;omega))).2.2.2.2.1⟩ (fun hHeld=>?_)
 clear hK K
 refine norm_ (a':=?_) ?_ ?_
 rotate_left
 ·show Act.put _ (some 224) _=_
  simp only [Act.put,List.setIfInBounds_toArray,List.set_cons_zero,List.set_cons_succ,i64_w,i32_w]
  rfl
 refine done_ (by kernel_rfl) ?_
 first | go_end0 | (simp only [Exit.inBlock,Exit.then];refine bodyPost_ret (results_none rfl _ _ _) rfl ?_) | (go_wp2;go_end0)
 exact ⟨rfl,n1,m,NE.out.2.2,Nat.le_trans P2d.out.1 M.out.1,blk_kept T2d.out M.out.2.2.2 (fun e=>by have:=NE.out;omega),M.out.2.1,M.out.2.2.1,P2d.out.then_ M.out.2.2.2 (fun k hk=>.inr (by have:=NE.out;omega)),fun w00 hb hn=>WW.out w00 (Q2d.out w00 hb hn) (by have:=NE.out;omega)⟩
set_option maxRecDepth 100000 in
set_option maxHeartbeats 4000000 in
theorem add_root2 (gR gT n1 n2:Nat) (val:ByteArray) (p:Int) (f:Nat→Int) (w:World) (hR:w.heap[gR]? = some (.cells (grc (.slice (some ⟨gT,0,none⟩) 3 3) 3 f) 281 (0,0))) (hT:w.heap[gT]? = some (.cells #[.pointer none,.pointer none,.pointer (some ⟨n1,0,none⟩)] 276 (0,0))) (hN:w.heap[n1]? = some (.cells (nd5 (⟨#[]⟩:ByteArray) 0 ⟨#[48]⟩ (.pointer (some ⟨n2,0,none⟩)) (.slice none 0 0)) 279 (0,0))) (h126:f 126=2) (h48:f 48=0) (h49:f 49=1) :
  Calls Tryz.prog 237 #[.pointer (some ⟨gR,0,none⟩),.string ⟨#[126,49]⟩,.string val,.int .i64 p,.pointer (some ⟨gR,0,none⟩)] w fun e w'=>e=.returned (.tuple #[])∧∃ gU n3,w.heap.size≤gU∧w.heap.size≤n3∧w'.heap[n1]? = some (.cells (nd5 (⟨#[]⟩:ByteArray) 0 (⟨#[]⟩:ByteArray) (.pointer none) (.slice (some ⟨gU,0,none⟩) 3 3)) 279 (0,0))∧w'.heap[gU]? = some (.cells #[.pointer (some ⟨n2,0,none⟩),.pointer (some ⟨n3,0,none⟩),.pointer none] 276 (0,0))∧w'.heap[n3]? = some (.cells (nd5 val p (⟨#[]⟩:ByteArray) (.pointer none) (.slice none 0 0)) 279 (0,0))∧Kept w w' (fun k=>k=n1)∧∀ w00:World,Below w00.heap.size w00 w→w00.heap.size≤n1→Below w00.heap.size w00 w':=by
 obtain ⟨r0,r1,r2,r3,r4,r5⟩:=gr_cells hR
 have m126:w.cell? ⟨gR,132,none⟩=some (.int .u8 2):=(gr_map hR 126 (by decide)).trans (by rw [h126])
 have hb1:∀ h:0 < (⟨#[126,49]⟩:ByteArray).size,((⟨#[126,49]⟩:ByteArray)[0]'h).toNat=126:=fun _=>rfl
 have hnil:∀ W:World,(binOp .neq 277 (.slice none 0 0) (.slice none 0 0)).run Tryz.prog W=.ok (.bool false) W:=fun W=>by simpa using Go.run_neq_slice_nil (P:=Tryz.prog) (w:=W) 277 276 none 0 0 Tryz.underlying277
 have hnn:∀ (k c:Nat) (W:World),(binOp .neq 277 (.slice (some ⟨k,0,none⟩) 3 c) (.slice none 0 0)).run Tryz.prog W=.ok (.bool true) W:=fun k c W=>by simpa using Go.run_neq_slice_nil (P:=Tryz.prog) (w:=W) 277 276 (some ⟨k,0,none⟩) 3 c Tryz.underlying277
 have t2:w.cell? ⟨gT,2,none⟩=some (.pointer (some ⟨n1,0,none⟩)):=(blk_cell hT 2).trans rfl
 have NE:=Aside0.mk (show gT≠n1∧gR≠n1 from ⟨blk_ne hT hN (by decide),blk_ne hR hN (by decide)⟩)
 have HR:=Aside0.mk hR
 have HT:=Aside0.mk hT
 have HN:=Aside0.mk hN
 have H48:=Aside0.mk h48
 have H49:=Aside0.mk h49
 clear hR hT hN h48 h49
 go_enter Tryz.func237,Tryz.ntmps237
 go_upto_region 28 with fail
 go_quiet (fail)
 go_upto_region 31 with fail
 obtain ⟨W2,hW2⟩:∃ W,W=w.drewN nq:=⟨_,rfl⟩
 have T2d:=Aside0.mk (show W2.drew.heap[gT]? = some (.cells #[.pointer none,.pointer none,.pointer (some ⟨n1,0,none⟩)] 276 (0,0)) by rw [hW2];exact blk_drew (blk_drewN HT.out _))
 have R2d:=Aside0.mk (show W2.drew.heap[gR]? = some (.cells (grc (.slice (some ⟨gT,0,none⟩) 3 3) 3 f) 281 (0,0)) by rw [hW2];exact blk_drew (blk_drewN HR.out _))
 have N2d:=Aside0.mk (show W2.drew.heap[n1]? = some (.cells (nd5 (⟨#[]⟩:ByteArray) 0 ⟨#[48]⟩ (.pointer (some ⟨n2,0,none⟩)) (.slice none 0 0)) 279 (0,0)) by rw [hW2];exact blk_drew (blk_drewN HN.out _))
 have Q2d:=Aside0.mk (show ∀ w00:World,Below w00.heap.size w00 w→w00.heap.size≤n1→Below w00.heap.size w00 W2.drew from fun w00 hb hn=>by rw [hW2];exact below_drew1 (below_drewN hb nq))
 have P2d:=Aside0.mk (show Kept w W2.drew (fun k=>k=n1) by rw [hW2];exact ((Kept.refl w _).drewN _).drew)
 rw [←hW2]
 clear hW2 t2 r0 r1 r2 r3 r4 r5 m126
 refine start_ (n:=13) (S:=fun w'=>w'.cell? ⟨gT,2,none⟩=some (.pointer (some ⟨n1,0,none⟩))∧w'.cell? ⟨gR,4,none⟩=some (.slice (some ⟨gT,0,none⟩) 3 3)) (ds:=[]) #[false,false,false,false,false,false,false,false,false,false,false,false,false] (by kernel_rfl) rfl rfl ⟨(blk_cell T2d.out 2).trans rfl,(gr_cells R2d.out).2.2.2.2.1⟩ (fun hHeld=>?_)
 generalize W2.drew=W2d at T2d R2d N2d P2d Q2d hHeld ⊢
 refine pure_ (i:=0) (N:=(some 212)) (v:=?_) (a':=?_) #[true,false,false,false,false,false,false,false,false,false,false,false,false] rfl rfl (by kernel_rfl) (fun _ _ _ h=>h) (Or.inl ⟨by rfl,?_⟩) ?_ ?_
 rotate_left
 ·intro w'
  go_simp
  with_reducible rfl
 rotate_left
 ·simp only [Act.put,List.setIfInBounds_toArray,List.set_cons_zero,List.set_cons_succ,i64_w,i32_w]
  rfl
 refine pure_ (i:=1) (N:=(some 213)) (v:=?_) (a':=?_) #[true,true,false,false,false,false,false,false,false,false,false,false,false] rfl rfl (by kernel_rfl) (fun _ _ _ h=>h) (Or.inl ⟨by rfl,?_⟩) ?_ ?_
 rotate_left
 ·intro w'
  go_simp
  with_reducible rfl
 rotate_left
 ·simp only [Act.put,List.setIfInBounds_toArray,List.set_cons_zero,List.set_cons_succ,i64_w,i32_w]
  rfl
 refine pure_ (i:=2) (N:=(some 214)) (v:=?_) (a':=?_) #[true,true,true,false,false,false,false,false,false,false,false,false,false] rfl rfl (by kernel_rfl) (fun _ _ _ h=>h) (Or.inl ⟨by rfl,?_⟩) ?_ ?_
 rotate_left
 ·intro w'
  go_simp
  with_reducible rfl
 rotate_left
 ·simp only [Act.put,List.setIfInBounds_toArray,List.set_cons_zero,List.set_cons_succ,i64_w,i32_w]
  rfl
 refine pure_ (i:=4) (N:=(some 216)) (v:=?_) (a':=?_) #[true,true,true,false,true,false,false,false,false,false,false,false,false] rfl rfl (by kernel_rfl) (fun _ _ _ h=>h) (Or.inl ⟨by rfl,?_⟩) ?_ ?_
 rotate_left
 ·intro w'
  go_simp
  with_reducible rfl
 rotate_left
 ·simp only [Act.put,List.setIfInBounds_toArray,List.set_cons_zero,List.set_cons_succ,i64_w,i32_w]
  rfl
 refine pure_ (i:=7) (N:=(some 219)) (v:=?_) (a':=?_) #[true,true,true,false,true,false,false,true,false,false,false,false,false] rfl rfl (by kernel_rfl) (fun _ _ _ h=>h) (Or.inl ⟨by rfl,?_⟩) ?_ ?_
 rotate_left
 ·intro w'
  go_simp
  with_reducible rfl
 rotate_left
 ·simp only [Act.put,List.setIfInBounds_toArray,List.set_cons_zero,List.set_cons_succ,i64_w,i32_w]
  rfl
 refine pure_ (i:=8) (N:=(some 220)) (v:=?_) (a':=?_) #[true,true,true,false,true,false,false,true,true,false,false,false,false] rfl rfl (by kernel_rfl) (fun _ _ _ h=>h) (Or.inl ⟨by rfl,?_⟩) ?_ ?_
 rotate_left
 ·intro w'
  go_simp
  with_reducible rfl
 rotate_left
 ·simp only [Act.put,List.setIfInBounds_toArray,List.set_cons_zero,List.set_cons_succ,i64_w,i32_w]
  rfl
 refine pure_ (i:=9) (N:=(some 221)) (v:=?_) (a':=?_) #[true,true,true,false,true,false,false,true,true,true,false,false,false] rfl rfl (by kernel_rfl) (fun _ _ _ h=>h) (Or.inl ⟨by rfl,?_⟩) ?_ ?_
 rotate_left
 ·intro w'
  go_simp
  with_reducible rfl
 rotate_left
 ·simp only [Act.put,List.setIfInBounds_toArray,List.set_cons_zero,List.set_cons_succ,i64_w,i32_w]
  rfl
 refine pure_ (i:=10) (N:=(some 222)) (v:=?_) (a':=?_) #[true,true,true,false,true,false,false,true,true,true,true,false,false] rfl rfl (by kernel_rfl) (fun _ _ _ h=>h) (Or.inl ⟨by rfl,?_⟩) ?_ ?_
 rotate_left
 ·intro w'
  go_simp
  with_reducible rfl
 rotate_left
 ·simp only [Act.put,List.setIfInBounds_toArray,List.set_cons_zero,List.set_cons_succ,i64_w,i32_w]
  rfl
 refine pure_ (i:=11) (N:=(some 223)) (v:=?_) (a':=?_) #[true,true,true,false,true,false,false,true,true,true,true,true,false] rfl rfl (by kernel_rfl) (fun _ _ _ h=>h) (Or.inl ⟨by rfl,?_⟩) ?_ ?_
 rotate_left
 ·intro w'
  go_simp
  with_reducible rfl
 rotate_left
 ·simp only [Act.put,List.setIfInBounds_toArray,List.set_cons_zero,List.set_cons_succ,i64_w,i32_w]
  rfl
 refine take_ (i:=3) (N:=(some 215)) (v:=?_) (a':=?_) #[true,true,true,true,true,false,false,true,true,true,true,true,false] rfl rfl (by kernel_rfl) (fun _ _ _ h=>h) (Or.inl ⟨by rfl,?_⟩) hHeld ?_ ?_
 rotate_left
 ·rintro w' ⟨s0,s1⟩
  go_simp
  with_reducible rfl
 rotate_left
 ·simp only [Act.put,List.setIfInBounds_toArray,List.set_cons_zero,List.set_cons_succ,i64_w,i32_w]
  rfl
 refine pure_ (i:=5) (N:=(some 217)) (v:=?_) (a':=?_) #[true,true,true,true,true,true,false,true,true,true,true,true,false] rfl rfl (by kernel_rfl) (fun _ _ _ h=>h) (Or.inl ⟨by rfl,?_⟩) ?_ ?_
 rotate_left
 ·intro w'
  go_simp
  with_reducible rfl
 rotate_left
 ·simp only [Act.put,List.setIfInBounds_toArray,List.set_cons_zero,List.set_cons_succ,i64_w,i32_w]
  rfl
 refine take_ (i:=6) (N:=(some 218)) (v:=?_) (a':=?_) #[true,true,true,true,true,true,true,true,true,true,true,true,false] rfl rfl (by kernel_rfl) (fun _ _ _ h=>h) (Or.inl ⟨by rfl,?_⟩) hHeld ?_ ?_
 rotate_left
 ·rintro w' ⟨s0,s1⟩
  go_simp
  with_reducible rfl
 rotate_left
 ·simp only [Act.put,List.setIfInBounds_toArray,List.set_cons_zero,List.set_cons_succ,i64_w,i32_w]
  rfl
 refine one_ (i:=12) (N:=(some 224)) #[true,true,true,true,true,true,true,true,true,true,true,true,true] rfl rfl (by kernel_rfl) (by decide) (fun K hK=>?_)
 refine goes_ Tryz.func237 (by kernel_rfl) rfl #[.pointer (some ⟨n1,0,none⟩),.string ⟨#[49]⟩,.string val,.int .i64 p,.pointer (some ⟨gR,0,none⟩)] (by rfl) rfl rfl (by (try simp only [List.map_toArray,List.map_cons,List.map_nil]);first | done | rfl) ?_
 refine (add_split n1 n2 gR val p _ f W2d N2d.out R2d.out H48.out H49.out).mono ?_
 rintro e W3 ⟨rfl,gU,m,q1,q2,q3,q4,q5,q6,q7⟩
 refine ⟨_,rfl,?_⟩
 have M:=Aside0.mk (And.intro q1 (And.intro q2 (And.intro q3 (And.intro q4 (And.intro q5 q6)))))
 have WW:=Aside0.mk q7
 clear q1 q2 q3 q4 q5 q6 q7
 refine hK.out _ _ ⟨(blk_cell (blk_kept T2d.out M.out.2.2.2.2.2 (fun e=>NE.out.1 e)) 2).trans rfl,(gr_cells (blk_kept R2d.out M.out.2.2.2.2.2 (fun e=>NE.out.2 e))).2.2.2.2.1⟩ (fun hHeld=>?_)
 clear hK K
 refine norm_ (a':=?_) ?_ ?_
 rotate_left
 ·show Act.put _ (some 224) _=_
  simp only [Act.put,List.setIfInBounds_toArray,List.set_cons_zero,List.set_cons_succ,i64_w,i32_w]
  rfl
 refine done_ (by kernel_rfl) ?_
 first | go_end0 | (simp only [Exit.inBlock,Exit.then];refine bodyPost_ret (results_none rfl _ _ _) rfl ?_) | (go_wp2;go_end0)
 exact ⟨rfl,gU,m,Nat.le_trans P2d.out.1 M.out.1,Nat.le_trans P2d.out.1 M.out.2.1,M.out.2.2.1,M.out.2.2.2.1,M.out.2.2.2.2.1,P2d.out.then_ M.out.2.2.2.2.2 (fun k hk=>.inl hk),fun w00 hb hn=>WW.out w00 (Q2d.out w00 hb hn) hn⟩
end Go.Proofs.YtoaafohpmhdjnaaGreatDoor.RX
