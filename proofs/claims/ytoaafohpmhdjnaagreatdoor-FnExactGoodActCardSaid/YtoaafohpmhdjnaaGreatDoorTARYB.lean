import Derived.Test.YtoaafohpmhdjnaaGreatDoorTARXG
/- strings.Replacer built over the two bytes of paths. Conditions: none. -/
namespace Go.Proofs.YtoaafohpmhdjnaaGreatDoor.RY
open Go.RowKit Go.Proofs.YtoaafohpmhdjnaaGreatDoor.RX Go.Proofs.YtoaafohpmhdjnaaGreatDoor.PVG Go.Proofs.YtoaafohpmhdjnaaGreatDoorW.PrintWords Go.Proofs.YtoaafohpmhdjnaaGreatDoorW.PrintLast Go.Proofs.YtoaafohpmhdjnaaGreatDoorW.PrintMore
set_option linter.unusedVariables false
set_option linter.unusedSimpArgs false
def oldE:List ByteArray:=[⟨#[126]⟩,⟨#[126,48]⟩,⟨#[47]⟩,⟨#[126,49]⟩]
theorem at_oldE {w:World} {g:Nat} (h:Kd.C Kd.string w (some ⟨g,0,none⟩) 4 oldE):w.cell? ⟨g,0,none⟩=some (.string ⟨#[126]⟩)∧w.cell? ⟨g,1,none⟩=some (.string ⟨#[126,48]⟩)∧w.cell? ⟨g,2,none⟩=some (.string ⟨#[47]⟩)∧w.cell? ⟨g,3,none⟩=some (.string ⟨#[126,49]⟩):=by
 have q:∀ i:Int,0≤i→i < 4→w.cell? ((⟨g,0,none⟩:Addr).add i.toNat)=some (.string (rdOf ByteArray.empty oldE i)):=fun i h0 h1=>by
  obtain ⟨ad,e,hc⟩:=Kd.at_string h i h0 h1
  cases e
  exact hc
 exact ⟨(q 0 (by omega) (by omega)).trans rfl,(q 1 (by omega) (by omega)).trans rfl,(q 2 (by omega) (by omega)).trans rfl,(q 3 (by omega) (by omega)).trans rfl⟩
structure IsRepE (w w':World) (gB:Nat):Prop where
 out:∃ u1 u2,BY w' u1 ⟨#[126,49]⟩∧BY w' u2 ⟨#[126,48]⟩∧RB w w' gB (upd (upd nilS 47 u1) 126 u2) [⟨#[47]⟩,⟨#[126]⟩]
structure BuiltE (w:World) (e:Ending) (w':World):Prop where
 out:∃ gB,e=.returned (.iface 258 (.pointer (some ⟨gB,0,none⟩)))∧IsRepE w w' gB
set_option maxRecDepth 100000 in
set_option maxHeartbeats 1600000 in
theorem buildE_c (b:Nat) (x0 x1 x2 x3:Value) (g c:Nat) (w:World) (hb:w.heap[b]? = some (.cells #[x0,x1,x2,x3,.slice (some ⟨g,0,none⟩) 4 c] 204 (0,0))) (hA:Kd.C Kd.string w (some ⟨g,0,none⟩) 4 oldE) :
  Calls Tryz.prog 189 #[.pointer (some ⟨b,0,none⟩)] w (BuiltE w):=by
 obtain ⟨t0,t1,t2,t3⟩:=at_oldE hA
 have c4:w.cell? ⟨b,4,none⟩=some (.slice (some ⟨g,0,none⟩) 4 c):=(blk_cell hb 4).trans rfl
 have HB:=Aside0.mk hb
 have HA:=Aside0.mk hA
 clear hb hA
 go_enter Tryz.func189,Tryz.ntmps189
 go_wp2
 go_loopg [4,5] 2 (fun kq v4 v5 w'=>w'=w∧(kq=2∧v4=.bool true∧v5=.int .i64 0∨kq=1∧v4=.bool false∧v5=.int .i64 2∨kq=0∧v4=.bool false∧v5=.int .i64 4))
 case atStart=>exact ⟨rfl,.inl ⟨rfl,rfl,rfl⟩⟩
 case round =>
  obtain ⟨rfl,⟨rfl,rfl,rfl⟩ | ⟨rfl,rfl,rfl⟩ | ⟨rfl,rfl,rfl⟩⟩:=hrel
  ·go_wp2
   go_roundg 1
   case measure=>omega
   case rel=>exact ⟨rfl,.inr (.inl ⟨rfl,rfl,rfl⟩)⟩
  ·go_wp2
   go_roundg 0
   case measure=>omega
   case rel=>exact ⟨rfl,.inr (.inr ⟨rfl,rfl,rfl⟩)⟩
  ·obtain ⟨w0,rfl⟩:∃ w0:World,w0=wr:=⟨_,rfl⟩
   go_upto_region 27 with (first | ((with_reducible refine gate_dst (N:=94) rfl ?_);refine Kd.event_run rfl (make_ev rfl rfl rfl _) ?_;obtain ⟨W1,hW1⟩:∃ W1,W1=w0.alloc (.cells #[.string ⟨#[]⟩,.string ⟨#[]⟩] 9):=⟨_,rfl⟩;have B1:=Aside0.mk (show Below w0.heap.size w0 W1 by rw [hW1];exact below_alloc (Below.refl _ _) _);have K1:=Aside0.mk (show W1.heap[w0.heap.size]? = some (.cells #[.string ⟨#[]⟩,.string ⟨#[]⟩] 9 (0,0)) by rw [hW1];exact blk_new w0 _);rw [←hW1];clear hW1) | ((with_reducible refine gate_dst (N:=95) rfl ?_);refine Kd.event_run rfl (build_ev rfl rfl _) ?_) | ((with_reducible refine gate_dst (N:=11) rfl ?_);refine Kd.event_run rfl (alloc_ev rfl _) ?_;refine event_skip rfl (store_ev rfl rfl rfl (bsr_size _ _)) ?_))
   obtain ⟨W2,hW2⟩:∃ W2,W2=W1.alloc (.cells (bsr nilS (.slice (some ⟨w0.heap.size,0,none⟩) 0 2)) 257):=⟨_,rfl⟩
   have B2:=Aside0.mk (show Below w0.heap.size w0 W2 by rw [hW2];exact below_alloc B1.out _)
   have G2:=Aside0.mk (show W2.heap[W1.heap.size]? = some (.cells (bsr nilS (.slice (some ⟨w0.heap.size,0,none⟩) 0 2)) 257 (0,0)) by rw [hW2];exact blk_new W1 _)
   have K2:=Aside0.mk (show W2.heap[w0.heap.size]? = some (.cells #[.string ⟨#[]⟩,.string ⟨#[]⟩] 9 (0,0)) by rw [hW2];exact blk_alloc K1.out _)
   rw [←hW2]
   have HZ:=Aside0.mk B1.out.size
   have RM:=Aside0.mk (make_R w0 W2 K2.out)
   clear hW2 B1 K1
   have HR:=Aside0.mk (show w0.heap.size≤W1.heap.size from HZ.out)
   have R2:=Aside0.mk (show Kd.R Kd.string 9 W2 w0.heap.size (fun _=>True) (.slice (some ⟨w0.heap.size,0,none⟩) 0 2) [] from RM.out)
   have HT:=Aside0.mk (And.intro t0 (And.intro t1 (And.intro t2 t3)))
   have g92:W2.cell? ⟨W1.heap.size,47,none⟩=some (.slice none 0 0):=(blk_cell G2.out 47).trans (bsr_get _ _ 47 (by decide))
   have g256:W2.cell? ⟨W1.heap.size,256,none⟩=some (.slice (some ⟨w0.heap.size,0,none⟩) 0 2):=(blk_cell G2.out 256).trans (bsr_last _ _)
   have s2:W2.cell? ⟨g,2,none⟩=some (.string ⟨#[47]⟩):=(B2.out.cell (World.block_lt_of_cell? w0 _ t2)).trans t2
   have s3:W2.cell? ⟨g,3,none⟩=some (.string ⟨#[126,49]⟩):=(B2.out.cell (World.block_lt_of_cell? w0 _ t3)).trans t3
   have hz:=HR.out
   go_upto_region 28 with (fail)
   go_loopg [12] 2 (fun kq v12 w'=>kq=2∧v12=.int .i64 2∧Aside0 (RB w0 w' W1.heap.size nilS [])∨kq=1∧v12=.int .i64 0∧(∃ u1,Aside0 (BY w' u1 ⟨#[126,49]⟩∧RB w0 w' W1.heap.size (upd nilS 47 u1) [⟨#[47]⟩]))∨kq=0∧v12=.int .i64 (-2)∧(∃ u1 u2,Aside0 (BY w' u1 ⟨#[126,49]⟩∧BY w' u2 ⟨#[126,48]⟩∧RB w0 w' W1.heap.size (upd (upd nilS 47 u1) 126 u2) [⟨#[47]⟩,⟨#[126]⟩])))
   case atStart=>exact .inl ⟨rfl,rfl,⟨_,_,G2.out,R2.out,B2.out,HR.out⟩⟩
   case round =>
    clear g92 g256 s2 s3 K2 G2 R2 B2 RM
    rcases hrel with ⟨rfl,rfl,HQ⟩ | ⟨rfl,rfl,u1,HQ⟩ | ⟨rfl,rfl,u1,u2,HQ⟩
    ·obtain ⟨Av,cv,hG,hR,hB,hge⟩:=HQ.out
     have HG:=Aside0.mk hG
     have HRR:=Aside0.mk hR
     have HBB:=Aside0.mk hB
     have g1:wr.cell? ⟨W1.heap.size,47,none⟩=some (.slice none 0 0):=(blk_cell hG 47).trans (bsr_get _ _ 47 (by decide))
     have g2:wr.cell? ⟨W1.heap.size,256,none⟩=some (.slice Av 0 cv):=(blk_cell hG 256).trans (bsr_last _ _)
     have f1:=blk_frozen hG 47
     have f2:=blk_frozen hG 256
     have s2:wr.cell? ⟨g,2,none⟩=some (.string ⟨#[47]⟩):=(hB.cell (World.block_lt_of_cell? w0 _ HT.out.2.2.1)).trans HT.out.2.2.1
     have s3:wr.cell? ⟨g,3,none⟩=some (.string ⟨#[126,49]⟩):=(hB.cell (World.block_lt_of_cell? w0 _ HT.out.2.2.2)).trans HT.out.2.2.2
     clear hG hR hB
     have hb92:∀ h:0 < (⟨#[47]⟩:ByteArray).size,((⟨#[47]⟩:ByteArray)[0]'h).toNat=47:=fun _=>rfl
     have hnil:∀ W:World,(binOp .eql 147 (.slice none 0 0) (.slice none 0 0)).run Tryz.prog W=.ok (.bool true) W:=fun W=>by simpa using Lib.run_eql_slice_nil (P:=Tryz.prog) W 147 5 none 0 0 0 0 Tryz.underlying147
     go_upto_region 33 with (fail)
     go_upto_region 34 with (first | ((with_reducible refine gate_dst (N:=122) rfl ?_);refine Kd.event_run rfl (conv1_ev 47 ⟨#[47]⟩ (by kernel_rfl) rfl rfl) ?_;obtain ⟨W3,hW3⟩:∃ W3,W3=wr.alloc (.cells #[.int .u8 47] 5):=⟨_,rfl⟩;have H3:=Aside0.mk (show Below wr.heap.size wr W3 by rw [hW3];exact below_alloc (Below.refl _ _) _);have G3:=Aside0.mk (blk_below HG.out H3.out);have R3:=Aside0.mk (Kd.R_below HRR.out H3.out);have B3:=Aside0.mk (below_step HBB.out H3.out);rw [←hW3];clear hW3) | ((with_reducible refine gate_builtin (b:=.append) (xs:=#[.tmp 119,.tmp 123]) rfl ?_);at_builtin;refine Kd.R_append Kd.string w0.heap.size rfl (.tmp 119) (.tmp 123) 26 9 (.string ⟨#[]⟩) 16 rfl Tryz.underlying26 infoS rfl (by decide) (by omega) (.slice Av 0 cv) [] ⟨#[47]⟩ [.string ⟨#[47]⟩] (fun _=>True) (fun _=>False) rfl rfl ?aP (fun _ hk=>hk.elim) ?aF ?aO (Below.refl _ _) ?aS ?aL ?_;(case aP=>exact rfl);(case aF=>exact (fun _ _=>trivial));(case aO=>exact R3.out);(case aS=>exact B3.out.size);(case aL=>decide);intro v4 W4 ho hb hg hat;obtain ⟨A4,c4',rfl⟩:=Kd.R_slice ho;have R4:=Aside0.mk ho;have B4:=Aside0.mk (below_weaken B3.out (Nat.le_refl _) hb);have G4:=Aside0.mk (blk_grown G3.out hg (Kd.R_ne R3.out G3.out (by decide)));clear ho hb hg hat;have k256:W4.cell? ⟨W1.heap.size,256,none⟩=some (.slice Av 0 cv):=(blk_cell G4.out 256).trans (bsr_last _ _);have z256:=blk_frozen G4.out 256))
     obtain ⟨W5,hW5⟩:∃ W5,W5=W4.setCell ⟨W1.heap.size,256,none⟩ (.slice A4 1 c4'):=⟨_,rfl⟩
     have G5:=Aside0.mk (show W5.heap[W1.heap.size]? = some (.cells (bsr nilS (.slice A4 1 c4')) 257 (0,0)) by rw [hW5];exact bsr_put2 G4.out _)
     have R5:=Aside0.mk (show Kd.R Kd.string 9 W5 w0.heap.size (fun _=>True) (.slice A4 1 c4') [⟨#[47]⟩] by rw [hW5];exact Kd.R_mono (Kd.R_far (Kd.R_types R4.out G4.out (by decide)) (fun _ hk=>hk.2) _) (fun _ _=>trivial))
     have B5:=Aside0.mk (show Below w0.heap.size w0 W5 by rw [hW5];exact below_set B4.out hge)
     rw [←hW5]
     clear hW5 k256 z256 g1 g2 f1 f2
     go_wp2_with (first | ((with_reducible refine gate_dst (N:=128) rfl ?_);refine Kd.event_run rfl (conv2_ev ⟨#[126,49]⟩ rfl rfl _) ?_;obtain ⟨W6,hW6⟩:∃ W6,W6=Lib.bytesWorld W5 5 ⟨#[126,49]⟩:=⟨_,rfl⟩;obtain ⟨k6,hk6⟩:∃ k6,k6=W5.heap.size:=⟨_,rfl⟩;obtain ⟨c6,hc6⟩:∃ c6,c6=grownCap W5 (⟨#[126,49]⟩:ByteArray).size 0 5:=⟨_,rfl⟩;have H6:=Aside0.mk (show Below W5.heap.size W5 W6 by rw [hW6];exact bytes_below (Below.refl _ _) (Nat.le_refl _) 5 _);have Y6:=Aside0.mk (BY.of (u:=.slice (some ⟨k6,0,none⟩) (⟨#[126,49]⟩:ByteArray).size c6) hW6 (by rw [hk6,hc6]));have G6:=Aside0.mk (blk_below G5.out H6.out);have R6:=Aside0.mk (Kd.R_below R5.out H6.out);have B6:=Aside0.mk (below_step B5.out H6.out);rw [←hW6,←hk6,←hc6];clear hW6 hk6 hc6;have k120:W6.cell? ⟨W1.heap.size,47,none⟩=some (.slice none 0 0):=(blk_cell G6.out 47).trans (bsr_get _ _ 47 (by decide));have z120:=blk_frozen G6.out 47))
     have QQ:=Aside0.mk (show BY (W6.setCell ⟨W1.heap.size,47,none⟩ (.slice (some ⟨k6,0,none⟩) (⟨#[126,49]⟩:ByteArray).size c6)) (.slice (some ⟨k6,0,none⟩) (⟨#[126,49]⟩:ByteArray).size c6) ⟨#[126,49]⟩∧RB w0 (W6.setCell ⟨W1.heap.size,47,none⟩ (.slice (some ⟨k6,0,none⟩) (⟨#[126,49]⟩:ByteArray).size c6)) W1.heap.size (upd nilS 47 (.slice (some ⟨k6,0,none⟩) (⟨#[126,49]⟩:ByteArray).size c6)) [⟨#[47]⟩] from
      ⟨Y6.out.set G6.out 47 _,A4,c4',bsr_put G6.out 47 (by decide) _,Kd.R_mono (Kd.R_far (Kd.R_types R6.out G6.out (by decide)) (fun _ hk=>hk.2) _) (fun _ _=>trivial),below_set B6.out hge,hge⟩)
     go_roundg 1
     case measure=>omega
     case rel=>exact .inr (.inl ⟨rfl,rfl,_,QQ⟩)
    ·obtain ⟨hY,Av,cv,hG,hR,hB,hge⟩:=HQ.out
     have HY:=Aside0.mk hY
     clear hY
     have HG:=Aside0.mk hG
     have HRR:=Aside0.mk hR
     have HBB:=Aside0.mk hB
     have g1:wr.cell? ⟨W1.heap.size,126,none⟩=some (.slice none 0 0):=(blk_cell hG 126).trans (bsr_get _ _ 126 (by decide))
     have g2:wr.cell? ⟨W1.heap.size,256,none⟩=some (.slice Av 1 cv):=(blk_cell hG 256).trans (bsr_last _ _)
     have f1:=blk_frozen hG 126
     have f2:=blk_frozen hG 256
     have s2:wr.cell? ⟨g,0,none⟩=some (.string ⟨#[126]⟩):=(hB.cell (World.block_lt_of_cell? w0 _ HT.out.1)).trans HT.out.1
     have s3:wr.cell? ⟨g,1,none⟩=some (.string ⟨#[126,48]⟩):=(hB.cell (World.block_lt_of_cell? w0 _ HT.out.2.1)).trans HT.out.2.1
     clear hG hR hB
     have hb34:∀ h:0 < (⟨#[126]⟩:ByteArray).size,((⟨#[126]⟩:ByteArray)[0]'h).toNat=126:=fun _=>rfl
     have hnil:∀ W:World,(binOp .eql 147 (.slice none 0 0) (.slice none 0 0)).run Tryz.prog W=.ok (.bool true) W:=fun W=>by simpa using Lib.run_eql_slice_nil (P:=Tryz.prog) W 147 5 none 0 0 0 0 Tryz.underlying147
     go_upto_region 33 with (fail)
     go_upto_region 34 with (first | ((with_reducible refine gate_dst (N:=122) rfl ?_);refine Kd.event_run rfl (conv1_ev 126 ⟨#[126]⟩ (by kernel_rfl) rfl rfl) ?_;obtain ⟨W3,hW3⟩:∃ W3,W3=wr.alloc (.cells #[.int .u8 126] 5):=⟨_,rfl⟩;have H3:=Aside0.mk (show Below wr.heap.size wr W3 by rw [hW3];exact below_alloc (Below.refl _ _) _);have G3:=Aside0.mk (blk_below HG.out H3.out);have R3:=Aside0.mk (Kd.R_below HRR.out H3.out);have B3:=Aside0.mk (below_step HBB.out H3.out);have Y3:=Aside0.mk (HY.out.below H3.out);rw [←hW3];clear hW3) | ((with_reducible refine gate_builtin (b:=.append) (xs:=#[.tmp 119,.tmp 123]) rfl ?_);at_builtin;refine Kd.R_append Kd.string w0.heap.size rfl (.tmp 119) (.tmp 123) 26 9 (.string ⟨#[]⟩) 16 rfl Tryz.underlying26 infoS rfl (by decide) (by omega) (.slice Av 1 cv) [⟨#[47]⟩] ⟨#[126]⟩ [.string ⟨#[126]⟩] (fun _=>True) (fun _=>False) rfl rfl ?aP (fun _ hk=>hk.elim) ?aF ?aO (Below.refl _ _) ?aS ?aL ?_;(case aP=>exact rfl);(case aF=>exact (fun _ _=>trivial));(case aO=>exact R3.out);(case aS=>exact B3.out.size);(case aL=>decide);intro v4 W4 ho hb hg hat;obtain ⟨A4,c4',rfl⟩:=Kd.R_slice ho;have R4:=Aside0.mk ho;have Y4:=Aside0.mk (Y3.out.grown R3.out hg);have B4:=Aside0.mk (below_weaken B3.out (Nat.le_refl _) hb);have G4:=Aside0.mk (blk_grown G3.out hg (Kd.R_ne R3.out G3.out (by decide)));clear ho hb hg hat;have k256:W4.cell? ⟨W1.heap.size,256,none⟩=some (.slice Av 1 cv):=(blk_cell G4.out 256).trans (bsr_last _ _);have z256:=blk_frozen G4.out 256))
     obtain ⟨W5,hW5⟩:∃ W5,W5=W4.setCell ⟨W1.heap.size,256,none⟩ (.slice A4 2 c4'):=⟨_,rfl⟩
     have G5:=Aside0.mk (show W5.heap[W1.heap.size]? = some (.cells (bsr (upd nilS 47 u1) (.slice A4 2 c4')) 257 (0,0)) by rw [hW5];exact bsr_put2 G4.out _)
     have R5:=Aside0.mk (show Kd.R Kd.string 9 W5 w0.heap.size (fun _=>True) (.slice A4 2 c4') [⟨#[47]⟩,⟨#[126]⟩] by rw [hW5];exact Kd.R_mono (Kd.R_far (Kd.R_types R4.out G4.out (by decide)) (fun _ hk=>hk.2) _) (fun _ _=>trivial))
     have Y5:=Aside0.mk (show BY W5 u1 ⟨#[126,49]⟩ by rw [hW5];exact Y4.out.set G4.out 256 _)
     have B5:=Aside0.mk (show Below w0.heap.size w0 W5 by rw [hW5];exact below_set B4.out hge)
     rw [←hW5]
     clear hW5 k256 z256 g1 g2 f1 f2
     go_wp2_with (first | ((with_reducible refine gate_dst (N:=128) rfl ?_);refine Kd.event_run rfl (conv2_ev ⟨#[126,48]⟩ rfl rfl _) ?_;obtain ⟨W6,hW6⟩:∃ W6,W6=Lib.bytesWorld W5 5 ⟨#[126,48]⟩:=⟨_,rfl⟩;obtain ⟨k6,hk6⟩:∃ k6,k6=W5.heap.size:=⟨_,rfl⟩;obtain ⟨c6,hc6⟩:∃ c6,c6=grownCap W5 (⟨#[126,48]⟩:ByteArray).size 0 5:=⟨_,rfl⟩;have H6:=Aside0.mk (show Below W5.heap.size W5 W6 by rw [hW6];exact bytes_below (Below.refl _ _) (Nat.le_refl _) 5 _);have Y6:=Aside0.mk (BY.of (u:=.slice (some ⟨k6,0,none⟩) (⟨#[126,48]⟩:ByteArray).size c6) hW6 (by rw [hk6,hc6]));have G6:=Aside0.mk (blk_below G5.out H6.out);have Y61:=Aside0.mk (Y5.out.below H6.out);have R6:=Aside0.mk (Kd.R_below R5.out H6.out);have B6:=Aside0.mk (below_step B5.out H6.out);rw [←hW6,←hk6,←hc6];clear hW6 hk6 hc6;have k120:W6.cell? ⟨W1.heap.size,126,none⟩=some (.slice none 0 0):=(blk_cell G6.out 126).trans (bsr_get _ _ 126 (by decide));have z120:=blk_frozen G6.out 126))
     have QQ:=Aside0.mk (show BY (W6.setCell ⟨W1.heap.size,126,none⟩ (.slice (some ⟨k6,0,none⟩) (⟨#[126,48]⟩:ByteArray).size c6)) u1 ⟨#[126,49]⟩∧BY (W6.setCell ⟨W1.heap.size,126,none⟩ (.slice (some ⟨k6,0,none⟩) (⟨#[126,48]⟩:ByteArray).size c6)) (.slice (some ⟨k6,0,none⟩) (⟨#[126,48]⟩:ByteArray).size c6) ⟨#[126,48]⟩∧RB w0 (W6.setCell ⟨W1.heap.size,126,none⟩ (.slice (some ⟨k6,0,none⟩) (⟨#[126,48]⟩:ByteArray).size c6)) W1.heap.size (upd (upd nilS 47 u1) 126 (.slice (some ⟨k6,0,none⟩) (⟨#[126,48]⟩:ByteArray).size c6)) [⟨#[47]⟩,⟨#[126]⟩] from
      ⟨Y61.out.set G6.out 126 _,Y6.out.set G6.out 126 _,A4,c4',bsr_put G6.out 126 (by decide) _,Kd.R_mono (Kd.R_far (Kd.R_types R6.out G6.out (by decide)) (fun _ hk=>hk.2) _) (fun _ _=>trivial),below_set B6.out hge,hge⟩)
     go_roundg 0
     case measure=>omega
     case rel=>exact .inr (.inr ⟨rfl,rfl,_,_,QQ⟩)
    ·obtain ⟨hY1,hY2,Av,cv,hG,hR,hB,hge⟩:=HQ.out
     clear t0 t1 t2 t3 c4
     have HX:=Aside0.mk (show IsRepE w0 wr W1.heap.size from ⟨u1,u2,hY1,hY2,Av,cv,hG,hR,hB,hge⟩)
     clear hY1 hY2 hG hR hB
     go_wp2
     go_ret
     exact ⟨⟨W1.heap.size,rfl,HX.out⟩⟩
theorem IsRepE.bel {w W:World} {gB:Nat} (h:IsRepE w W gB):Below w.heap.size w W:=by
 obtain ⟨_,_,_,_,h3⟩:=h.out
 exact h3.bel
theorem mkE:Mk oldE 258 IsRepE where
 len:=rfl
 build:=fun b x0 x1 x2 x3 g c w hb hA=>(buildE_c b x0 x1 x2 x3 g c w hb hA).mono fun e w' h=>h.out
 lower:=fun {w00 w W gB} h hb=>by
  obtain ⟨u1,u2,h1,h2,h3⟩:=h.out
  exact ⟨u1,u2,h1,h2,h3.lower hb⟩
 setb:=fun {w00 W gB b cs} h hB hw i x=>by
  obtain ⟨u1,u2,h1,h2,h3⟩:=h.out
  exact ⟨u1,u2,h1.setb hB i x,h2.setb hB i x,h3.setb hB hw i x⟩
 drew:=fun {w00 W gB} h=>by
  obtain ⟨u1,u2,h1,h2,A,c,h3,h4,h5,h6⟩:=h.out
  have hb:Below W.heap.size W W.drew:=below_drew1 (Below.refl _ _)
  exact ⟨u1,u2,h1.below hb,h2.below hb,A,c,blk_below h3 hb,Kd.R_below h4 hb,below_step h5 hb,h6⟩
 bel:=fun h=>h.bel
end Go.Proofs.YtoaafohpmhdjnaaGreatDoor.RY
