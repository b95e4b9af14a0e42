import Derived.Test.YtoaafohpmhdjnaaGreatDoorTAYPA
import Derived.Deep.DeepCutAuto
import Derived.Test.YtoaafohpmhdjnaaGreatDoorTAPVGx0
/- impl.nodeOK, walked. Conditions: none. -/
namespace Go.Proofs.YtoaafohpmhdjnaaGreatDoor.VT
open Go.RowKit Go.Proofs.YtoaafohpmhdjnaaGreatDoor.PVG Go.Proofs.YtoaafohpmhdjnaaGreatDoorW.PrintWords Go.Proofs.YtoaafohpmhdjnaaGreatDoorW.PrintLast Go.Proofs.YtoaafohpmhdjnaaGreatDoorW.PrintMore
set_option linter.unusedVariables false
set_option linter.unusedSimpArgs false
def bad1 (kd nu:Int) (tx:ByteArray):Bool:=!(inB kd 1 7) || (kd != 4&&nu != 0) || (kd != 5&&!emp tx)
theorem nodeOK_bad (kd nu:Int) (tx nm:ByteArray) (u up:Int):nodeOK ⟨kd,nu,tx,nm,u⟩ up=(!(bad1 kd nu tx)&&(if up==7 then prt nm else emp nm)&&inB nu (-1000000000) 1000000000&&prt tx):=by
 unfold nodeOK nodeG bad1
 cases inB kd 1 7 <;> cases inB nu (-1000000000) 1000000000 <;> cases prt tx <;> cases emp tx <;> by_cases h4:kd=4 <;> by_cases h5:kd=5 <;> by_cases h1:nu=0 <;> cases (if up==7 then prt nm else emp nm) <;> simp [bne,h4,h5,h1]
set_option maxRecDepth 100000 in
set_option maxHeartbeats 4000000 in
theorem nodeOK_c (x:S107) (up:Int) (w:World) :
  Calls Tryz.prog 155 #[.agg #[.int .i64 x.f0,.int .i64 x.f1,.string x.f2,.string x.f3,.int .i64 x.f4],.int .i64 up] w fun e w'=>e=.returned (.bool (nodeOK x up))∧Below w.heap.size w w':=by
 obtain ⟨kd,nu,tx,nm,u⟩:=x
 simp only
 have K1:=Aside0.mk (blk_new w (.cells #[.int .i64 kd,.int .i64 nu,.string tx,.string nm,.int .i64 u] 107))
 have B1:=Aside0.mk (below_alloc (Below.refl w.heap.size w) (.cells #[.int .i64 kd,.int .i64 nu,.string tx,.string nm,.int .i64 u] 107))
 obtain ⟨W1,hW1⟩:∃ W1,W1=w.alloc (.cells #[.int .i64 kd,.int .i64 nu,.string tx,.string nm,.int .i64 u] 107):=⟨_,rfl⟩
 obtain ⟨gn,hgn⟩:∃ gn,gn=w.heap.size:=⟨_,rfl⟩
 go_enter Tryz.func155,Tryz.ntmps155
 go_upto_region 1 with (fail)
 rw [←hW1,←hgn] at K1
 rw [←hW1] at B1
 rw [←hW1,←hgn]
 clear hW1 hgn
 go_cut [28] (fun v28 wc=>v28=.bool (bad1 kd nu tx)∧Aside0 (wc.heap[gn]? = some (.cells #[.int .i64 kd,.int .i64 nu,.string tx,.string nm,.int .i64 u] 107 (0,0)))∧Aside0 (Below w.heap.size w wc))
 case first=>as_aux_lemma =>
  have k0:W1.cell? ⟨gn,0,none⟩=some (.int .i64 kd):=(blk_cell K1.out 0).trans rfl
  have k1:W1.cell? ⟨gn,1,none⟩=some (.int .i64 nu):=(blk_cell K1.out 1).trans rfl
  have k2:W1.cell? ⟨gn,2,none⟩=some (.string tx):=(blk_cell K1.out 2).trans rfl
  cases e1:inB kd 1 7 with
  | false =>
   have BN:=Aside0.mk (show bad1 kd nu tx=true by simp [bad1,e1])
   have E1:=Aside0.mk e1;clear e1
   go_wp2_with (first | (go_at_call 112;first | ((with_reducible refine (within_c kd 1 7 _ _ E1.out).mono ?_);rintro e w' ⟨rfl,⟨n_,rfl⟩⟩) | ((with_reducible refine (within_c nu (-1000000000) 1000000000 _ _ E4.out).mono ?_);rintro e w' ⟨rfl,⟨n_,rfl⟩⟩)) | (go_at_call 124;first | ((with_reducible refine (prt_c nm _ _ E8.out).mono ?_);rintro e w' ⟨rfl,⟨n_,rfl⟩⟩) | ((with_reducible refine (prt_c tx _ _ rfl).mono ?_);rintro e w' ⟨rfl,⟨n_,rfl⟩⟩)))
   go_meet
   case rel=>exact ⟨by rw [BN.out],⟨by first | exact K1.out | exact blk_drewN K1.out _⟩,⟨by first | exact B1.out | exact pw_below_drewN B1.out _⟩⟩
  | true =>
   cases e2:(kd != 4) with
   | false =>
    cases e5:(kd != 5) with
    | false =>
     have BN:=Aside0.mk (show bad1 kd nu tx=false by simp [bad1,e1,e2,e5])
     have E1:=Aside0.mk e1;clear e1
     go_wp2_with (first | (go_at_call 112;first | ((with_reducible refine (within_c kd 1 7 _ _ E1.out).mono ?_);rintro e w' ⟨rfl,⟨n_,rfl⟩⟩) | ((with_reducible refine (within_c nu (-1000000000) 1000000000 _ _ E4.out).mono ?_);rintro e w' ⟨rfl,⟨n_,rfl⟩⟩)) | (go_at_call 124;first | ((with_reducible refine (prt_c nm _ _ E8.out).mono ?_);rintro e w' ⟨rfl,⟨n_,rfl⟩⟩) | ((with_reducible refine (prt_c tx _ _ rfl).mono ?_);rintro e w' ⟨rfl,⟨n_,rfl⟩⟩)))
     go_meet
     case rel=>exact ⟨by rw [BN.out],⟨by first | exact K1.out | exact blk_drewN K1.out _⟩,⟨by first | exact B1.out | exact pw_below_drewN B1.out _⟩⟩
    | true =>
     cases e6:emp tx with
     | false =>
      have BN:=Aside0.mk (show bad1 kd nu tx=true by simp [bad1,e1,e2,e5,e6])
      have E1:=Aside0.mk e1;clear e1
      have e6':=emp_list e6;clear e6
      go_wp2_with (first | (go_at_call 112;first | ((with_reducible refine (within_c kd 1 7 _ _ E1.out).mono ?_);rintro e w' ⟨rfl,⟨n_,rfl⟩⟩) | ((with_reducible refine (within_c nu (-1000000000) 1000000000 _ _ E4.out).mono ?_);rintro e w' ⟨rfl,⟨n_,rfl⟩⟩)) | (go_at_call 124;first | ((with_reducible refine (prt_c nm _ _ E8.out).mono ?_);rintro e w' ⟨rfl,⟨n_,rfl⟩⟩) | ((with_reducible refine (prt_c tx _ _ rfl).mono ?_);rintro e w' ⟨rfl,⟨n_,rfl⟩⟩)))
      go_meet
      case rel=>exact ⟨by rw [BN.out],⟨by first | exact K1.out | exact blk_drewN K1.out _⟩,⟨by first | exact B1.out | exact pw_below_drewN B1.out _⟩⟩
     | true =>
      have BN:=Aside0.mk (show bad1 kd nu tx=false by simp [bad1,e1,e2,e5,e6])
      have E1:=Aside0.mk e1;clear e1
      have e6':=emp_list e6;clear e6
      go_wp2_with (first | (go_at_call 112;first | ((with_reducible refine (within_c kd 1 7 _ _ E1.out).mono ?_);rintro e w' ⟨rfl,⟨n_,rfl⟩⟩) | ((with_reducible refine (within_c nu (-1000000000) 1000000000 _ _ E4.out).mono ?_);rintro e w' ⟨rfl,⟨n_,rfl⟩⟩)) | (go_at_call 124;first | ((with_reducible refine (prt_c nm _ _ E8.out).mono ?_);rintro e w' ⟨rfl,⟨n_,rfl⟩⟩) | ((with_reducible refine (prt_c tx _ _ rfl).mono ?_);rintro e w' ⟨rfl,⟨n_,rfl⟩⟩)))
      go_meet
      case rel=>exact ⟨by rw [BN.out],⟨by first | exact K1.out | exact blk_drewN K1.out _⟩,⟨by first | exact B1.out | exact pw_below_drewN B1.out _⟩⟩
   | true =>
    cases e3:(nu != 0) with
    | false =>
     cases e5:(kd != 5) with
     | false =>
      have BN:=Aside0.mk (show bad1 kd nu tx=false by simp [bad1,e1,e2,e3,e5])
      have E1:=Aside0.mk e1;clear e1
      go_wp2_with (first | (go_at_call 112;first | ((with_reducible refine (within_c kd 1 7 _ _ E1.out).mono ?_);rintro e w' ⟨rfl,⟨n_,rfl⟩⟩) | ((with_reducible refine (within_c nu (-1000000000) 1000000000 _ _ E4.out).mono ?_);rintro e w' ⟨rfl,⟨n_,rfl⟩⟩)) | (go_at_call 124;first | ((with_reducible refine (prt_c nm _ _ E8.out).mono ?_);rintro e w' ⟨rfl,⟨n_,rfl⟩⟩) | ((with_reducible refine (prt_c tx _ _ rfl).mono ?_);rintro e w' ⟨rfl,⟨n_,rfl⟩⟩)))
      go_meet
      case rel=>exact ⟨by rw [BN.out],⟨by first | exact K1.out | exact blk_drewN K1.out _⟩,⟨by first | exact B1.out | exact pw_below_drewN B1.out _⟩⟩
     | true =>
      cases e6:emp tx with
      | false =>
       have BN:=Aside0.mk (show bad1 kd nu tx=true by simp [bad1,e1,e2,e3,e5,e6])
       have E1:=Aside0.mk e1;clear e1
       have e6':=emp_list e6;clear e6
       go_wp2_with (first | (go_at_call 112;first | ((with_reducible refine (within_c kd 1 7 _ _ E1.out).mono ?_);rintro e w' ⟨rfl,⟨n_,rfl⟩⟩) | ((with_reducible refine (within_c nu (-1000000000) 1000000000 _ _ E4.out).mono ?_);rintro e w' ⟨rfl,⟨n_,rfl⟩⟩)) | (go_at_call 124;first | ((with_reducible refine (prt_c nm _ _ E8.out).mono ?_);rintro e w' ⟨rfl,⟨n_,rfl⟩⟩) | ((with_reducible refine (prt_c tx _ _ rfl).mono ?_);rintro e w' ⟨rfl,⟨n_,rfl⟩⟩)))
       go_meet
       case rel=>exact ⟨by rw [BN.out],⟨by first | exact K1.out | exact blk_drewN K1.out _⟩,⟨by first | exact B1.out | exact pw_below_drewN B1.out _⟩⟩
      | true =>
       have BN:=Aside0.mk (show bad1 kd nu tx=false by simp [bad1,e1,e2,e3,e5,e6])
       have E1:=Aside0.mk e1;clear e1
       have e6':=emp_list e6;clear e6
       go_wp2_with (first | (go_at_call 112;first | ((with_reducible refine (within_c kd 1 7 _ _ E1.out).mono ?_);rintro e w' ⟨rfl,⟨n_,rfl⟩⟩) | ((with_reducible refine (within_c nu (-1000000000) 1000000000 _ _ E4.out).mono ?_);rintro e w' ⟨rfl,⟨n_,rfl⟩⟩)) | (go_at_call 124;first | ((with_reducible refine (prt_c nm _ _ E8.out).mono ?_);rintro e w' ⟨rfl,⟨n_,rfl⟩⟩) | ((with_reducible refine (prt_c tx _ _ rfl).mono ?_);rintro e w' ⟨rfl,⟨n_,rfl⟩⟩)))
       go_meet
       case rel=>exact ⟨by rw [BN.out],⟨by first | exact K1.out | exact blk_drewN K1.out _⟩,⟨by first | exact B1.out | exact pw_below_drewN B1.out _⟩⟩
    | true =>
     have BN:=Aside0.mk (show bad1 kd nu tx=true by simp [bad1,e1,e2,e3])
     have E1:=Aside0.mk e1;clear e1
     go_wp2_with (first | (go_at_call 112;first | ((with_reducible refine (within_c kd 1 7 _ _ E1.out).mono ?_);rintro e w' ⟨rfl,⟨n_,rfl⟩⟩) | ((with_reducible refine (within_c nu (-1000000000) 1000000000 _ _ E4.out).mono ?_);rintro e w' ⟨rfl,⟨n_,rfl⟩⟩)) | (go_at_call 124;first | ((with_reducible refine (prt_c nm _ _ E8.out).mono ?_);rintro e w' ⟨rfl,⟨n_,rfl⟩⟩) | ((with_reducible refine (prt_c tx _ _ rfl).mono ?_);rintro e w' ⟨rfl,⟨n_,rfl⟩⟩)))
     go_meet
     case rel=>exact ⟨by rw [BN.out],⟨by first | exact K1.out | exact blk_drewN K1.out _⟩,⟨by first | exact B1.out | exact pw_below_drewN B1.out _⟩⟩
 case rest=>as_aux_lemma =>
  clear K1 B1
  obtain ⟨rfl,K2,B2⟩:=hcut
  have k1:wc.cell? ⟨gn,1,none⟩=some (.int .i64 nu):=(blk_cell K2.out 1).trans rfl
  have k2:wc.cell? ⟨gn,2,none⟩=some (.string tx):=(blk_cell K2.out 2).trans rfl
  have k3:wc.cell? ⟨gn,3,none⟩=some (.string nm):=(blk_cell K2.out 3).trans rfl
  cases eb:bad1 kd nu tx with
  | false =>
   cases e7:(up==7) with
   | false =>
    cases e9:emp nm with
    | false =>
     have BN:=Aside0.mk (show nodeOK ⟨kd,nu,tx,nm,u⟩ up=false by rw [nodeOK_bad];simp [eb,e7,e9])
     have e9':=emp_list e9;clear e9
     go_wp2_with (first | (go_at_call 112;first | ((with_reducible refine (within_c kd 1 7 _ _ E1.out).mono ?_);rintro e w' ⟨rfl,⟨n_,rfl⟩⟩) | ((with_reducible refine (within_c nu (-1000000000) 1000000000 _ _ E4.out).mono ?_);rintro e w' ⟨rfl,⟨n_,rfl⟩⟩)) | (go_at_call 124;first | ((with_reducible refine (prt_c nm _ _ E8.out).mono ?_);rintro e w' ⟨rfl,⟨n_,rfl⟩⟩) | ((with_reducible refine (prt_c tx _ _ rfl).mono ?_);rintro e w' ⟨rfl,⟨n_,rfl⟩⟩)))
     go_ret
     exact ⟨by rw [BN.out];first | rfl | simp,by first | exact B2.out | exact pw_below_drewN B2.out _⟩
    | true =>
     cases e4:inB nu (-1000000000) 1000000000 with
     | false =>
      have BN:=Aside0.mk (show nodeOK ⟨kd,nu,tx,nm,u⟩ up=false by rw [nodeOK_bad];simp [eb,e7,e9,e4])
      have e9':=emp_list e9;clear e9
      have E4:=Aside0.mk e4;clear e4
      go_wp2_with (first | (go_at_call 112;first | ((with_reducible refine (within_c kd 1 7 _ _ E1.out).mono ?_);rintro e w' ⟨rfl,⟨n_,rfl⟩⟩) | ((with_reducible refine (within_c nu (-1000000000) 1000000000 _ _ E4.out).mono ?_);rintro e w' ⟨rfl,⟨n_,rfl⟩⟩)) | (go_at_call 124;first | ((with_reducible refine (prt_c nm _ _ E8.out).mono ?_);rintro e w' ⟨rfl,⟨n_,rfl⟩⟩) | ((with_reducible refine (prt_c tx _ _ rfl).mono ?_);rintro e w' ⟨rfl,⟨n_,rfl⟩⟩)))
      go_ret
      exact ⟨by rw [BN.out];first | rfl | simp,by first | exact B2.out | exact pw_below_drewN B2.out _⟩
     | true =>
      have BN:=Aside0.mk (show nodeOK ⟨kd,nu,tx,nm,u⟩ up=prt tx by rw [nodeOK_bad];simp [eb,e7,e9,e4])
      have e9':=emp_list e9;clear e9
      have E4:=Aside0.mk e4;clear e4
      go_wp2_with (first | (go_at_call 112;first | ((with_reducible refine (within_c kd 1 7 _ _ E1.out).mono ?_);rintro e w' ⟨rfl,⟨n_,rfl⟩⟩) | ((with_reducible refine (within_c nu (-1000000000) 1000000000 _ _ E4.out).mono ?_);rintro e w' ⟨rfl,⟨n_,rfl⟩⟩)) | (go_at_call 124;first | ((with_reducible refine (prt_c nm _ _ E8.out).mono ?_);rintro e w' ⟨rfl,⟨n_,rfl⟩⟩) | ((with_reducible refine (prt_c tx _ _ rfl).mono ?_);rintro e w' ⟨rfl,⟨n_,rfl⟩⟩)))
      go_ret
      exact ⟨by rw [BN.out];first | rfl | simp,by first | exact B2.out | exact pw_below_drewN B2.out _⟩
   | true =>
    cases e8:prt nm with
    | false =>
     have BN:=Aside0.mk (show nodeOK ⟨kd,nu,tx,nm,u⟩ up=false by rw [nodeOK_bad];simp [eb,e7,e8])
     have E8:=Aside0.mk e8;clear e8
     go_wp2_with (first | (go_at_call 112;first | ((with_reducible refine (within_c kd 1 7 _ _ E1.out).mono ?_);rintro e w' ⟨rfl,⟨n_,rfl⟩⟩) | ((with_reducible refine (within_c nu (-1000000000) 1000000000 _ _ E4.out).mono ?_);rintro e w' ⟨rfl,⟨n_,rfl⟩⟩)) | (go_at_call 124;first | ((with_reducible refine (prt_c nm _ _ E8.out).mono ?_);rintro e w' ⟨rfl,⟨n_,rfl⟩⟩) | ((with_reducible refine (prt_c tx _ _ rfl).mono ?_);rintro e w' ⟨rfl,⟨n_,rfl⟩⟩)))
     go_ret
     exact ⟨by rw [BN.out];first | rfl | simp,by first | exact B2.out | exact pw_below_drewN B2.out _⟩
    | true =>
     cases e4:inB nu (-1000000000) 1000000000 with
     | false =>
      have BN:=Aside0.mk (show nodeOK ⟨kd,nu,tx,nm,u⟩ up=false by rw [nodeOK_bad];simp [eb,e7,e8,e4])
      have E8:=Aside0.mk e8;clear e8
      have E4:=Aside0.mk e4;clear e4
      go_wp2_with (first | (go_at_call 112;first | ((with_reducible refine (within_c kd 1 7 _ _ E1.out).mono ?_);rintro e w' ⟨rfl,⟨n_,rfl⟩⟩) | ((with_reducible refine (within_c nu (-1000000000) 1000000000 _ _ E4.out).mono ?_);rintro e w' ⟨rfl,⟨n_,rfl⟩⟩)) | (go_at_call 124;first | ((with_reducible refine (prt_c nm _ _ E8.out).mono ?_);rintro e w' ⟨rfl,⟨n_,rfl⟩⟩) | ((with_reducible refine (prt_c tx _ _ rfl).mono ?_);rintro e w' ⟨rfl,⟨n_,rfl⟩⟩)))
      go_ret
      exact ⟨by rw [BN.out];first | rfl | simp,by first | exact B2.out | exact pw_below_drewN B2.out _⟩
     | true =>
      have BN:=Aside0.mk (show nodeOK ⟨kd,nu,tx,nm,u⟩ up=prt tx by rw [nodeOK_bad];simp [eb,e7,e8,e4])
      have E8:=Aside0.mk e8;clear e8
      have E4:=Aside0.mk e4;clear e4
      go_wp2_with (first | (go_at_call 112;first | ((with_reducible refine (within_c kd 1 7 _ _ E1.out).mono ?_);rintro e w' ⟨rfl,⟨n_,rfl⟩⟩) | ((with_reducible refine (within_c nu (-1000000000) 1000000000 _ _ E4.out).mono ?_);rintro e w' ⟨rfl,⟨n_,rfl⟩⟩)) | (go_at_call 124;first | ((with_reducible refine (prt_c nm _ _ E8.out).mono ?_);rintro e w' ⟨rfl,⟨n_,rfl⟩⟩) | ((with_reducible refine (prt_c tx _ _ rfl).mono ?_);rintro e w' ⟨rfl,⟨n_,rfl⟩⟩)))
      go_ret
      exact ⟨by rw [BN.out];first | rfl | simp,by first | exact B2.out | exact pw_below_drewN B2.out _⟩
  | true =>
   have BN:=Aside0.mk (show nodeOK ⟨kd,nu,tx,nm,u⟩ up=false by rw [nodeOK_bad];simp [eb])
   go_wp2_with (first | (go_at_call 112;first | ((with_reducible refine (within_c kd 1 7 _ _ E1.out).mono ?_);rintro e w' ⟨rfl,⟨n_,rfl⟩⟩) | ((with_reducible refine (within_c nu (-1000000000) 1000000000 _ _ E4.out).mono ?_);rintro e w' ⟨rfl,⟨n_,rfl⟩⟩)) | (go_at_call 124;first | ((with_reducible refine (prt_c nm _ _ E8.out).mono ?_);rintro e w' ⟨rfl,⟨n_,rfl⟩⟩) | ((with_reducible refine (prt_c tx _ _ rfl).mono ?_);rintro e w' ⟨rfl,⟨n_,rfl⟩⟩)))
   go_ret
   exact ⟨by rw [BN.out];first | rfl | simp,by first | exact B2.out | exact pw_below_drewN B2.out _⟩
end Go.Proofs.YtoaafohpmhdjnaaGreatDoor.VT
