import Derived.Test.YtoaafohpmhdjnaaGreatDoorCards
import Derived.Test.YtoaafohpmhdjnaaGreatDoorTie
import Derived.Test.YtoaafohpmhdjnaaGreatDoorTAYTE
import Derived.Test.YtoaafohpmhdjnaaGreatDoorTAYOG
import Derived.SevenTiedAt
/- The law FnExactGoodAct returns true for every argument: the row, the tied card. Conditions: none beyond the row's own. -/
namespace Go.Proofs.YtoaafohpmhdjnaaGreatDoor.fnExactGoodAct
open Go.ChangeShapes Go.WideShapes Go.ChangeAt Go.RowKit Go.Proofs.YtoaafohpmhdjnaaGreatDoor.OpenK Go.Proofs.YtoaafohpmhdjnaaGreatDoor.VOP Go.Proofs.YtoaafohpmhdjnaaGreatDoor.PVG Go.Proofs.YtoaafohpmhdjnaaGreatDoorW.PrintWords
open Go.ChangeMaps (open_string shut_string)
set_option linter.unusedVariables false
set_option maxRecDepth 100000 in
theorem lifted (os:Os) (started:os.Started) (H:Type) (enc:TypeId×Value→H) :
  ReturnsInHanded {} Tryz.checked os 6 .any (fun w args=>(Rows.fnExactGoodActSpec.pre enc Tryz.prog Tryz.f6 [] false w args∧laidMetH Tryz.prog laid5p w)∧sizedMet enc Tryz.prog Tryz.f6 (OpenSpec.ofChange Rows.fnExactGoodActSpec) false w args)
   (Rows.fnExactGoodActSpec.post enc Tryz.prog Tryz.f6 false true false false):=by
 refine returnsInHanded_of_change_and (C:=Tryz.checked) (X:=fun w _=>laidMetH Tryz.prog laid5p w) (fun _ _ _ hh h=>h.of_heap hh) own started (by kernel_rfl) Tryz.func6
  (ChangeSpec.witness_shaped (enc:=enc) (C:=Tryz.checked) (os:=os) (X:=fun w _=>laidMetH Tryz.prog laid5p w) false (door7 os) #[.agg #[.int .i64 0,.string ⟨#[]⟩,.slice none 0 0]] 8 rfl (World.shaped_of_RefB (by kernel_rfl) (by kernel_rfl)) (by kernel_rfl) (by kernel_rfl) (by kernel_rfl) (door_met5p os _)) ?_
 intro W base args ds gs before hval0 hW _ _ hL _
 have hval:∀ (j:Nat) t v,Tryz.f6.params[j]? = some t→args[j]? = some v→Value.okWide Tryz.prog W .any base t v:=hval0
 have hW':=hW
 obtain ⟨p,q,hA0,hV,rfl,hfz,hnd⟩:=hW
 have hA:DataW.TrodAll enc Tryz.prog W 0 (fun _=>true) true Tryz.f6.params.toList args.toList ds p:=hA0
 rw [Tryz.params6] at hA hval
 obtain ⟨v0,vs0,d0,ds0,p0,q0,hargs,rfl,rfl,h0,r0⟩:=trodAll_cons hA
 obtain ⟨rfl,rfl,rfl⟩:=trodAll_nil r0
 obtain rfl:args=#[v0]:=by cases args;simp_all
 obtain ⟨rfl,rfl⟩:=trodVars_none hV
 have hT:=of_laid5p hL
 obtain ⟨cs0,rfl,hcs0⟩:=okWide_struct Tryz.underlying44 (hval 0 44 v0 rfl rfl)
 have k0:=h0
 have lt0:∀ x∈p0,x.block < W.heap.size:=by obtain ⟨m,hm⟩:=k0;exact DataW.trod_lt m _ _ _ hm
 obtain ⟨fuel0,hf0⟩:=h0
 obtain ⟨⟨kd0,s0,l0⟩,hK0,hw0,hp0,hq0⟩:=actO.op hf0
 obtain ⟨x0,x1,he0,hx0,y0,y1,rfl,hy0,A0,c0,hx2,hlc0,hC0⟩:=hK0
 replace hx0:x0=[.int .i64 kd0]:=hx0
 replace hy0:y0=[.string s0]:=hy0
 replace hx2:y1=[.slice A0 l0.length c0]:=hx2
 subst hx0 hy0 hx2
 replace he0:cs0.toList=[.int .i64 kd0,.string s0,.slice A0 l0.length c0]:=he0
 obtain rfl:cs0=#[.int .i64 kd0,.string s0,.slice A0 l0.length c0]:=by
  cases cs0
  simpa using he0
 have hn0:l0.length≤maxLen:=hC0.2.1
 clear hA0 hval0
 refine (VT.act_law kd0 s0 A0 c0 l0 W hT ⟨hn0,hq0⟩ hp0 hC0 hlc0).mono fun e W' ⟨he,bel⟩=>?_
 subst he
 exact ⟨_,rfl,_,_,_,[],_,[],hW',trodAll_mk1 (shut_bool Tryz.underlying4 _),(trodAll_cons_mk (Below.trod laidOut (by kernel_rfl) (of_decide_eq_true (by kernel_rfl)) k0 bel lt0) trodAll_mk0),rfl,bel.frame _,fun h=>by cases h⟩
theorem j1:(Rows.fnExactGoodActRow.inPlace==Tryz.pinned.checked.prog.inPlace 6)=true:=by kernel_rfl
theorem j2:(Rows.fnExactGoodActRow.unfollowed==Tryz.pinned.checked.prog.unfollowed 6)=true:=by kernel_rfl
theorem j3:(Rows.fnExactGoodActRow.recurses==Tryz.pinned.checked.prog.recurses 6)=true:=by kernel_rfl
theorem j4:(Rows.fnExactGoodActRow.named==Tryz.pinned.checked.prog.varsNamed 6)=true:=by kernel_rfl
theorem j5:Tryz.pinned.checked.prog.mayEnter=true:=by kernel_rfl
theorem j6:Tryz.pinned.checked.prog.stopsHeard=true:=by kernel_rfl
theorem j7:laidOutB Tryz.pinned.checked.prog=true:=by kernel_rfl
theorem closed:joinedFacts Tryz.pinned.checked.prog 6 Tryz.f6 Rows.fnExactGoodActSpec Rows.fnExactGoodActRow=true:=by
 unfold joinedFacts
 rw [j1,j2,j3,j4,j5,j6,j7]
 kernel_rfl
theorem c1:Rows.fnExactGoodActRow.wfByText (OpenSpec.ofChange Rows.fnExactGoodActSpec)=true:=by kernel_rfl
theorem c2:Tryz.pinned.checked.prog.mainIs=some (true,"6e86f2ee91307de541ad9f4ec8203223655c35e618dc784dd34502f29de5d321".toList):=by kernel_rfl
theorem c3:true=Tryz.pinned.checked.prog.looks []:=by kernel_rfl
theorem c4:false=Rows.fnExactGoodActRow.goesBy Tryz.pinned.checked.prog:=by kernel_rfl
theorem over:Rows.fnExactGoodActRow.holds Tryz.pinned (OpenSpec.ofChange Rows.fnExactGoodActSpec) :=
 OpenClaim.holds_of_wide 6 Tryz.f6 rfl rfl rfl rfl rfl rfl rfl ⟨rfl,rfl,rfl,rfl,rfl⟩ rfl rfl rfl rfl rfl (by kernel_rfl) Tryz.func6 closed
  (of_decide_eq_true (by kernel_rfl)) (by unfold Func.isWrapper;first | (rw [if_pos (by decide +kernel)];kernel_rfl) | (rw [if_neg (by decide +kernel)];exact ⟨rfl,rfl⟩))
  (fun os started H enc _=>lifted os started H enc)
theorem proved:Rows.FnExactGoodActSaid:=over
end Go.Proofs.YtoaafohpmhdjnaaGreatDoor.fnExactGoodAct
namespace Go.Proofs.YtoaafohpmhdjnaaGreatDoor
theorem fnExactGoodAct_card_holds:Rows.FnExactGoodActCardSaid :=
 Claim7.holds_tied_plain_at .later [] [.data,.data,.data,.data,.pinned] true (true,"6e86f2ee91307de541ad9f4ec8203223655c35e618dc784dd34502f29de5d321") true
  fnExactGoodAct.proved (fun _ h=>by cases h) fnExactGoodAct.c1 (fun _ h=>by cases h) fnExactGoodAct_row_tie rfl ⟨rfl,rfl⟩ fnExactGoodAct.c2 rfl
  (fun f fn hf hfn=>by
   obtain rfl:f=6:=Option.some.inj ((show Tryz.prog.funcNamed "loop.example/g00274/laws.FnExactGoodAct" = some 6 by kernel_rfl).symm.trans hf) |>.symm
   obtain rfl:fn=Tryz.f6:=(Option.some.inj (Tryz.func6.symm.trans hfn)).symm
   exact ⟨fnExactGoodAct.c3,fun j t ht=>by
    rw [Tryz.params6] at ht
    have hm:t∈[44]:=by simpa using Array.mem_of_getElem? ht
    have hall:([44].all fun u=>!Tryz.prog.wantsStandIn u)=true:=by kernel_rfl
    exact (show Tryz.prog.wantsStandIn t=false by simpa using List.all_eq_true.1 hall t hm)⟩)
  fnExactGoodAct.c4
end Go.Proofs.YtoaafohpmhdjnaaGreatDoor
