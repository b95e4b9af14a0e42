import Derived.Test.YtoaafohpmhdjnaaGreatDoorCards
import Derived.Test.YtoaafohpmhdjnaaGreatDoorTie
import Derived.Test.YtoaafohpmhdjnaaGreatDoorGAYOI
import Derived.SevenTiedAt
/- The law FnExactGetAt returns true for every argument: the row, the tied card. Conditions: none beyond the row's own. -/
namespace Go.Proofs.YtoaafohpmhdjnaaGreatDoor.fnExactGetAt
open Go.ChangeShapes Go.WideShapes Go.ChangeAt Go.RowKit Go.Proofs.YtoaafohpmhdjnaaGreatDoor.OpenK Go.Proofs.YtoaafohpmhdjnaaGreatDoor.VOP Go.Proofs.YtoaafohpmhdjnaaGreatDoor.PVG Go.Proofs.YtoaafohpmhdjnaaGreatDoorW.PrintWords
open Go.ChangeMaps (open_string shut_string)
set_option linter.unusedVariables false
set_option maxRecDepth 100000 in
theorem lifted (os:Os) (started:os.Started) (H:Type) (enc:TypeId×Value→H) :
  ReturnsInHanded {} Tryz.checked os 5 .any (fun w args=>(Rows.fnExactGetAtSpec.pre enc Tryz.prog Tryz.f5 [] false w args∧laidMetH Tryz.prog laid7 w)∧sizedMet enc Tryz.prog Tryz.f5 (OpenSpec.ofChange Rows.fnExactGetAtSpec) false w args)
   (Rows.fnExactGetAtSpec.post enc Tryz.prog Tryz.f5 false true false false):=by
 refine returnsInHanded_of_change_and (C:=Tryz.checked) (X:=fun w _=>laidMetH Tryz.prog laid7 w) (fun _ _ _ hh h=>h.of_heap hh) own started (by kernel_rfl) Tryz.func5
  (ChangeSpec.witness_shaped (enc:=enc) (C:=Tryz.checked) (os:=os) (X:=fun w _=>laidMetH Tryz.prog laid7 w) false (door7 os) #[.agg #[.slice none 0 0],.string ⟨#[]⟩] 8 rfl (World.shaped_of_RefB (by kernel_rfl) (by kernel_rfl)) (by kernel_rfl) (by kernel_rfl) (by kernel_rfl) (door_met7 os _)) ?_
 intro W base args ds gs before hval0 hW _ _ hL _
 have hval:∀ (j:Nat) t v,Tryz.f5.params[j]? = some t→args[j]? = some v→Value.okWide Tryz.prog W .any base t v:=hval0
 have hW':=hW
 obtain ⟨p,q,hA0,hV,rfl,hfz,hnd⟩:=hW
 have hA:DataW.TrodAll enc Tryz.prog W 0 (fun _=>true) true Tryz.f5.params.toList args.toList ds p:=hA0
 rw [Tryz.params5] at hA hval
 obtain ⟨v0,vs0,d0,ds0,p0,q0,hargs,rfl,rfl,h0,r0⟩:=trodAll_cons hA
 obtain ⟨v1,vs1,d1,ds1,p1,q1,rfl,rfl,rfl,h1,r1⟩:=trodAll_cons r0
 obtain ⟨rfl,rfl,rfl⟩:=trodAll_nil r1
 obtain rfl:args=#[v0,v1]:=by cases args;simp_all
 obtain ⟨rfl,rfl⟩:=trodVars_none hV
 have hT:=of_laid7 hL
 obtain ⟨cs0,rfl,hcs0⟩:=okWide_struct Tryz.underlying24 (hval 0 24 v0 rfl rfl)
 have k0:=h0
 have lt0:∀ x∈p0,x.block < W.heap.size:=by obtain ⟨m,hm⟩:=k0;exact DataW.trod_lt m _ _ _ hm
 obtain ⟨fuel0,hf0⟩:=h0
 obtain ⟨l0,⟨A0,c0,he0,hlc0,hC0⟩,hq0⟩:=valueO.op hf0
 replace he0:cs0.toList=[.slice A0 l0.length c0]:=he0
 obtain rfl:cs0=#[.slice A0 l0.length c0]:=by
  cases cs0
  simpa using he0
 have hn0:l0.length≤maxLen:=hC0.2.1
 obtain ⟨s1,rfl⟩:=okWide_string Tryz.underlying9 (hval 1 9 v1 rfl rfl)
 have k1:=h1
 have lt1:∀ x∈p1,x.block < W.heap.size:=by obtain ⟨m,hm⟩:=k1;exact DataW.trod_lt m _ _ _ hm
 clear hA0 hval0
 refine (VT.getAt_law A0 c0 l0 s1 W hT ⟨hn0,hq0⟩ hC0 hlc0 ).mono fun e W' ⟨he,bel⟩=>?_
 subst he
 exact ⟨_,rfl,_,_,_,[],_,[],hW',trodAll_mk1 (shut_bool Tryz.underlying4 _),(trodAll_cons_mk (Below.trod laidOut (by kernel_rfl) (of_decide_eq_true (by kernel_rfl)) k0 bel lt0) (trodAll_cons_mk (Below.trod laidOut (by kernel_rfl) (of_decide_eq_true (by kernel_rfl)) k1 bel lt1) trodAll_mk0)),rfl,bel.frame _,fun h=>by cases h⟩
theorem j1:(Rows.fnExactGetAtRow.inPlace==Tryz.pinned.checked.prog.inPlace 5)=true:=by kernel_rfl
theorem j2:(Rows.fnExactGetAtRow.unfollowed==Tryz.pinned.checked.prog.unfollowed 5)=true:=by kernel_rfl
theorem j3:(Rows.fnExactGetAtRow.recurses==Tryz.pinned.checked.prog.recurses 5)=true:=by kernel_rfl
theorem j4:(Rows.fnExactGetAtRow.named==Tryz.pinned.checked.prog.varsNamed 5)=true:=by kernel_rfl
theorem j5:Tryz.pinned.checked.prog.mayEnter=true:=by kernel_rfl
theorem j6:Tryz.pinned.checked.prog.stopsHeard=true:=by kernel_rfl
theorem j7:laidOutB Tryz.pinned.checked.prog=true:=by kernel_rfl
theorem closed:joinedFacts Tryz.pinned.checked.prog 5 Tryz.f5 Rows.fnExactGetAtSpec Rows.fnExactGetAtRow=true:=by
 unfold joinedFacts
 rw [j1,j2,j3,j4,j5,j6,j7]
 kernel_rfl
theorem c1:Rows.fnExactGetAtRow.wfByText (OpenSpec.ofChange Rows.fnExactGetAtSpec)=true:=by kernel_rfl
theorem c2:Tryz.pinned.checked.prog.mainIs=some (true,"6e86f2ee91307de541ad9f4ec8203223655c35e618dc784dd34502f29de5d321".toList):=by kernel_rfl
theorem c3:true=Tryz.pinned.checked.prog.looks []:=by kernel_rfl
theorem c4:false=Rows.fnExactGetAtRow.goesBy Tryz.pinned.checked.prog:=by kernel_rfl
theorem over:Rows.fnExactGetAtRow.holds Tryz.pinned (OpenSpec.ofChange Rows.fnExactGetAtSpec) :=
 OpenClaim.holds_of_wide 5 Tryz.f5 rfl rfl rfl rfl rfl rfl rfl ⟨rfl,rfl,rfl,rfl,rfl⟩ rfl rfl rfl rfl rfl (by kernel_rfl) Tryz.func5 closed
  (of_decide_eq_true (by kernel_rfl)) (by unfold Func.isWrapper;first | (rw [if_pos (by decide +kernel)];kernel_rfl) | (rw [if_neg (by decide +kernel)];exact ⟨rfl,rfl⟩))
  (fun os started H enc _=>lifted os started H enc)
theorem proved:Rows.FnExactGetAtSaid:=over
end Go.Proofs.YtoaafohpmhdjnaaGreatDoor.fnExactGetAt
namespace Go.Proofs.YtoaafohpmhdjnaaGreatDoor
theorem fnExactGetAt_card_holds:Rows.FnExactGetAtCardSaid :=
 Claim7.holds_tied_plain_at .later [] [.data,.data,.data,.data,.sentinel,.sentinel,.pinned] true (true,"6e86f2ee91307de541ad9f4ec8203223655c35e618dc784dd34502f29de5d321") true
  fnExactGetAt.proved (fun _ h=>by cases h) fnExactGetAt.c1 (fun _ h=>by cases h) fnExactGetAt_row_tie rfl ⟨rfl,rfl⟩ fnExactGetAt.c2 rfl
  (fun f fn hf hfn=>by
   obtain rfl:f=5:=Option.some.inj ((show Tryz.prog.funcNamed "loop.example/g00274/laws.FnExactGetAt" = some 5 by kernel_rfl).symm.trans hf) |>.symm
   obtain rfl:fn=Tryz.f5:=(Option.some.inj (Tryz.func5.symm.trans hfn)).symm
   exact ⟨fnExactGetAt.c3,fun j t ht=>by
    rw [Tryz.params5] at ht
    have hm:t∈[24,9]:=by simpa using Array.mem_of_getElem? ht
    have hall:([24,9].all fun u=>!Tryz.prog.wantsStandIn u)=true:=by kernel_rfl
    exact (show Tryz.prog.wantsStandIn t=false by simpa using List.all_eq_true.1 hall t hm)⟩)
  fnExactGetAt.c4
end Go.Proofs.YtoaafohpmhdjnaaGreatDoor
