import Derived.Test.YtoaafohpmhdjnaaGreatDoorTAW
import Derived.Deep.Slices
import Derived.ChangeArms
import Derived.ProofKit
import Derived.Test.YtoaafohpmhdjnaaGreatDoorRows
import Derived.WalkKit
import Derived.OpenShut
import Derived.ShutString
import Derived.ChangeOld
import Derived.Below
import Derived.SizedLaws
import Derived.LaidMore
import Derived.Lib.LaidTab
import Derived.Lib.ItoaNum
import Derived.Stop.LaidErr
import Derived.Stop.Joined
import Derived.Test.YtoaafohpmhdjnaaGreatDoorTAPVGx0
import Derived.Test.YtoaafohpmhdjnaaGreatDoorTAYLB
import Derived.ChangeBears2
/- What a reading of an argument gives the printed contracts: numbers, texts, rows and records, one inside another ('Kd'). Conditions: the type's own text. -/
namespace Go.Proofs.YtoaafohpmhdjnaaGreatDoor.OpenK
open Go.RowKit Go.Proofs.YtoaafohpmhdjnaaGreatDoorW.PrintWords Go.ChangeShapes Go.WideShapes
structure Opn (P:Program) (t:TypeId) {α:Type} (d:Kd α) (Q:α→Prop):Prop where
 op:∀ {H:Type} {enc:TypeId×Value→H} {w:World} {base:Nat} {spare:Nat→Bool} {held:Bool} {fuel:Nat} {cs:List Value} {x:DataW H×List MemPlace},
  DataW.trod enc P w base spare held fuel t cs=some x→∃ a:α,d.K w a cs∧Q a
theorem Opn.int {P:Program} {t:TypeId} {k:IntKind} (ht:P.underlying t=some (.int k)):Opn P t (Kd.int k) (fun n=>(Lit.int k n).wf=true) :=
 ⟨fun h=>by
  obtain ⟨n,e0,rfl,wn⟩:=DataW.trod_int ht h
  exact ⟨n,e0,wn⟩⟩
theorem Opn.bool {P:Program} {t:TypeId} (ht:P.underlying t=some .bool):Opn P t Kd.bool (fun _=>True) :=
 ⟨fun {H enc w base spare held fuel cs x} h=>by
  cases fuel with
  | zero=>simp [DataW.trod] at h
  | succ n =>
   simp only [DataW.trod,ht] at h
   split at h <;> simp_all [Kd.bool,Kd.scalar]⟩
theorem Opn.string {P:Program} {t:TypeId} (ht:P.underlying t=some .string):Opn P t Kd.string (fun s=>s.size≤maxLen) :=
 ⟨fun {H enc w base spare held fuel cs x} h=>by
  cases fuel with
  | zero=>simp [DataW.trod] at h
  | succ n =>
   simp only [DataW.trod,ht] at h
   split at h <;> simp_all [Kd.string,Kd.scalar]⟩
theorem cells_get {w:World} {base n:Nat} {a:Addr} {cs:List Value} (h:w.cells? base a n=some cs):cs.length=n∧∀ i u,cs[i]? = some u→w.cell? (a.add i)=some u:=by
 obtain ⟨h1,h2,h3⟩:=World.cells?_some h
 exact ⟨h2,fun i u hu=>by
  have hi:i < n:=by rw [←h2];exact (List.getElem?_eq_some_iff.1 hu).1
  rw [h3 i hi,hu]⟩
theorem list_of {α:Type} (f:Nat→Option α) (n:Nat) (h:∀ i,i < n→∃ z,f i=some z):∃ xs:List α,xs.length=n∧∀ i,i < n→xs[i]? = f i:=by
 induction n with
 | zero=>exact ⟨[],rfl,fun i hi=>by omega⟩
 | succ n ih =>
  obtain ⟨xs,h1,h2⟩:=ih (fun i hi=>h i (by omega))
  obtain ⟨z,hz⟩:=h n (by omega)
  refine ⟨xs++[z],by simp [h1],fun i hi=>?_⟩
  by_cases e:i < n
  ·rw [List.getElem?_append_left (by omega)];exact h2 i e
  ·obtain rfl:i=n:=by omega
   rw [List.getElem?_append_right (by omega),h1,hz];simp
theorem Opn.slice {P:Program} {t e:TypeId} {α:Type} {d:Kd α} {Q:α→Prop} (ht:P.underlying t=some (.slice e)) (hc:P.cellsOf e=d.sz) (h:Opn P e d Q):Opn P t (Kd.slice e d) (fun l=>∀ x∈l,Q x) :=
 ⟨fun {H enc w base spare held fuel cs x} hx=>by
  rcases Go.Deep.open_slice ht hx with ⟨rfl,_⟩ | ⟨a,len,cap,m,n,D,Pl,rfl,hb,hl,hm,hmm,_,hel⟩
  ·exact ⟨[],⟨none,0,rfl,Nat.le_refl _,Kd.C_nil d w⟩,by simp⟩
  ·have hlm:len≤m:=by rw [hmm];split <;> omega
   have key:∀ i,∃ y:Option α,i < len→∃ z,y=some z∧Q z∧∃ c,c.length=d.sz∧d.K w z c∧∀ j u,c[j]? = some u→w.cell? (a.add (i * d.sz+j))=some u:=by
    intro i
    by_cases hi:i < len
    ·obtain ⟨c,h1,h2⟩:=hel i (by omega)
     obtain ⟨z,hz,hq⟩:=h.op h2
     obtain ⟨g1,g2⟩:=cells_get h1
     refine ⟨some z,fun _=>⟨z,rfl,hq,c,by rw [g1,hc],hz,fun j u hu=>?_⟩⟩
     have:=g2 j u hu
     rw [Go.Deep.add_add,hc] at this
     exact this
    ·exact ⟨none,fun h=>absurd h hi⟩
   let f:Nat→Option α:=fun i=>Classical.choose (key i)
   have hf:∀ i,i < len→∃ z,f i=some z∧Q z∧∃ c,c.length=d.sz∧d.K w z c∧∀ j u,c[j]? = some u→w.cell? (a.add (i * d.sz+j))=some u:=fun i hi=>Classical.choose_spec (key i) hi
   have hxs:=list_of f len (fun i hi=>let ⟨z,hz,_⟩:=hf i hi;⟨z,hz⟩)
   obtain ⟨xs,h1,h2⟩:=hxs
   refine ⟨xs,⟨some a,cap,by rw [h1],by omega,h1.symm ▸ ⟨h1,by unfold maxLen at hm;omega,fun _=>⟨a,rfl,fun j p hp=>?_⟩⟩⟩,fun z hz=>?_⟩
   ·have hj:j < len:=by rw [←h1];exact (List.getElem?_eq_some_iff.1 hp).1
    obtain ⟨z,e1,_,c,e2,e3,e4⟩:=hf j hj
    rw [h2 j hj,e1] at hp
    obtain rfl:=Option.some.inj hp
    exact ⟨c,e2,e3,e4⟩
   ·obtain ⟨i,hi⟩:=List.getElem?_of_mem hz
    have hj:i < len:=by rw [←h1];exact (List.getElem?_eq_some_iff.1 hi).1
    obtain ⟨z',e1,e2,_⟩:=hf i hj
    rw [h2 i hj,e1] at hi
    obtain rfl:=Option.some.inj hi
    exact e2⟩
theorem Opn.iso {P:Program} {t:TypeId} {α β:Type} {d:Kd α} {Q:α→Prop} (f:β→α) (g:α→β) (hfg:∀ a,f (g a)=a) (h:Opn P t d Q):Opn P t (Kd.iso d f) (fun b=>Q (f b)) :=
 ⟨fun hx=>by
  obtain ⟨a,ha,hq⟩:=h.op hx
  exact ⟨g a,by show d.K _ (f (g a)) _;rw [hfg];exact ha,by rw [hfg];exact hq⟩⟩
theorem mapM_each {α β:Type} {f:α→Option β} {l:List α} {r:List β} (h:l.mapM f=some r):∀ a∈l,∃ b,f a=some b:=by
 induction l generalizing r with
 | nil=>simp
 | cons a l ih =>
  rw [List.mapM_cons] at h
  cases e:f a with
  | none=>simp [e] at h
  | some b =>
   cases e2:l.mapM f with
   | none=>simp [e,e2] at h
   | some bs =>
    intro x hx
    rcases List.mem_cons.1 hx with rfl | hx
    ·exact ⟨b,e⟩
    ·exact ih e2 x hx
inductive Flds (P:Program):Nat→List Field→{α:Type}→Kd α→(α→Prop)→Prop where
 | one {off:Nat} {f:Field} {α:Type} {d:Kd α} {Q:α→Prop} (ho:f.offset=off) (hs:P.cellsOf f.type=d.sz) (h:Opn P f.type d Q):Flds P off [f] d Q
 | more {off:Nat} {f:Field} {fs:List Field} {α β:Type} {d:Kd α} {d2:Kd β} {Q:α→Prop} {Q2:β→Prop} (ho:f.offset=off) (hs:P.cellsOf f.type=d.sz) (h:Opn P f.type d Q) (hr:Flds P (off+d.sz) fs d2 Q2):Flds P off (f :: fs) (Kd.pair d d2) (fun x=>Q x.1∧Q2 x.2)
theorem Flds.open {P:Program} {off:Nat} {fs:List Field} {α:Type} {d:Kd α} {Q:α→Prop} (hf:Flds P off fs d Q) {H:Type} {enc:TypeId×Value→H} {w:World} {base:Nat} {spare:Nat→Bool} {held:Bool} {fuel:Nat} {cs:List Value}
  (h:∀ f∈fs,∃ y,DataW.trod enc P w base spare held fuel f.type ((cs.drop f.offset).take (P.cellsOf f.type))=some y) (hl:cs.length=off+d.sz):∃ a,d.K w a (cs.drop off)∧Q a:=by
 induction hf with
 | one ho hs ho2 =>
  obtain ⟨y,hy⟩:=h _ List.mem_cons_self
  obtain ⟨a,ha,hq⟩:=ho2.op hy
  rw [ho,hs,List.take_of_length_le (by rw [List.length_drop];omega)] at ha
  exact ⟨a,ha,hq⟩
 | @more off f fs α β d d2 Q Q2 ho hs ho2 hr ih =>
  obtain ⟨y,hy⟩:=h _ List.mem_cons_self
  obtain ⟨a,ha,hq⟩:=ho2.op hy
  rw [ho,hs] at ha
  have hl':cs.length=off+(d.sz+d2.sz):=hl
  obtain ⟨b,hb,hq2⟩:=ih (fun f hf=>h f (List.mem_cons_of_mem _ hf)) (by omega)
  refine ⟨(a,b),⟨_,_,?_,ha,hb⟩,hq,hq2⟩
  rw [←List.drop_drop,List.take_append_drop]
theorem Opn.struct {P:Program} {t:TypeId} {fs:Array Field} {α:Type} {d:Kd α} {Q:α→Prop} (ht:P.underlying t=some (.struct fs)) (hc:P.cellsOf t=d.sz) (hf:Flds P 0 fs.toList d Q):Opn P t d Q :=
 ⟨fun {H enc w base spare held fuel cs x} hx=>by
  cases fuel with
  | zero=>simp [DataW.trod] at hx
  | succ n =>
   unfold DataW.trod at hx
   simp only [ht] at hx
   split at hx
   ·rename_i hl
    obtain ⟨r,hr,_⟩:=Option.map_eq_some_iff.1 hx
    have:=hf.open (cs:=cs) (fun f hf=>mapM_each hr f hf) (by rw [hl,hc];omega)
    simpa using this
   ·simp at hx⟩
end Go.Proofs.YtoaafohpmhdjnaaGreatDoor.OpenK
namespace Go.Proofs.YtoaafohpmhdjnaaGreatDoor.VOP
open Go.ChangeShapes Go.WideShapes Go.ChangeAt Go.RowKit Go.Proofs.YtoaafohpmhdjnaaGreatDoor.OpenK Go.Proofs.YtoaafohpmhdjnaaGreatDoor.PVG Go.Proofs.YtoaafohpmhdjnaaGreatDoorW.PrintWords
set_option linter.unusedVariables false
theorem own:ownKnob Tryz.prog.godebug=none:=by kernel_rfl
theorem laidOut:laidOutB Tryz.prog=true:=by kernel_rfl
theorem gPow:Tryz.prog.globalNamed "internal/strconv.uint64pow10" = some 2:=by kernel_rfl
theorem tPow:(Tryz.prog.globals[2]?).map (·.type)=some 266:=by kernel_rfl
theorem c150:Tryz.prog.cellsOf 266=20:=by kernel_rfl
theorem c141:Tryz.prog.cellsOf 236=1:=by kernel_rfl
set_option maxRecDepth 100000 in
theorem nodeO:Opn Tryz.prog 136 k136 (fun x=>x.f2.size≤maxLen∧x.f3.size≤maxLen):=by
 have h:Opn Tryz.prog 136 k136 (fun x=>(Lit.int .i64 x.f0).wf=true∧(Lit.int .i64 x.f1).wf=true∧x.f2.size≤maxLen∧x.f3.size≤maxLen∧(Lit.int .i64 x.f4).wf=true) :=
  Opn.iso (fun x:S136=>(x.f0,x.f1,x.f2,x.f3,x.f4)) (fun y=>⟨y.1,y.2.1,y.2.2.1,y.2.2.2.1,y.2.2.2.2⟩) (fun _=>rfl)
   (Opn.struct Tryz.underlying136 (by kernel_rfl) (Flds.more rfl (by kernel_rfl) (Opn.int Tryz.underlying3) (Flds.more rfl (by kernel_rfl) (Opn.int Tryz.underlying3) (Flds.more rfl (by kernel_rfl) (Opn.string Tryz.underlying9) (Flds.more rfl (by kernel_rfl) (Opn.string Tryz.underlying9) (Flds.one rfl (by kernel_rfl) (Opn.int Tryz.underlying3)))))))
 refine ⟨fun hx=>?_⟩
 obtain ⟨a,ha,hq⟩:=h.op hx
 exact ⟨a,ha,hq.2.2.1,hq.2.2.2.1⟩
set_option maxRecDepth 100000 in
theorem valueO:Opn Tryz.prog 24 (Kd.slice 136 k136) (fun l=>∀ y∈l,y.f2.size≤maxLen∧y.f3.size≤maxLen):=by
 have h:=Opn.struct (d:=Kd.slice 136 k136) Tryz.underlying24 (by kernel_rfl) (Flds.one rfl (by kernel_rfl) (Opn.slice Tryz.underlying22 (by kernel_rfl) nodeO))
 exact ⟨fun hx=>h.op hx⟩
end Go.Proofs.YtoaafohpmhdjnaaGreatDoor.VOP
namespace Go.Proofs.YtoaafohpmhdjnaaGreatDoor.VOP
open Go.ChangeShapes Go.WideShapes Go.ChangeAt Go.RowKit Go.Proofs.YtoaafohpmhdjnaaGreatDoor.OpenK Go.Proofs.YtoaafohpmhdjnaaGreatDoor.PVG Go.Proofs.YtoaafohpmhdjnaaGreatDoorW.PrintWords
set_option linter.unusedVariables false
noncomputable def door7 (os:Os):World :=
 let w0:=World.doorLaid Tryz.prog 4000 os
 { w0 with heap:=w0.heap.modify 4 fun
  | .cells _ t frozen=>.cells (Pinned.utf8FirstZ.map fun z:Nat=>Value.int .u8 (z:Int)).toArray t frozen
  | o=>o }
end Go.Proofs.YtoaafohpmhdjnaaGreatDoor.VOP
namespace Go.Proofs.YtoaafohpmhdjnaaGreatDoor.VOP
open Go.ChangeShapes Go.WideShapes Go.ChangeAt Go.RowKit Go.Proofs.YtoaafohpmhdjnaaGreatDoor.OpenK Go.Proofs.YtoaafohpmhdjnaaGreatDoor.PVG Go.Proofs.YtoaafohpmhdjnaaGreatDoorW.PrintWords
set_option linter.unusedVariables false
def laid5p:List (String×DataW Unit):=[("math/bits.deBruijn32tab",Rows.laid_math_bits_deBruijn32tab),("math/bits.deBruijn64tab",Rows.laid_math_bits_deBruijn64tab),("internal/strconv.uint64pow10",Rows.laid_internal_strconv_uint64pow10),("unicode/utf8.acceptRanges",Rows.laid_unicode_utf8_acceptRanges),("unicode/utf8.first",Rows.laid_unicode_utf8_first)]
set_option maxRecDepth 100000 in
theorem door_met5p (os:Os) (args:Array Value):laidMetH Tryz.prog laid5p ((door7 os).forCall (fun _ _=>0) ⟨#[],args,[]⟩).memory :=
 laidMetH_of_parts3 (fuel:=8) (laidMet_of_run' 8 (by kernel_rfl) (by kernel_rfl)) (by kernel_rfl) (by kernel_rfl)
set_option maxRecDepth 100000 in
theorem of_laid5p {W:World} (h:laidMetH Tryz.prog laid5p W):VT.HT W:=by
 rw [MakeChecks.laidMetH_plain _ _ _ (by kernel_rfl)] at h
 exact Lib.tabIs_of_head gPow tPow Tryz.underlying266 Tryz.underlying236 c141 c150 h.tail.tail
set_option maxRecDepth 100000 in
theorem actO:Opn Tryz.prog 44 (Kd.pair (Kd.int .i64) (Kd.pair Kd.string (Kd.slice 136 k136))) (fun x=>(Lit.int .i64 x.1).wf=true∧x.2.1.size≤maxLen∧∀ y∈x.2.2,y.f2.size≤maxLen∧y.f3.size≤maxLen):=by
 have h:=Opn.struct (d:=Kd.pair (Kd.int .i64) (Kd.pair Kd.string (Kd.slice 136 k136))) Tryz.underlying44 (by kernel_rfl) (Flds.more rfl (by kernel_rfl) (Opn.int Tryz.underlying3) (Flds.more rfl (by kernel_rfl) (Opn.string Tryz.underlying9) (Flds.one rfl (by kernel_rfl) valueO)))
 exact ⟨fun hx=>h.op hx⟩
end Go.Proofs.YtoaafohpmhdjnaaGreatDoor.VOP
