import Derived.Test.YtoaafohpmhdjnaaGreatDoorTAVTG
import Derived.Test.YtoaafohpmhdjnaaGreatDoorTAVPB
/- The reference's tree of a right list of nodes: walked by hand. Conditions: a right list. -/
namespace Go.Proofs.YtoaafohpmhdjnaaGreatDoor.VT
open Go.RowKit Go.Proofs.YtoaafohpmhdjnaaGreatDoor.PVG Go.Proofs.YtoaafohpmhdjnaaGreatDoorW.PrintWords Go.Proofs.YtoaafohpmhdjnaaGreatDoorW.PrintLast Go.Proofs.YtoaafohpmhdjnaaGreatDoorW.PrintMore
set_option linter.unusedVariables false
set_option linter.unusedSimpArgs false
mutual
def toS:Tr→S89
 | .mk kd nu tx ns ks=>⟨kd,nu,tx,ns,toSL ks⟩
def toSL:List Tr→List S89
 | []=>[]
 | t :: ts=>toS t :: toSL ts
end
theorem toSL_map:∀ ts:List Tr,toSL ts=ts.map toS
 | []=>rfl
 | t :: ts=>by rw [toSL,toSL_map ts];rfl
theorem toSL_len (ts:List Tr):(toSL ts).length=ts.length:=by rw [toSL_map,List.length_map]
theorem toS_eq (t:Tr):toS t=⟨t.kd,t.nu,t.tx,t.ns,toSL t.ks⟩:=by cases t;rw [toS];rfl
structure Tl (w:World) (l:List S107) (A:Option Addr) (c:Nat) (g2 g4 g5 g6:Nat) (kd nu:Int) (tx nm:ByteArray) (up:Int) (vz:Value) (zs:List Int) (c3 c4 v3:Value) (ms:List ByteArray) (v4:Value) (xs:List S89) (W:World):Prop where
 bel:Below w.heap.size w W
 lo:w.heap.size≤g6∧g2≠g6∧g5≠g6∧g4 < g6∧w.heap.size≤g4
 k2:W.heap[g2]? = some (.cells #[.slice A l.length c] 31 (0,0))
 k4:W.heap[g4]? = some (.cells #[.int .i64 0,.int .i64 0,.string ⟨#[]⟩,.slice none 0 0,.slice none 0 0] 89 (0,0))
 k5:W.heap[g5]? = some (.cells #[.int .i64 kd,.int .i64 nu,.string tx,.string nm,.int .i64 up] 107 (0,0))
 ob:W.heap[g6]? = some (.cells #[.int .i64 kd,.int .i64 nu,.string tx,c3,c4] 89 (0,0))
 rz:Kd.R (Kd.int .i64) 3 W w.heap.size (fun k=>g6 < k) vz zs
 r3:Kd.R Kd.string 9 W w.heap.size (fun k=>g6 < k) v3 ms
 r4:Kd.R k89 89 W w.heap.size (fun k=>g6 < k∧some k≠v3.ownBlock) v4 xs
section
variable {w W W':World} {l:List S107} {A:Option Addr} {c g2 g4 g5 g6:Nat} {kd nu:Int} {tx nm:ByteArray} {up:Int} {vz:Value} {zs:List Int} {c3 c4 v3:Value} {ms:List ByteArray} {v4:Value} {xs:List S89}
theorem Tl.fresh (h:Tl w l A c g2 g4 g5 g6 kd nu tx nm up vz zs c3 c4 v3 ms v4 xs W):∀ k,W.heap.size≤k→g6 < k∧some k≠v3.ownBlock:=fun k hk =>
 ⟨by have:=blk_lt h.ob;omega,fun e=>by have:=Kd.R_lt h.r3 k e.symm;omega⟩
theorem Tl.part (h:Tl w l A c g2 g4 g5 g6 kd nu tx nm up vz zs c3 c4 v3 ms v4 xs W) (hb:Below W.heap.size W W') {t:Tr} {x3 x4:Value} (h3:Kd.R Kd.string 9 W' W.heap.size (fun _=>True) x3 t.ns) (h4:Kd.R k89 89 W' W.heap.size (fun k_=>some k_≠x3.ownBlock) x4 (toSL t.ks)) :
  k89.M W' w.heap.size (fun k=>g6 < k∧some k≠v3.ownBlock∧some k≠v4.ownBlock) (toS t) [.int .i64 t.kd,.int .i64 t.nu,.string t.tx,x3,x4]:=by
 have q:∀ k,W.heap.size≤k→(g6 < k∧some k≠v3.ownBlock∧some k≠v4.ownBlock):=fun k hk =>
  ⟨(h.fresh k hk).1,(h.fresh k hk).2,fun e=>by have:=Kd.R_lt h.r4 k e.symm;omega⟩
 have a3:=Kd.R_lower (Kd.R_mono (Kd.R_bound h3) (fun k hk=>q k hk.2.1)) h.bel.size
 have a4:=Kd.R_lower (Kd.R_mono (Kd.R_bound h4) (fun k hk=>q k hk.2.1)) h.bel.size
 have e:=k89_mkM W' w.heap.size (fun k=>g6 < k∧some k≠v3.ownBlock∧some k≠v4.ownBlock) (toS t) (v3:=x3) (by rw [toS_eq];exact a3) (v4:=x4) (by rw [toS_eq];exact a4)
 rw [toS_eq] at e ⊢
 exact e
theorem Tl.name (h:Tl w l A c g2 g4 g5 g6 kd nu tx nm up vz zs c3 c4 v3 ms v4 xs W) {v3':Value} {ms':List ByteArray} (hr:Kd.R Kd.string 9 W' w.heap.size (fun k=>g6 < k) v3' ms') (hb:Below w.heap.size w W') (hg:W.grownBy W' v3.ownBlock) (hat:v3'.ownBlock=v3.ownBlock∨∃ b,v3'.ownBlock=some b∧W.heap.size≤b):Tl w l A c g2 g4 g5 g6 kd nu tx nm up vz zs c3 c4 v3' ms' v4 xs W' :=
 ⟨hb,h.lo,blk_grown h.k2 hg (Kd.R_ne h.r3 h.k2 (by decide)),blk_grown h.k4 hg (Kd.R_ne h.r3 h.k4 (by decide)),blk_grown h.k5 hg (Kd.R_ne h.r3 h.k5 (by decide)),blk_grown h.ob hg (Kd.R_ne h.r3 h.ob (by decide)),Kd.R_over h.rz h.r3 (by decide) hg,hr,Kd.R_after h.r4 hg hat⟩
theorem Tl.kid (h:Tl w l A c g2 g4 g5 g6 kd nu tx nm up vz zs c3 c4 v3 ms v4 xs W) {v4':Value} {xs':List S89} (hr:Kd.R k89 89 W' w.heap.size (fun k=>g6 < k∧some k≠v3.ownBlock) v4' xs') (hb:Below w.heap.size w W') (hg:W.grownBy W' v4.ownBlock):Tl w l A c g2 g4 g5 g6 kd nu tx nm up vz zs c3 c4 v3 ms v4' xs' W' :=
 ⟨hb,h.lo,blk_grown h.k2 hg (Kd.R_ne h.r4 h.k2 (by decide)),blk_grown h.k4 hg (fun e=>absurd (h.r4.1 g4 e.symm).1 (by have:=h.lo;omega)),blk_grown h.k5 hg (Kd.R_ne h.r4 h.k5 (by decide)),blk_grown h.ob hg (fun e=>absurd (h.r4.1 g6 e.symm).1 (Nat.lt_irrefl _)),Kd.R_over h.rz h.r4 (by decide) hg,Kd.R_over h.r3 h.r4 (by decide) hg,hr⟩
theorem Tl.set3 (h:Tl w l A c g2 g4 g5 g6 kd nu tx nm up vz zs c3 c4 v3 ms v4 xs W) (x:Value):Tl w l A c g2 g4 g5 g6 kd nu tx nm up vz zs x c4 v3 ms v4 xs (W.setCell ⟨g6,3,none⟩ x):=by
 refine ⟨below_set h.bel h.lo.1,h.lo,blk_far h.k2 h.lo.2.1 x,blk_far h.k4 (show g4≠g6 from Nat.ne_of_lt h.lo.2.2.2.1) x,blk_far h.k5 h.lo.2.2.1 x,?_,Kd.R_far h.rz (fun k (hk:g6 < k)=>Nat.ne_of_gt hk) x,Kd.R_far h.r3 (fun k (hk:g6 < k)=>Nat.ne_of_gt hk) x,Kd.R_far h.r4 (fun k hk=>Nat.ne_of_gt hk.1) x⟩
 have:=blk_set h.ob 3 x
 simpa using this
theorem Tl.set4 (h:Tl w l A c g2 g4 g5 g6 kd nu tx nm up vz zs c3 c4 v3 ms v4 xs W) (x:Value):Tl w l A c g2 g4 g5 g6 kd nu tx nm up vz zs c3 x v3 ms v4 xs (W.setCell ⟨g6,4,none⟩ x):=by
 refine ⟨below_set h.bel h.lo.1,h.lo,blk_far h.k2 h.lo.2.1 x,blk_far h.k4 (show g4≠g6 from Nat.ne_of_lt h.lo.2.2.2.1) x,blk_far h.k5 h.lo.2.2.1 x,?_,Kd.R_far h.rz (fun k (hk:g6 < k)=>Nat.ne_of_gt hk) x,Kd.R_far h.r3 (fun k (hk:g6 < k)=>Nat.ne_of_gt hk) x,Kd.R_far h.r4 (fun k hk=>Nat.ne_of_gt hk.1) x⟩
 have:=blk_set h.ob 4 x
 simpa using this
end
def TrCall (t:Tr):Prop:=∀ (l:List S107) (A:Option Addr) (c k:Nat) (nm:ByteArray) (up:Int) (w:World),Pl l k t nm up→Kd.C k107 w A l.length l→l.length≤c →
 Calls Tryz.prog 65 #[.agg #[.slice A l.length c],.int .i64 (k:Int)] w fun e w'=>∃ v3 v4,e=.returned (.agg #[.int .i64 t.kd,.int .i64 t.nu,.string t.tx,v3,v4])∧Kd.R Kd.string 9 w' w.heap.size (fun _=>True) v3 t.ns∧Kd.R k89 89 w' w.heap.size (fun k_=>some k_≠v3.ownBlock) v4 (toSL t.ks)∧Below w.heap.size w w'
theorem TrCall.go {t:Tr} (h:TrCall t) (l:List S107) (A:Option Addr) (c k:Nat) (nm:ByteArray) (up:Int) (w:World) (h1:Pl l k t nm up) (h2:Kd.C k107 w A l.length l) (h3:l.length≤c) :
 Calls Tryz.prog 65 #[.agg #[.slice A l.length c],.int .i64 (k:Int)] w fun e w'=>∃ v3 v4,e=.returned (.agg #[.int .i64 t.kd,.int .i64 t.nu,.string t.tx,v3,v4])∧Kd.R Kd.string 9 w' w.heap.size (fun _=>True) v3 t.ns∧Kd.R k89 89 w' w.heap.size (fun k_=>some k_≠v3.ownBlock) v4 (toSL t.ks)∧Below w.heap.size w w':=h l A c k nm up w h1 h2 h3
end Go.Proofs.YtoaafohpmhdjnaaGreatDoor.VT
