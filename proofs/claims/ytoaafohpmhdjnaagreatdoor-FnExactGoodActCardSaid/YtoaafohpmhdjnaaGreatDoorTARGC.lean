import Derived.Test.YtoaafohpmhdjnaaGreatDoorTARGB
import Derived.Test.YtoaafohpmhdjnaaGreatDoorTARXE
/- strings.Replacer over longer texts: lookup. Conditions: the trie stands. -/
namespace Go.Proofs.YtoaafohpmhdjnaaGreatDoor.RX
open Go.RowKit Go.Proofs.YtoaafohpmhdjnaaGreatDoor.PVG Go.Proofs.YtoaafohpmhdjnaaGreatDoorW.PrintWords Go.Proofs.YtoaafohpmhdjnaaGreatDoorW.PrintLast Go.Proofs.YtoaafohpmhdjnaaGreatDoorW.PrintMore
set_option linter.unusedVariables false
set_option linter.unusedSimpArgs false
set_option maxRecDepth 100000 in
set_option maxHeartbeats 1600000 in
theorem look_nil (gR gT n1 gU n2 n3:Nat) (w:World) (hT:TrieAt w gR gT n1 gU n2 n3) :
  Calls Tryz.prog 291 #[.pointer (some ⟨gR,0,none⟩),.string (⟨#[]⟩:ByteArray),.bool false] w fun e w'=>e=.returned (.tuple #[.string (⟨#[]⟩:ByteArray),.int .i64 0,.bool false])∧Drawn0 w w':=by
 obtain ⟨⟨f,hf,kR⟩,kT,k1,kU,k2,k3⟩:=hT
 obtain ⟨r0,r1,r2,r3,r4,r5⟩:=gr_cells kR
 have m126:w.cell? ⟨gR,132,none⟩=some (.int .u8 2):=(gr_map kR 126 (by decide)).trans (by rw [hf 126 (by decide)];rfl)
 have m48:w.cell? ⟨gR,54,none⟩=some (.int .u8 0):=(gr_map kR 48 (by decide)).trans (by rw [hf 48 (by decide)];rfl)
 have m49:w.cell? ⟨gR,55,none⟩=some (.int .u8 1):=(gr_map kR 49 (by decide)).trans (by rw [hf 49 (by decide)];rfl)
 have T2:w.cell? ⟨gT,2,none⟩=some (.pointer (some ⟨n1,0,none⟩)):=(blk_cell kT 2).trans rfl
 have U0:w.cell? ⟨gU,0,none⟩=some (.pointer (some ⟨n2,0,none⟩)):=(blk_cell kU 0).trans rfl
 have U1:w.cell? ⟨gU,1,none⟩=some (.pointer (some ⟨n3,0,none⟩)):=(blk_cell kU 1).trans rfl
 have U2:w.cell? ⟨gU,2,none⟩=some (.pointer none):=(blk_cell kU 2).trans rfl
 obtain ⟨a0,a1,a2,a3,a4⟩:=nd_cells k1
 obtain ⟨b0,b1,b2,b3,b4⟩:=nd_cells k2
 obtain ⟨c0,c1,c2,c3,c4⟩:=nd_cells k3
 have hnil:∀ W:World,(binOp .neq 277 (.slice none 0 0) (.slice none 0 0)).run Tryz.prog W=.ok (.bool false) W:=fun W=>by simpa using Go.run_neq_slice_nil (P:=Tryz.prog) (w:=W) 277 276 none 0 0 Tryz.underlying277
 have hnn:∀ (k c:Nat) (W:World),(binOp .neq 277 (.slice (some ⟨k,0,none⟩) 3 c) (.slice none 0 0)).run Tryz.prog W=.ok (.bool true) W:=fun k c W=>by simpa using Go.run_neq_slice_nil (P:=Tryz.prog) (w:=W) 277 276 (some ⟨k,0,none⟩) 3 c Tryz.underlying277
 clear kR kT k1 kU k2 k3 hf
 go_enter Tryz.func291,Tryz.ntmps291
 go_wp2
 go_loopg [1,6,7,8,9,10,11] 1 (fun kq v1 v6 v7 v8 v9 v10 v11 w'=>kq=1∧w'=w∧v1=.string (⟨#[]⟩:ByteArray)∧v6=.string (⟨#[]⟩:ByteArray)∧v7=.int .i64 0∧v8=.bool false∧v9=.int .i64 0∧v10=.pointer (some ⟨gR,0,none⟩)∧v11=.int .i64 0)
 case atStart=>exact ⟨rfl,rfl,rfl,rfl,rfl,rfl,rfl,rfl,rfl⟩
 case round =>
  obtain ⟨rfl,rfl,rfl,rfl,rfl,rfl,rfl,rfl,rfl⟩:=hrel
  go_wp2
  refine bodyPost_ret (v:=.tuple #[.string (⟨#[]⟩:ByteArray),.int .i64 0,.bool false]) (by simp [results,Tryz.results291,go_sem]) rfl ?_
  exact ⟨rfl,Drawn0.refl _⟩
theorem str_ne1 (s:ByteArray) (h:0 < s.size):s.toList.isEmpty=false:=by
 have e:s.toList.length=s.size:=by rw [ByteArray.toList_eq];exact Array.length_toList
 cases hl:s.toList with
 | nil=>rw [hl] at e;simp at e;omega
 | cons a l=>rfl
theorem str_ne0 (s:ByteArray) (h:0 < s.size):(s.toList==(⟨#[]⟩:ByteArray).toList)=false:=by
 cases hl:s.toList with
 | nil=>have:=str_ne1 s h;rw [hl] at this;simp at this
 | cons a l=>rw [ByteArray.toList_eq];rfl
set_option maxRecDepth 100000 in
set_option maxHeartbeats 3200000 in
theorem look_48 (t:ByteArray) (gR gT n1 gU n2 n3:Nat) (w:World) (hT:TrieAt w gR gT n1 gU n2 n3) (h2:2≤t.size) (hs:t.size≤1073741824) (hb0:∀ h:0 < t.size,(t[0]'h).toNat=126) (hb1:∀ h:1 < t.size,(t[1]'h).toNat=48) :
  Calls Tryz.prog 291 #[.pointer (some ⟨gR,0,none⟩),.string t,.bool false] w fun e w'=>e=.returned (.tuple #[.string ⟨#[126]⟩,.int .i64 2,.bool true])∧Drawn0 w w':=by
 obtain ⟨⟨f,hf,kR⟩,kT,k1,kU,k2,k3⟩:=hT
 obtain ⟨r0,r1,r2,r3,r4,r5⟩:=gr_cells kR
 have m126:w.cell? ⟨gR,132,none⟩=some (.int .u8 2):=(gr_map kR 126 (by decide)).trans (by rw [hf 126 (by decide)];rfl)
 have m48:w.cell? ⟨gR,54,none⟩=some (.int .u8 0):=(gr_map kR 48 (by decide)).trans (by rw [hf 48 (by decide)];rfl)
 have m49:w.cell? ⟨gR,55,none⟩=some (.int .u8 1):=(gr_map kR 49 (by decide)).trans (by rw [hf 49 (by decide)];rfl)
 have T2:w.cell? ⟨gT,2,none⟩=some (.pointer (some ⟨n1,0,none⟩)):=(blk_cell kT 2).trans rfl
 have U0:w.cell? ⟨gU,0,none⟩=some (.pointer (some ⟨n2,0,none⟩)):=(blk_cell kU 0).trans rfl
 have U1:w.cell? ⟨gU,1,none⟩=some (.pointer (some ⟨n3,0,none⟩)):=(blk_cell kU 1).trans rfl
 have U2:w.cell? ⟨gU,2,none⟩=some (.pointer none):=(blk_cell kU 2).trans rfl
 obtain ⟨a0,a1,a2,a3,a4⟩:=nd_cells k1
 obtain ⟨b0,b1,b2,b3,b4⟩:=nd_cells k2
 obtain ⟨c0,c1,c2,c3,c4⟩:=nd_cells k3
 have hnil:∀ W:World,(binOp .neq 277 (.slice none 0 0) (.slice none 0 0)).run Tryz.prog W=.ok (.bool false) W:=fun W=>by simpa using Go.run_neq_slice_nil (P:=Tryz.prog) (w:=W) 277 276 none 0 0 Tryz.underlying277
 have hnn:∀ (k c:Nat) (W:World),(binOp .neq 277 (.slice (some ⟨k,0,none⟩) 3 c) (.slice none 0 0)).run Tryz.prog W=.ok (.bool true) W:=fun k c W=>by simpa using Go.run_neq_slice_nil (P:=Tryz.prog) (w:=W) 277 276 (some ⟨k,0,none⟩) 3 c Tryz.underlying277
 clear kR kT k1 kU k2 k3 hf
 obtain ⟨u,hu⟩:∃ u,u=t.extract 1 t.size:=⟨_,rfl⟩
 have hus:u.size=t.size - 1:=by rw [hu];simp
 have hub:∀ h:0 < u.size,(u[0]'h).toNat=48:=fun h=>by
  have e:u[0]'h=t[1]'(by omega):=by subst hu;simp [ByteArray.getElem_extract]
  rw [e];exact hb1 _
 obtain ⟨x,hx⟩:∃ x,x=u.extract 1 u.size:=⟨_,rfl⟩
 have HU:=Aside0.mk hu
 have HX:=Aside0.mk hx
 have te:(t.toList==(⟨#[]⟩:ByteArray).toList)=false:=str_ne0 t (by omega)
 have ue:(u.toList==(⟨#[]⟩:ByteArray).toList)=false:=str_ne0 u (by omega)
 have te2:t.toList.isEmpty=false:=str_ne1 t (by omega)
 have ue2:u.toList.isEmpty=false:=str_ne1 u (by omega)
 clear hx hu hb1
 go_enter Tryz.func291,Tryz.ntmps291
 go_wp2
 go_loopg [1,6,7,8,9,10,11] 2 (fun kq v1 v6 v7 v8 v9 v10 v11 w'=>Drawn0 w w'∧((kq=2∧v1=.string t∧v10=.pointer (some ⟨gR,0,none⟩)∧v11=.int .i64 0)∨(kq=1∧v1=.string u∧v10=.pointer (some ⟨n1,0,none⟩)∧v11=.int .i64 1)∨(kq=0∧v1=.string x∧v10=.pointer (some ⟨n2,0,none⟩)∧v11=.int .i64 2))∧v6=.string (⟨#[]⟩:ByteArray)∧v7=.int .i64 0∧v8=.bool false∧v9=.int .i64 0)
 case atStart=>exact ⟨Drawn0.refl _,.inl ⟨rfl,rfl,rfl,rfl⟩,rfl,rfl,rfl,rfl⟩
 case round =>
  obtain ⟨⟨m,rfl⟩,hc,rfl,rfl,rfl,rfl⟩:=hrel
  rcases hc with ⟨rfl,rfl,rfl,rfl⟩ | ⟨rfl,rfl,rfl,rfl⟩ | ⟨rfl,rfl,rfl,rfl⟩
  ·go_upto_region 12 with fail
   go_quiet (fail)
   go_wp2
   go_roundg 1
   case measure=>omega
   case rel=>exact ⟨by repeat (first | exact Drawn0.refl _ | apply Drawn0.step),.inr (.inl ⟨rfl,by rw [HU.out],rfl,rfl⟩),rfl,rfl,rfl,rfl⟩
  ·clear hb0
   go_upto_region 12 with fail
   go_quiet (fail)
   go_wp2
   go_roundg 0
   case measure=>omega
   case rel=>exact ⟨by repeat (first | exact Drawn0.refl _ | apply Drawn0.step),.inr (.inr ⟨rfl,by rw [HX.out,hus],rfl,rfl⟩),rfl,rfl,rfl,rfl⟩
  ·clear hb0 hub
   cases xe:x.toList.isEmpty with
   | true =>
    go_wp2
    refine bodyPost_ret (v:=.tuple #[.string ⟨#[126]⟩,.int .i64 2,.bool true]) (by simp [results,Tryz.results291,go_sem]) rfl ?_
    exact ⟨rfl,by repeat (first | exact Drawn0.refl _ | apply Drawn0.step)⟩
   | false =>
    go_wp2
    refine bodyPost_ret (v:=.tuple #[.string ⟨#[126]⟩,.int .i64 2,.bool true]) (by simp [results,Tryz.results291,go_sem]) rfl ?_
    exact ⟨rfl,by repeat (first | exact Drawn0.refl _ | apply Drawn0.step)⟩
set_option maxRecDepth 100000 in
set_option maxHeartbeats 3200000 in
theorem look_49 (t:ByteArray) (gR gT n1 gU n2 n3:Nat) (w:World) (hT:TrieAt w gR gT n1 gU n2 n3) (h2:2≤t.size) (hs:t.size≤1073741824) (hb0:∀ h:0 < t.size,(t[0]'h).toNat=126) (hb1:∀ h:1 < t.size,(t[1]'h).toNat=49) :
  Calls Tryz.prog 291 #[.pointer (some ⟨gR,0,none⟩),.string t,.bool false] w fun e w'=>e=.returned (.tuple #[.string ⟨#[47]⟩,.int .i64 2,.bool true])∧Drawn0 w w':=by
 obtain ⟨⟨f,hf,kR⟩,kT,k1,kU,k2,k3⟩:=hT
 obtain ⟨r0,r1,r2,r3,r4,r5⟩:=gr_cells kR
 have m126:w.cell? ⟨gR,132,none⟩=some (.int .u8 2):=(gr_map kR 126 (by decide)).trans (by rw [hf 126 (by decide)];rfl)
 have m48:w.cell? ⟨gR,54,none⟩=some (.int .u8 0):=(gr_map kR 48 (by decide)).trans (by rw [hf 48 (by decide)];rfl)
 have m49:w.cell? ⟨gR,55,none⟩=some (.int .u8 1):=(gr_map kR 49 (by decide)).trans (by rw [hf 49 (by decide)];rfl)
 have T2:w.cell? ⟨gT,2,none⟩=some (.pointer (some ⟨n1,0,none⟩)):=(blk_cell kT 2).trans rfl
 have U0:w.cell? ⟨gU,0,none⟩=some (.pointer (some ⟨n2,0,none⟩)):=(blk_cell kU 0).trans rfl
 have U1:w.cell? ⟨gU,1,none⟩=some (.pointer (some ⟨n3,0,none⟩)):=(blk_cell kU 1).trans rfl
 have U2:w.cell? ⟨gU,2,none⟩=some (.pointer none):=(blk_cell kU 2).trans rfl
 obtain ⟨a0,a1,a2,a3,a4⟩:=nd_cells k1
 obtain ⟨b0,b1,b2,b3,b4⟩:=nd_cells k2
 obtain ⟨c0,c1,c2,c3,c4⟩:=nd_cells k3
 have hnil:∀ W:World,(binOp .neq 277 (.slice none 0 0) (.slice none 0 0)).run Tryz.prog W=.ok (.bool false) W:=fun W=>by simpa using Go.run_neq_slice_nil (P:=Tryz.prog) (w:=W) 277 276 none 0 0 Tryz.underlying277
 have hnn:∀ (k c:Nat) (W:World),(binOp .neq 277 (.slice (some ⟨k,0,none⟩) 3 c) (.slice none 0 0)).run Tryz.prog W=.ok (.bool true) W:=fun k c W=>by simpa using Go.run_neq_slice_nil (P:=Tryz.prog) (w:=W) 277 276 (some ⟨k,0,none⟩) 3 c Tryz.underlying277
 clear kR kT k1 kU k2 k3 hf
 obtain ⟨u,hu⟩:∃ u,u=t.extract 1 t.size:=⟨_,rfl⟩
 have hus:u.size=t.size - 1:=by rw [hu];simp
 have hub:∀ h:0 < u.size,(u[0]'h).toNat=49:=fun h=>by
  have e:u[0]'h=t[1]'(by omega):=by subst hu;simp [ByteArray.getElem_extract]
  rw [e];exact hb1 _
 obtain ⟨x,hx⟩:∃ x,x=u.extract 1 u.size:=⟨_,rfl⟩
 have HU:=Aside0.mk hu
 have HX:=Aside0.mk hx
 have te:(t.toList==(⟨#[]⟩:ByteArray).toList)=false:=str_ne0 t (by omega)
 have ue:(u.toList==(⟨#[]⟩:ByteArray).toList)=false:=str_ne0 u (by omega)
 have te2:t.toList.isEmpty=false:=str_ne1 t (by omega)
 have ue2:u.toList.isEmpty=false:=str_ne1 u (by omega)
 clear hx hu hb1
 go_enter Tryz.func291,Tryz.ntmps291
 go_wp2
 go_loopg [1,6,7,8,9,10,11] 2 (fun kq v1 v6 v7 v8 v9 v10 v11 w'=>Drawn0 w w'∧((kq=2∧v1=.string t∧v10=.pointer (some ⟨gR,0,none⟩)∧v11=.int .i64 0)∨(kq=1∧v1=.string u∧v10=.pointer (some ⟨n1,0,none⟩)∧v11=.int .i64 1)∨(kq=0∧v1=.string x∧v10=.pointer (some ⟨n3,0,none⟩)∧v11=.int .i64 2))∧v6=.string (⟨#[]⟩:ByteArray)∧v7=.int .i64 0∧v8=.bool false∧v9=.int .i64 0)
 case atStart=>exact ⟨Drawn0.refl _,.inl ⟨rfl,rfl,rfl,rfl⟩,rfl,rfl,rfl,rfl⟩
 case round =>
  obtain ⟨⟨m,rfl⟩,hc,rfl,rfl,rfl,rfl⟩:=hrel
  rcases hc with ⟨rfl,rfl,rfl,rfl⟩ | ⟨rfl,rfl,rfl,rfl⟩ | ⟨rfl,rfl,rfl,rfl⟩
  ·go_upto_region 12 with fail
   go_quiet (fail)
   go_wp2
   go_roundg 1
   case measure=>omega
   case rel=>exact ⟨by repeat (first | exact Drawn0.refl _ | apply Drawn0.step),.inr (.inl ⟨rfl,by rw [HU.out],rfl,rfl⟩),rfl,rfl,rfl,rfl⟩
  ·clear hb0
   go_upto_region 12 with fail
   go_quiet (fail)
   go_wp2
   go_roundg 0
   case measure=>omega
   case rel=>exact ⟨by repeat (first | exact Drawn0.refl _ | apply Drawn0.step),.inr (.inr ⟨rfl,by rw [HX.out,hus],rfl,rfl⟩),rfl,rfl,rfl,rfl⟩
  ·clear hb0 hub
   cases xe:x.toList.isEmpty with
   | true =>
    go_wp2
    refine bodyPost_ret (v:=.tuple #[.string ⟨#[47]⟩,.int .i64 2,.bool true]) (by simp [results,Tryz.results291,go_sem]) rfl ?_
    exact ⟨rfl,by repeat (first | exact Drawn0.refl _ | apply Drawn0.step)⟩
   | false =>
    go_wp2
    refine bodyPost_ret (v:=.tuple #[.string ⟨#[47]⟩,.int .i64 2,.bool true]) (by simp [results,Tryz.results291,go_sem]) rfl ?_
    exact ⟨rfl,by repeat (first | exact Drawn0.refl _ | apply Drawn0.step)⟩
set_option maxRecDepth 100000 in
set_option maxHeartbeats 3200000 in
theorem look_end (t:ByteArray) (gR gT n1 gU n2 n3:Nat) (w:World) (hT:TrieAt w gR gT n1 gU n2 n3) (h1:t.size=1) (hs:t.size≤1073741824) (hb0:∀ h:0 < t.size,(t[0]'h).toNat=126) :
  Calls Tryz.prog 291 #[.pointer (some ⟨gR,0,none⟩),.string t,.bool false] w fun e w'=>e=.returned (.tuple #[.string (⟨#[]⟩:ByteArray),.int .i64 0,.bool false])∧Drawn0 w w':=by
 obtain ⟨⟨f,hf,kR⟩,kT,k1,kU,k2,k3⟩:=hT
 obtain ⟨r0,r1,r2,r3,r4,r5⟩:=gr_cells kR
 have m126:w.cell? ⟨gR,132,none⟩=some (.int .u8 2):=(gr_map kR 126 (by decide)).trans (by rw [hf 126 (by decide)];rfl)
 have m48:w.cell? ⟨gR,54,none⟩=some (.int .u8 0):=(gr_map kR 48 (by decide)).trans (by rw [hf 48 (by decide)];rfl)
 have m49:w.cell? ⟨gR,55,none⟩=some (.int .u8 1):=(gr_map kR 49 (by decide)).trans (by rw [hf 49 (by decide)];rfl)
 have T2:w.cell? ⟨gT,2,none⟩=some (.pointer (some ⟨n1,0,none⟩)):=(blk_cell kT 2).trans rfl
 have U0:w.cell? ⟨gU,0,none⟩=some (.pointer (some ⟨n2,0,none⟩)):=(blk_cell kU 0).trans rfl
 have U1:w.cell? ⟨gU,1,none⟩=some (.pointer (some ⟨n3,0,none⟩)):=(blk_cell kU 1).trans rfl
 have U2:w.cell? ⟨gU,2,none⟩=some (.pointer none):=(blk_cell kU 2).trans rfl
 obtain ⟨a0,a1,a2,a3,a4⟩:=nd_cells k1
 obtain ⟨b0,b1,b2,b3,b4⟩:=nd_cells k2
 obtain ⟨c0,c1,c2,c3,c4⟩:=nd_cells k3
 have hnil:∀ W:World,(binOp .neq 277 (.slice none 0 0) (.slice none 0 0)).run Tryz.prog W=.ok (.bool false) W:=fun W=>by simpa using Go.run_neq_slice_nil (P:=Tryz.prog) (w:=W) 277 276 none 0 0 Tryz.underlying277
 have hnn:∀ (k c:Nat) (W:World),(binOp .neq 277 (.slice (some ⟨k,0,none⟩) 3 c) (.slice none 0 0)).run Tryz.prog W=.ok (.bool true) W:=fun k c W=>by simpa using Go.run_neq_slice_nil (P:=Tryz.prog) (w:=W) 277 276 (some ⟨k,0,none⟩) 3 c Tryz.underlying277
 clear kR kT k1 kU k2 k3 hf
 obtain ⟨u,hu⟩:∃ u,u=t.extract 1 t.size:=⟨_,rfl⟩
 have hus:u.size=t.size - 1:=by rw [hu];simp
 have ue2:u.toList.isEmpty=true:=by
  have e:u.toList.length=u.size:=by rw [ByteArray.toList_eq];exact Array.length_toList
  rw [List.isEmpty_iff,←List.length_eq_zero_iff];omega
 have hp0:1≤t.size:=by omega
 have HU:=Aside0.mk hu
 have te:(t.toList==(⟨#[]⟩:ByteArray).toList)=false:=str_ne0 t (by omega)
 have te2:t.toList.isEmpty=false:=str_ne1 t (by omega)
 clear hu h1
 go_enter Tryz.func291,Tryz.ntmps291
 go_wp2
 go_loopg [1,6,7,8,9,10,11] 2 (fun kq v1 v6 v7 v8 v9 v10 v11 w'=>Drawn0 w w'∧((kq=2∧v1=.string t∧v10=.pointer (some ⟨gR,0,none⟩)∧v11=.int .i64 0)∨(kq=1∧v1=.string u∧v10=.pointer (some ⟨n1,0,none⟩)∧v11=.int .i64 1))∧v6=.string (⟨#[]⟩:ByteArray)∧v7=.int .i64 0∧v8=.bool false∧v9=.int .i64 0)
 case atStart=>exact ⟨Drawn0.refl _,.inl ⟨rfl,rfl,rfl,rfl⟩,rfl,rfl,rfl,rfl⟩
 case round =>
  obtain ⟨⟨m,rfl⟩,hc,rfl,rfl,rfl,rfl⟩:=hrel
  rcases hc with ⟨rfl,rfl,rfl,rfl⟩ | ⟨rfl,rfl,rfl,rfl⟩
  ·go_upto_region 12 with fail
   go_quiet (fail)
   go_wp2
   go_roundg 1
   case measure=>omega
   case rel=>exact ⟨by repeat (first | exact Drawn0.refl _ | apply Drawn0.step),.inr (⟨rfl,by rw [HU.out],rfl,rfl⟩),rfl,rfl,rfl,rfl⟩
  ·clear hb0
   go_wp2
   refine bodyPost_ret (v:=.tuple #[.string (⟨#[]⟩:ByteArray),.int .i64 0,.bool false]) (by simp [results,Tryz.results291,go_sem]) rfl ?_
   exact ⟨rfl,by repeat (first | exact Drawn0.refl _ | apply Drawn0.step)⟩
set_option maxRecDepth 100000 in
set_option maxHeartbeats 3200000 in
theorem look_126 (t:ByteArray) (gR gT n1 gU n2 n3:Nat) (w:World) (hT:TrieAt w gR gT n1 gU n2 n3) (h2:2≤t.size) (hb1:∀ h:1 < t.size,(t[1]'h).toNat=126) (hs:t.size≤1073741824) (hb0:∀ h:0 < t.size,(t[0]'h).toNat=126) :
  Calls Tryz.prog 291 #[.pointer (some ⟨gR,0,none⟩),.string t,.bool false] w fun e w'=>e=.returned (.tuple #[.string (⟨#[]⟩:ByteArray),.int .i64 0,.bool false])∧Drawn0 w w':=by
 obtain ⟨⟨f,hf,kR⟩,kT,k1,kU,k2,k3⟩:=hT
 obtain ⟨r0,r1,r2,r3,r4,r5⟩:=gr_cells kR
 have m126:w.cell? ⟨gR,132,none⟩=some (.int .u8 2):=(gr_map kR 126 (by decide)).trans (by rw [hf 126 (by decide)];rfl)
 have m48:w.cell? ⟨gR,54,none⟩=some (.int .u8 0):=(gr_map kR 48 (by decide)).trans (by rw [hf 48 (by decide)];rfl)
 have m49:w.cell? ⟨gR,55,none⟩=some (.int .u8 1):=(gr_map kR 49 (by decide)).trans (by rw [hf 49 (by decide)];rfl)
 have T2:w.cell? ⟨gT,2,none⟩=some (.pointer (some ⟨n1,0,none⟩)):=(blk_cell kT 2).trans rfl
 have U0:w.cell? ⟨gU,0,none⟩=some (.pointer (some ⟨n2,0,none⟩)):=(blk_cell kU 0).trans rfl
 have U1:w.cell? ⟨gU,1,none⟩=some (.pointer (some ⟨n3,0,none⟩)):=(blk_cell kU 1).trans rfl
 have U2:w.cell? ⟨gU,2,none⟩=some (.pointer none):=(blk_cell kU 2).trans rfl
 obtain ⟨a0,a1,a2,a3,a4⟩:=nd_cells k1
 obtain ⟨b0,b1,b2,b3,b4⟩:=nd_cells k2
 obtain ⟨c0,c1,c2,c3,c4⟩:=nd_cells k3
 have hnil:∀ W:World,(binOp .neq 277 (.slice none 0 0) (.slice none 0 0)).run Tryz.prog W=.ok (.bool false) W:=fun W=>by simpa using Go.run_neq_slice_nil (P:=Tryz.prog) (w:=W) 277 276 none 0 0 Tryz.underlying277
 have hnn:∀ (k c:Nat) (W:World),(binOp .neq 277 (.slice (some ⟨k,0,none⟩) 3 c) (.slice none 0 0)).run Tryz.prog W=.ok (.bool true) W:=fun k c W=>by simpa using Go.run_neq_slice_nil (P:=Tryz.prog) (w:=W) 277 276 (some ⟨k,0,none⟩) 3 c Tryz.underlying277
 clear kR kT k1 kU k2 k3 hf
 obtain ⟨u,hu⟩:∃ u,u=t.extract 1 t.size:=⟨_,rfl⟩
 have hus:u.size=t.size - 1:=by rw [hu];simp
 have hub:∀ h:0 < u.size,(u[0]'h).toNat=126:=fun h=>by
  have e:u[0]'h=t[1]'(by omega):=by subst hu;simp [ByteArray.getElem_extract]
  rw [e];exact hb1 _
 have ue:(u.toList==(⟨#[]⟩:ByteArray).toList)=false:=str_ne0 u (by omega)
 have ue2:u.toList.isEmpty=false:=str_ne1 u (by omega)
 clear hb1
 have HU:=Aside0.mk hu
 have te:(t.toList==(⟨#[]⟩:ByteArray).toList)=false:=str_ne0 t (by omega)
 have te2:t.toList.isEmpty=false:=str_ne1 t (by omega)
 clear hu
 go_enter Tryz.func291,Tryz.ntmps291
 go_wp2
 go_loopg [1,6,7,8,9,10,11] 2 (fun kq v1 v6 v7 v8 v9 v10 v11 w'=>Drawn0 w w'∧((kq=2∧v1=.string t∧v10=.pointer (some ⟨gR,0,none⟩)∧v11=.int .i64 0)∨(kq=1∧v1=.string u∧v10=.pointer (some ⟨n1,0,none⟩)∧v11=.int .i64 1)∨(kq=0∧v10=.pointer none))∧v6=.string (⟨#[]⟩:ByteArray)∧v7=.int .i64 0∧v8=.bool false∧v9=.int .i64 0)
 case atStart=>exact ⟨Drawn0.refl _,.inl ⟨rfl,rfl,rfl,rfl⟩,rfl,rfl,rfl,rfl⟩
 case round =>
  obtain ⟨⟨m,rfl⟩,hc,rfl,rfl,rfl,rfl⟩:=hrel
  rcases hc with ⟨rfl,rfl,rfl,rfl⟩ | ⟨rfl,rfl,rfl,rfl⟩ | ⟨rfl,rfl⟩
  ·go_upto_region 12 with fail
   go_quiet (fail)
   go_wp2
   go_roundg 1
   case measure=>omega
   case rel=>exact ⟨by repeat (first | exact Drawn0.refl _ | apply Drawn0.step),.inr (.inl ⟨rfl,by rw [HU.out],rfl,rfl⟩),rfl,rfl,rfl,rfl⟩
  ·clear hb0
   go_upto_region 12 with fail
   go_quiet (fail)
   go_wp2
   go_roundg 0
   case measure=>omega
   case rel=>exact ⟨by repeat (first | exact Drawn0.refl _ | apply Drawn0.step),.inr (.inr ⟨rfl,rfl⟩),rfl,rfl,rfl,rfl⟩
  ·go_wp2
   refine bodyPost_ret (v:=.tuple #[.string (⟨#[]⟩:ByteArray),.int .i64 0,.bool false]) (by simp [results,Tryz.results291,go_sem]) rfl ?_
   exact ⟨rfl,by repeat (first | exact Drawn0.refl _ | apply Drawn0.step)⟩
set_option maxRecDepth 100000 in
set_option maxHeartbeats 3200000 in
theorem look_oth (t:ByteArray) (gR gT n1 gU n2 n3:Nat) (w:World) (hT:TrieAt w gR gT n1 gU n2 n3) (x:Nat) (hx:x < 256) (hx1:x≠48) (hx2:x≠49) (hx3:x≠126) (h2:2≤t.size) (hb1:∀ h:1 < t.size,(t[1]'h).toNat=x) (hs:t.size≤1073741824) (hb0:∀ h:0 < t.size,(t[0]'h).toNat=126) :
  Calls Tryz.prog 291 #[.pointer (some ⟨gR,0,none⟩),.string t,.bool false] w fun e w'=>e=.returned (.tuple #[.string (⟨#[]⟩:ByteArray),.int .i64 0,.bool false])∧Drawn0 w w':=by
 obtain ⟨⟨f,hf,kR⟩,kT,k1,kU,k2,k3⟩:=hT
 obtain ⟨r0,r1,r2,r3,r4,r5⟩:=gr_cells kR
 have m126:w.cell? ⟨gR,132,none⟩=some (.int .u8 2):=(gr_map kR 126 (by decide)).trans (by rw [hf 126 (by decide)];rfl)
 have m48:w.cell? ⟨gR,54,none⟩=some (.int .u8 0):=(gr_map kR 48 (by decide)).trans (by rw [hf 48 (by decide)];rfl)
 have m49:w.cell? ⟨gR,55,none⟩=some (.int .u8 1):=(gr_map kR 49 (by decide)).trans (by rw [hf 49 (by decide)];rfl)
 have T2:w.cell? ⟨gT,2,none⟩=some (.pointer (some ⟨n1,0,none⟩)):=(blk_cell kT 2).trans rfl
 have U0:w.cell? ⟨gU,0,none⟩=some (.pointer (some ⟨n2,0,none⟩)):=(blk_cell kU 0).trans rfl
 have U1:w.cell? ⟨gU,1,none⟩=some (.pointer (some ⟨n3,0,none⟩)):=(blk_cell kU 1).trans rfl
 have U2:w.cell? ⟨gU,2,none⟩=some (.pointer none):=(blk_cell kU 2).trans rfl
 obtain ⟨a0,a1,a2,a3,a4⟩:=nd_cells k1
 obtain ⟨b0,b1,b2,b3,b4⟩:=nd_cells k2
 obtain ⟨c0,c1,c2,c3,c4⟩:=nd_cells k3
 have hnil:∀ W:World,(binOp .neq 277 (.slice none 0 0) (.slice none 0 0)).run Tryz.prog W=.ok (.bool false) W:=fun W=>by simpa using Go.run_neq_slice_nil (P:=Tryz.prog) (w:=W) 277 276 none 0 0 Tryz.underlying277
 have hnn:∀ (k c:Nat) (W:World),(binOp .neq 277 (.slice (some ⟨k,0,none⟩) 3 c) (.slice none 0 0)).run Tryz.prog W=.ok (.bool true) W:=fun k c W=>by simpa using Go.run_neq_slice_nil (P:=Tryz.prog) (w:=W) 277 276 (some ⟨k,0,none⟩) 3 c Tryz.underlying277
 have mx:w.cell? ⟨gR,6+x,none⟩=some (.int .u8 3):=(gr_map kR x hx).trans (by rw [hf x hx,fin_no hx1 hx2 hx3])
 clear hx1 hx2 hx3
 clear kR kT k1 kU k2 k3 hf
 obtain ⟨u,hu⟩:∃ u,u=t.extract 1 t.size:=⟨_,rfl⟩
 have hus:u.size=t.size - 1:=by rw [hu];simp
 have hub:∀ h:0 < u.size,(u[0]'h).toNat=x:=fun h=>by
  have e:u[0]'h=t[1]'(by omega):=by subst hu;simp [ByteArray.getElem_extract]
  rw [e];exact hb1 _
 have ue:(u.toList==(⟨#[]⟩:ByteArray).toList)=false:=str_ne0 u (by omega)
 have ue2:u.toList.isEmpty=false:=str_ne1 u (by omega)
 clear hb1
 have HU:=Aside0.mk hu
 have te:(t.toList==(⟨#[]⟩:ByteArray).toList)=false:=str_ne0 t (by omega)
 have te2:t.toList.isEmpty=false:=str_ne1 t (by omega)
 clear hu
 go_enter Tryz.func291,Tryz.ntmps291
 go_wp2
 go_loopg [1,6,7,8,9,10,11] 2 (fun kq v1 v6 v7 v8 v9 v10 v11 w'=>Drawn0 w w'∧((kq=2∧v1=.string t∧v10=.pointer (some ⟨gR,0,none⟩)∧v11=.int .i64 0)∨(kq=1∧v1=.string u∧v10=.pointer (some ⟨n1,0,none⟩)∧v11=.int .i64 1))∧v6=.string (⟨#[]⟩:ByteArray)∧v7=.int .i64 0∧v8=.bool false∧v9=.int .i64 0)
 case atStart=>exact ⟨Drawn0.refl _,.inl ⟨rfl,rfl,rfl,rfl⟩,rfl,rfl,rfl,rfl⟩
 case round =>
  obtain ⟨⟨m,rfl⟩,hc,rfl,rfl,rfl,rfl⟩:=hrel
  rcases hc with ⟨rfl,rfl,rfl,rfl⟩ | ⟨rfl,rfl,rfl,rfl⟩
  ·go_upto_region 12 with fail
   go_quiet (fail)
   go_wp2
   go_roundg 1
   case measure=>omega
   case rel=>exact ⟨by repeat (first | exact Drawn0.refl _ | apply Drawn0.step),.inr (⟨rfl,by rw [HU.out],rfl,rfl⟩),rfl,rfl,rfl,rfl⟩
  ·clear hb0
   go_upto_region 12 with fail
   go_quiet (fail)
   go_wp2
   refine bodyPost_ret (v:=.tuple #[.string (⟨#[]⟩:ByteArray),.int .i64 0,.bool false]) (by simp [results,Tryz.results291,go_sem]) rfl ?_
   exact ⟨rfl,by repeat (first | exact Drawn0.refl _ | apply Drawn0.step)⟩
end Go.Proofs.YtoaafohpmhdjnaaGreatDoor.RX
