/- TariffDiagrams answers true for every input, as its tied card says: under the conditions of the card (Rows, Cards, Tie), no more. Part 6 of 7: by one AI agent and its programs; no person has read it. -/
import Derived.Test.YtnfnkllhjaemnaaDoorTariffDiagramsA
import Derived.Test.YtnfnkllhjaemnaaDoorTariffDiagramsB
import Derived.Test.YtnfnkllhjaemnaaDoorTariffDiagramsC
import Derived.Test.YtnfnkllhjaemnaaDoorTariffDiagramsD
import Derived.Test.YtnfnkllhjaemnaaDoorTariffDiagramsE
set_option linter.unusedSimpArgs false
set_option linter.unusedVariables false
set_option linter.all false

namespace Go.Pv.Tryd
open Go.Proofs Go.Pv
set_option maxHeartbeats 4000000 in
theorem whR (o1:Builder) (x1:Node) (r:(Int×Builder)) (h:wa9 o1 x1=some r):ObjFn Tryd.prog G 90 [.ptr 0 0 0,.d (.agg [(.int .i64 x1.Mark),(.imm 1 (wab (PD.int .i64) x1.Cuts)),(.imm 1 (wab (PD.int .i64) x1.To))])] [(0,⟨92,5,[.agg [.d (.int .i64 o1.k),.d (.imm 2 (wab Rule.pd o1.rules)),.mp 1,.mp 2,.slc 1003 0 o1.nodes.length]]⟩),(1,⟨89,0,waq Arr3_Int.pd (PD.int .i64) o1.known⟩),(2,⟨90,0,waq PD.str (PD.int .i64) o1.same⟩),(1003,⟨37,3,dl (wab Node.pd o1.nodes)⟩)] (.d (.int .i64 r.1)) [(0,⟨92,5,[.agg [.d (.int .i64 r.2.k),.d (.imm 2 (wab Rule.pd r.2.rules)),.mp 1,.mp 2,.slc 1003 0 r.2.nodes.length]]⟩),(1,⟨89,0,waq Arr3_Int.pd (PD.int .i64) r.2.known⟩),(2,⟨90,0,waq PD.str (PD.int .i64) r.2.same⟩),(1003,⟨37,3,dl (wab Node.pd r.2.nodes)⟩)]:=by
 unfold wa9 at h
 refine ObjFn.pf Tryd.func90 Tryd.ntmps90 ?_
 refine sg fun K k=>?_
 iterate 2 refine oo ?_
 refine AOps.nil (k _ ?_)
 refine sg fun K k=>?_
 refine oo ?_
 refine AOps.sub (Sub.voidCell 1005 1 5 1 1006 (x:=⟨148,2,[.d (.agg [.nilptr,.nilslice])]⟩) (p:=.d (.agg [.nilptr,.nilslice])) (cs:=[.d .nilptr,.d .nilslice]) rfl (Nat.le_of_ble_eq_true rfl) rfl rfl rfl rfl rfl (by decide) (by decide)) ?_
 simp only[wal,List.set_cons_succ,List.set_cons_zero,reduceCtorEq,↓reduceIte,Nat.reduceAdd,Nat.reduceMul,Nat.reduceLT,Nat.reduceLeDiff,Nat.reduceEqDiff,Nat.reduceBEq,Int.reduceToNat]
 refine AOps.nil (k _ ?_)
 refine jn (α:=(Bool×(List Int))) [0,3] [0,1,2,1003,1004] (fun i t=>(5,.ptr 1005 0 0)::t) (fun i t=>(1005,⟨148,2,[.agg [wdk i.1 1005,.slc 1006 0 i.2.length]]⟩)::(1006,⟨5,1,dl (wab (PD.int .u8) i.2)⟩)::t) h ?_ ?_
 ·intro _ hj_2
  refine sg fun K k=>?_
  iterate 2 refine oo ?_
  refine ol ?_
  iterate 4 refine oo ?_
  refine ol ?_
  refine AOps.sub (τ:=⟨[(0,.ptr 0 0 0),(3,.ptr 1004 0 0),(5,.ptr 1005 0 0),(19,.d (.imm 1 (wab (wbb 1 (PD.int .i64)) [[x1.Mark],x1.Cuts,x1.To])))],[(0,⟨92,5,[.agg [.d (.int .i64 o1.k),.d (.imm 2 (wab Rule.pd o1.rules)),.mp 1,.mp 2,.slc 1003 0 o1.nodes.length]]⟩),(1,⟨89,0,waq Arr3_Int.pd (PD.int .i64) o1.known⟩),(2,⟨90,0,waq PD.str (PD.int .i64) o1.same⟩),(1003,⟨37,3,dl (wab Node.pd o1.nodes)⟩),(1004,⟨37,3,[.d (.agg [(.int .i64 x1.Mark),(.imm 1 (wab (PD.int .i64) x1.Cuts)),(.imm 1 (wab (PD.int .i64) x1.To))])]⟩),(1005,⟨148,2,[.agg [.d .nilptr,.slc 1006 0 0]]⟩),(1006,⟨5,1,dl (wab (PD.int .u8) [])⟩)],[],none⟩) sb ?_
  iterate 2 refine oo ?_
  refine AOps.nil (k _ ?_)
  refine AWp.block ?_
  obtain⟨x_7,hl_4,h2_5⟩:=bind_some hj_2
  refine lp (S:=(Int×Bool×(List Int))) [0,3,19,20] [0,1,2,1003,1004] (fun i t=>(5,.ptr 1005 0 0)::(21,.d (.int .i64 i.1))::t) (fun i t=>(1005,⟨148,2,[.agg [wdk i.2.1 1005,.slc 1006 0 i.2.2.length]]⟩)::(1006,⟨5,1,dl (wab (PD.int .u8) i.2.2)⟩)::t) hl_4 ?_ ?_; exact sb; clear hl_4
  rintro⟨v1,c2,L2⟩ _ hb_6; unfold waP at hb_6; try dsimp only at hb_6
  try dsimp only
  refine sg fun K k=>?_
  refine oo ?_
  refine AOps.nil (k _ ?_)
  refine AWp.seq fun _ K_9=>?_
  refine cd hb_6 (fun hb_6=>?_) (fun hb_6=>?_)
  ·refine AWp.skip ?_
   refine K_9 _ ?_
   refine jn (α:=(Bool×(List Int))) [0,3,19,20,21] [0,1,2,1003,1004] (fun i t=>(5,.ptr 1005 0 0)::t) (fun i t=>(1005,⟨148,2,[.agg [wdk i.1 1005,.slc 1006 0 i.2.length]]⟩)::(1006,⟨5,1,dl (wab (PD.int .u8) i.2)⟩)::t) hb_6 ?_ ?_
   ·intro _ hj_12
    refine AWp.block ?_
    refine sg fun K k=>?_
    obtain⟨e1,⟨f_13,f_14,f_15,f_16⟩,hj_12⟩:=waj hj_12
    try simp only[List.length_append,List.length_set,List.length_replicate,List.length_cons,List.length_nil]at f_14 f_16
    refine oo ?_
    refine oo ?_ (by intro K k; simp(disch:=omega) only[go_sem,f_15,↓reduceIte]; exact k)
    refine oo ?_
    refine AOps.nil (k _ ?_)
    refine jn (α:=(Bool×(List Int))) [0,3,19,20,21] [0,1,2,1003,1004] (fun i t=>(5,.ptr 1005 0 0)::t) (fun i t=>(1005,⟨148,2,[.agg [wdk i.1 1005,.slc 1006 0 i.2.length]]⟩)::(1006,⟨5,1,dl (wab (PD.int .u8) i.2)⟩)::t) hj_12 ?_ ?_
    ·intro _ hj_18
     refine sg fun K k=>?_
     iterate 3 refine oo ?_
     refine AOps.nil (k _ ?_)
     refine AWp.block ?_
     obtain⟨x_23,hl_20,h2_21⟩:=bind_some hj_18
     refine lp (S:=(Int×Bool×(List Int))) [0,3,19,20,21,25,26] [0,1,2,1003,1004] (fun i t=>(5,.ptr 1005 0 0)::(27,.d (.int .i64 i.1))::t) (fun i t=>(1005,⟨148,2,[.agg [wdk i.2.1 1005,.slc 1006 0 i.2.2.length]]⟩)::(1006,⟨5,1,dl (wab (PD.int .u8) i.2.2)⟩)::t) hl_20 ?_ ?_; exact sb; clear hl_20
     rintro⟨v2,c5,L5⟩ _ hb_22; unfold wa2 at hb_22; try dsimp only at hb_22
     try dsimp only
     refine sg fun K k=>?_
     refine oo ?_
     refine AOps.nil (k _ ?_)
     refine AWp.seq fun _ K_25=>?_
     refine cd hb_22 (fun hb_22=>?_) (fun hb_22=>?_)
     ·refine AWp.skip ?_
      refine K_25 _ ?_
      refine AWp.seq fun _ K_27=>?_
      refine AWp.block ?_
      refine sg fun K k=>?_
      obtain⟨e2,⟨f_28,f_29,f_30,f_31⟩,hb_22⟩:=waj hb_22
      refine oo ?_
      refine oo ?_ (by intro K k; simp(disch:=omega) only[go_sem,f_30,↓reduceIte]; exact k)
      refine oo ?_
      refine AOps.nil (k _ ?_)
      refine AWp.reg ?_
      refine oo ?_
      obtain⟨r1,hx_32,hb_22⟩:=bind_some hb_22
      refine cl (wtE e2 _ hx_32) ?_
      obtain⟨hg_33,hb_22⟩:=wae hb_22
      refine oo ?_
      obtain⟨r2,hx_34,hb_22⟩:=bind_some hb_22
      refine clU [(0,1005),(1001,1006)] [1006] (wr9 (⟨c5,L5⟩:StringsBuilder) (r1++(⟨#[32]⟩:ByteArray)) _ hx_34) ?_
      refine AOps.nil ?_
      refine K_27 _ ?_
      refine AWp.reg ?_
      iterate 2 refine oo ?_
      refine AOps.nil ?_
      exact ln hb_22 sb
     ·refine AWp.exit ?_
      refine lx hb_22 fun hx=>?_; cases hx; try dsimp only at h2_21
      cases h2_21; exact sb
    ·rintro⟨c4,L4⟩ hj_12; dsimp only at hj_12 ⊢
     refine AWp.reg ?_
     obtain⟨r3,hx_35,hj_12⟩:=bind_some hj_12
     refine clU [(0,1005),(1001,1006)] [1006] (woU (⟨c4,L4⟩:StringsBuilder) 124 _ hx_35) ?_
     refine AOps.nil ?_
     cases hj_12; exact sb
   ·rintro⟨c3,L3⟩ hb_6; dsimp only at hb_6 ⊢
    refine AWp.reg ?_
    iterate 2 refine oo ?_
    refine AOps.nil ?_
    exact ln hb_6 sb
  ·refine AWp.exit ?_
   refine lx hb_6 fun hx=>?_; cases hx; try dsimp only at h2_5
   cases h2_5; exact sb
 ·rintro⟨c1,L1⟩ h; dsimp only at h ⊢
  refine sd mo fun K k=>?_
  iterate 4 refine dd ?_
  obtain⟨r4,hx_36,h⟩:=bind_some h
  refine wtL [(0,1005),(1,1006)] (wmf (⟨c1,L1⟩:StringsBuilder) _ hx_36) ?_
  refine DOps.bar (by kernel_rfl) ?_
  refine BOps.hard (by kernel_rfl) ?_
  refine oml (k:=r4) (L:=o1.same) (v0:=0) (encV:=(PD.int .i64)) KE9 wtO ty3 MZ3 (fun _ _=>.int _ _) ?_
  refine AOps.nil ?_
  refine BOps.draw [] trivial (Nat.le_of_ble_eq_true rfl) ?_
  iterate 5 refine dd ?_
  refine DOps.nil (by kernel_rfl) (k _ ?_)
  refine jn (α:=(Int×(List (ByteArray×Int))×(List Node))) [] [1] (fun i t=>(10,.d (.int .i64 i.1))::t) (fun i t=>(0,⟨92,5,[.agg [.d (.int .i64 o1.k),.d (.imm 2 (wab Rule.pd o1.rules)),.mp 1,.mp 2,.slc 1003 0 i.2.2.length]]⟩)::(2,⟨90,0,waq PD.str (PD.int .i64) i.2.1⟩)::(1003,⟨37,3,dl (wab Node.pd i.2.2)⟩)::t) h ?_ ?_
  ·intro _ hj_38
   refine sg fun K k=>?_
   iterate 2 refine oo ?_
   refine AOps.nil (k _ ?_)
   refine cd hj_38 (fun hj_38=>?_) (fun hj_38=>?_)
   ·refine sg fun K k=>?_
    iterate 6 refine oo ?_
    refine AOps.nil (k _ ?_)
    refine sd mo fun K k=>?_
    iterate 4 refine dd ?_
    obtain⟨r5,hx_40,hj_38⟩:=bind_some hj_38
    refine wtL [(0,1005),(1,1006)] (wmf (⟨c1,L1⟩:StringsBuilder) _ hx_40) ?_
    refine dd ?_
    refine DOps.stop (by kernel_rfl) ?_
    refine oms (k:=r5) (L:=o1.same) (v:=(o1.nodes.length:Int)) (encV:=(PD.int .i64)) KE9 wtO ?_
    refine AOps.nil (k _ ?_)
    refine AWp.sub (τ:=⟨[(0,.ptr 0 0 0),(3,.ptr 1004 0 0),(5,.ptr 1005 0 0),(10,.d (.int .i64 (o1.nodes.length:Int))),(11,.d (.bool ((waQ r4 o1.same).isSome))),(38,.tuple [.d (.int .i64 ((waQ r4 o1.same).getD 0)),.d (.bool ((waQ r4 o1.same).isSome))]),(39,.ptr 0 0 0),(40,.ptr 0 0 0),(41,.ptr 0 0 3),(42,.mp 2),(43,.d (.str r4)),(44,.tuple [.d (.int .i64 ((waQ r4 o1.same).getD 0)),.d (.bool ((waQ r4 o1.same).isSome))]),(45,.d (.int .i64 ((waQ r4 o1.same).getD 0))),(46,.d (.bool ((waQ r4 o1.same).isSome))),(47,.d (.bool ((waQ r4 o1.same).isSome))),(48,.d (.bool (!((waQ r4 o1.same).isSome)))),(49,.ptr 0 0 0),(50,.ptr 0 0 0),(51,.ptr 0 0 4),(53,.d (.int .i64 (o1.nodes.length:Int))),(54,.ptr 0 0 0),(55,.ptr 0 0 0),(56,.ptr 0 0 3),(57,.mp 2),(58,.d (.str r5)),(59,.d (.int .i64 (o1.nodes.length:Int)))],[(0,⟨92,5,[.agg [.d (.int .i64 o1.k),.d (.imm 2 (wab Rule.pd o1.rules)),.mp 1,.mp 2,.slc 1003 0 o1.nodes.length]]⟩),(1,⟨89,0,waq Arr3_Int.pd (PD.int .i64) o1.known⟩),(2,⟨90,0,waq PD.str (PD.int .i64) (wc5 r5 (o1.nodes.length:Int) o1.same)⟩),(1003,⟨37,3,dl (wab Node.pd o1.nodes)⟩),(1004,⟨37,3,[.d (.agg [(.int .i64 x1.Mark),(.imm 1 (wab (PD.int .i64) x1.Cuts)),(.imm 1 (wab (PD.int .i64) x1.To))])]⟩),(1005,⟨148,2,[.agg [wdk c1 1005,.slc 1006 0 L1.length]]⟩),(1006,⟨5,1,dl (wab (PD.int .u8) L1)⟩)],[],none⟩) sb ?_
    refine drX mo [(1003,[64,67,1000000])] ?_
    iterate 6 (refine dd ?_ (by intro K k; simp(disch:=omega) only[go_sem,true_or,or_true,and_self,true_and,and_true,↓reduceIte]; exact k))
    refine ddl ?_ (by intro K k; simp(disch:=omega) only[go_sem,true_or,or_true,and_self,true_and,and_true,↓reduceIte]; exact k)
    obtain⟨hg_41,hj_38⟩:=wae hj_38
    refine wmv [64,67,1000000] [(0,⟨92,5,[.agg [.d (.int .i64 o1.k),.d (.imm 2 (wab Rule.pd o1.rules)),.mp 1,.mp 2,.slc 1003 0 o1.nodes.length]]⟩)] (dl (wab Node.pd [x1])) se32 ?_
    iterate 3 (refine dd ?_ (by intro K k; simp(disch:=omega) only[go_sem,true_or,or_true,and_self,true_and,and_true,↓reduceIte]; exact k))
    refine DOps.nil (by kernel_rfl) ?_
    cases hj_38; exact sb
   ·refine AWp.skip ?_
    cases hj_38; exact sb
  ·rintro⟨n1,M1,L6⟩ h; dsimp only at h ⊢
   refine sg fun K k=>?_
   iterate 2 refine oo ?_
   refine AOps.nil (k _ ?_)
   refine AWp.ret ?_
   cases h; exact rtO
end Go.Pv.Tryd

namespace Go.Pv.Tryd
open Go.Proofs Go.Pv
set_option maxHeartbeats 4000000 in
theorem win (n:Nat):∀ (o1:Builder) (mark1:Int) (a1:Int) (r:(Int×Builder)) (h:wa6 n o1 mark1 a1=some r),ObjFn Tryd.prog G 57 [.ptr 0 0 0,.d (.int .i64 mark1),.d (.int .u32 a1)] [(0,⟨92,5,[.agg [.d (.int .i64 o1.k),.d (.imm 2 (wab Rule.pd o1.rules)),.mp 1,.mp 2,.slc 1003 0 o1.nodes.length]]⟩),(1,⟨89,0,waq Arr3_Int.pd (PD.int .i64) o1.known⟩),(2,⟨90,0,waq PD.str (PD.int .i64) o1.same⟩),(1003,⟨37,3,dl (wab Node.pd o1.nodes)⟩)] (.d (.int .i64 r.1)) [(0,⟨92,5,[.agg [.d (.int .i64 r.2.k),.d (.imm 2 (wab Rule.pd r.2.rules)),.mp 1,.mp 2,.slc 1003 0 r.2.nodes.length]]⟩),(1,⟨89,0,waq Arr3_Int.pd (PD.int .i64) r.2.known⟩),(2,⟨90,0,waq PD.str (PD.int .i64) r.2.same⟩),(1003,⟨37,3,dl (wab Node.pd r.2.nodes)⟩)]:=by
 induction n with
 | zero=>intro o1 mark1 a1 r h; cases h
 | succ n ih =>
  intro o1 mark1 a1 r h
  replace h:wbJ (wa6 n) o1 mark1 a1=some r:=h
  unfold wbJ at h
  refine ObjFn.pf Tryd.func57 Tryd.ntmps57 ?_
  refine sg fun K k=>?_
  refine oo ?_
  refine AOps.nil (k _ ?_)
  refine AWp.seq fun _ K_1=>?_
  refine sg fun K k=>?_
  iterate 6 refine oo ?_
  refine AOps.nil (k _ ?_)
  refine cd h (fun h=>?_) (fun h=>?_)
  ·refine sg fun K k=>?_
   iterate 2 refine oo ?_
   obtain⟨r1,hx_3,h⟩:=bind_some h
   refine clU [(0,0),(1,1),(2,2),(1003,1003)] [1003] (whQ o1 a1 _ hx_3) ?_
   refine oo ?_
   refine AOps.nil (k _ ?_)
   refine AWp.ret ?_
   cases h; exact rtO
  ·refine AWp.skip ?_
   refine K_1 _ ?_
   refine sg fun K k=>?_
   iterate 6 refine oo ?_
   refine AOps.nil (k _ ?_)
   refine AWp.seq fun _ K_4=>?_
   refine sd mo fun K k=>?_
   iterate 5 refine dd ?_
   refine DOps.bar (by kernel_rfl) ?_
   refine BOps.hard (by kernel_rfl) ?_
   refine oml (k:=(⟨mark1,(IntKind.i64.wrap a1),0⟩:Arr3_Int)) (L:=o1.known) (v0:=0) (encV:=(PD.int .i64)) wlL wtN ty3 MZ3 (fun _ _=>.int _ _) ?_
   refine AOps.nil ?_
   refine BOps.draw [] trivial (Nat.le_of_ble_eq_true rfl) ?_
   iterate 5 refine dd ?_
   refine DOps.nil (by kernel_rfl) (k _ ?_)
   refine sg fun K k=>?_
   refine oo ?_
   refine AOps.nil (k _ ?_)
   refine cd h (fun h=>?_) (fun h=>?_)
   ·refine sg fun K k=>?_
    iterate 2 refine oo ?_
    refine AOps.nil (k _ ?_)
    refine AWp.ret ?_
    cases h; exact rtO
   ·refine AWp.skip ?_
    refine K_4 _ ?_
    refine sg fun K k=>?_
    iterate 5 refine oo ?_
    refine ol ?_
    obtain⟨r2,hx_6,h⟩:=bind_some h
    refine cl (wga mark1 [o1.rules] _ hx_6) ?_
    refine oo ?_
    refine AOps.nil (k _ ?_)
    refine sg fun K k=>?_
    refine oo ?_
    refine AOps.nil (k _ ?_)
    refine AWp.sub (Sub.void 11 3 1 1005 (by rfl) (by rfl) (by decide) (by decide)) ?_
    simp only[wdC,wal,reduceCtorEq,↓reduceIte,Nat.reduceAdd,Nat.reduceMul,Nat.reduceLT,Nat.reduceLeDiff,Nat.reduceEqDiff,Nat.reduceBEq,Int.reduceToNat]
    refine sg fun K k=>?_
    refine oo ?_
    refine AOps.nil (k _ ?_)
    refine jn (α:=(Int×(List Rule)×(List (Arr3_Int×Int))×(List (ByteArray×Int))×(List Node)×(List Int))) [1,7,10] [1004] (fun i t=>(0,.ptr 0 0 0)::(11,.slc 1005 0 i.2.2.2.2.2.length)::t) (fun i t=>(0,⟨92,5,[.agg [.d (.int .i64 i.1),.d (.imm 2 (wab Rule.pd i.2.1)),.mp 1,.mp 2,.slc 1003 0 i.2.2.2.2.1.length]]⟩)::(1,⟨89,0,waq Arr3_Int.pd (PD.int .i64) i.2.2.1⟩)::(2,⟨90,0,waq PD.str (PD.int .i64) i.2.2.2.1⟩)::(1003,⟨37,3,dl (wab Node.pd i.2.2.2.2.1)⟩)::(1005,⟨3,1,dl (wab (PD.int .i64) i.2.2.2.2.2)⟩)::t) h ?_ ?_
    ·intro _ hj_8
     refine sg fun K k=>?_
     iterate 3 refine oo ?_
     refine AOps.nil (k _ ?_)
     refine AWp.block ?_
     obtain⟨x_13,hl_10,h2_11⟩:=bind_some hj_8
     refine lp (S:=(Int×Int×Int×(List Rule)×(List (Arr3_Int×Int))×(List (ByteArray×Int))×(List Node)×(List Int))) [1,2,7,10,49,50] [1004] (fun i t=>(0,.ptr 0 0 0)::(11,.slc 1005 0 i.2.2.2.2.2.2.2.length)::(12,.d (.int .i64 i.1))::(51,.d (.int .i64 i.2.1))::t) (fun i t=>(0,⟨92,5,[.agg [.d (.int .i64 i.2.2.1),.d (.imm 2 (wab Rule.pd i.2.2.2.1)),.mp 1,.mp 2,.slc 1003 0 i.2.2.2.2.2.2.1.length]]⟩)::(1,⟨89,0,waq Arr3_Int.pd (PD.int .i64) i.2.2.2.2.1⟩)::(2,⟨90,0,waq PD.str (PD.int .i64) i.2.2.2.2.2.1⟩)::(1003,⟨37,3,dl (wab Node.pd i.2.2.2.2.2.2.1)⟩)::(1005,⟨3,1,dl (wab (PD.int .i64) i.2.2.2.2.2.2.2)⟩)::t) hl_10 ?_ ?_; exact sb; clear hl_10
     rintro⟨from1,v1,c3,c4,M3,M4,L3,L4⟩ _ hb_12; unfold wbk at hb_12; try dsimp only at hb_12
     try dsimp only
     refine sg fun K k=>?_
     refine oo ?_
     refine AOps.nil (k _ ?_)
     refine AWp.seq fun _ K_15=>?_
     refine cd hb_12 (fun hb_12=>?_) (fun hb_12=>?_)
     ·refine AWp.skip ?_
      refine K_15 _ ?_
      refine AWp.seq fun _ K_17=>?_
      refine AWp.block ?_
      refine sg fun K k=>?_
      obtain⟨e1,⟨f_18,f_19,f_20,f_21⟩,hb_12⟩:=waj hb_12
      refine oo ?_
      refine oo ?_ (by intro K k; simp(disch:=omega) only[go_sem,f_20,↓reduceIte]; exact k)
      refine oo ?_
      refine AOps.nil (k _ ?_)
      refine sg fun K k=>?_
      iterate 11 refine oo ?_
      obtain⟨r3,hx_22,hb_12⟩:=bind_some hb_12
      refine cl (we0 c4 mark1 from1 _ hx_22) ?_
      refine oo ?_
      obtain⟨r4,hx_23,hb_12⟩:=bind_some hb_12
      refine clU [(0,0),(1,1),(2,2),(1003,1003)] [1003] (ih (⟨c3,c4,M3,M4,L3⟩:Builder) (IntKind.i64.wrap (mark1+1)) (IntKind.u32.wrap ↑(BitVec.ofInt IntKind.u32.bits a1 &&& BitVec.ofInt IntKind.u32.bits r3).toNat) _ hx_23) ?_
      refine ol ?_
      obtain⟨hg_24,hb_12⟩:=wae hb_12
      iterate 2 refine oo ?_
      refine AOps.nil (k _ ?_)
      refine AWp.reg ?_
      iterate 2 refine oo ?_
      refine AOps.nil ?_
      refine K_17 _ ?_
      refine AWp.reg ?_
      iterate 2 refine oo ?_
      refine AOps.nil ?_
      exact ln hb_12 sb
     ·refine AWp.exit ?_
      refine lx hb_12 fun hx=>?_; cases hx; try dsimp only at h2_11
      cases h2_11; exact sb
    ·rintro⟨c1,c2,M1,M2,L1,L2⟩ h; dsimp only at h ⊢
     refine sg fun K k=>?_
     iterate 2 refine oo ?_
     refine AOps.sub (τ:=⟨[(0,.ptr 0 0 0),(1,.d (.int .i64 mark1)),(7,.ptr 1004 0 0),(74,.d (.imm 1 (wab (PD.int .i64) r2))),(75,.d (.imm 1 (wab (PD.int .i64) L2)))],[(0,⟨92,5,[.agg [.d (.int .i64 c1),.d (.imm 2 (wab Rule.pd c2)),.mp 1,.mp 2,.slc 1003 0 L1.length]]⟩),(1,⟨89,0,waq Arr3_Int.pd (PD.int .i64) M1⟩),(2,⟨90,0,waq PD.str (PD.int .i64) M2⟩),(1003,⟨37,3,dl (wab Node.pd L1)⟩),(1004,⟨121,3,[.d (.agg [(.int .i64 mark1),(.int .i64 (IntKind.i64.wrap a1)),(.int .i64 0)])]⟩)],[],none⟩) sc ?_
     obtain⟨r5,hx_25,h⟩:=bind_some h
     refine cl (wls r2 L2 _ hx_25) ?_
     iterate 5 refine oo ?_
     refine AOps.nil (k _ ?_)
     refine sg fun K k=>?_
     obtain⟨e2,⟨f_26,f_27,f_28,f_29⟩,h⟩:=waj h
     try simp only[Int.reduceToNat]at f_28 f_29
     iterate 2 refine oo ?_
     refine oo ?_ (by intro K k; simp(disch:=omega) only[go_sem,f_28,↓reduceIte]; exact k)
     refine oo ?_
     refine AOps.nil (k _ ?_)
     refine jn (α:=(Int×Int×(List Rule)×(List (Arr3_Int×Int))×(List (ByteArray×Int))×(List Node))) [7] [1004] (fun i t=>(0,.ptr 0 0 0)::(17,.d (.int .i64 i.1))::t) (fun i t=>(0,⟨92,5,[.agg [.d (.int .i64 i.2.1),.d (.imm 2 (wab Rule.pd i.2.2.1)),.mp 1,.mp 2,.slc 1003 0 i.2.2.2.2.2.length]]⟩)::(1,⟨89,0,waq Arr3_Int.pd (PD.int .i64) i.2.2.2.1⟩)::(2,⟨90,0,waq PD.str (PD.int .i64) i.2.2.2.2.1⟩)::(1003,⟨37,3,dl (wab Node.pd i.2.2.2.2.2)⟩)::t) h ?_ ?_
     ·intro _ hj_31
      refine sg fun K k=>?_
      iterate 3 refine oo ?_
      refine AOps.nil (k _ ?_)
      refine cd hj_31 (fun hj_31=>?_) (fun hj_31=>?_)
      ·refine AWp.reg ?_
       iterate 5 refine oo ?_
       refine AOps.sub (τ:=⟨[(0,.ptr 0 0 0),(7,.ptr 1004 0 0),(85,.ptr 0 0 0),(89,.d (.agg [(.int .i64 mark1),(.imm 1 (wab (PD.int .i64) r5.1)),(.imm 1 (wab (PD.int .i64) r5.2))]))],[(0,⟨92,5,[.agg [.d (.int .i64 c1),.d (.imm 2 (wab Rule.pd c2)),.mp 1,.mp 2,.slc 1003 0 L1.length]]⟩),(1,⟨89,0,waq Arr3_Int.pd (PD.int .i64) M1⟩),(2,⟨90,0,waq PD.str (PD.int .i64) M2⟩),(1003,⟨37,3,dl (wab Node.pd L1)⟩),(1004,⟨121,3,[.d (.agg [(.int .i64 mark1),(.int .i64 (IntKind.i64.wrap a1)),(.int .i64 0)])]⟩)],[],none⟩) sb ?_
       obtain⟨r6,hx_33,hj_31⟩:=bind_some hj_31
       refine clU [(0,0),(1,1),(2,2),(1003,1003)] [1003] (whR (⟨c1,c2,M1,M2,L1⟩:Builder) (⟨mark1,r5.1,r5.2⟩:Node) _ hx_33) ?_
       refine oo ?_
       refine AOps.nil ?_
       cases hj_31; exact sb
      ·refine AWp.skip ?_
       cases hj_31; exact sb
     ·rintro⟨n1,c5,c6,M5,M6,L5⟩ h; dsimp only at h ⊢
      refine sd mo fun K k=>?_
      iterate 6 refine dd ?_
      refine DOps.stop (by kernel_rfl) ?_
      refine oms (k:=(⟨mark1,(IntKind.i64.wrap a1),0⟩:Arr3_Int)) (L:=M5) (v:=n1) (encV:=(PD.int .i64)) wlL wtN ?_
      refine AOps.nil (k _ ?_)
      refine sg fun K k=>?_
      iterate 2 refine oo ?_
      refine AOps.nil (k _ ?_)
      refine AWp.ret ?_
      cases h; exact rtO
end Go.Pv.Tryd

namespace Go.Pv.Tryd
open Go.Proofs Go.Pv
theorem wgq (n:Nat):∀ (m1:(List (Int×Int))) (l1:(List Node)) (o1:Builder) (n1:Int) (r:(Int×(List (Int×Int))×(List Node))) (h:waH n m1 l1 o1 n1=some r),ObjFn Tryd.prog G 91 [.d (.int .i64 n1),.ptr 0 0 0,.ptr 1 0 0,.ptr 2 0 0,.ptr 3 0 0] (waA 0 (waN Node.sub l1) ([(0,⟨133,1,[.mp 4]⟩),(1,⟨32,1,[.slc 1005 0 l1.length]⟩),(2,⟨88,1,[.ptr 6 0 0]⟩),(3,⟨124,1,[.func (.func 91) [.ptr 0 0 0,.ptr 1 0 0,.ptr 2 0 0,.ptr 3 0 0]]⟩),(4,⟨133,0,waq (PD.int .i64) (PD.int .i64) m1⟩),(1005,⟨37,3,wbH 0 Node.npv l1⟩),(6,⟨92,5,[.agg [.d (.int .i64 o1.k),.d (.imm 2 (wab Rule.pd o1.rules)),.mp 7,.mp 8,.slc 1009 0 o1.nodes.length]]⟩),(7,⟨89,0,waq Arr3_Int.pd (PD.int .i64) o1.known⟩),(8,⟨90,0,waq PD.str (PD.int .i64) o1.same⟩),(1009,⟨37,3,dl (wab Node.pd o1.nodes)⟩)])) (.d (.int .i64 r.1)) (waA 0 (waN Node.sub r.2.2) ([(0,⟨133,1,[.mp 4]⟩),(1,⟨32,1,[.slc 1005 0 r.2.2.length]⟩),(2,⟨88,1,[.ptr 6 0 0]⟩),(3,⟨124,1,[.func (.func 91) [.ptr 0 0 0,.ptr 1 0 0,.ptr 2 0 0,.ptr 3 0 0]]⟩),(4,⟨133,0,waq (PD.int .i64) (PD.int .i64) r.2.1⟩),(1005,⟨37,3,wbH 0 Node.npv r.2.2⟩),(6,⟨92,5,[.agg [.d (.int .i64 o1.k),.d (.imm 2 (wab Rule.pd o1.rules)),.mp 7,.mp 8,.slc 1009 0 o1.nodes.length]]⟩),(7,⟨89,0,waq Arr3_Int.pd (PD.int .i64) o1.known⟩),(8,⟨90,0,waq PD.str (PD.int .i64) o1.same⟩),(1009,⟨37,3,dl (wab Node.pd o1.nodes)⟩)])):=by
 induction n with
 | zero=>intro m1 l1 o1 n1 r h; cases h
 | succ n ih =>
  intro m1 l1 o1 n1 r h
  replace h:waZ (waH n) m1 l1 o1 n1=some r:=h
  unfold waZ at h
  refine ObjFn.pf Tryd.func91 Tryd.ntmps91 ?_
  refine sg fun K k=>?_
  refine oo ?_
  refine AOps.nil (k _ ?_)
  refine AWp.seq fun _ K_1=>?_
  refine sg fun K k=>?_
  iterate 2 refine oo ?_
  refine AOps.nil (k _ ?_)
  refine cd h (fun h=>?_) (fun h=>?_)
  ·refine sg fun K k=>?_
   iterate 2 refine oo ?_
   refine AOps.nil (k _ ?_)
   refine AWp.ret ?_
   cases h; exact rtO
  ·refine AWp.skip ?_
   refine K_1 _ ?_
   refine AWp.seq fun _ K_3=>?_
   refine sg fun K k=>?_
   iterate 2 refine oo ?_
   refine oml (k:=n1) (L:=m1) (v0:=0) (encV:=(PD.int .i64)) KE3 wtf ty3 MZ3 (fun _ _=>.int _ _) ?_
   iterate 5 refine oo ?_
   refine AOps.nil (k _ ?_)
   refine sg fun K k=>?_
   refine oo ?_
   refine AOps.nil (k _ ?_)
   refine cd h (fun h=>?_) (fun h=>?_)
   ·refine sg fun K k=>?_
    iterate 2 refine oo ?_
    refine AOps.nil (k _ ?_)
    refine AWp.ret ?_
    cases h; exact rtO
   ·refine AWp.skip ?_
    refine K_3 _ ?_
    refine sg fun K k=>?_
    iterate 3 refine oo ?_
    refine AOps.nil (k _ ?_)
    refine sg fun K k=>?_
    iterate 3 refine oo ?_
    refine oms (k:=n1) (L:=m1) (v:=(l1.length:Int)) (encV:=(PD.int .i64)) KE3 wtf ?_
    refine AOps.nil (k _ ?_)
    refine AWp.sub (τ:=⟨[(0,.d (.int .i64 n1)),(1,.ptr 0 0 0),(2,.ptr 1 0 0),(3,.ptr 2 0 0),(4,.ptr 3 0 0),(6,.d (.int .i64 0)),(7,.d (.int .i64 ((waQ n1 m1).getD 0))),(8,.d (.bool ((waQ n1 m1).isSome))),(9,.d (.int .i64 (l1.length:Int))),(13,.d (.int .i64 n1)),(14,.d (.bool (decide (n1 < 0)))),(16,.tuple [.d (.int .i64 ((waQ n1 m1).getD 0)),.d (.bool ((waQ n1 m1).isSome))]),(17,.mp 4),(18,.d (.int .i64 n1)),(19,.tuple [.d (.int .i64 ((waQ n1 m1).getD 0)),.d (.bool ((waQ n1 m1).isSome))]),(20,.d (.int .i64 ((waQ n1 m1).getD 0))),(21,.d (.bool ((waQ n1 m1).isSome))),(22,.d (.bool ((waQ n1 m1).isSome))),(25,.d (.int .i64 (l1.length:Int))),(26,.mp 4),(27,.d (.int .i64 n1)),(28,.d (.int .i64 (l1.length:Int)))],(waA 0 (waN Node.sub l1) ([(0,⟨133,1,[.mp 4]⟩),(1,⟨32,1,[.slc 1005 0 l1.length]⟩),(2,⟨88,1,[.ptr 6 0 0]⟩),(3,⟨124,1,[.func (.func 91) [.ptr 0 0 0,.ptr 1 0 0,.ptr 2 0 0,.ptr 3 0 0]]⟩),(4,⟨133,0,waq (PD.int .i64) (PD.int .i64) (wc5 n1 (l1.length:Int) m1)⟩),(1005,⟨37,3,wbH 0 Node.npv l1⟩),(6,⟨92,5,[.agg [.d (.int .i64 o1.k),.d (.imm 2 (wab Rule.pd o1.rules)),.mp 7,.mp 8,.slc 1009 0 o1.nodes.length]]⟩),(7,⟨89,0,waq Arr3_Int.pd (PD.int .i64) o1.known⟩),(8,⟨90,0,waq PD.str (PD.int .i64) o1.same⟩),(1009,⟨37,3,dl (wab Node.pd o1.nodes)⟩)])),[],none⟩) sb ?_
    refine sdX mo [(1005,[29,49,1000001])] fun K k=>?_
    obtain⟨e1,⟨f_5,f_6,f_7,f_8⟩,h⟩:=waj h
    iterate 8 (refine dd ?_ (by intro K k; simp(disch:=omega) only[go_sem,true_or,or_true,and_self,true_and,and_true,↓reduceIte]; exact k))
    refine dd ?_ (by intro K k; simp(disch:=omega) only[go_sem,f_7,true_or,or_true,and_self,true_and,and_true,↓reduceIte]; exact k)
    iterate 7 (refine dd ?_ (by intro K k; simp(disch:=omega) only[go_sem,true_or,or_true,and_self,true_and,and_true,↓reduceIte]; exact k))
    refine dd ?_ (by intro K k; simp(disch:=omega) only[go_sem,f_7,true_or,or_true,and_self,true_and,and_true,↓reduceIte]; exact k)
    obtain⟨r1,hx_9,h⟩:=bind_some h
    refine dcl (RowFn.pure (wpY e1.Cuts _ hx_9)) ?_
    refine dd ?_ (by intro K k; simp(disch:=omega) only[go_sem,true_or,or_true,and_self,true_and,and_true,↓reduceIte]; exact k)
    refine ddl ?_ (by intro K k; simp(disch:=omega) only[go_sem,true_or,or_true,and_self,true_and,and_true,↓reduceIte]; exact k)
    obtain⟨hg_10,h⟩:=wae h
    refine wmv [29,49,1000001] [(1,⟨32,1,[.slc 1005 0 l1.length]⟩)] [.d (.agg [(.int .i64 e1.Mark),(.imm 1 (wab (PD.int .i64) r1)),.nilslice])] se32 ?_
    refine dd ?_ (by intro K k; simp(disch:=omega) only[go_sem,true_or,or_true,and_self,true_and,and_true,↓reduceIte]; exact k)
    refine DOps.nil (by kernel_rfl) (k _ ?_)
    refine AWp.sub (psh 0 1005 2 (⟨e1.Mark,r1,[]⟩:Node)) ?_
    refine jn (α:=((List (Int×Int))×(List Node))) [9] [2,3,6,7,8,1009] (fun i t=>t) (fun i t=>waA 0 (waN Node.sub i.2) ((0,⟨133,1,[.mp 4]⟩)::(1,⟨32,1,[.slc 1005 0 i.2.length]⟩)::(4,⟨133,0,waq (PD.int .i64) (PD.int .i64) i.1⟩)::(1005,⟨37,3,wbH 0 Node.npv i.2⟩)::t)) h ?_ ?_
    ·intro _ hj_12
     refine sg fun K k=>?_
     obtain⟨e2,⟨f_13,f_14,f_15,f_16⟩,hj_12⟩:=waj hj_12
     iterate 7 refine oo ?_
     refine oo ?_ (by intro K k; simp(disch:=omega) only[go_sem,f_15,↓reduceIte]; exact k)
     iterate 2 refine oo ?_
     refine AOps.nil (k _ ?_)
     refine AWp.block ?_
     obtain⟨x_21,hl_18,h2_19⟩:=bind_some hj_12
     refine lp (S:=(Int×(List (Int×Int))×(List Node))) [2,4,9,57,58] [2,3,6,7,8,1009] (fun i t=>(59,.d (.int .i64 i.1))::t) (fun i t=>waA 0 (waN Node.sub i.2.2) ((0,⟨133,1,[.mp 4]⟩)::(1,⟨32,1,[.slc 1005 0 i.2.2.length]⟩)::(4,⟨133,0,waq (PD.int .i64) (PD.int .i64) i.2.1⟩)::(1005,⟨37,3,wbH 0 Node.npv i.2.2⟩)::t)) hl_18 ?_ ?_; exact sb; clear hl_18
     rintro⟨v1,M2,L2⟩ _ hb_20; unfold waI at hb_20; try dsimp only at hb_20
     try dsimp only
     refine sg fun K k=>?_
     refine oo ?_
     refine AOps.nil (k _ ?_)
     refine AWp.seq fun _ K_23=>?_
     refine cd hb_20 (fun hb_20=>?_) (fun hb_20=>?_)
     ·refine AWp.skip ?_
      refine K_23 _ ?_
      refine AWp.seq fun _ K_25=>?_
      refine AWp.block ?_
      refine sg fun K k=>?_
      obtain⟨e3,⟨f_26,f_27,f_28,f_29⟩,hb_20⟩:=waj hb_20
      refine oo ?_
      refine oo ?_ (by intro K k; simp(disch:=omega) only[go_sem,f_28,↓reduceIte]; exact k)
      refine oo ?_
      refine AOps.nil (k _ ?_)
      refine sg fun K k=>?_
      iterate 2 refine oo ?_
      obtain⟨r2,hx_30,hb_20⟩:=bind_some hb_20
      refine clD [(0,0),(1,1),(2,2),(3,3),(4,4),(1005,1005),(6,6),(7,7),(8,8),(1009,1009)] [1005,1009] (ih M2 L2 o1 e3 _ hx_30) ?_
      refine oo ?_
      refine AOps.nil (k _ ?_)
      obtain⟨e4,⟨f_31,f_32,f_33,f_34⟩,hb_20⟩:=waj hb_20
      try simp only[Int.toNat_natCast]at f_33 f_34
      have hF_35:=fun p=>wrO (c:=0) (i:=((l1.length:Int)).toNat) (F:=Node.npv) f_33 p
      have hf_36:=wrj (c:=0) (i:=((l1.length:Int)).toNat) (q:=1010) (F:=Node.npv) f_33
      refine AWp.sub (fcs 0 (((l1.length:Int)).toNat) 1010 (⟨3,1,dl (wab (PD.int .i64) e4.To)⟩:Row) (F:=Node.npv) (g:=Node.sub) f_33 (hl:=by(simp only[wcV,Row.ren,renL,PV.ren,dl_ren,mels_ren,optP_ren,we7,Nat.reduceLT,hf_36]; rfl))) ?_
      refine drX mo [(1010,[72,75,1001005])] ?_
      iterate 6 (refine dd ?_ (by intro K k; simp(disch:=omega) only[go_sem,true_or,or_true,and_self,true_and,and_true,↓reduceIte]; exact k))
      refine dd ?_ (by intro K k; simp(disch:=omega) only[go_sem,hF_35,List.set_set,true_or,or_true,and_self,true_and,and_true,↓reduceIte]; exact k)
      refine dd ?_ (by intro K k; simp(disch:=omega) only[go_sem,true_or,or_true,and_self,true_and,and_true,↓reduceIte]; exact k)
      refine ddl ?_ (by intro K k; simp(disch:=omega) only[go_sem,true_or,or_true,and_self,true_and,and_true,↓reduceIte]; exact k)
      obtain⟨hg_37,hb_20⟩:=wae hb_20
      refine wmv [72,75,1001005] [(1005,⟨37,3,(wbH 0 Node.npv r2.2.2).set (((l1.length:Int)).toNat) (.agg [.d (.int .i64 e4.Mark),.d (.imm 1 (wab (PD.int .i64) e4.Cuts)),.slc 1010 0 e4.To.length])⟩)] (dl (wab (PD.int .i64) [r2.1])) se26 ?_
      iterate 2 (refine dd ?_ (by intro K k; simp(disch:=omega) only[go_sem,true_or,or_true,and_self,true_and,and_true,↓reduceIte]; exact k))
      refine dd ?_ (by intro K k; simp(disch:=omega) only[go_sem,hF_35,List.set_set,true_or,or_true,and_self,true_and,and_true,↓reduceIte]; exact k)
      refine DOps.nil (by kernel_rfl) ?_
      refine K_25 _ ?_
      refine AWp.sub (drp [(2,.ptr 1 0 0),(4,.ptr 3 0 0),(9,.d (.int .i64 (l1.length:Int))),(11,.d (.int .i64 e3)),(12,.d (.int .i64 r2.1)),(57,.d (.imm 1 (wab (PD.int .i64) e2.To))),(58,.d (.int .i64 (e2.To.length:Int))),(59,.d (.int .i64 v1)),(60,.d (.bool (decide (v1 < (e2.To.length:Int))))),(61,.dptr 1 (wab (PD.int .i64) e2.To) ((v1).toNat) 0),(62,.d (.int .i64 e3)),(63,.func (.func 91) [.ptr 0 0 0,.ptr 1 0 0,.ptr 2 0 0,.ptr 3 0 0]),(64,.d (.int .i64 e3)),(65,.d (.int .i64 r2.1)),(66,.slc 1005 0 ((r2.2.2.set (((l1.length:Int)).toNat) (⟨e4.Mark,e4.Cuts,(e4.To++[r2.1])⟩:Node)).length)),(67,.d (.int .i64 (l1.length:Int))),(68,.slc 1005 0 ((r2.2.2.set (((l1.length:Int)).toNat) (⟨e4.Mark,e4.Cuts,(e4.To++[r2.1])⟩:Node)).length)),(69,.d (.int .i64 (l1.length:Int))),(70,.ptr 1005 (((l1.length:Int)).toNat) 0),(71,.ptr 1005 (((l1.length:Int)).toNat) 2),(73,.d (.int .i64 r2.1)),(74,.d (.imm 1 (wab (PD.int .i64) [r2.1]))),(76,.ptr 1005 (((l1.length:Int)).toNat) 0),(77,.ptr 1005 (((l1.length:Int)).toNat) 2)]) ?_
      refine AWp.sub (ufc (F:=Node.npv) (g:=Node.sub) 0 (((l1.length:Int)).toNat) 1010 (⟨e4.Mark,e4.Cuts,(e4.To++[r2.1])⟩:Node) [(0,⟨133,1,[.mp 4]⟩),(1,⟨32,1,[.slc 1005 0 ((r2.2.2.set (((l1.length:Int)).toNat) (⟨e4.Mark,e4.Cuts,(e4.To++[r2.1])⟩:Node)).length)]⟩),(2,⟨88,1,[.ptr 6 0 0]⟩),(3,⟨124,1,[.func (.func 91) [.ptr 0 0 0,.ptr 1 0 0,.ptr 2 0 0,.ptr 3 0 0]]⟩),(4,⟨133,0,waq (PD.int .i64) (PD.int .i64) r2.2.1⟩),(6,⟨92,5,[.agg [.d (.int .i64 o1.k),.d (.imm 2 (wab Rule.pd o1.rules)),.mp 7,.mp 8,.slc 1009 0 o1.nodes.length]]⟩),(7,⟨89,0,waq Arr3_Int.pd (PD.int .i64) o1.known⟩),(8,⟨90,0,waq PD.str (PD.int .i64) o1.same⟩),(1005,⟨37,3,wbH 0 Node.npv (r2.2.2.set (((l1.length:Int)).toNat) (⟨e4.Mark,e4.Cuts,(e4.To++[r2.1])⟩:Node))⟩),(1009,⟨37,3,dl (wab Node.pd o1.nodes)⟩)] f_34 (hl:=by(repeat' (first | exact trivial | exact rfl | exact dl_ren _ _ | exact mels_ren _ _ _ _ | exact wk9 (by decide) f_34 | exact woS (by decide) f_34 (by(simp only[go_sem,List.length_append,List.length_set,List.length_replicate,List.length_cons,List.length_nil,Nat.zero_add]; done)) | (simp only[renL,PV.ren,List.length_append,List.length_set,List.length_replicate,List.length_cons,List.length_nil,Nat.zero_add]; exact rfl) | apply And.intro)))) ?_
      refine AWp.reg ?_
      iterate 2 refine oo ?_
      refine AOps.nil ?_
      exact ln hb_20 sb
     ·refine AWp.exit ?_
      refine lx hb_20 fun hx=>?_; cases hx; try dsimp only at h2_19
      cases h2_19; exact sb
    ·rintro⟨M1,L1⟩ h; dsimp only at h ⊢
     refine sg fun K k=>?_
     iterate 2 refine oo ?_
     refine AOps.nil (k _ ?_)
     refine AWp.ret ?_
     cases h; exact rtO
end Go.Pv.Tryd

namespace Go.Pv.Tryd
open Go.Proofs Go.Pv
theorem wgP (o1:Builder) (top1:Int) (r:((List Node)×Builder)) (h:wa3 o1 top1=some r):ObjFn Tryd.prog G 59 [.ptr 0 0 0,.d (.int .i64 top1)] [(0,⟨92,5,[.agg [.d (.int .i64 o1.k),.d (.imm 2 (wab Rule.pd o1.rules)),.mp 1,.mp 2,.slc 1003 0 o1.nodes.length]]⟩),(1,⟨89,0,waq Arr3_Int.pd (PD.int .i64) o1.known⟩),(2,⟨90,0,waq PD.str (PD.int .i64) o1.same⟩),(1003,⟨37,3,dl (wab Node.pd o1.nodes)⟩)] (.d (.imm 3 (wab Node.pd r.1))) [(0,⟨92,5,[.agg [.d (.int .i64 r.2.k),.d (.imm 2 (wab Rule.pd r.2.rules)),.mp 1,.mp 2,.slc 1003 0 r.2.nodes.length]]⟩),(1,⟨89,0,waq Arr3_Int.pd (PD.int .i64) r.2.known⟩),(2,⟨90,0,waq PD.str (PD.int .i64) r.2.same⟩),(1003,⟨37,3,dl (wab Node.pd r.2.nodes)⟩)]:=by
 unfold wa3 at h
 refine ObjFn.pf Tryd.func59 Tryd.ntmps59 ?_
 refine sg fun K k=>?_
 iterate 2 refine oo ?_
 refine AOps.nil (k _ ?_)
 refine sg fun K k=>?_
 refine oo ?_
 refine AOps.sub (Sub.voidVar 1005 37 3 1006 rfl (by decide) rfl rfl (by decide) (by decide)) ?_
 simp only[wal,reduceCtorEq,↓reduceIte,Nat.reduceAdd,Nat.reduceMul,Nat.reduceLT,Nat.reduceLeDiff,Nat.reduceEqDiff,Nat.reduceBEq,Int.reduceToNat]
 refine AOps.sub (wt6 0 Node.sub) ?_
 refine AOps.nil (k _ ?_)
 refine sg fun K k=>?_
 refine omk (α:=Int) (β:=Int) (PD.int .i64) (PD.int .i64) 1007 ?_
 iterate 2 refine oo ?_
 refine AOps.nil (k _ ?_)
 refine sg fun K k=>?_
 refine oo ?_
 refine AOps.nil (k _ ?_)
 refine sg fun K k=>?_
 iterate 2 refine oo ?_
 refine AOps.nil (k _ ?_)
 refine sg fun K k=>?_
 iterate 2 refine oo ?_
 obtain⟨r1,hx_1,h⟩:=bind_some h
 refine clD [(0,1008),(1,1005),(2,1004),(3,1009),(4,1007),(1005,1006),(6,0),(7,1),(8,2),(1009,1003)] [1006,1003] (wgq 100 [] [] o1 top1 _ hx_1) ?_
 refine AOps.nil (k _ ?_)
 refine sg fun K k=>?_
 iterate 2 refine oo ?_
 refine AOps.nil (k _ ?_)
 refine AWp.sub (unn 0 1006 Node.pd) ?_
 refine AWp.sub (τ:=⟨[(4,.d (.imm 3 (wab Node.pd r1.2.2)))],[(0,⟨92,5,[.agg [.d (.int .i64 o1.k),.d (.imm 2 (wab Rule.pd o1.rules)),.mp 1,.mp 2,.slc 1003 0 o1.nodes.length]]⟩),(1,⟨89,0,waq Arr3_Int.pd (PD.int .i64) o1.known⟩),(2,⟨90,0,waq PD.str (PD.int .i64) o1.same⟩),(1003,⟨37,3,dl (wab Node.pd o1.nodes)⟩)],[],none⟩) sc ?_
 refine AWp.ret ?_
 cases h; exact rtO
end Go.Pv.Tryd

namespace Go.Pv.Tryd
open Go.Proofs Go.Pv
theorem wgR (k1:Int) (t1:(List Rule)) (r:((List Node)×Int)) (h:wbD k1 t1=some r):PureFn Tryd.prog G 26 [.d (.int .i64 k1),.d (.imm 2 (wab Rule.pd t1))] (.tuple [.d (.imm 3 (wab Node.pd r.1)),.d (.int .i64 r.2)]):=by
 unfold wbD at h
 refine pf Tryd.func26 Tryd.ntmps26 ?_
 refine sg fun K k=>?_
 iterate 2 refine oo ?_
 refine AOps.nil (k _ ?_)
 refine AWp.seq fun _ K_1=>?_
 refine sg fun K k=>?_
 iterate 2 refine oo ?_
 refine ol ?_
 obtain⟨r1,hx_2,h⟩:=bind_some h
 refine cl (wfd k1 [t1] _ hx_2) ?_
 refine oo ?_
 refine AOps.nil (k _ ?_)
 refine sg fun K k=>?_
 iterate 2 refine oo ?_
 refine AOps.nil (k _ ?_)
 refine cd h (fun h=>?_) (fun h=>?_)
 ·refine sg fun K k=>?_
  iterate 3 refine oo ?_
  refine AOps.nil (k _ ?_)
  refine AWp.ret ?_
  cases h; exact rt
 ·refine AWp.skip ?_
  refine K_1 _ ?_
  refine sg fun K k=>?_
  iterate 2 refine oo ?_
  refine omk (α:=Arr3_Int) (β:=Int) Arr3_Int.pd (PD.int .i64) 1000 ?_
  refine omk (α:=ByteArray) (β:=Int) PD.str (PD.int .i64) 1001 ?_
  iterate 3 refine oo ?_
  refine AOps.sub (Sub.voidCell 1002 4 37 3 1003 (x:=⟨92,5,[.agg [.d (.int .i64 k1),.d (.imm 2 (wab Rule.pd t1)),.mp 1000,.mp 1001,.d .nilslice]]⟩) (p:=.agg [.d (.int .i64 k1),.d (.imm 2 (wab Rule.pd t1)),.mp 1000,.mp 1001,.d .nilslice]) (cs:=[.d (.int .i64 k1),.d (.imm 2 (wab Rule.pd t1)),.mp 1000,.mp 1001,.d .nilslice]) rfl (Nat.le_of_ble_eq_true rfl) rfl rfl rfl rfl rfl (by decide) (by decide)) ?_
  simp only[wal,List.set_cons_succ,List.set_cons_zero,reduceCtorEq,↓reduceIte,Nat.reduceAdd,Nat.reduceMul,Nat.reduceLT,Nat.reduceLeDiff,Nat.reduceEqDiff,Nat.reduceBEq,Int.reduceToNat]
  refine AOps.nil (k _ ?_)
  refine sg fun K k=>?_
  iterate 2 refine oo ?_
  obtain⟨r2,hx_4,h⟩:=bind_some h
  refine cl (wfi t1 _ hx_4) ?_
  obtain⟨r3,hx_5,h⟩:=bind_some h
  refine clU [(0,1002),(1,1000),(2,1001),(1003,1003)] [1003] (win 100 (⟨k1,t1,[],[],[]⟩:Builder) 0 r2 _ hx_5) ?_
  refine oo ?_
  refine AOps.nil (k _ ?_)
  refine AWp.seq fun _ K_6=>?_
  refine sg fun K k=>?_
  iterate 2 refine oo ?_
  refine AOps.nil (k _ ?_)
  refine cd h (fun h=>?_) (fun h=>?_)
  ·refine sg fun K k=>?_
   refine ol ?_
   refine oo ?_
   refine ol ?_
   refine oo ?_
   refine ol ?_
   iterate 2 refine oo ?_
   refine AOps.nil (k _ ?_)
   refine AWp.ret ?_
   cases h; exact rt
  ·refine AWp.skip ?_
   refine K_6 _ ?_
   refine sg fun K k=>?_
   iterate 2 refine oo ?_
   obtain⟨r4,hx_8,h⟩:=bind_some h
   refine clU [(0,1002),(1,1000),(2,1001),(1003,1003)] [1003] (wgP r3.2 r3.1 _ hx_8) ?_
   iterate 2 refine oo ?_
   refine AOps.nil (k _ ?_)
   refine AWp.ret ?_
   cases h; exact rt
end Go.Pv.Tryd

namespace Go.Pv.Tryd
open Go.Proofs Go.Pv
theorem wc2 (a1:(List Int)) (b1:(List Int)) (r:Bool) (h:wbl a1 b1=some r):PureFn Tryd.prog G 23 [.d (.imm 1 (wab (PD.int .i64) a1)),.d (.imm 1 (wab (PD.int .i64) b1))] (.d (.bool r)):=by
 unfold wbl at h
 refine pf Tryd.func23 Tryd.ntmps23 ?_
 refine sg fun K k=>?_
 refine oo ?_
 refine AOps.nil (k _ ?_)
 refine AWp.seq fun _ K_1=>?_
 refine sg fun K k=>?_
 iterate 5 refine oo ?_
 refine AOps.nil (k _ ?_)
 refine cd h (fun h=>?_) (fun h=>?_)
 ·refine sg fun K k=>?_
  refine oo ?_
  refine AOps.nil (k _ ?_)
  refine AWp.ret ?_
  cases h; exact rt
 ·refine AWp.skip ?_
  refine K_1 _ ?_
  refine jm (ι:=Unit) [] [] (fun i t=>t) (fun i t=>t) .inl h ?_ ?_
  ·intro _ hj_4 h
   refine sg fun K k=>?_
   refine oo ?_
   refine AOps.nil (k _ ?_)
   refine AWp.block ?_
   obtain⟨x_9,hl_6,h2_7⟩:=bind_some hj_4
   refine lp (S:=Int) [0,1] [] (fun i t=>(5,.d (.int .i64 i))::t) (fun i t=>t) hl_6 ?_ ?_; exact sb; clear hl_6
   rintro i1 _ hb_8; unfold waU at hb_8; try dsimp only at hb_8
   try dsimp only
   refine AWp.seq fun _ K_11=>?_
   refine sg fun K k=>?_
   iterate 4 refine oo ?_
   refine AOps.nil (k _ ?_)
   refine cd hb_8 (fun hb_8=>?_) (fun hb_8=>?_)
   ·refine AWp.skip ?_
    refine K_11 _ ?_
    refine AWp.seq fun _ K_13=>?_
    refine AWp.block ?_
    refine sd mo fun K k=>?_
    obtain⟨e1,⟨f_14,f_15,f_16,f_17⟩,hb_8⟩:=waj hb_8
    iterate 3 refine dd ?_
    refine dd ?_ (by intro K k; simp(disch:=omega) only[go_sem,f_16,↓reduceIte]; exact k)
    obtain⟨e2,⟨f_18,f_19,f_20,f_21⟩,hb_8⟩:=waj hb_8
    iterate 3 refine dd ?_
    refine dd ?_ (by intro K k; simp(disch:=omega) only[go_sem,f_20,↓reduceIte]; exact k)
    refine dd ?_
    refine DOps.nil (by kernel_rfl) (k _ ?_)
    refine cd hb_8 (fun hb_8=>?_) (fun hb_8=>?_)
    ·refine sg fun K k=>?_
     refine oo ?_
     refine AOps.nil (k _ ?_)
     refine AWp.ret ?_
     refine lx hb_8 fun hx=>?_; cases hx; try dsimp only at h2_7
     cases h2_7; try dsimp only at h
     cases h; exact rt
    ·refine AWp.skip ?_
     refine K_13 _ ?_
     refine AWp.reg ?_
     iterate 3 refine oo ?_
     refine AOps.nil ?_
     exact ln hb_8 sb
   ·refine AWp.exit ?_
    refine lx hb_8 fun hx=>?_; cases hx; try dsimp only at h2_7
    exact ln h2_7 sb
  ·rintro _ h; dsimp only at h ⊢
   refine sg fun K k=>?_
   refine oo ?_
   refine AOps.nil (k _ ?_)
   refine AWp.ret ?_
   cases h; exact rt
end Go.Pv.Tryd

namespace Go.Pv.Tryd
open Go.Proofs Go.Pv
set_option maxHeartbeats 4000000 in
theorem wfP (r:Bool) (h:wci=some r):PureFn Tryd.prog G 19 [] (.d (.bool r)):=by
 unfold wci at h
 refine pf Tryd.func19 Tryd.ntmps19 ?_
 refine sg fun K k=>?_
 refine oo ?_
 refine AOps.nil (k _ ?_)
 refine sg fun K k=>?_
 obtain⟨r1,hx_1,h⟩:=bind_some h
 refine cl (wey _ hx_1) ?_
 obtain⟨r2,hx_2,h⟩:=bind_some h
 refine cl (wmE 1 r1 _ hx_2) ?_
 iterate 5 refine oo ?_
 refine AOps.nil (k _ ?_)
 refine sg fun K k=>?_
 obtain⟨r3,hx_3,h⟩:=bind_some h
 refine cl (wey _ hx_3) ?_
 obtain⟨r4,hx_4,h⟩:=bind_some h
 refine cl (wnv 1 r3 _ hx_4) ?_
 iterate 5 refine oo ?_
 refine AOps.nil (k _ ?_)
 refine sg fun K k=>?_
 obtain⟨r5,hx_5,h⟩:=bind_some h
 refine cl (wey _ hx_5) ?_
 obtain⟨r6,hx_6,h⟩:=bind_some h
 refine cl (wgR 1 r5 _ hx_6) ?_
 iterate 5 refine oo ?_
 refine AOps.nil (k _ ?_)
 refine sg fun K k=>?_
 iterate 3 refine oo ?_
 obtain⟨b1,hc_7,h⟩:=bind_some h
 refine ct 4 [3,4,5,6] [] (fun  t=>(28,.d (.bool b1))::t) ?_ ?_
 ·rcases bt (decide (r2.2=0))with hg_9 | hg_9
  ·rw[hg_9]
   rw[hg_9,cond_true]at hc_7
   refine oo ?_
   refine ol ?_
   obtain⟨r7,hx_8,hc_7⟩:=bind_some hc_7
   refine cl (wc2 r2.1 [2] _ hx_8) ?_
   refine oo ?_
   refine AOps.nil ?_
   cases hc_7
   exact sb
  ·rw[hg_9]
   rw[hg_9,cond_false]at hc_7
   iterate 4 refine oo ?_
   refine AOps.nil ?_
   cases hc_7
   exact sb
 refine oo ?_
 refine ct 3 [3,5,6] [] (fun  t=>(32,.d (.bool (b1&&(decide (r4.2=0)))))::t) ?_ ?_
 ·rcases bt b1 with hg_11 | hg_11
  ·rw[hg_11]
   iterate 3 refine oo ?_
   refine AOps.nil ?_
   exact sb
  ·rw[hg_11]
   iterate 3 refine oo ?_
   refine AOps.nil ?_
   exact sb
 refine oo ?_
 obtain⟨b2,hc_12,h⟩:=bind_some h
 refine ct 4 [5,6] [] (fun  t=>(37,.d (.bool b2))::t) ?_ ?_
 ·rcases bt (b1&&(decide (r4.2=0)))with hg_14 | hg_14
  ·rw[hg_14]
   rw[hg_14,cond_true]at hc_12
   refine oo ?_
   refine ol ?_
   obtain⟨r8,hx_13,hc_12⟩:=bind_some hc_12
   refine cl (wc2 r4.1 [20] _ hx_13) ?_
   refine oo ?_
   refine AOps.nil ?_
   cases hc_12
   exact sb
  ·rw[hg_14]
   rw[hg_14,cond_false]at hc_12
   iterate 4 refine oo ?_
   refine AOps.nil ?_
   cases hc_12
   exact sb
 refine oo ?_
 refine ct 3 [5] [] (fun  t=>(41,.d (.bool (b2&&(decide (r6.2=0)))))::t) ?_ ?_
 ·rcases bt b2 with hg_16 | hg_16
  ·rw[hg_16]
   iterate 3 refine oo ?_
   refine AOps.nil ?_
   exact sb
  ·rw[hg_16]
   iterate 3 refine oo ?_
   refine AOps.nil ?_
   exact sb
 refine oo ?_
 refine ct 4 [5] [] (fun  t=>(46,.d (.bool ((b2&&(decide (r6.2=0)))&&(decide ((r6.1.length:Int)=1)))))::t) ?_ ?_
 ·rcases bt (b2&&(decide (r6.2=0)))with hg_18 | hg_18
  ·rw[hg_18]
   iterate 4 refine oo ?_
   refine AOps.nil ?_
   exact sb
  ·rw[hg_18]
   iterate 4 refine oo ?_
   refine AOps.nil ?_
   exact sb
 refine oo ?_
 obtain⟨b3,hc_19,h⟩:=bind_some h
 refine ct 7 [] [] (fun  t=>(54,.d (.bool b3))::t) ?_ ?_
 ·rcases bt ((b2&&(decide (r6.2=0)))&&(decide ((r6.1.length:Int)=1)))with hg_25 | hg_25
  ·rw[hg_25]
   rw[hg_25,cond_true]at hc_19
   obtain⟨e1,⟨f_20,f_21,f_22,f_23⟩,hc_19⟩:=waj hc_19
   try simp only[Int.reduceToNat]at f_22 f_23
   iterate 3 refine oo ?_
   refine oo ?_ (by intro K k; simp(disch:=omega) only[go_sem,f_22,↓reduceIte]; exact k)
   refine ol ?_
   obtain⟨r9,hx_24,hc_19⟩:=bind_some hc_19
   refine cl (wc2 e1.To [(-3),(-4),(-1)] _ hx_24) ?_
   refine oo ?_
   refine AOps.nil ?_
   cases hc_19
   exact sb
  ·rw[hg_25]
   rw[hg_25,cond_false]at hc_19
   iterate 7 refine oo ?_
   refine AOps.nil ?_
   cases hc_19
   exact sb
 refine oo ?_
 refine AOps.nil (k _ ?_)
 refine AWp.ret ?_
 cases h; exact rt
end Go.Pv.Tryd

namespace Go.Pv.Tryd
open Go.Proofs Go.Pv
theorem wi4 (set1:Int) (r:Int) (h:wcH set1=some r):PureFn Tryd.prog G 83 [.d (.int .i64 set1)] (.d (.int .i64 r)):=by
 unfold wcH at h
 refine pf Tryd.func83 Tryd.ntmps83 ?_
 refine sg fun K k=>?_
 refine oo ?_
 refine AOps.nil (k _ ?_)
 refine AWp.seq fun _ K_1=>?_
 refine sg fun K k=>?_
 iterate 2 refine oo ?_
 refine AOps.nil (k _ ?_)
 refine cd h (fun h=>?_) (fun h=>?_)
 ·refine sg fun K k=>?_
  refine oo ?_
  refine AOps.nil (k _ ?_)
  refine AWp.ret ?_
  cases h; exact rt
 ·refine AWp.skip ?_
  refine K_1 _ ?_
  refine sg fun K k=>?_
  refine oo ?_
  refine AOps.nil (k _ ?_)
  refine jn (α:=Int) [] [] (fun i t=>(3,.d (.int .i64 i))::t) (fun i t=>t) h ?_ ?_
  ·intro _ hj_4
   refine AWp.block ?_
   obtain⟨x_9,hl_6,h2_7⟩:=bind_some hj_4
   refine lp (S:=Int) [0] [] (fun i t=>(3,.d (.int .i64 i))::t) (fun i t=>t) hl_6 ?_ ?_; exact sb; clear hl_6
   rintro i2 _ hb_8; unfold wcM at hb_8; try dsimp only at hb_8
   try dsimp only
   refine AWp.seq fun _ K_11=>?_
   refine sg fun K k=>?_
   obtain⟨hg_12,hb_8⟩:=wae hb_8
   iterate 5 refine oo ?_
   refine AOps.nil (k _ ?_)
   refine cd hb_8 (fun hb_8=>?_) (fun hb_8=>?_)
   ·refine AWp.skip ?_
    refine K_11 _ ?_
    refine AWp.block ?_
    refine AWp.reg ?_
    iterate 3 refine oo ?_
    refine AOps.nil ?_
    exact ln hb_8 sb
   ·refine AWp.exit ?_
    refine lx hb_8 fun hx=>?_; cases hx; try dsimp only at h2_7
    cases h2_7; exact sb
  ·rintro i1 h; dsimp only at h ⊢
   refine sg fun K k=>?_
   iterate 2 refine oo ?_
   refine AOps.nil (k _ ?_)
   refine AWp.ret ?_
   cases h; exact rt
end Go.Pv.Tryd

namespace Go.Pv.Tryd
open Go.Proofs Go.Pv
theorem wgj (k1:Arr3_Int) (r:Int) (h:wcY k1=some r):PureFn Tryd.prog G 107 [.d (.agg [(.int .i64 k1.c0),(.int .i64 k1.c1),(.int .i64 k1.c2)])] (.d (.int .i64 r)):=by
 unfold wcY at h
 refine pf Tryd.func107 Tryd.ntmps107 ?_
 refine sg fun K k=>?_
 iterate 2 refine oo ?_
 refine AOps.nil (k _ ?_)
 refine sg fun K k=>?_
 iterate 15 refine oo ?_
 refine AOps.nil (k _ ?_)
 refine AWp.ret ?_
 cases h; exact rt
end Go.Pv.Tryd

namespace Go.Pv.Tryd
open Go.Proofs Go.Pv
theorem wgQ (o1:Search) (k1:Arr3_Int) (r:(Int×Search)) (h:wbM o1 k1=some r):ObjFn Tryd.prog G 84 [.ptr 0 0 2,.d (.agg [(.int .i64 k1.c0),(.int .i64 k1.c1),(.int .i64 k1.c2)])] [(0,⟨81,8,[.agg [.d (.int .i64 o1.k),.d (.imm 2 (wab Rule.pd o1.t)),.slc 1001 0 o1.seen.heads.length,.slc 1002 0 o1.seen.next.length,.slc 1003 0 o1.seen.keys.length,.slc 1004 0 o1.many.length,.slc 1005 0 o1.at_.length,.slc 1006 0 o1.nodes.length]]⟩),(1001,⟨3,1,dl (wab (PD.int .i64) o1.seen.heads)⟩),(1002,⟨3,1,dl (wab (PD.int .i64) o1.seen.next)⟩),(1003,⟨120,3,dl (wab Arr3_Int.pd o1.seen.keys)⟩),(1004,⟨26,1,dl (wab (wbb 1 (PD.int .i64)) o1.many)⟩),(1005,⟨3,1,dl (wab (PD.int .i64) o1.at_)⟩),(1006,⟨37,3,dl (wab Node.pd o1.nodes)⟩)] (.d (.int .i64 r.1)) [(0,⟨81,8,[.agg [.d (.int .i64 r.2.k),.d (.imm 2 (wab Rule.pd r.2.t)),.slc 1001 0 r.2.seen.heads.length,.slc 1002 0 r.2.seen.next.length,.slc 1003 0 r.2.seen.keys.length,.slc 1004 0 r.2.many.length,.slc 1005 0 r.2.at_.length,.slc 1006 0 r.2.nodes.length]]⟩),(1001,⟨3,1,dl (wab (PD.int .i64) r.2.seen.heads)⟩),(1002,⟨3,1,dl (wab (PD.int .i64) r.2.seen.next)⟩),(1003,⟨120,3,dl (wab Arr3_Int.pd r.2.seen.keys)⟩),(1004,⟨26,1,dl (wab (wbb 1 (PD.int .i64)) r.2.many)⟩),(1005,⟨3,1,dl (wab (PD.int .i64) r.2.at_)⟩),(1006,⟨37,3,dl (wab Node.pd r.2.nodes)⟩)]:=by
 unfold wbM at h
 refine ObjFn.pf Tryd.func84 Tryd.ntmps84 ?_
 refine sg fun K k=>?_
 iterate 2 refine oo ?_
 refine AOps.nil (k _ ?_)
 refine AWp.seq fun _ K_1=>?_
 refine sg fun K k=>?_
 iterate 6 refine oo ?_
 refine AOps.nil (k _ ?_)
 refine cd h (fun h=>?_) (fun h=>?_)
 ·refine sg fun K k=>?_
  refine oo ?_
  refine AOps.nil (k _ ?_)
  refine AWp.ret ?_
  cases h; exact rtO
 ·refine AWp.skip ?_
  refine K_1 _ ?_
  refine sd mo fun K k=>?_
  iterate 5 refine dd ?_
  obtain⟨r1,hx_3,h⟩:=bind_some h
  refine dcl (wgj k1 _ hx_3) ?_
  obtain⟨e1,⟨f_4,f_5,f_6,f_7⟩,h⟩:=waj h
  refine dd ?_
  refine dd ?_ (by intro K k; simp(disch:=omega) only[go_sem,f_6,↓reduceIte]; exact k)
  refine dd ?_
  refine DOps.nil (by kernel_rfl) (k _ ?_)
  refine jn (α:=Int) [] [0,1001,1002,1003,1004,1005,1006] (fun i t=>(5,.d (.int .i64 i))::t) (fun i t=>t) h ?_ ?_
  ·intro _ hj_9
   refine AWp.block ?_
   obtain⟨x_14,hl_11,h2_12⟩:=bind_some hj_9
   refine lp (S:=Int) [0,3] [0,1001,1002,1003,1004,1005,1006,1007] (fun i t=>(5,.d (.int .i64 i))::t) (fun i t=>t) hl_11 ?_ ?_; exact sb; clear hl_11
   rintro i2 _ hb_13; unfold wbs at hb_13; try dsimp only at hb_13
   try dsimp only
   refine AWp.seq fun _ K_16=>?_
   refine sd mo fun K k=>?_
   iterate 3 refine dd ?_
   rcases bt (decide (0<=i2))with hg_17 | hg_17
   ·rw[hg_17]
    rw[hg_17,cond_true]at hb_13
    obtain⟨e2,⟨f_18,f_19,f_20,f_21⟩,hb_13⟩:=waj hb_13
    iterate 6 refine dd ?_
    refine dd ?_ (by intro K k; simp(disch:=omega) only[go_sem,f_20,↓reduceIte]; exact k)
    refine dd ?_
    refine ddx ?_
    refine dd ?_
    refine DOps.nil (by kernel_rfl) (k _ ?_)
    refine cd hb_13 (fun hb_13=>?_) (fun hb_13=>?_)
    ·refine AWp.skip ?_
     refine K_16 _ ?_
     refine AWp.block ?_
     refine AWp.reg ?_
     obtain⟨e3,⟨f_23,f_24,f_25,f_26⟩,hb_13⟩:=waj hb_13
     iterate 6 refine oo ?_
     refine oo ?_ (by intro K k; simp(disch:=omega) only[go_sem,f_25,↓reduceIte]; exact k)
     refine oo ?_
     refine AOps.nil ?_
     exact ln hb_13 sb
    ·refine AWp.exit ?_
     refine lx hb_13 fun hx=>?_; cases hx; try dsimp only at h2_12
     cases h2_12; exact sb
   ·rw[hg_17]
    rw[hg_17,cond_false]at hb_13
    iterate 10 refine dd ?_
    refine DOps.nil (by kernel_rfl) (k _ ?_)
    refine cdf ?_
    refine AWp.exit ?_
    refine lx hb_13 fun hx=>?_; cases hx; try dsimp only at h2_12
    cases h2_12; exact sb
  ·rintro i1 h; dsimp only at h ⊢
   refine sg fun K k=>?_
   iterate 2 refine oo ?_
   refine AOps.nil (k _ ?_)
   refine AWp.ret ?_
   cases h; exact rtO
end Go.Pv.Tryd

namespace Go.Pv.Tryd
open Go.Proofs Go.Pv
theorem wjt (t1:(List Rule)) (mark1:Int) (set1:Int) (value1:Int) (r:Int) (h:wc0 t1 mark1 set1 value1=some r):PureFn Tryd.prog G 54 [.d (.imm 2 (wab Rule.pd t1)),.d (.int .i64 mark1),.d (.int .i64 set1),.d (.int .i64 value1)] (.d (.int .i64 r)):=by
 unfold wc0 at h
 refine pf Tryd.func54 Tryd.ntmps54 ?_
 refine sg fun K k=>?_
 refine oo ?_
 refine AOps.nil (k _ ?_)
 refine sg fun K k=>?_
 refine oo ?_
 refine AOps.nil (k _ ?_)
 refine jn (α:=Int) [] [] (fun i t=>(9,.d (.int .i64 i))::t) (fun i t=>t) h ?_ ?_
 ·intro _ hj_2
  refine sg fun K k=>?_
  refine oo ?_
  refine AOps.nil (k _ ?_)
  refine AWp.block ?_
  obtain⟨x_7,hl_4,h2_5⟩:=bind_some hj_2
  refine lp (S:=(Int×Int)) [0,1,2,3] [] (fun i t=>(9,.d (.int .i64 i.1))::(10,.d (.int .i64 i.2))::t) (fun i t=>t) hl_4 ?_ ?_; exact sb; clear hl_4
  rintro⟨out2,i1⟩ _ hb_6; unfold wcZ at hb_6; try dsimp only at hb_6
  try dsimp only
  refine AWp.seq fun _ K_9=>?_
  refine sg fun K k=>?_
  iterate 4 refine oo ?_
  refine AOps.nil (k _ ?_)
  refine cd hb_6 (fun hb_6=>?_) (fun hb_6=>?_)
  ·refine AWp.skip ?_
   refine K_9 _ ?_
   refine jn (α:=Int) [0,1,2,3,10] [] (fun i t=>(9,.d (.int .i64 i))::t) (fun i t=>t) hb_6 ?_ ?_
   ·intro _ hj_12
    refine AWp.block ?_
    refine sg fun K k=>?_
    obtain⟨hg_13,hj_12⟩:=wae hj_12
    iterate 6 refine oo ?_
    obtain⟨b1,hc_14,hj_12⟩:=bind_some hj_12
    refine ct 12 [0,1,2,3,9,10] [] (fun  t=>(34,.d (.bool b1))::t) ?_ ?_
    ·rcases bt (decide (((set1.fdiv (2 ^ (min (i1).toNat 64))).tmod 2)=1))with hg_23 | hg_23
     ·rw[hg_23]
      rw[hg_23,cond_true]at hc_14
      obtain⟨e1,⟨f_15,f_16,f_17,f_18⟩,hc_14⟩:=waj hc_14
      iterate 5 refine oo ?_
      refine oo ?_ (by intro K k; simp(disch:=omega) only[go_sem,f_17,↓reduceIte]; exact k)
      obtain⟨e2,⟨f_19,f_20,f_21,f_22⟩,hc_14⟩:=waj hc_14
      iterate 3 refine oo ?_
      refine oo ?_ (by intro K k; simp(disch:=omega) only[go_sem,f_21,↓reduceIte]; exact k)
      iterate 2 refine oo ?_
      refine AOps.nil ?_
      cases hc_14
      exact sb
     ·rw[hg_23]
      rw[hg_23,cond_false]at hc_14
      iterate 12 refine oo ?_
      refine AOps.nil ?_
      cases hc_14
      exact sb
    refine oo ?_
    obtain⟨b2,hc_24,hj_12⟩:=bind_some hj_12
    refine ct 12 [0,1,2,3,9,10] [] (fun  t=>(47,.d (.bool b2))::t) ?_ ?_
    ·rcases bt b1 with hg_33 | hg_33
     ·rw[hg_33]
      rw[hg_33,cond_true]at hc_24
      obtain⟨e3,⟨f_25,f_26,f_27,f_28⟩,hc_24⟩:=waj hc_24
      iterate 5 refine oo ?_
      refine oo ?_ (by intro K k; simp(disch:=omega) only[go_sem,f_27,↓reduceIte]; exact k)
      obtain⟨e4,⟨f_29,f_30,f_31,f_32⟩,hc_24⟩:=waj hc_24
      iterate 3 refine oo ?_
      refine oo ?_ (by intro K k; simp(disch:=omega) only[go_sem,f_31,↓reduceIte]; exact k)
      iterate 2 refine oo ?_
      refine AOps.nil ?_
      cases hc_24
      exact sb
     ·rw[hg_33]
      rw[hg_33,cond_false]at hc_24
      iterate 12 refine oo ?_
      refine AOps.nil ?_
      cases hc_24
      exact sb
    refine AOps.nil (k _ ?_)
    refine cd hj_12 (fun hj_12=>?_) (fun hj_12=>?_)
    ·refine AWp.reg ?_
     obtain⟨hg_35,hj_12⟩:=wae hj_12
     iterate 5 refine oo ?_
     refine AOps.nil ?_
     cases hj_12; exact sb
    ·refine AWp.skip ?_
     cases hj_12; exact sb
   ·rintro out3 hb_6; dsimp only at hb_6 ⊢
    refine AWp.reg ?_
    iterate 3 refine oo ?_
    refine AOps.nil ?_
    exact ln hb_6 sb
  ·refine AWp.exit ?_
   refine lx hb_6 fun hx=>?_; cases hx; try dsimp only at h2_5
   cases h2_5; exact sb
 ·rintro out1 h; dsimp only at h ⊢
  refine sg fun K k=>?_
  iterate 2 refine oo ?_
  refine AOps.nil (k _ ?_)
  refine AWp.ret ?_
  cases h; exact rt
end Go.Pv.Tryd

namespace Go.Pv.Tryd
open Go.Proofs Go.Pv
theorem wfQ (a1:(List Int)) (b1:(List Int)) (r:Bool) (h:wcI a1 b1=some r):PureFn Tryd.prog G 108 [.d (.imm 1 (wab (PD.int .i64) a1)),.d (.imm 1 (wab (PD.int .i64) b1))] (.d (.bool r)):=by
 unfold wcI at h
 refine pf Tryd.func108 Tryd.ntmps108 ?_
 refine sg fun K k=>?_
 refine oo ?_
 refine AOps.nil (k _ ?_)
 refine AWp.seq fun _ K_1=>?_
 refine sg fun K k=>?_
 iterate 5 refine oo ?_
 refine AOps.nil (k _ ?_)
 refine cd h (fun h=>?_) (fun h=>?_)
 ·refine sg fun K k=>?_
  refine oo ?_
  refine AOps.nil (k _ ?_)
  refine AWp.ret ?_
  cases h; exact rt
 ·refine AWp.skip ?_
  refine K_1 _ ?_
  refine jm (ι:=Unit) [] [] (fun i t=>t) (fun i t=>t) .inl h ?_ ?_
  ·intro _ hj_4 h
   refine sg fun K k=>?_
   refine oo ?_
   refine AOps.nil (k _ ?_)
   refine AWp.block ?_
   obtain⟨x_9,hl_6,h2_7⟩:=bind_some hj_4
   refine lp (S:=Int) [0,1] [] (fun i t=>(5,.d (.int .i64 i))::t) (fun i t=>t) hl_6 ?_ ?_; exact sb; clear hl_6
   rintro i1 _ hb_8; unfold wbi at hb_8; try dsimp only at hb_8
   try dsimp only
   refine AWp.seq fun _ K_11=>?_
   refine sg fun K k=>?_
   iterate 4 refine oo ?_
   refine AOps.nil (k _ ?_)
   refine cd hb_8 (fun hb_8=>?_) (fun hb_8=>?_)
   ·refine AWp.skip ?_
    refine K_11 _ ?_
    refine AWp.seq fun _ K_13=>?_
    refine AWp.block ?_
    refine sd mo fun K k=>?_
    obtain⟨e1,⟨f_14,f_15,f_16,f_17⟩,hb_8⟩:=waj hb_8
    iterate 3 refine dd ?_
    refine dd ?_ (by intro K k; simp(disch:=omega) only[go_sem,f_16,↓reduceIte]; exact k)
    obtain⟨e2,⟨f_18,f_19,f_20,f_21⟩,hb_8⟩:=waj hb_8
    iterate 3 refine dd ?_
    refine dd ?_ (by intro K k; simp(disch:=omega) only[go_sem,f_20,↓reduceIte]; exact k)
    refine dd ?_
    refine DOps.nil (by kernel_rfl) (k _ ?_)
    refine cd hb_8 (fun hb_8=>?_) (fun hb_8=>?_)
    ·refine sg fun K k=>?_
     refine oo ?_
     refine AOps.nil (k _ ?_)
     refine AWp.ret ?_
     refine lx hb_8 fun hx=>?_; cases hx; try dsimp only at h2_7
     cases h2_7; try dsimp only at h
     cases h; exact rt
    ·refine AWp.skip ?_
     refine K_13 _ ?_
     refine AWp.reg ?_
     iterate 3 refine oo ?_
     refine AOps.nil ?_
     exact ln hb_8 sb
   ·refine AWp.exit ?_
    refine lx hb_8 fun hx=>?_; cases hx; try dsimp only at h2_7
    exact ln h2_7 sb
  ·rintro _ h; dsimp only at h ⊢
   refine sg fun K k=>?_
   refine oo ?_
   refine AOps.nil (k _ ?_)
   refine AWp.ret ?_
   cases h; exact rt
end Go.Pv.Tryd

namespace Go.Pv.Tryd
open Go.Proofs Go.Pv
theorem wgr (o1:Search) (n1:Node) (r:(Int×Search)) (h:wbz o1 n1=some r):ObjFn Tryd.prog G 87 [.ptr 0 0 0,.d (.agg [(.int .i64 n1.Mark),(.imm 1 (wab (PD.int .i64) n1.Cuts)),(.imm 1 (wab (PD.int .i64) n1.To))])] [(0,⟨81,8,[.agg [.d (.int .i64 o1.k),.d (.imm 2 (wab Rule.pd o1.t)),.slc 1001 0 o1.seen.heads.length,.slc 1002 0 o1.seen.next.length,.slc 1003 0 o1.seen.keys.length,.slc 1004 0 o1.many.length,.slc 1005 0 o1.at_.length,.slc 1006 0 o1.nodes.length]]⟩),(1001,⟨3,1,dl (wab (PD.int .i64) o1.seen.heads)⟩),(1002,⟨3,1,dl (wab (PD.int .i64) o1.seen.next)⟩),(1003,⟨120,3,dl (wab Arr3_Int.pd o1.seen.keys)⟩),(1004,⟨26,1,dl (wab (wbb 1 (PD.int .i64)) o1.many)⟩),(1005,⟨3,1,dl (wab (PD.int .i64) o1.at_)⟩),(1006,⟨37,3,dl (wab Node.pd o1.nodes)⟩)] (.d (.int .i64 r.1)) [(0,⟨81,8,[.agg [.d (.int .i64 r.2.k),.d (.imm 2 (wab Rule.pd r.2.t)),.slc 1001 0 r.2.seen.heads.length,.slc 1002 0 r.2.seen.next.length,.slc 1003 0 r.2.seen.keys.length,.slc 1004 0 r.2.many.length,.slc 1005 0 r.2.at_.length,.slc 1006 0 r.2.nodes.length]]⟩),(1001,⟨3,1,dl (wab (PD.int .i64) r.2.seen.heads)⟩),(1002,⟨3,1,dl (wab (PD.int .i64) r.2.seen.next)⟩),(1003,⟨120,3,dl (wab Arr3_Int.pd r.2.seen.keys)⟩),(1004,⟨26,1,dl (wab (wbb 1 (PD.int .i64)) r.2.many)⟩),(1005,⟨3,1,dl (wab (PD.int .i64) r.2.at_)⟩),(1006,⟨37,3,dl (wab Node.pd r.2.nodes)⟩)]:=by
 unfold wbz at h
 refine ObjFn.pf Tryd.func87 Tryd.ntmps87 ?_
 refine sg fun K k=>?_
 iterate 2 refine oo ?_
 refine AOps.nil (k _ ?_)
 refine jm (ι:=Unit) [0,3] [0,1001,1002,1003,1004,1005,1006,1007] (fun i t=>t) (fun i t=>t) .inl h ?_ ?_
 ·intro _ hj_2 h
  refine sg fun K k=>?_
  refine oo ?_
  refine AOps.nil (k _ ?_)
  refine AWp.block ?_
  obtain⟨x_7,hl_4,h2_5⟩:=bind_some hj_2
  refine lp (S:=Int) [0,3] [0,1001,1002,1003,1004,1005,1006,1007] (fun i t=>(5,.d (.int .i64 i))::t) (fun i t=>t) hl_4 ?_ ?_; exact sb; clear hl_4
  rintro i1 _ hb_6; unfold waB at hb_6; try dsimp only at hb_6
  try dsimp only
  refine AWp.seq fun _ K_9=>?_
  refine sg fun K k=>?_
  iterate 7 refine oo ?_
  refine AOps.nil (k _ ?_)
  refine cd hb_6 (fun hb_6=>?_) (fun hb_6=>?_)
  ·refine AWp.skip ?_
   refine K_9 _ ?_
   refine AWp.seq fun _ K_11=>?_
   refine AWp.block ?_
   refine sd mo fun K k=>?_
   obtain⟨e1,⟨f_12,f_13,f_14,f_15⟩,hb_6⟩:=waj hb_6
   iterate 7 refine dd ?_
   refine dd ?_ (by intro K k; simp(disch:=omega) only[go_sem,f_14,↓reduceIte]; exact k)
   iterate 4 refine dd ?_
   rcases bt (decide (e1.Mark=n1.Mark))with hg_16 | hg_16
   ·rw[hg_16]
    rw[hg_16,cond_true]at hb_6
    iterate 7 refine dd ?_
    refine dd ?_ (by intro K k; simp(disch:=omega) only[go_sem,f_14,↓reduceIte]; exact k)
    iterate 2 refine dd ?_
    obtain⟨r1,hx_17,hb_6⟩:=bind_some hb_6
    refine dcl (wfQ e1.Cuts n1.Cuts _ hx_17) ?_
    iterate 2 refine dd ?_
    rcases bt r1 with hg_18 | hg_18
    ·rw[hg_18]
     rw[hg_18,cond_true]at hb_6
     iterate 7 refine dd ?_
     refine dd ?_ (by intro K k; simp(disch:=omega) only[go_sem,f_14,↓reduceIte]; exact k)
     iterate 2 refine dd ?_
     obtain⟨r2,hx_19,hb_6⟩:=bind_some hb_6
     refine dcl (wfQ e1.To n1.To _ hx_19) ?_
     refine dd ?_
     refine DOps.nil (by kernel_rfl) (k _ ?_)
     refine cd hb_6 (fun hb_6=>?_) (fun hb_6=>?_)
     ·refine sg fun K k=>?_
      iterate 2 refine oo ?_
      refine AOps.nil (k _ ?_)
      refine AWp.ret ?_
      refine lx hb_6 fun hx=>?_; cases hx; try dsimp only at h2_5
      cases h2_5; try dsimp only at h
      cases h; exact rtO
     ·refine AWp.skip ?_
      refine K_11 _ ?_
      refine AWp.reg ?_
      iterate 3 refine oo ?_
      refine AOps.nil ?_
      exact ln hb_6 sb
    ·rw[hg_18]
     rw[hg_18,cond_false]at hb_6
     iterate 12 refine dd ?_
     refine DOps.nil (by kernel_rfl) (k _ ?_)
     refine cdf ?_
     refine AWp.skip ?_
     refine K_11 _ ?_
     refine AWp.reg ?_
     iterate 3 refine oo ?_
     refine AOps.nil ?_
     exact ln hb_6 sb
   ·rw[hg_16]
    rw[hg_16,cond_false]at hb_6
    iterate 25 refine dd ?_
    refine DOps.nil (by kernel_rfl) (k _ ?_)
    refine cdf ?_
    refine AWp.skip ?_
    refine K_11 _ ?_
    refine AWp.reg ?_
    iterate 3 refine oo ?_
    refine AOps.nil ?_
    exact ln hb_6 sb
  ·refine AWp.exit ?_
   refine lx hb_6 fun hx=>?_; cases hx; try dsimp only at h2_5
   exact ln h2_5 sb
 ·rintro _ h; dsimp only at h ⊢
  refine sdX mo [(1006,[57,60,1000000])] fun K k=>?_
  iterate 6 (refine dd ?_ (by intro K k; simp(disch:=omega) only[go_sem,true_or,or_true,and_self,true_and,and_true,↓reduceIte]; exact k))
  refine ddl ?_ (by intro K k; simp(disch:=omega) only[go_sem,true_or,or_true,and_self,true_and,and_true,↓reduceIte]; exact k)
  obtain⟨hg_23,h⟩:=wae h
  refine wmv [57,60,1000000] [(0,⟨81,8,[.agg [.d (.int .i64 o1.k),.d (.imm 2 (wab Rule.pd o1.t)),.slc 1001 0 o1.seen.heads.length,.slc 1002 0 o1.seen.next.length,.slc 1003 0 o1.seen.keys.length,.slc 1004 0 o1.many.length,.slc 1005 0 o1.at_.length,.slc 1006 0 o1.nodes.length]]⟩)] (dl (wab Node.pd [n1])) se32 ?_
  iterate 3 (refine dd ?_ (by intro K k; simp(disch:=omega) only[go_sem,true_or,or_true,and_self,true_and,and_true,↓reduceIte]; exact k))
  refine DOps.nil (by kernel_rfl) (k _ ?_)
  refine sg fun K k=>?_
  iterate 7 refine oo ?_
  refine AOps.nil (k _ ?_)
  refine AWp.ret ?_
  cases h; exact rtO
end Go.Pv.Tryd

namespace Go.Pv.Tryd
open Go.Proofs Go.Pv
theorem whb (o1:Search) (k1:Arr3_Int) (r:Search) (h:wbu o1 k1=some r):ObjFn Tryd.prog G 85 [.ptr 0 0 2,.d (.agg [(.int .i64 k1.c0),(.int .i64 k1.c1),(.int .i64 k1.c2)])] [(0,⟨81,8,[.agg [.d (.int .i64 o1.k),.d (.imm 2 (wab Rule.pd o1.t)),.slc 1001 0 o1.seen.heads.length,.slc 1002 0 o1.seen.next.length,.slc 1003 0 o1.seen.keys.length,.slc 1004 0 o1.many.length,.slc 1005 0 o1.at_.length,.slc 1006 0 o1.nodes.length]]⟩),(1001,⟨3,1,dl (wab (PD.int .i64) o1.seen.heads)⟩),(1002,⟨3,1,dl (wab (PD.int .i64) o1.seen.next)⟩),(1003,⟨120,3,dl (wab Arr3_Int.pd o1.seen.keys)⟩),(1004,⟨26,1,dl (wab (wbb 1 (PD.int .i64)) o1.many)⟩),(1005,⟨3,1,dl (wab (PD.int .i64) o1.at_)⟩),(1006,⟨37,3,dl (wab Node.pd o1.nodes)⟩)] (.tuple []) [(0,⟨81,8,[.agg [.d (.int .i64 r.k),.d (.imm 2 (wab Rule.pd r.t)),.slc 1001 0 r.seen.heads.length,.slc 1002 0 r.seen.next.length,.slc 1003 0 r.seen.keys.length,.slc 1004 0 r.many.length,.slc 1005 0 r.at_.length,.slc 1006 0 r.nodes.length]]⟩),(1001,⟨3,1,dl (wab (PD.int .i64) r.seen.heads)⟩),(1002,⟨3,1,dl (wab (PD.int .i64) r.seen.next)⟩),(1003,⟨120,3,dl (wab Arr3_Int.pd r.seen.keys)⟩),(1004,⟨26,1,dl (wab (wbb 1 (PD.int .i64)) r.many)⟩),(1005,⟨3,1,dl (wab (PD.int .i64) r.at_)⟩),(1006,⟨37,3,dl (wab Node.pd r.nodes)⟩)]:=by
 unfold wbu at h
 refine ObjFn.pf Tryd.func85 Tryd.ntmps85 ?_
 refine sg fun K k=>?_
 refine oo ?_
 refine AOps.nil (k _ ?_)
 refine jn (α:=(List Int)) [0,3] [1002,1003,1004,1005,1006,1007] (fun i t=>t) (fun i t=>(0,⟨81,8,[.agg [.d (.int .i64 o1.k),.d (.imm 2 (wab Rule.pd o1.t)),.slc 1001 0 i.length,.slc 1002 0 o1.seen.next.length,.slc 1003 0 o1.seen.keys.length,.slc 1004 0 o1.many.length,.slc 1005 0 o1.at_.length,.slc 1006 0 o1.nodes.length]]⟩)::(1001,⟨3,1,dl (wab (PD.int .i64) i)⟩)::t) h ?_ ?_
 ·intro _ hj_2
  refine AWp.block ?_
  obtain⟨x_7,hl_4,h2_5⟩:=bind_some hj_2
  refine lp (S:=(List Int)) [0,3] [1002,1003,1004,1005,1006,1007] (fun i t=>t) (fun i t=>(0,⟨81,8,[.agg [.d (.int .i64 o1.k),.d (.imm 2 (wab Rule.pd o1.t)),.slc 1001 0 i.length,.slc 1002 0 o1.seen.next.length,.slc 1003 0 o1.seen.keys.length,.slc 1004 0 o1.many.length,.slc 1005 0 o1.at_.length,.slc 1006 0 o1.nodes.length]]⟩)::(1001,⟨3,1,dl (wab (PD.int .i64) i)⟩)::t) hl_4 ?_ ?_; exact sb; clear hl_4
  rintro L2 _ hb_6; unfold wby at hb_6; try dsimp only at hb_6
  try dsimp only
  refine AWp.seq fun _ K_9=>?_
  refine sg fun K k=>?_
  iterate 6 refine oo ?_
  refine AOps.nil (k _ ?_)
  refine cd hb_6 (fun hb_6=>?_) (fun hb_6=>?_)
  ·refine AWp.skip ?_
   refine K_9 _ ?_
   refine AWp.block ?_
   refine AWp.reg ?_
   iterate 5 refine oo ?_
   refine ol ?_
   obtain⟨hg_11,hb_6⟩:=wae hb_6
   iterate 4 refine oo ?_
   refine AOps.nil ?_
   exact ln hb_6 sb
  ·refine AWp.exit ?_
   refine lx hb_6 fun hx=>?_; cases hx; try dsimp only at h2_5
   cases h2_5; exact sb
 ·rintro L1 h; dsimp only at h ⊢
  refine sg fun K k=>?_
  refine oo ?_
  obtain⟨r1,hx_12,h⟩:=bind_some h
  refine cl (wgj k1 _ hx_12) ?_
  refine oo ?_
  refine AOps.nil (k _ ?_)
  refine sdX mo [(1003,[26,29,1000000])] fun K k=>?_
  iterate 6 (refine dd ?_ (by intro K k; simp(disch:=omega) only[go_sem,true_or,or_true,and_self,true_and,and_true,↓reduceIte]; exact k))
  refine ddl ?_ (by intro K k; simp(disch:=omega) only[go_sem,true_or,or_true,and_self,true_and,and_true,↓reduceIte]; exact k)
  obtain⟨hg_13,h⟩:=wae h
  refine wmv [26,29,1000000] [(0,⟨81,8,[.agg [.d (.int .i64 o1.k),.d (.imm 2 (wab Rule.pd o1.t)),.slc 1001 0 L1.length,.slc 1002 0 o1.seen.next.length,.slc 1003 0 o1.seen.keys.length,.slc 1004 0 o1.many.length,.slc 1005 0 o1.at_.length,.slc 1006 0 o1.nodes.length]]⟩)] (dl (wab Arr3_Int.pd [k1])) se76 ?_
  iterate 3 (refine dd ?_ (by intro K k; simp(disch:=omega) only[go_sem,true_or,or_true,and_self,true_and,and_true,↓reduceIte]; exact k))
  refine DOps.nil (by kernel_rfl) (k _ ?_)
  refine sdX mo [(1002,[36,45,1000000])] fun K k=>?_
  obtain⟨e1,⟨f_14,f_15,f_16,f_17⟩,h⟩:=waj h
  iterate 11 (refine dd ?_ (by intro K k; simp(disch:=omega) only[go_sem,true_or,or_true,and_self,true_and,and_true,↓reduceIte]; exact k))
  refine dd ?_ (by intro K k; simp(disch:=omega) only[go_sem,f_16,true_or,or_true,and_self,true_and,and_true,↓reduceIte]; exact k)
  refine ddl ?_ (by intro K k; simp(disch:=omega) only[go_sem,true_or,or_true,and_self,true_and,and_true,↓reduceIte]; exact k)
  obtain⟨hg_18,h⟩:=wae h
  refine wmv [36,45,1000000] [(0,⟨81,8,[.agg [.d (.int .i64 o1.k),.d (.imm 2 (wab Rule.pd o1.t)),.slc 1001 0 L1.length,.slc 1002 0 o1.seen.next.length,.slc 1003 0 (o1.seen.keys.length+[k1].length),.slc 1004 0 o1.many.length,.slc 1005 0 o1.at_.length,.slc 1006 0 o1.nodes.length]]⟩)] (dl (wab (PD.int .i64) [e1])) se26 ?_
  iterate 3 (refine dd ?_ (by intro K k; simp(disch:=omega) only[go_sem,true_or,or_true,and_self,true_and,and_true,↓reduceIte]; exact k))
  refine DOps.nil (by kernel_rfl) (k _ ?_)
  refine AWp.draw mo [] trivial ?_
  obtain⟨e2,⟨f_19,f_20,f_21,f_22⟩,h⟩:=waj h
  iterate 12 refine dd ?_
  refine dd ?_ (by intro K k; simp(disch:=omega) only[go_sem,f_21,↓reduceIte]; exact k)
  refine DOps.nil (by kernel_rfl) ?_
  cases h; exact rtO
end Go.Pv.Tryd

namespace Go.Pv.Tryd
open Go.Proofs Go.Pv
set_option maxHeartbeats 4000000 in
theorem wgL (n:Nat):∀ (o1:Search) (mark1:Int) (set1:Int) (r:(Int×Search)) (h:waW n o1 mark1 set1=some r),ObjFn Tryd.prog G 55 [.ptr 0 0 0,.d (.int .i64 mark1),.d (.int .i64 set1)] [(0,⟨81,8,[.agg [.d (.int .i64 o1.k),.d (.imm 2 (wab Rule.pd o1.t)),.slc 1001 0 o1.seen.heads.length,.slc 1002 0 o1.seen.next.length,.slc 1003 0 o1.seen.keys.length,.slc 1004 0 o1.many.length,.slc 1005 0 o1.at_.length,.slc 1006 0 o1.nodes.length]]⟩),(1001,⟨3,1,dl (wab (PD.int .i64) o1.seen.heads)⟩),(1002,⟨3,1,dl (wab (PD.int .i64) o1.seen.next)⟩),(1003,⟨120,3,dl (wab Arr3_Int.pd o1.seen.keys)⟩),(1004,⟨26,1,dl (wab (wbb 1 (PD.int .i64)) o1.many)⟩),(1005,⟨3,1,dl (wab (PD.int .i64) o1.at_)⟩),(1006,⟨37,3,dl (wab Node.pd o1.nodes)⟩)] (.d (.int .i64 r.1)) [(0,⟨81,8,[.agg [.d (.int .i64 r.2.k),.d (.imm 2 (wab Rule.pd r.2.t)),.slc 1001 0 r.2.seen.heads.length,.slc 1002 0 r.2.seen.next.length,.slc 1003 0 r.2.seen.keys.length,.slc 1004 0 r.2.many.length,.slc 1005 0 r.2.at_.length,.slc 1006 0 r.2.nodes.length]]⟩),(1001,⟨3,1,dl (wab (PD.int .i64) r.2.seen.heads)⟩),(1002,⟨3,1,dl (wab (PD.int .i64) r.2.seen.next)⟩),(1003,⟨120,3,dl (wab Arr3_Int.pd r.2.seen.keys)⟩),(1004,⟨26,1,dl (wab (wbb 1 (PD.int .i64)) r.2.many)⟩),(1005,⟨3,1,dl (wab (PD.int .i64) r.2.at_)⟩),(1006,⟨37,3,dl (wab Node.pd r.2.nodes)⟩)]:=by
 induction n with
 | zero=>intro o1 mark1 set1 r h; cases h
 | succ n ih =>
  intro o1 mark1 set1 r h
  replace h:wa4 (waW n) o1 mark1 set1=some r:=h
  unfold wa4 at h
  refine ObjFn.pf Tryd.func55 Tryd.ntmps55 ?_
  refine sg fun K k=>?_
  refine oo ?_
  refine AOps.nil (k _ ?_)
  refine AWp.seq fun _ K_1=>?_
  refine sg fun K k=>?_
  iterate 6 refine oo ?_
  refine AOps.nil (k _ ?_)
  refine cd h (fun h=>?_) (fun h=>?_)
  ·refine sg fun K k=>?_
   refine oo ?_
   obtain⟨r1,hx_3,h⟩:=bind_some h
   refine cl (wi4 set1 _ hx_3) ?_
   refine oo ?_
   refine AOps.nil (k _ ?_)
   refine AWp.seq fun _ K_4=>?_
   refine sg fun K k=>?_
   iterate 2 refine oo ?_
   refine AOps.nil (k _ ?_)
   refine cd h (fun h=>?_) (fun h=>?_)
   ·refine sg fun K k=>?_
    refine oo ?_
    refine AOps.nil (k _ ?_)
    refine AWp.ret ?_
    cases h; exact rtO
   ·refine AWp.skip ?_
    refine K_4 _ ?_
    refine sg fun K k=>?_
    obtain⟨e1,⟨f_6,f_7,f_8,f_9⟩,h⟩:=waj h
    iterate 7 refine oo ?_
    refine oo ?_ (by intro K k; simp(disch:=omega) only[go_sem,f_8,↓reduceIte]; exact k)
    iterate 2 refine oo ?_
    refine AOps.nil (k _ ?_)
    refine AWp.ret ?_
    cases h; exact rtO
  ·refine AWp.skip ?_
   refine K_1 _ ?_
   refine sg fun K k=>?_
   iterate 6 refine oo ?_
   refine AOps.sub (τ:=⟨[(0,.ptr 0 0 0),(1,.d (.int .i64 mark1)),(2,.d (.int .i64 set1)),(36,.ptr 0 0 2),(39,.d (.agg [(.int .i64 mark1),(.int .i64 set1),(.int .i64 0)]))],[(0,⟨81,8,[.agg [.d (.int .i64 o1.k),.d (.imm 2 (wab Rule.pd o1.t)),.slc 1001 0 o1.seen.heads.length,.slc 1002 0 o1.seen.next.length,.slc 1003 0 o1.seen.keys.length,.slc 1004 0 o1.many.length,.slc 1005 0 o1.at_.length,.slc 1006 0 o1.nodes.length]]⟩),(1001,⟨3,1,dl (wab (PD.int .i64) o1.seen.heads)⟩),(1002,⟨3,1,dl (wab (PD.int .i64) o1.seen.next)⟩),(1003,⟨120,3,dl (wab Arr3_Int.pd o1.seen.keys)⟩),(1004,⟨26,1,dl (wab (wbb 1 (PD.int .i64)) o1.many)⟩),(1005,⟨3,1,dl (wab (PD.int .i64) o1.at_)⟩),(1006,⟨37,3,dl (wab Node.pd o1.nodes)⟩)],[],none⟩) sb ?_
   obtain⟨r2,hx_10,h⟩:=bind_some h
   refine clU [(0,0),(1001,1001),(1002,1002),(1003,1003),(1004,1004),(1005,1005),(1006,1006)] [1001,1002,1003,1004,1005,1006] (wgQ o1 (⟨mark1,set1,0⟩:Arr3_Int) _ hx_10) ?_
   refine oo ?_
   refine AOps.nil (k _ ?_)
   refine AWp.seq fun _ K_11=>?_
   refine sg fun K k=>?_
   iterate 2 refine oo ?_
   refine AOps.nil (k _ ?_)
   refine cd h (fun h=>?_) (fun h=>?_)
   ·refine sg fun K k=>?_
    obtain⟨e2,⟨f_13,f_14,f_15,f_16⟩,h⟩:=waj h
    iterate 6 refine oo ?_
    refine oo ?_ (by intro K k; simp(disch:=omega) only[go_sem,f_15,↓reduceIte]; exact k)
    refine oo ?_
    refine AOps.nil (k _ ?_)
    refine AWp.ret ?_
    cases h; exact rtO
   ·refine AWp.skip ?_
    refine K_11 _ ?_
    refine sg fun K k=>?_
    iterate 6 refine oo ?_
    obtain⟨r3,hx_17,h⟩:=bind_some h
    refine cl (wgi r2.2.t mark1 set1 _ hx_17) ?_
    refine oo ?_
    refine AOps.nil (k _ ?_)
    refine sg fun K k=>?_
    iterate 4 refine oo ?_
    refine AOps.sub (Sub.voidCell 1007 1 3 1 1008 (x:=⟨37,3,[.d (.agg [(.int .i64 mark1),.nilslice,.nilslice])]⟩) (p:=.d (.agg [(.int .i64 mark1),.nilslice,.nilslice])) (cs:=[.d (.int .i64 mark1),.d .nilslice,.d .nilslice]) rfl (Nat.le_of_ble_eq_true rfl) rfl rfl rfl rfl rfl (by decide) (by decide)) ?_
    simp only[wal,List.set_cons_succ,List.set_cons_zero,reduceCtorEq,↓reduceIte,Nat.reduceAdd,Nat.reduceMul,Nat.reduceLT,Nat.reduceLeDiff,Nat.reduceEqDiff,Nat.reduceBEq,Int.reduceToNat]
    refine AOps.sub (Sub.voidCell 1007 2 3 1 1009 (x:=⟨37,3,[.agg [.d (.int .i64 mark1),.slc 1008 0 0,.d .nilslice]]⟩) (p:=.agg [.d (.int .i64 mark1),.slc 1008 0 0,.d .nilslice]) (cs:=[.d (.int .i64 mark1),.slc 1008 0 0,.d .nilslice]) rfl (Nat.le_of_ble_eq_true rfl) rfl rfl rfl rfl rfl (by decide) (by decide)) ?_
    simp only[wal,List.set_cons_succ,List.set_cons_zero,reduceCtorEq,↓reduceIte,Nat.reduceAdd,Nat.reduceMul,Nat.reduceLT,Nat.reduceLeDiff,Nat.reduceEqDiff,Nat.reduceBEq,Int.reduceToNat]
    refine AOps.nil (k _ ?_)
    refine sg fun K k=>?_
    refine oo ?_
    refine AOps.nil (k _ ?_)
    refine jn (α:=(Int×(List Rule)×(List Int)×(List Int)×(List Arr3_Int)×(List (List Int))×(List Int)×(List Node)×(List Int)×(List Int))) [1,2,10] [] (fun i t=>(0,.ptr 0 0 0)::t) (fun i t=>(0,⟨81,8,[.agg [.d (.int .i64 i.1),.d (.imm 2 (wab Rule.pd i.2.1)),.slc 1001 0 i.2.2.1.length,.slc 1002 0 i.2.2.2.1.length,.slc 1003 0 i.2.2.2.2.1.length,.slc 1004 0 i.2.2.2.2.2.1.length,.slc 1005 0 i.2.2.2.2.2.2.1.length,.slc 1006 0 i.2.2.2.2.2.2.2.1.length]]⟩)::(1001,⟨3,1,dl (wab (PD.int .i64) i.2.2.1)⟩)::(1002,⟨3,1,dl (wab (PD.int .i64) i.2.2.2.1)⟩)::(1003,⟨120,3,dl (wab Arr3_Int.pd i.2.2.2.2.1)⟩)::(1004,⟨26,1,dl (wab (wbb 1 (PD.int .i64)) i.2.2.2.2.2.1)⟩)::(1005,⟨3,1,dl (wab (PD.int .i64) i.2.2.2.2.2.2.1)⟩)::(1006,⟨37,3,dl (wab Node.pd i.2.2.2.2.2.2.2.1)⟩)::(1007,⟨37,3,[.agg [.d (.int .i64 mark1),.slc 1008 0 i.2.2.2.2.2.2.2.2.1.length,.slc 1009 0 i.2.2.2.2.2.2.2.2.2.length]]⟩)::(1008,⟨3,1,dl (wab (PD.int .i64) i.2.2.2.2.2.2.2.2.1)⟩)::(1009,⟨3,1,dl (wab (PD.int .i64) i.2.2.2.2.2.2.2.2.2)⟩)::t) h ?_ ?_
    ·intro _ hj_19
     refine sg fun K k=>?_
     refine oo ?_
     refine AOps.nil (k _ ?_)
     refine AWp.block ?_
     obtain⟨x_24,hl_21,h2_22⟩:=bind_some hj_19
     refine lp (S:=(Int×Int×Int×(List Rule)×(List Int)×(List Int)×(List Arr3_Int)×(List (List Int))×(List Int)×(List Node)×(List Int)×(List Int))) [1,2,9,10] [] (fun i t=>(0,.ptr 0 0 0)::(11,.d (.int .i64 i.1))::(12,.d (.int .i64 i.2.1))::t) (fun i t=>(0,⟨81,8,[.agg [.d (.int .i64 i.2.2.1),.d (.imm 2 (wab Rule.pd i.2.2.2.1)),.slc 1001 0 i.2.2.2.2.1.length,.slc 1002 0 i.2.2.2.2.2.1.length,.slc 1003 0 i.2.2.2.2.2.2.1.length,.slc 1004 0 i.2.2.2.2.2.2.2.1.length,.slc 1005 0 i.2.2.2.2.2.2.2.2.1.length,.slc 1006 0 i.2.2.2.2.2.2.2.2.2.1.length]]⟩)::(1001,⟨3,1,dl (wab (PD.int .i64) i.2.2.2.2.1)⟩)::(1002,⟨3,1,dl (wab (PD.int .i64) i.2.2.2.2.2.1)⟩)::(1003,⟨120,3,dl (wab Arr3_Int.pd i.2.2.2.2.2.2.1)⟩)::(1004,⟨26,1,dl (wab (wbb 1 (PD.int .i64)) i.2.2.2.2.2.2.2.1)⟩)::(1005,⟨3,1,dl (wab (PD.int .i64) i.2.2.2.2.2.2.2.2.1)⟩)::(1006,⟨37,3,dl (wab Node.pd i.2.2.2.2.2.2.2.2.2.1)⟩)::(1007,⟨37,3,[.agg [.d (.int .i64 mark1),.slc 1008 0 i.2.2.2.2.2.2.2.2.2.2.1.length,.slc 1009 0 i.2.2.2.2.2.2.2.2.2.2.2.length]]⟩)::(1008,⟨3,1,dl (wab (PD.int .i64) i.2.2.2.2.2.2.2.2.2.2.1)⟩)::(1009,⟨3,1,dl (wab (PD.int .i64) i.2.2.2.2.2.2.2.2.2.2.2)⟩)::t) hl_21 ?_ ?_; exact sb; clear hl_21
     rintro⟨lo1,i1,c3,c4,L9,L10,L11,L12,L13,L14,L15,L16⟩ _ hb_23; unfold wa0 at hb_23; try dsimp only at hb_23
     try dsimp only
     refine AWp.seq fun _ K_26=>?_
     refine sg fun K k=>?_
     iterate 4 refine oo ?_
     refine AOps.nil (k _ ?_)
     refine cd hb_23 (fun hb_23=>?_) (fun hb_23=>?_)
     ·refine AWp.skip ?_
      refine K_26 _ ?_
      refine jn (α:=(Int×Int×(List Rule)×(List Int)×(List Int)×(List Arr3_Int)×(List (List Int))×(List Int)×(List Node)×(List Int)×(List Int))) [1,2,9,10,12] [] (fun i t=>(0,.ptr 0 0 0)::(11,.d (.int .i64 i.1))::t) (fun i t=>(0,⟨81,8,[.agg [.d (.int .i64 i.2.1),.d (.imm 2 (wab Rule.pd i.2.2.1)),.slc 1001 0 i.2.2.2.1.length,.slc 1002 0 i.2.2.2.2.1.length,.slc 1003 0 i.2.2.2.2.2.1.length,.slc 1004 0 i.2.2.2.2.2.2.1.length,.slc 1005 0 i.2.2.2.2.2.2.2.1.length,.slc 1006 0 i.2.2.2.2.2.2.2.2.1.length]]⟩)::(1001,⟨3,1,dl (wab (PD.int .i64) i.2.2.2.1)⟩)::(1002,⟨3,1,dl (wab (PD.int .i64) i.2.2.2.2.1)⟩)::(1003,⟨120,3,dl (wab Arr3_Int.pd i.2.2.2.2.2.1)⟩)::(1004,⟨26,1,dl (wab (wbb 1 (PD.int .i64)) i.2.2.2.2.2.2.1)⟩)::(1005,⟨3,1,dl (wab (PD.int .i64) i.2.2.2.2.2.2.2.1)⟩)::(1006,⟨37,3,dl (wab Node.pd i.2.2.2.2.2.2.2.2.1)⟩)::(1007,⟨37,3,[.agg [.d (.int .i64 mark1),.slc 1008 0 i.2.2.2.2.2.2.2.2.2.1.length,.slc 1009 0 i.2.2.2.2.2.2.2.2.2.2.length]]⟩)::(1008,⟨3,1,dl (wab (PD.int .i64) i.2.2.2.2.2.2.2.2.2.1)⟩)::(1009,⟨3,1,dl (wab (PD.int .i64) i.2.2.2.2.2.2.2.2.2.2)⟩)::t) hb_23 ?_ ?_
      ·intro _ hj_29
       refine AWp.block ?_
       refine sg fun K k=>?_
       iterate 10 refine oo ?_
       obtain⟨r4,hx_30,hj_29⟩:=bind_some hj_29
       refine cl (wjt c4 mark1 set1 lo1 _ hx_30) ?_
       obtain⟨r5,hx_31,hj_29⟩:=bind_some hj_29
       refine clU [(0,0),(1001,1001),(1002,1002),(1003,1003),(1004,1004),(1005,1005),(1006,1006)] [1001,1002,1003,1004,1005,1006] (ih (⟨c3,c4,(⟨L9,L10,L11⟩:Table),L12,L13,L14⟩:Search) (IntKind.i64.wrap (mark1+1)) r4 _ hx_31) ?_
       refine oo ?_
       refine AOps.nil (k _ ?_)
       refine sg fun K k=>?_
       obtain⟨e3,⟨f_32,f_33,f_34,f_35⟩,hj_29⟩:=waj hj_29
       iterate 3 refine oo ?_
       refine oo ?_ (by intro K k; simp(disch:=omega) only[go_sem,f_34,↓reduceIte]; exact k)
       refine oo ?_
       refine AOps.nil (k _ ?_)
       refine AWp.seq fun _ K_36=>?_
       refine sg fun K k=>?_
       iterate 5 refine oo ?_
       obtain⟨b1,hc_37,hj_29⟩:=bind_some hj_29
       refine ct 11 [0,1,2,9,10,11,12,13] [0,1001,1002,1003,1004,1005,1006,1007,1008,1009] (fun  t=>(96,.d (.bool b1))::t) ?_ ?_
       ·rcases bt (decide (0 < (L16.length:Int)))with hg_42 | hg_42
        ·rw[hg_42]
         rw[hg_42,cond_true]at hc_37
         obtain⟨e4,⟨f_38,f_39,f_40,f_41⟩,hc_37⟩:=waj hc_37
         try simp only[Int.toNat_natCast]at f_40 f_41
         iterate 7 refine oo ?_
         refine oo ?_ (by intro K k; simp(disch:=omega) only[go_sem,f_40,Int.toNat_natCast,↓reduceIte]; exact k)
         iterate 3 refine oo ?_
         refine AOps.nil ?_
         cases hc_37
         exact sb
        ·rw[hg_42]
         rw[hg_42,cond_false]at hc_37
         iterate 11 refine oo ?_
         refine AOps.nil ?_
         cases hc_37
         exact sb
       refine AOps.nil (k _ ?_)
       refine cd hj_29 (fun hj_29=>?_) (fun hj_29=>?_)
       ·refine sd mo fun K k=>?_
        obtain⟨e5,⟨f_44,f_45,f_46,f_47⟩,hj_29⟩:=waj hj_29
        iterate 9 refine dd ?_
        refine dd ?_ (by intro K k; simp(disch:=omega) only[go_sem,f_46,↓reduceIte]; exact k)
        obtain⟨e6,⟨f_48,f_49,f_50,f_51⟩,hj_29⟩:=waj hj_29
        try simp only[Int.toNat_natCast]at f_50 f_51
        refine dd ?_
        refine dd ?_ (by intro K k; simp(disch:=omega) only[go_sem,f_50,Int.toNat_natCast,↓reduceIte]; exact k)
        refine DOps.nil (by kernel_rfl) (k _ ?_)
        refine AWp.exit ?_
        cases hj_29; exact sb
       ·refine AWp.skip ?_
        refine K_36 _ ?_
        refine sdX mo [(1008,[109,115,1001007])] fun K k=>?_
        obtain⟨e7,⟨f_52,f_53,f_54,f_55⟩,hj_29⟩:=waj hj_29
        iterate 5 (refine dd ?_ (by intro K k; simp(disch:=omega) only[go_sem,true_or,or_true,and_self,true_and,and_true,↓reduceIte]; exact k))
        refine dd ?_ (by intro K k; simp(disch:=omega) only[go_sem,f_54,true_or,or_true,and_self,true_and,and_true,↓reduceIte]; exact k)
        refine ddl ?_ (by intro K k; simp(disch:=omega) only[go_sem,true_or,or_true,and_self,true_and,and_true,↓reduceIte]; exact k)
        obtain⟨hg_56,hj_29⟩:=wae hj_29
        refine wmv [109,115,1001007] [(1007,⟨37,3,[.agg [.d (.int .i64 mark1),.slc 1008 0 L15.length,.slc 1009 0 L16.length]]⟩)] (dl (wab (PD.int .i64) [e7])) se26 ?_
        iterate 2 (refine dd ?_ (by intro K k; simp(disch:=omega) only[go_sem,true_or,or_true,and_self,true_and,and_true,↓reduceIte]; exact k))
        refine DOps.nil (by kernel_rfl) (k _ ?_)
        refine AWp.reg ?_
        iterate 3 refine oo ?_
        refine ol ?_
        obtain⟨hg_57,hj_29⟩:=wae hj_29
        iterate 3 refine oo ?_
        refine AOps.nil ?_
        cases hj_29; exact sb
      ·rintro⟨lo2,c5,c6,L17,L18,L19,L20,L21,L22,L23,L24⟩ hb_23; dsimp only at hb_23 ⊢
       refine AWp.reg ?_
       iterate 3 refine oo ?_
       refine AOps.nil ?_
       exact ln hb_23 sb
     ·refine AWp.exit ?_
      refine lx hb_23 fun hx=>?_; cases hx; try dsimp only at h2_22
      cases h2_22; exact sb
    ·rintro⟨c1,c2,L1,L2,L3,L4,L5,L6,L7,L8⟩ h; dsimp only at h ⊢
     refine sg fun K k=>?_
     obtain⟨e8,⟨f_58,f_59,f_60,f_61⟩,h⟩:=waj h
     try simp only[Int.reduceToNat]at f_60 f_61
     iterate 3 refine oo ?_
     refine oo ?_ (by intro K k; simp(disch:=omega) only[go_sem,f_60,↓reduceIte]; exact k)
     refine oo ?_
     refine AOps.nil (k _ ?_)
     refine jn (α:=(Int×Int×(List Rule)×(List Int)×(List Int)×(List Arr3_Int)×(List (List Int))×(List Int)×(List Node))) [1,2] [] (fun i t=>(0,.ptr 0 0 0)::(14,.d (.int .i64 i.1))::t) (fun i t=>(0,⟨81,8,[.agg [.d (.int .i64 i.2.1),.d (.imm 2 (wab Rule.pd i.2.2.1)),.slc 1001 0 i.2.2.2.1.length,.slc 1002 0 i.2.2.2.2.1.length,.slc 1003 0 i.2.2.2.2.2.1.length,.slc 1004 0 i.2.2.2.2.2.2.1.length,.slc 1005 0 i.2.2.2.2.2.2.2.1.length,.slc 1006 0 i.2.2.2.2.2.2.2.2.length]]⟩)::(1001,⟨3,1,dl (wab (PD.int .i64) i.2.2.2.1)⟩)::(1002,⟨3,1,dl (wab (PD.int .i64) i.2.2.2.2.1)⟩)::(1003,⟨120,3,dl (wab Arr3_Int.pd i.2.2.2.2.2.1)⟩)::(1004,⟨26,1,dl (wab (wbb 1 (PD.int .i64)) i.2.2.2.2.2.2.1)⟩)::(1005,⟨3,1,dl (wab (PD.int .i64) i.2.2.2.2.2.2.2.1)⟩)::(1006,⟨37,3,dl (wab Node.pd i.2.2.2.2.2.2.2.2)⟩)::t) h ?_ ?_
     ·intro _ hj_63
      refine sg fun K k=>?_
      iterate 4 refine oo ?_
      refine AOps.nil (k _ ?_)
      refine cd hj_63 (fun hj_63=>?_) (fun hj_63=>?_)
      ·refine AWp.reg ?_
       iterate 2 refine oo ?_
       refine AOps.sub (τ:=⟨[(0,.ptr 0 0 0),(1,.d (.int .i64 mark1)),(2,.d (.int .i64 set1)),(131,.ptr 0 0 0),(132,.d (.agg [(.int .i64 mark1),(.imm 1 (wab (PD.int .i64) L7)),(.imm 1 (wab (PD.int .i64) L8))]))],[(0,⟨81,8,[.agg [.d (.int .i64 c1),.d (.imm 2 (wab Rule.pd c2)),.slc 1001 0 L1.length,.slc 1002 0 L2.length,.slc 1003 0 L3.length,.slc 1004 0 L4.length,.slc 1005 0 L5.length,.slc 1006 0 L6.length]]⟩),(1001,⟨3,1,dl (wab (PD.int .i64) L1)⟩),(1002,⟨3,1,dl (wab (PD.int .i64) L2)⟩),(1003,⟨120,3,dl (wab Arr3_Int.pd L3)⟩),(1004,⟨26,1,dl (wab (wbb 1 (PD.int .i64)) L4)⟩),(1005,⟨3,1,dl (wab (PD.int .i64) L5)⟩),(1006,⟨37,3,dl (wab Node.pd L6)⟩)],[],none⟩) sc ?_
       obtain⟨r6,hx_65,hj_63⟩:=bind_some hj_63
       refine clU [(0,0),(1001,1001),(1002,1002),(1003,1003),(1004,1004),(1005,1005),(1006,1006)] [1001,1002,1003,1004,1005,1006] (wgr (⟨c1,c2,(⟨L1,L2,L3⟩:Table),L4,L5,L6⟩:Search) (⟨mark1,L7,L8⟩:Node) _ hx_65) ?_
       refine oo ?_
       refine AOps.nil ?_
       cases hj_63; exact sb
      ·refine AWp.skip ?_
       cases hj_63; exact sb
     ·rintro⟨out1,c7,c8,L25,L26,L27,L28,L29,L30⟩ h; dsimp only at h ⊢
      refine sg fun K k=>?_
      iterate 6 refine oo ?_
      refine AOps.sub (τ:=⟨[(0,.ptr 0 0 0),(14,.d (.int .i64 out1)),(136,.ptr 0 0 2),(139,.d (.agg [(.int .i64 mark1),(.int .i64 set1),(.int .i64 0)]))],[(0,⟨81,8,[.agg [.d (.int .i64 c7),.d (.imm 2 (wab Rule.pd c8)),.slc 1001 0 L25.length,.slc 1002 0 L26.length,.slc 1003 0 L27.length,.slc 1004 0 L28.length,.slc 1005 0 L29.length,.slc 1006 0 L30.length]]⟩),(1001,⟨3,1,dl (wab (PD.int .i64) L25)⟩),(1002,⟨3,1,dl (wab (PD.int .i64) L26)⟩),(1003,⟨120,3,dl (wab Arr3_Int.pd L27)⟩),(1004,⟨26,1,dl (wab (wbb 1 (PD.int .i64)) L28)⟩),(1005,⟨3,1,dl (wab (PD.int .i64) L29)⟩),(1006,⟨37,3,dl (wab Node.pd L30)⟩)],[],none⟩) sb ?_
      obtain⟨r7,hx_66,h⟩:=bind_some h
      refine clU [(0,0),(1001,1001),(1002,1002),(1003,1003),(1004,1004),(1005,1005),(1006,1006)] [1001,1002,1003,1004,1005,1006] (whb (⟨c7,c8,(⟨L25,L26,L27⟩:Table),L28,L29,L30⟩:Search) (⟨mark1,set1,0⟩:Arr3_Int) _ hx_66) ?_
      refine AOps.nil (k _ ?_)
      refine sg fun K k=>?_
      iterate 6 refine oo ?_
      refine ol ?_
      obtain⟨hg_67,h⟩:=wae h
      iterate 4 refine oo ?_
      refine AOps.nil (k _ ?_)
      refine sg fun K k=>?_
      iterate 2 refine oo ?_
      refine AOps.nil (k _ ?_)
      refine AWp.ret ?_
      cases h; exact rtO
end Go.Pv.Tryd

namespace Go.Pv
mutual
def noRef:PD->Bool
 | .imm _ []=>true
 | .imm _ (_::_)=>false
 | .agg l=>noRefL l
 | .iface _ v=>noRef v
 | _=>true
def noRefL:List PD->Bool
 | []=>true
 | x::l=>noRef x&&noRefL l
end
theorem wnw:∀ {l:List PD},noRefL l=true->∀ i (hi:i < l.length),noRef l[i]=true
 | [],_,i,hi=>by simp at hi
 | x::l,h,0,_=>by simp only[noRefL,Bool.and_eq_true]at h; exact h.1
 | x::l,h,i+1,hi=>by simp only[noRefL,Bool.and_eq_true]at h; simpa using wnw h.2 i (by simpa using hi)
theorem RepD.noRef {w w':World} {ok ok':Nat->Nat->Prop} {v:Value} {p:PD} (h:RepD w ok v p):noRef p=true->RepD w' ok' v p:=by
 induction h with
 | bool b=>intro _; exact .bool b
 | int k n=>intro _; exact .int k n
 | str s=>intro _; exact .str s
 | nilptr=>intro _; exact .nilptr
 | nilslice=>intro _; exact .nilslice
 | nilmap=>intro _; exact .nilmap
 | nilfunc=>intro _; exact .nilfunc
 | niliface=>intro _; exact .niliface
 | fn f=>intro _; exact .fn f
 | iface t _ ih=>intro h; simp only[Pv.noRef]at h; exact .iface t (ih h)
 | agg hs _ hf ih=>intro h; simp only[Pv.noRef]at h; exact .agg hs (fun i hi=>ih i hi (wnw h i hi)) hf
 | imm0 k=>intro _; exact .imm0 k
 | @imm a n cap k els F ha hb hn hcap _ hk hf hc hz ih =>
  intro h
  cases els with
  | cons x l=>simp[Pv.noRef]at h
  | nil=>exact .imm F (fun h=>absurd rfl h) (fun h=>absurd rfl h) hn hcap (fun i hi=>by simp at hi) (fun i hi=>by simp at hi) (fun i hi=>by simp at hi) (fun i hi=>by simp at hi) (fun i hi=>by simp at hi)
mutual
def shp:PD->PD->Prop
 | .int k _,y=>∃ n,y=.int k n
 | .imm k els,y=>∃ m,y=.imm k m/\shpL els m
 | .agg els,y=>∃ m,y=.agg m/\shpL els m
 | .iface t v,y=>∃ u,y=.iface t u/\shp v u
 | x,y=>y=x
def shpL:List PD->List PD->Prop
 | [],m=>m=[]
 | x::l,m=>∃ y t,m=y::t/\shp x y/\shpL l t
end
theorem wlP:∀ {l m:List PD},l.length=m.length->(∀ i (hi:i < l.length) (hi':i < m.length),shp l[i] m[i])->shpL l m
 | [],[],_,_=>by simp only[shpL]
 | x::l,y::m,h1,h2=>by
  simp only[shpL]
  exact⟨y,m,rfl,h2 0 (by simp) (by simp),wlP (by simpa using h1) fun i hi hi'=>h2 (i+1) (Nat.succ_lt_succ hi) (Nat.succ_lt_succ hi')⟩
 | [],_::_,h,_=>by simp at h
 | _::_,[],h,_=>by simp at h
mutual
theorem shp_refl:∀ x:PD,shp x x
 | .int k n=>by simp only[shp]; exact⟨n,rfl⟩
 | .imm k els=>by simp only[shp]; exact⟨els,rfl,shpL_refl els⟩
 | .agg els=>by simp only[shp]; exact⟨els,rfl,shpL_refl els⟩
 | .iface t v=>by simp only[shp]; exact⟨v,rfl,shp_refl v⟩
 | .bool _ | .str _ | .nilptr | .nilslice | .nilmap | .nilfunc | .niliface | .fn _=>by simp only[shp]
theorem shpL_refl:∀ l:List PD,shpL l l
 | []=>by simp only[shpL]
 | x::l=>by simp only[shpL]; exact⟨x,l,rfl,shp_refl x,shpL_refl l⟩
end
mutual
theorem shp_trans:∀ {x y z:PD},shp x y->shp y z->shp x z
 | .int k n,y,z,h,h'=>by
  simp only[shp]at h; obtain⟨m,rfl⟩:=h; simp only[shp]at h'; obtain⟨m',rfl⟩:=h'; simp only[shp]; exact⟨m',rfl⟩
 | .imm k els,y,z,h,h'=>by
  simp only[shp]at h; obtain⟨m,rfl,h1⟩:=h; simp only[shp]at h'; obtain⟨m',rfl,h2⟩:=h'; simp only[shp]; exact⟨m',rfl,shpL_trans h1 h2⟩
 | .agg els,y,z,h,h'=>by
  simp only[shp]at h; obtain⟨m,rfl,h1⟩:=h; simp only[shp]at h'; obtain⟨m',rfl,h2⟩:=h'; simp only[shp]; exact⟨m',rfl,shpL_trans h1 h2⟩
 | .iface t v,y,z,h,h'=>by
  simp only[shp]at h; obtain⟨m,rfl,h1⟩:=h; simp only[shp]at h'; obtain⟨m',rfl,h2⟩:=h'; simp only[shp]; exact⟨m',rfl,shp_trans h1 h2⟩
 | .bool _,y,z,h,h'=>by simp only[shp]at h; subst h; exact h'
 | .str _,y,z,h,h'=>by simp only[shp]at h; subst h; exact h'
 | .nilptr,y,z,h,h'=>by simp only[shp]at h; subst h; exact h'
 | .nilslice,y,z,h,h'=>by simp only[shp]at h; subst h; exact h'
 | .nilmap,y,z,h,h'=>by simp only[shp]at h; subst h; exact h'
 | .nilfunc,y,z,h,h'=>by simp only[shp]at h; subst h; exact h'
 | .niliface,y,z,h,h'=>by simp only[shp]at h; subst h; exact h'
 | .fn _,y,z,h,h'=>by simp only[shp]at h; subst h; exact h'
theorem shpL_trans:∀ {x y z:List PD},shpL x y->shpL y z->shpL x z
 | [],y,z,h,h'=>by simp only[shpL]at h; subst h; exact h'
 | x::l,y,z,h,h'=>by
  simp only[shpL]at h; obtain⟨y1,t,rfl,h1,h2⟩:=h
  simp only[shpL]at h'; obtain⟨z1,t',rfl,h3,h4⟩:=h'
  simp only[shpL]; exact⟨z1,t',rfl,shp_trans h1 h3,shpL_trans h2 h4⟩
end
def setCellV (v:Value) (j:Nat) (u:Value):Value :=
 match v with
 | .agg vs=>.agg (vs.setIfInBounds j u)
 | _=>u
theorem wp0 {v:Value} {j:Nat} {u:Value} (hj:j < v.cells.size) (hu:flat u=true):(setCellV v j u).cells.size=v.cells.size/\∀ i,i < v.cells.size->(setCellV v j u).cells.getD i undef=if i=j then u else v.cells.getD i undef:=by
 by_cases ha:∃ vs,v=.agg vs
 ·obtain⟨vs,rfl⟩:=ha
  simp only[setCellV,Value.cells]at hj ⊢
  refine⟨by simp,fun i hi=>?_⟩
  by_cases h:i=j
  ·subst h; simp[Array.getD,hi]
  ·rw[if_neg h]; simp[Array.getD,hi,Array.getElem_setIfInBounds,Ne.symm h]
 ·have hv:v.cells.size=1/\setCellV v j u=u:=by
   cases v <;> first | exact absurd ⟨_,rfl⟩ ha | exact⟨rfl,rfl⟩
  have hj0:j=0:=by omega
  subst hj0
  rw[hv.2,weP hu,hv.1]
  refine⟨rfl,fun i hi=>?_⟩
  have:i=0:=by omega
  subst this; rfl
theorem RepD.int_of {w:World} {ok:Nat->Nat->Prop} {k:IntKind} {n:Int} {p:PD} (h:RepD w ok (.int k n) p):p=.int k n:=by cases h; rfl
theorem RepD.setCellV {w:World} {ok:Nat->Nat->Prop} {v:Value} {p:PD} {j:Nat} {k:IntKind} {n m:Int} (h:RepD w ok v p) (hj:j < v.cells.size) (hc:v.cells.getD j undef=.int k n):∃ q,shp p q/\RepD w ok (Pv.setCellV v j (.int k m)) q:=by
  by_cases ha:∃ vs,v=.agg vs
  · obtain⟨vs,rfl⟩:=ha
    simp only[Value.cells]at hj hc
    cases h with
    | @agg _ ps hs hr hf =>
      have hjl:j < ps.length:=hs▸hj
      have h1:=hr j hjl
      rw[hc]at h1
      have h2:=h1.int_of
      refine⟨.agg (ps.set j (.int k m)),?_,?_⟩
      · simp only[shp]
        refine⟨_,rfl,wlP (by simp) fun i hi hi'=>?_⟩
        by_cases h:i=j
        · subst h; rw[h2]; simp only[List.getElem_set_self,shp]; exact⟨_,rfl⟩
        · rw[List.getElem_set_ne (Ne.symm h)]; exact shp_refl _
      · simp only[Pv.setCellV]
        have hg:∀ i,i < ps.length->(vs.setIfInBounds j (.int k m)).getD i undef=if i=j then .int k m else vs.getD i undef:=fun i hi=>by
          have hi':i < vs.size:=hs▸hi
          by_cases h:i=j
          · subst h; simp[Array.getD,hi']
          · rw[if_neg h]; simp[Array.getD,hi',Array.getElem_setIfInBounds,Ne.symm h]
        refine .agg (by simp[hs]) (fun i hi=>?_) (fun i hi=>?_)
        · have hi':i < ps.length:=by simpa using hi
          rw[hg i hi']
          by_cases h:i=j
          · subst h; rw[if_pos rfl]; simp only[List.getElem_set_self]; exact .int k m
          · rw[if_neg h,List.getElem_set_ne (Ne.symm h)]; exact hr i hi'
        · have hi':i < ps.length:=by simpa using hi
          rw[hg i hi']
          split
          · rfl
          · exact hf i hi'
  · have hv:v=.int k n:=by
      cases v <;> first | exact absurd ⟨_, rfl⟩ ha | (simp only [Value.cells] at hj hc; have : j = 0 := by (simpa using hj)
                                                      subst this; exact hc)
    subst hv
    have:=h.int_of
    subst this
    exact⟨.int k m,by simp only[shp]; exact⟨_,rfl⟩,.int k m⟩
structure Poked (w w':World) (b p:Nat) (k:IntKind) (n m:Int):Prop where
 was:w.cell? ⟨b,p,none⟩=some (.int k n)
 cell:∀ c o,w'.cell? ⟨c,o,none⟩=if c=b/\o=p then some (.int k m)else w.cell? ⟨c,o,none⟩
 froz:∀ a,w'.frozen? a=w.frozen? a
theorem RepD.poke {w w':World} {b p:Nat} {k:IntKind} {n m:Int} (hp:Poked w w' b p k n m) {ok:Nat->Nat->Prop} {v:Value} {x:PD} (h:RepD w ok v x):∃ y,shp x y/\RepD w' ok v y:=by
 induction h with
 | bool b=>exact⟨_,shp_refl _,.bool b⟩
 | int k n=>exact⟨_,shp_refl _,.int k n⟩
 | str s=>exact⟨_,shp_refl _,.str s⟩
 | nilptr=>exact⟨_,shp_refl _,.nilptr⟩
 | nilslice=>exact⟨_,shp_refl _,.nilslice⟩
 | nilmap=>exact⟨_,shp_refl _,.nilmap⟩
 | nilfunc=>exact⟨_,shp_refl _,.nilfunc⟩
 | niliface=>exact⟨_,shp_refl _,.niliface⟩
 | fn f=>exact⟨_,shp_refl _,.fn f⟩
 | iface t _ ih=>obtain⟨y,h1,h2⟩:=ih; exact⟨.iface t y,by simp only[shp]; exact⟨y,rfl,h1⟩,.iface t h2⟩
 | @agg vs ps hs _ hf ih =>
  classical
  let Y:Nat->PD:=fun i=>if h:i < ps.length then Classical.choose (ih i h)else default
  have hY:∀ i (hi:i < ps.length),shp ps[i] (Y i)/\RepD w' ok (vs.getD i undef) (Y i):=fun i hi=>by
   have:=Classical.choose_spec (ih i hi)
   simpa only[Y,dif_pos hi]using this
  refine⟨.agg ((List.range ps.length).map Y),?_,.agg (by simp[hs]) (fun i hi=>?_) (fun i hi=>hf i (by simpa using hi))⟩
  ·simp only[shp]
   exact⟨_,rfl,wlP (by simp) fun i hi hi'=>by simpa using (hY i hi).1⟩
  ·simpa using (hY i (by simpa using hi)).2
 | imm0 k=>exact⟨_,shp_refl _,.imm0 k⟩
 | @imm a l cap kk els F ha hb hn hcap _ hk hf hc hz ih =>
  classical
  -- the value of an element,with the cell that was written to
  let hit:Nat->Nat->Prop:=fun i j=>a.block=b/\a.off+i*kk+j=p/\j < kk
  let G:Nat->Value:=fun i=>if h:∃ j,hit i j then Pv.setCellV (F i) (Classical.choose h) (.int k m)else F i
  have hG:∀ i (hi:i < els.length),(∃ y,shp els[i] y/\RepD w' ok (G i) y)/\(G i).cells.size=kk/\∀ j,j < kk->(G i).cells.getD j undef=if a.block=b/\a.off+i*kk+j=p then .int k m else (F i).cells.getD j undef:=fun i hi=>by
   obtain⟨y,h1,h2⟩:=ih i hi
   by_cases h:∃ j,hit i j
   ·obtain⟨g1,g2,g3⟩:=Classical.choose_spec h
    have e:G i=Pv.setCellV (F i) (Classical.choose h) (.int k m):=dif_pos h
    rw[e]
    generalize Classical.choose h=j at g1 g2 g3
    have hcj:=hc i hi j g3
    rw[g1,g2,hp.was]at hcj
    have hcj:(F i).cells.getD j undef=.int k n:=by simpa using hcj.symm
    have hjs:j < (F i).cells.size:=by rw[hk i hi]; exact g3
    obtain⟨q,q1,q2⟩:=h2.setCellV (m:=m) hjs hcj
    obtain⟨s1,s2⟩:=wp0 (u:=.int k m) hjs rfl
    refine⟨⟨q,shp_trans h1 q1,q2⟩,s1.trans (hk i hi),fun j' hj'=>?_⟩
    rw[s2 j' (by rw[hk i hi]; exact hj')]
    by_cases hjj:j'=j
    ·subst hjj; rw[if_pos rfl,if_pos ⟨g1,g2⟩]
    ·rw[if_neg hjj,if_neg (fun h=>hjj (by omega))]
   ·have e:G i=F i:=dif_neg h
    rw[e]
    refine⟨⟨y,h1,h2⟩,hk i hi,fun j hj=>?_⟩
    rw[if_neg (fun h'=>h ⟨j,h'.1,h'.2,hj⟩)]
  let Y:Nat->PD:=fun i=>if h:i < els.length then Classical.choose (hG i h).1 else default
  have hY:∀ i (hi:i < els.length),shp els[i] (Y i)/\RepD w' ok (G i) (Y i):=fun i hi=>by
   have:=Classical.choose_spec (hG i hi).1
   simpa only[Y,dif_pos hi]using this
  have hlen:((List.range els.length).map Y).length=els.length:=by simp
  have hne:(List.range els.length).map Y≠[]->els≠[]:=fun h e=>by subst e; simp at h
  refine⟨.imm kk ((List.range els.length).map Y),?_,.imm G (fun h=>ha (hne h)) (fun h=>hb (hne h)) (by rw[hlen]; exact hn) hcap (fun i hi=>?_) (fun i hi=>(hG i (hlen▸hi)).2.1) (fun i hi j hj=>?_) (fun i hi j hj=>?_) (fun i hi j hj hu=>?_)⟩
  ·simp only[shp]
   exact⟨_,rfl,wlP (by simp) fun i hi hi'=>by simpa using (hY i hi).1⟩
  ·simpa using (hY i (hlen▸hi)).2
  ·rw[(hG i (hlen▸hi)).2.2 j hj]
   split
   ·rfl
   ·exact hf i (hlen▸hi) j hj
  ·rw[(hG i (hlen▸hi)).2.2 j hj,hp.cell]
   split
   ·rfl
   ·exact hc i (hlen▸hi) j hj
  ·rw[hp.froz]
   refine hz i (hlen▸hi) j hj ?_
   rw[(hG i (hlen▸hi)).2.2 j hj]at hu
   split at hu
   ·rename_i hh
    have:=hc i (hlen▸hi) j hj
    rw[hh.1,hh.2,hp.was]at this
    have:(F i).cells.getD j undef=.int k n:=by simpa using this.symm
    rw[this]
    cases k <;> simp_all [wsi]
   ·exact hu
end Go.Pv

namespace Go.Pv
mutual
def sizD (f:Nat->Bool):PD->Bool
 | .imm _ []=>true
 | .imm k (x::l)=>f k&&sizD f x&&sizL f l
 | .agg l=>sizL f l
 | .iface _ v=>sizD f v
 | _=>true
def sizL (f:Nat->Bool):List PD->Bool
 | []=>true
 | x::l=>sizD f x&&sizL f l
end
theorem wmF {f:Nat->Bool}:∀ {l:List PD},sizL f l=true->∀ i (hi:i < l.length),sizD f l[i]=true
 | [],_,i,hi=>by simp at hi
 | x::l,h,0,_=>by simp only[sizL,Bool.and_eq_true]at h; exact h.1
 | x::l,h,i+1,hi=>by simp only[sizL,Bool.and_eq_true]at h; simpa using wmF h.2 i (by simpa using hi)
theorem wqW {g:Nat->Bool} {α:Type} {f:α->PD} (h:∀ a,sizD g (f a)=true):∀ l:List α,sizL g (wab f l)=true
 | []=>rfl
 | a::l=>by
  have:=wqW h l
  simp only[wab,List.map_cons,sizL,Bool.and_eq_true]at this ⊢
  exact⟨h a,this⟩
theorem wju {g:Nat->Bool} {α:Type} {f:α->PD} {k:Nat} (hk:g k=true) (h:∀ a,sizD g (f a)=true) (l:List α):sizD g (.imm k (wab f l))=true:=by
 cases l with
 | nil=>rfl
 | cons a l =>
  have:=wqW h l
  simp only[wab]at this
  simp only[wab,List.map_cons,sizD,Bool.and_eq_true,hk,h a,this,and_self]
theorem wsa {g:Nat->Bool}:∀ {x:PD},noRef x=true->sizD g x=true:=by
 intro x
 refine PD.rec (motive_1:=fun x=>noRef x=true->sizD g x=true) (motive_2:=fun l=>noRefL l=true->sizL g l=true) ?_ ?_ ?_ ?_ ?_ ?_ ?_ ?_ ?_ ?_ ?_ ?_ ?_ ?_ x
 all_goals intros
 all_goals first | rfl | skip
 ·rename_i k l _ h
  cases l with
  | nil=>rfl
  | cons a l=>simp[noRef]at h
 ·rename_i t v ih h; simp only[noRef]at h; simp only[sizD]; exact ih h
 ·rename_i l ih h; simp only[noRef]at h; simp only[sizD]; exact ih h
 ·rename_i x l ih1 ih2 h; simp only[noRefL,Bool.and_eq_true]at h; simp only[sizL,Bool.and_eq_true]; exact⟨ih1 h.1,ih2 h.2⟩
theorem RepD.siz {w:World} {ok:Nat->Nat->Prop} {f:Nat->Bool} {v:Value} {x:PD} (h:RepD w ok v x):sizD f x=true->RepD w (fun b k=>ok b k/\f k=true) v x:=by
 induction h with
 | bool b=>intro _; exact .bool b
 | int k n=>intro _; exact .int k n
 | str s=>intro _; exact .str s
 | nilptr=>intro _; exact .nilptr
 | nilslice=>intro _; exact .nilslice
 | nilmap=>intro _; exact .nilmap
 | nilfunc=>intro _; exact .nilfunc
 | niliface=>intro _; exact .niliface
 | fn f=>intro _; exact .fn f
 | iface t _ ih=>intro h; simp only[sizD]at h; exact .iface t (ih h)
 | agg hs _ hf ih=>intro h; simp only[sizD]at h; exact .agg hs (fun i hi=>ih i hi (wmF h i hi)) hf
 | imm0 k=>intro _; exact .imm0 k
 | @imm a n cap k els F ha hb hn hcap hr hk hf hc hz ih =>
  intro h
  cases els with
  | nil=>exact .imm F (fun h=>absurd rfl h) (fun h=>absurd rfl h) hn hcap (fun i hi=>by simp at hi) (fun i hi=>by simp at hi) (fun i hi=>by simp at hi) (fun i hi=>by simp at hi) (fun i hi=>by simp at hi)
  | cons x l =>
   simp only[sizD,Bool.and_eq_true]at h
   obtain⟨⟨h1,h2⟩,h3⟩:=h
   have hall:sizL f (x::l)=true:=by simp only[sizL,Bool.and_eq_true]; exact⟨h2,h3⟩
   exact .imm F ha (fun hne=>⟨hb hne,h1⟩) hn hcap (fun i hi=>ih i hi (wmF hall i hi)) hk hf hc hz
theorem woE:∀ l:List Int,noRefL (l.map (PD.int .u64))=true
 | []=>rfl
 | a::l=>by simp only[List.map_cons,noRefL,noRef,woE l,Bool.and_self]
def wnx (G:List (Nat×PD)):Prop:=∀ g x,(g,x)∈G->noRef x=true
def wny:PD->Bool
 | .nilslice=>true
 | .imm _ _=>true
 | _=>false
theorem wsb (k:Nat) (l:List PD):wny (wfE k l)=true:=by cases l <;> rfl
theorem wtY {w:World} {ok:Nat->Nat->Prop} {v:Value} {x:PD} (h:RepD w ok v x) (hx:wny x=true):∃ l,hdr l=v:=by
 cases h with
 | nilslice=>exact⟨[],rfl⟩
 | imm0=>exact⟨[],rfl⟩
 | @imm a n cap k els F ha hb hn hcap _ hk hf hc =>
  obtain⟨b,o,s⟩:=a
  cases s with
  | none=>exact⟨[.int .i64 b,.int .i64 o,.int .i64 n,.int .i64 cap,.int .i64 0],by simp[hdr]⟩
  | some s=>exact⟨[.int .i64 b,.int .i64 o,.int .i64 n,.int .i64 cap,.int .i64 (s+1)],by simp[hdr]; omega⟩
 | _=>simp[wny]at hx
theorem ws2 (l:List PD):flat (hdr l)=true:=by
 unfold hdr; split <;> rfl
section
variable {P:Program} {G:List (Nat×PD)} {ro:Option Nat} {N:Nat} {σ:St} {B:Base P} {a:Act} {w:World} {φ:Nm}
theorem Rep.part (hr:Rep G B N σ a w φ) {l:Nat} {m:PD} {ys:List PD} {c:Bool} (hg:σ.gh=some (l,[],m::ys,c)):B.fr=true/\J0 ys (B.mine φ σ.heap) φ.T w:=by
 have h:=hr.inv
 rw[hg]at h
 rcases h with h | ⟨h1,_,m',ys',h2,h3⟩
 ·have:=h.2.1 rfl; cases this
 ·simp only[List.cons.injEq]at h2; obtain⟨rfl,rfl⟩:=h2; exact⟨h1,h3⟩
theorem OpT.callCore {o:Oper} {c:Call} {f:FuncId} {args:List PV} {res:PV} {K:St->Prop} (ho:o.op=.call c) (hc:c.callee=.value (.func f)) (hcal:wbd P f=true)
  (hf:PureFn P G f args res) (hlen:c.args.toList.length=args.length)
  (ha:∀ (B:Base P) a w φ,Rep G B N σ a w φ->∀ i (hi:i < args.length),RepV w (fun b kk=>B.X b kk\/own φ σ.heap b) Nm.no [] ((c.args.toList.map a.eval).getD i undef) args[i])
  (hd:wao N o.dst) (hK:K (σ.put o.dst res)) (hres:dOnly res):OpT P G ro N o σ K:=by
 intro B hro a w φ hr next Q hn
 have hlt:∀ b,own φ σ.heap b->b < w.heap.size:=fun _=>hr.heap.own_lt
 have hsit:Sit G (B.callee w φ σ.heap hr.keeps.size hlt) w Nm.no [] none:=by
  refine⟨⟨fun r x b h=>by simp[waa]at h,fun r x h=>by simp[waa]at h,fun r s x y b h=>by simp[waa]at h,fun b h=>h.elim⟩,.refl _ _,fun r x b h=>by simp[waa]at h,fun r x h=>by simp[waa]at h,fun r x b h=>by simp[waa]at h,fun g x hm=>?_,fun b h=>h.elim,fun b h=>h⟩
  obtain⟨cs,e,f,v,h5,h6,h7,h8,h9⟩:=hr.glob g x hm
  refine⟨cs,e,f,v,h5,wgt g,h7.mono (fun b k hb=>⟨hb.1,fun h=>h.elim hb.2.1 hb.2.2,wgt b⟩) (fun _ _ _=>rfl),h8,h9.1,fun h=>h.elim h9.2 h6⟩
 have hcall:=hf (B.callee w φ σ.heap hr.keeps.size hlt) Nm.no (c.args.toList.map a.eval) rfl (by simpa using hlen) (fun i hi=>ha B a w φ hr i hi) hsit
 have hrun:(o.semAt ro a.eval).run P w=.ok (.enter f (c.args.toList.map a.eval).toArray) w:=by
  rw[Oper.semAt_eq _ _ _ (fun c hc=>by rw[ho]at hc; cases hc)]
  have e1:(c.args.toList.map a.eval).toArray=c.args.map a.eval:=by rw[<-Array.toList_map]
  have e2:(#[]++c.args.map a.eval++#[]:Array Value)=c.args.map a.eval:=by simp
  simp only[execOp,ho,resolve,hc,Act.eval,Deferred.ofValue,Sem.run_bind,Sem.run_pure,Result.andThen_ok,invoke,e1,e2]
  exact weD hcal _ w
 refine⟨fun _ _=>trivial,?_⟩
 show o.uponIn (Fw ro) 0 P a next Q ((o.semAt ro a.eval).run P w)
 rw[hrun]
 refine⟨fun h=>(by cases h),?_⟩
 refine CallsIn.mono (R:=fun e w'=>∃ v p H' g' φ',e=.returned v/\(p=res/\H'=[])/\RepV w' (B.callee w φ σ.heap hr.keeps.size hlt).X φ' H' v p/\Sit G (B.callee w φ σ.heap hr.keeps.size hlt) w' φ' H' g') hcall ?_
 rintro e w' ⟨v,p,H',g',φ',rfl,⟨rfl,rfl⟩,h5,h6⟩
 have hrep:=hr.after_pure h6
 refine hn _ _ _ φ hK (hrep.put hd ?_)
 have key:∀ {v:Value} {p:PV},RepV w' (B.callee w φ σ.heap hr.keeps.size hlt).X φ' [] v p->dOnly p->RepV w' B.X φ σ.heap v p:=by
  intro v p hv
  induction hv with
  | any v=>intro _; exact .any v
  | val hf=>intro _; exact .val hf
  | d h=>intro _; exact .d (h.mono (fun b kk hb=>⟨hb.1,fun h=>hb.2.1 (.inl h),fun h=>hb.2.1 (.inr h)⟩) (fun _ _ _=>rfl))
  | b h=>intro h0; simp[dOnly]at h0
  | ptr h1=>simp[waa]at h1
  | mp h1=>simp[waa]at h1
  | dptr h hi=>intro _; exact .dptr (h.mono (fun b kk hb=>⟨hb.1,fun h=>hb.2.1 (.inl h),fun h=>hb.2.1 (.inr h)⟩) (fun _ _ _=>rfl)) hi
  | bptr h hi=>intro h0; simp[dOnly]at h0
  | glob g=>intro _; exact .glob g
  | slc h1=>simp[waa]at h1
  | slc0 h1=>simp[waa]at h1
  | func hs _ ih=>intro h0; simp only[dOnly]at h0; exact .func hs fun i hi=>ih i hi (wdw h0 i hi)
  | agg hs _ hf ih=>intro h0; simp only[dOnly]at h0; exact .agg hs (fun i hi=>ih i hi (wdw h0 i hi)) hf
  | tuple hs _ ih=>intro h0; simp only[dOnly]at h0; exact .tuple hs fun i hi=>ih i hi (wdw h0 i hi)
 exact key h5 hres
theorem wmG {X:Nat->Nat->Prop} {H:wac} {v u:Value} (h:RepV w X φ H v (.val u)):v=u:=by cases h; rfl
def wsc (σ:St) (p q:PV):Prop:=wmN σ.heap p q\/∃ l m x h c y,σ.gh=some (l,[],m::x::h,c)/\p=.val (hdr h)/\q=.b y/\leD x y
def wlQ (σ:St):List PV->List PV->Prop
 | [],[]=>True
 | p::l,q::m=>wsc σ p q/\wlQ σ l m
 | _,_=>False
theorem wmg {σ:St}:∀ {l m:List PV},wlQ σ l m->l.length=m.length/\∀ i (hi:i < l.length) (hi':i < m.length),wsc σ l[i] m[i]
 | [],[],_=>⟨rfl,fun i hi=>by simp at hi⟩
 | p::l,q::m,h=>by
  obtain⟨h1,h2⟩:=wmg h.2
  refine⟨by simp[h1],fun i hi hi'=>?_⟩
  cases i with
  | zero=>exact h.1
  | succ i=>simpa using h2 i (by simpa using hi) (by simpa using hi')
 | [],_::_,h=>h.elim
 | _::_,[],h=>h.elim
theorem OpT.callF {o:Oper} {c:Call} {f:FuncId} {args:List PV} {res:PV} {K:St->Prop} (ho:o.op=.call c) (hc:c.callee=.value (.func f)) (hcal:wbd P f=true)
  (hf:PureFn P G f args res) (ha:wlQ σ (wau σ c.args.toList) args) (hd:wao N o.dst) (hK:K (σ.put o.dst res)) (hres:dOnly res):OpT P G ro N o σ K:=by
 obtain⟨h1,h2⟩:=wmg ha
 have hll:∀ l:List Operand,(wau σ l).length=l.length:=fun l=>by induction l with
  | nil=>rfl
  | cons x l ih=>simp only[wau,List.length_cons,ih]
 refine OpT.callCore ho hc hcal hf ((hll _).symm.trans h1) (fun B a w φ hr i hi=>?_) hd hK hres
 obtain⟨h3,h4⟩:=weQ hr c.args.toList
 have hv:=h4 i (h1▸hi)
 rcases h2 i (h1▸hi) hi with h | ⟨l,m,x,h,c',y,hg,hp,hq,hle⟩
 ·exact wmn hr hv h
 ·rw[hp]at hv
  rw[hq]
  have hj:=(hr.part hg).2
  have hd:=hj.2 x h rfl
  rw[wmG hv]
  exact .b ((hd.le hle).mono (fun b kk hb=>⟨(hj.1 b hb).1,wgt b⟩) (fun _ _ _=>rfl))
def wlR (f:Nat->Bool):PV->Bool
 | .any=>true
 | .b _=>true
 | .d x=>sizD f x
 | _=>false
def Base.fresh (P:Program) (f:Nat->Bool) (w:World):Base P :=
  { w0:=w,X:=fun b k=>b < w.heap.size/\f k=false,hX:=fun _ _ h=>h.1,o0:=fun _=>False,φ0:=fun _=>none,z0:=csz w,ro:=none,held:=[],hheld:=fun _=>rfl,J:=fun _ _ _ _=>True,stab:=fun _ _ _ _ _ _ _ _ _ _ _ _ _=>trivial,y:=none,yok:=fun _ _ h=>by cases h }
theorem RepV.rebase {X:Nat->Nat->Prop} {f:Nat->Bool} {v:Value} {q:PV} (h:RepV w X Nm.no [] v q) (hq:wlR f q=true):RepV w (Base.fresh P f w).X Nm.no [] v q:=by
 cases h with
 | any v=>exact .any v
 | b h=>exact .b h
 | d h=>simp only[wlR]at hq; exact .d ((h.siz hq).mono (fun b k hb=>⟨hb.1.1,fun h=>(by have:=h.2; rw[hb.2]at this; cases this),hb.1.2.2⟩) (fun _ _ _=>rfl))
 | _=>simp[wlR]at hq
theorem OpT.fresh {o:Oper} {c:Call} {f:FuncId} {args:List PV} {x:PD} {zs:List PD} {l0:Nat} {m:PD} {ys:List PD} {d0:Bool} {K:St->Prop} (j:Nat) (s:Nat->Bool) (hs0:s 0=true) (hG:∀ g z,(g,z)∈G->sizD s z=true) (hgh:σ.gh=some (l0,[],m::ys,d0))
  (ho:o.op=.call c) (hc:c.callee=.value (.func f)) (hcal:wbd P f=true) (hf:PureFn P G f args (.tuple (zs.map .d))) (hj:zs[j]? = some x) (ha:wdD σ.heap (wau σ c.args.toList) args) (hb:args.all (wlR s)=true)
  (hx:wny x=true) (hav:sizD (fun k=>!s k) x=true) (hy:∀ i,i≠j->∀ z,zs[i]? = some z->noRef z=true) (hd:wao N o.dst) (hK:∀ h,K (({ σ with gh:=some (l0,[],m::x::h,d0) }:St).put o.dst (.tuple ((zs.map .d).set j (.val (hdr h)))))):OpT P G ro N o σ K:=by
 intro B hro a w φ hr next Q hn
 obtain⟨h1,h2⟩:=wjF ha
 obtain⟨h3,h4⟩:=weQ hr c.args.toList
 have hsit:Sit G (Base.fresh P s w) w Nm.no [] none:=by
  refine⟨⟨fun r x b h=>by simp[waa]at h,fun r x h=>by simp[waa]at h,fun r s x y b h=>by simp[waa]at h,fun b h=>h.elim⟩,.refl _ _,fun r x b h=>by simp[waa]at h,fun r x h=>by simp[waa]at h,fun r x b h=>by simp[waa]at h,fun g x hm=>?_,fun b h=>h.elim,fun b h=>h⟩
  obtain⟨cs,e,f,v,h5,h6,h7,h8,h9⟩:=hr.glob g x hm
  exact⟨cs,e,f,v,h5,wgt g,(h7.siz (hG g x hm)).mono (fun b k hb=>⟨hb.1.1,fun h=>(by have:=h.2; rw[hb.2]at this; cases this),wgt b⟩) (fun _ _ _=>rfl),h8,h9.1,fun h=>by have:=h.2; rw[hs0]at this; cases this⟩
 have hcall:=hf (Base.fresh P s w) Nm.no (c.args.toList.map a.eval) rfl (h3.trans h1) (fun i hi=>(wmn hr (h4 i (h1▸hi)) (h2 i (h1▸hi) hi)).rebase (List.all_eq_true.1 hb _ (List.getElem_mem hi))) hsit
 have hrun:(o.semAt ro a.eval).run P w=.ok (.enter f (c.args.toList.map a.eval).toArray) w:=by
  rw[Oper.semAt_eq _ _ _ (fun c hc=>by rw[ho]at hc; cases hc)]
  have e1:(c.args.toList.map a.eval).toArray=c.args.map a.eval:=by rw[<-Array.toList_map]
  have e2:(#[]++c.args.map a.eval++#[]:Array Value)=c.args.map a.eval:=by simp
  simp only[execOp,ho,resolve,hc,Act.eval,Deferred.ofValue,Sem.run_bind,Sem.run_pure,Result.andThen_ok,invoke,e1,e2]
  exact weD hcal _ w
 refine⟨fun _ _=>trivial,?_⟩
 show o.uponIn (Fw ro) 0 P a next Q ((o.semAt ro a.eval).run P w)
 rw[hrun]
 refine⟨fun h=>(by cases h),?_⟩
 refine CallsIn.mono (R:=fun e w'=>∃ v p H' g' φ',e=.returned v/\(p=PV.tuple (zs.map .d)/\H'=[])/\RepV w' (Base.fresh P s w).X φ' H' v p/\Sit G (Base.fresh P s w) w' φ' H' g') hcall ?_
 rintro e w' ⟨v,p,H',g',φ',rfl,⟨rfl,rfl⟩,h5,h6⟩
 have hk:=h6.keeps
 have hblk:∀ b,b < w.heap.size->w'.heap[b]? = w.heap[b]?:=fun b h=>hk.block b h (fun h=>h)
 have hsz:w.heap.size<=w'.heap.size:=hk.size
 cases h5 with
 | @tuple vs _ hs hr2 =>
  obtain⟨hjl,hjx⟩:=List.getElem?_eq_some_iff.1 hj
  have hz0:∀ i (hi:i < zs.length),RepD w' (okd w' (Base.fresh P s w).X φ' []) (vs.getD i undef) zs[i]:=fun i hi=>by
   have:=hr2 i (by simpa using hi)
   simp only[List.getElem_map]at this
   exact waR this
  have hx0:RepD w' (okd w' (Base.fresh P s w).X φ' []) (vs.getD j undef) x:=hjx▸hz0 j hjl
  have hx1:RepD w' (fun b _=>w.heap.size<=b/\b < w'.heap.size) (vs.getD j undef) x:=by
   refine(hx0.siz hav).mono (fun b k hb=>⟨?_,hb.1.1⟩) (fun _ _ _=>rfl)
   by_cases h:w.heap.size<=b
   ·exact h
   ·exact absurd ⟨Nat.lt_of_not_le h,by simpa using hb.2⟩ hb.1.2.1
  obtain⟨hh,hhv⟩:=wtY hx1 hx
  let φ2:Nm:=⟨φ.f,fun b=>φ.T b\/(w.heap.size<=b/\b < w'.heap.size)⟩
  have hrowlt:∀ b,waD φ2 σ.heap b->b < w.heap.size:=fun b ⟨r,x,g1,g2⟩=>hr.heap.lt g1 g2
  have hown:∀ b,b < w.heap.size->own φ2 σ.heap b->own φ σ.heap b:=fun b hb h=>h.elim .inl (fun h=>h.elim .inr (fun h=>by omega))
  have hrb:∀ r x b,waa σ.heap r=some x->φ r=some b->w'.heap[b]? = w.heap[b]?:=fun r x b g1 g2=>hblk b (hr.heap.lt g1 g2)
  have hext:Ext w B.X φ σ.heap w' φ2 σ.heap:=⟨fun r x h=>⟨x,h,rfl,fun _=>rfl,rfl⟩,fun b kk h=>⟨Nat.lt_of_lt_of_le h.1 hsz,h.2.1,fun ho=>h.2.2 (hown b h.1 ho)⟩,fun b kk h=>⟨Nat.lt_of_lt_of_le h.1 hsz,fun ho=>h.2 (hown b h.1 ho)⟩,
   fun b kk h=>hblk b h.1,fun r x b g1 g2 c e f hh=>⟨c,e,f,(hrb r x b g1 g2)▸hh,rfl⟩⟩
  have hfar:∀ b,φ2.T b->b < w'.heap.size/\(∀ kk,¬ B.X b kk)/\¬ waD φ2 σ.heap b:=fun b hb=>by
   rcases hb with hb | hb
   ·obtain⟨g1,g2,g3⟩:=hr.heap.far b hb
    exact⟨Nat.lt_of_lt_of_le g1 hsz,g2,g3⟩
   ·exact⟨hb.2,fun kk hX=>by have:=B.hX b _ hX; have:=hr.keeps.size; omega,fun h=>by have:=hrowlt b h; omega⟩
  have hrep:Rep G B N { σ with gh:=some (l0,[],m::x::hh,d0) } a w' φ2:=by
   refine⟨hr.size,fun t=>(hr.env t).ext hext,⟨fun r x b g1 g2=>(hr.heap.rows r x b g1 g2).ext hext (hrb r x b g1 g2),hr.heap.void,hr.heap.inj,hfar⟩,
    hr.keeps.trans ⟨hk.os,hk.tape,hk.output,hk.size,fun b hb _=>hblk b hb⟩,hr.new,hr.pins,fun r x b g1 g2 g3=>(wel (hrb r x b g1 g3)).trans (hr.psz r x b g1 g2 g3),hr.glob.ext hext (fun n z hm=>?_),fun b hb=>?_,?_,?_⟩
   ·obtain⟨c,e,f,v,g1,g2,_⟩:=hr.glob n z hm
    exact fun ho=>g2 (hown n (Array.getElem?_eq_some_iff.1 g1).1 ho)
   ·rcases hb with hb | hb
    ·exact hr.tnew b hb
    ·exact .inr (Nat.le_trans hr.keeps.size hb.1)
   ·obtain⟨q1,_⟩:=hr.part hgh
    refine .inr ⟨q1,rfl,m,x::hh,rfl,fun b hb=>⟨(hfar b hb).1,fun kk hm=>hm.elim ((hfar b hb).2.1 kk) (hfar b hb).2.2⟩,fun x' h' e=>?_⟩
    simp only[List.cons.injEq]at e
    obtain⟨rfl,rfl⟩:=e
    rw[hhv]
    exact hx1.mono (fun b k hb=>.inr hb) (fun _ _ _=>rfl)
   ·exact(hr.dfr.ext hext).wide fun D hD=>absurd hD.1 (by rw[hgh]; simp)
  refine hn _ _ _ φ2 (hK hh) (hrep.put hd (.tuple (by simpa using hs) (fun i hi=>?_)))
  have hi':i < zs.length:=by simpa using hi
  by_cases hij:i=j
  ·subst hij
   simp only[List.getElem_set_self]
   rw[<-hhv]; exact .val (ws2 hh)
  ·rw[List.getElem_set_ne (Ne.symm hij)]
   simp only[List.getElem_map]
   exact .d ((hz0 i hi').noRef (hy i hij _ (List.getElem?_eq_getElem hi')))
def Base.part (B:Base P):Base P:={ B with fr:=true }
theorem PureFn.introF {f:FuncId} {fn:Func} {c:Code} {args:List PV} {x:PD} (hx:noRef x=true) (hf:P.funcs[f]? = some fn) (hb:fn.body=some c) (hN:args.length<=fn.ntmps)
  (h:AWp P G none fn.ntmps c ⟨wcm 0 args,[],[],some (0,[],[.nilptr],true)⟩ (Fin P G fn fun p H=>∃ u,frzT H p=some u/\leV u (.d x))):PureFn P G f args (.d x):=by
 intro B φ vs h0 h1 h2 h3
 have hT:∀ b,¬ φ.T b:=h3.inv
 have h3':Sit G B.part B.w0 φ [] (some (0,[],[.nilptr],true)) :=
  ⟨h3.heap,h3.keeps,h3.new,h3.pins,h3.psz,h3.glob,h3.tnew,.inr ⟨rfl,rfl,.nilptr,[],rfl,fun b hb=>absurd hb (hT b),fun x h e=>by cases e⟩⟩
 refine(FnG.intro hf hb hN h B.part φ vs h0 h1 h2 h3').mono ?_
 rintro e w' ⟨v,p,H',g',φ',he,⟨u,hu,hle⟩,hv,hs⟩
 have hd:=(wlx hs.heap hv hu).le hle
 have hs:=hs.drop
 have hno:∀ b,¬ own (⟨φ'.f,fun _=>False⟩:Nm) [] b:=fun b h=>h.elim (wjb b) id
 refine⟨v,.d x,[],none,⟨φ'.f,fun _=>False⟩,he,⟨rfl,rfl⟩,.d ((waR hd).noRef hx),⟨⟨fun r x b h=>by simp[waa]at h,fun r x h=>by simp[waa]at h,fun r s x y b h=>by simp[waa]at h,fun b h=>h.elim⟩,hs.keeps,fun r x b h=>by simp[waa]at h,fun r x h=>by simp[waa]at h,fun r x b h=>by simp[waa]at h,fun g x hm=>?_,fun b h=>h.elim,fun b h=>h⟩⟩
 obtain⟨cs,e,f,v,h5,h6,h7,h8,h9⟩:=hs.glob g x hm
 exact⟨cs,e,f,v,h5,hno g,h7.mono (fun b k hb=>⟨hb.1,hb.2.1,hno b⟩) (fun _ _ _=>rfl),h8,h9⟩
def wrt:List PV->List PV->Prop
 | [],[]=>True
 | p::l,q::m=>(q=p\/∃ x,p=.d x/\q=.b x)/\wrt l m
 | _,_=>False
theorem wmH:∀ {l m:List PV},wrt l m->l.length=m.length/\∀ i (hi:i < l.length) (hi':i < m.length),m[i]=l[i]\/∃ x,l[i]=.d x/\m[i]=.b x
 | [],[],_=>⟨rfl,fun i hi=>by simp at hi⟩
 | p::l,q::m,h=>by
  obtain⟨h1,h2⟩:=wmH h.2
  refine⟨by simp[h1],fun i hi hi'=>?_⟩
  cases i with
  | zero=>exact h.1
  | succ i=>simpa using h2 i (by simpa using hi) (by simpa using hi')
 | [],_::_,h=>h.elim
 | _::_,[],h=>h.elim
def wp1:List PV->Bool
 | []=>true
 | .d _::l=>wp1 l
 | _=>false
theorem wmI:∀ {l:List PV},wp1 l=true->∀ i (hi:i < l.length),∃ x,l[i]=.d x
 | [],_,i,hi=>by simp at hi
 | p::l,h,i,hi=>by
  cases p <;> simp only[wp1,Bool.false_eq_true]at h
  cases i with
  | zero=>exact⟨_,rfl⟩
  | succ i=>simpa using wmI h i (by simpa using hi)
def Base.bare (B:Base P):Base P:={ B with X:=fun _ _=>False,hX:=fun _ _ h=>h.elim,J:=fun _ _ _ _=>True,stab:=fun _ _ _ _ _ _ _ _ _ _ _ _ _=>trivial,fr:=false,y:=none,yok:=fun _ _ h=>by cases h }
theorem Sit.bare {H:wac} (hs:Sit G B w φ [] none):Sit G B.bare w φ [] none:=by
 refine⟨⟨fun r x b h=>by simp[waa]at h,fun r x h=>by simp[waa]at h,fun r s x y b h=>by simp[waa]at h,fun b h=>⟨(hs.heap.far b h).1,fun _ h=>h,(hs.heap.far b h).2.2⟩⟩,hs.keeps,fun r x b h=>by simp[waa]at h,fun r x h=>by simp[waa]at h,fun r x b h=>by simp[waa]at h,fun g x hm=>?_,hs.tnew,hs.inv⟩
 obtain⟨cs,e,f,v,h5,h6,h7,h8,h9⟩:=hs.glob g x hm
 exact⟨cs,e,f,v,h5,h6,h7.mono (fun b k hb=>⟨hb.1,fun h=>h,hb.2.2⟩) (fun _ _ _=>rfl),h8,h9.1,fun h=>h⟩
theorem PureFn.bor (hG:wnx G) {f:FuncId} {args args':List PV} {x:PD} (h:PureFn P G f args (.d x)) (hx:noRef x=true) (hd:wp1 args=true) (hb:wrt args args'):PureFn P G f args' (.d x):=by
 intro B φ vs h0 h1 h2 h3
 obtain⟨hl,hg⟩:=wmH hb
 have hT:∀ b,¬ φ.T b:=h3.inv
 refine(h B.bare φ vs h0 (h1.trans hl.symm) (fun i hi=>?_) (Sit.bare (H:=[]) h3)).mono ?_
 ·have h4:=h2 i (hl▸hi)
  obtain⟨z,hz⟩:=wmI hd i hi
  rw[hz]
  rcases hg i hi (hl▸hi)with e | ⟨y,e1,e2⟩
  ·rw[e,hz]at h4
   exact .d ((waR h4).mono (fun b k hb=>⟨hb.1,fun h=>h,hb.2.2⟩) (fun _ _ _=>rfl))
  ·rw[hz]at e1
   simp only[PV.d.injEq]at e1; subst e1
   rw[e2]at h4
   exact .d ((wh7 h4).mono (fun b k hb=>⟨hb.1,fun h=>h,hb.2⟩) (fun _ _ _=>rfl))
 ·rintro e w' ⟨v,p,H',g',φ',he,⟨rfl,rfl⟩,hv,hs⟩
  have hno:∀ b,¬ own (⟨φ'.f,fun _=>False⟩:Nm) [] b:=fun b h=>h.elim (wjb b) id
  refine⟨v,.d x,[],none,⟨φ'.f,fun _=>False⟩,he,⟨rfl,rfl⟩,.d ((waR hv).noRef hx),⟨⟨fun r x b h=>by simp[waa]at h,fun r x h=>by simp[waa]at h,fun r s x y b h=>by simp[waa]at h,fun b h=>h.elim⟩,hs.keeps,fun r x b h=>by simp[waa]at h,fun r x h=>by simp[waa]at h,fun r x b h=>by simp[waa]at h,fun g x hm=>?_,fun b h=>h.elim,fun b h=>h⟩⟩
  obtain⟨cs,e,f,v,h5,h6,h7,h8,h9⟩:=hs.glob g x hm
  obtain⟨cs',e',f',v',k5,k6,k7,k8,k9⟩:=h3.glob g x hm
  exact⟨cs,e,f,v,h5,hno g,h7.noRef (hG g x hm),h8,h9.1,k9.2⟩
end
end Go.Pv

namespace Go.Pv
def AWpB {P:Program} (B:Base P) (G:List (Nat×PD)) (N:Nat) (c:Code) (σ:St) (Q:Post):Prop :=
 ∀ a w φ,Rep G B N σ a w φ->∀ (Q':Exit->Act->World->Prop),(∀ e σ' a' w' φ',Q e σ'->Rep G B N σ' a' w' φ'->Q' e a' w')->c.wpIn (Fw B.ro) 0 P Q' a w
def AOpsB {P:Program} (B:Base P) (G:List (Nat×PD)) (N:Nat) (ops:Array Oper) (l:List Oper) (σ:St) (Q:St->Prop):Prop :=
 ∀ a w φ,Rep G B N σ a w φ->∀ (Q':Exit->Act->World->Prop),(∀ σ' a' w' φ',Q σ'->Rep G B N σ' a' w' φ'->Q' .normal a' w')->wpL (Fw B.ro) 0 P ops Q' l a w
def wtZ {P:Program} (B:Base P) (G:List (Nat×PD)) (N:Nat) (o:Oper) (σ:St) (K:St->Prop):Prop :=
 ∀ a w φ,Rep G B N σ a w φ->∀ (next:Act->World->Prop) (Q:Exit->Act->World->Prop),
  (∀ σ' a' w' φ',K σ'->Rep G B N σ' a' w' φ'->next a' w')->o.wpIn (Fw B.ro) 0 P a w next Q
section
variable {P:Program} {B:Base P} {G:List (Nat×PD)} {N:Nat} {σ τ:St} {ops:Array Oper}
theorem AWpB.of {c:Code} {Q:Post} (h:AWp P G B.ro N c σ Q):AWpB B G N c σ Q:=fun a w φ hr Q' hq=>h B rfl a w φ hr Q' hq
theorem AWpB.sub {c:Code} {Q:Post} (hs:Sub G N σ τ) (h:AWpB B G N c τ Q):AWpB B G N c σ Q :=
 fun a w φ hr Q' hq=>let ⟨φ',h1⟩:=hs P B a w φ hr; h a w φ' h1 Q' hq
theorem AWpB.mono {c:Code} {Q Q':Post} (h:AWpB B G N c σ Q) (hq:∀ e σ,Q e σ->Q' e σ):AWpB B G N c σ Q' :=
 fun a w φ hr R hR=>h a w φ hr R fun e σ' a' w' φ' h1 h2=>hR e σ' a' w' φ' (hq _ _ h1) h2
theorem AWpB.seq {x y:Code} {Q:Post} (K:St->Prop) (h:AWpB B G N x σ (Post.then K Q)) (h2:∀ σ,K σ->AWpB B G N y σ Q):AWpB B G N (.seq x y) σ Q:=by
 intro a w φ hr Q' hq
 refine wpIn_seq (h a w φ hr _ fun e σ' a' w' φ' h1 hr'=>?_)
 cases e with
 | normal=>exact h2 _ h1 a' w' φ' hr' Q' hq
 | _=>exact hq _ _ _ _ _ h1 hr'
theorem AWpB.cond {c:Operand} {x y:Code} {Q:Post} {b:Bool} (hc:σ.eval c=.d (.bool b)) (h1:b=true->AWpB B G N x σ Q) (h2:b=false->AWpB B G N y σ Q):AWpB B G N (.cond c x y) σ Q:=by
 intro a w φ hr Q' hq
 have hv:=hr.eval c
 rw[hc]at hv
 exact wpIn_cond_split (wem hv) (fun h=>h1 h a w φ hr Q' hq) (fun h=>h2 h a w φ hr Q' hq)
theorem AWpB.block {id:Nat} {c:Code} {Q:Post} (h:AWpB B G N c σ (Post.inBlock id Q)):AWpB B G N (.block id c) σ Q:=by
 intro a w φ hr Q' hq
 refine wpIn_block (h a w φ hr _ fun e σ' a' w' φ' h1 h2=>?_)
 cases e with
 | exit j =>
  simp only[Post.inBlock]at h1
  simp only[Exit.inBlock]
  split
  ·rename_i h; rw[if_pos h]at h1; exact hq _ _ _ _ _ h1 h2
  ·rename_i h; rw[if_neg h]at h1; exact hq _ _ _ _ _ h1 h2
 | _=>exact hq _ _ _ _ _ h1 h2
theorem AWpB.loopI {ι:Type} {c:Code} {Q:Post} (T:ι->St) (p:ι->Prop) (μ:ι->Nat) (i0:ι) (h0:p i0) (hs:Sub G N σ (T i0))
  (h:∀ i,p i->AWpB B G N c (T i) (Post.then (fun σ'=>∃ i',p i'/\μ i' < μ i/\Sub G N σ' (T i')) Q)):AWpB B G N (.loop c) σ Q:=by
 intro a w φ hr Q' hq
 classical
 let ex:Act->World->Nat->Prop:=fun a w m=>∃ i φ,p i/\μ i=m/\Rep G B N (T i) a w φ
 let J:Act->World->Prop:=fun a w=>∃ m,ex a w m
 let ν:Act->World->Nat:=fun a w=>if h:∃ m,ex a w m then Classical.choose (wcJ h)else 0
 obtain⟨φ0,hr0⟩:=hs P B a w φ hr
 refine wpIn_loop J ν ⟨_,i0,φ0,h0,rfl,hr0⟩ fun a w hJ=>?_
 have hν:ν a w=Classical.choose (wcJ hJ):=dif_pos hJ
 obtain⟨⟨i,φ1,h1,hm,h2⟩,hmin⟩:=Classical.choose_spec (wcJ hJ)
 refine h i h1 a w φ1 h2 _ fun e σ' a' w' φ' h3 h4=>?_
 cases e with
 | normal =>
  obtain⟨i',g1,g2,g3⟩:=h3
  obtain⟨φ2,h5⟩:=g3 P B a' w' φ' h4
  have hex':∃ m,ex a' w' m:=⟨_,i',φ2,g1,rfl,h5⟩
  refine⟨hex',?_⟩
  show ν a' w' < ν a w
  rw[hν,show ν a' w'=Classical.choose (wcJ hex')from dif_pos hex',<-hm]
  exact Nat.lt_of_le_of_lt ((Classical.choose_spec (wcJ hex')).2 _ ⟨i',φ2,g1,rfl,h5⟩) g2
 | _=>exact hq _ _ _ _ _ h3 h4
theorem AWpB.reg {id:Nat} {l:List Oper} {Q:Post} (h:AOpsB B G N l.toArray l σ (Q .normal)):AWpB B G N (.region id l.toArray false) σ Q :=
 fun a w φ hr Q' hq=>wpIn_region (wjD (by simpa using h a w φ hr Q' (fun σ' a' w' φ' h1 h2=>hq .normal σ' a' w' φ' h1 h2)))
theorem AOpsB.of {l:List Oper} {Q:St->Prop} (h:AOps P G B.ro N ops l σ Q):AOpsB B G N ops l σ Q:=fun a w φ hr Q' hq=>h B rfl a w φ hr Q' hq
theorem AOpsB.pre {l:List Oper} {Q:St->Prop} (n:Nat) (K:St->Prop) (h1:AOps P G B.ro N ops (l.take n) σ K) (h2:∀ τ,K τ->AOpsB B G N ops (l.drop n) τ Q):AOpsB B G N ops l σ Q:=by
 have key:∀ (l m:List Oper) (Q':Exit->Act->World->Prop) (a:Act) (w:World),wpL (Fw B.ro) 0 P ops (fun e a w=>match e with | .normal=>wpL (Fw B.ro) 0 P ops Q' m a w | e=>Q' e a w) l a w->wpL (Fw B.ro) 0 P ops Q' (l++m) a w:=by
  intro l
  induction l with
  | nil=>intro m Q' a w h; exact h
  | cons o l ih =>
   intro m Q' a w h
   simp only[List.cons_append,wpL]at h ⊢
   split at h
   ·rename_i hw
    rw[if_pos hw]
    exact Oper.wpIn_off (fun a w h=>ih m Q' a w h) (fun e a w hne h=>by
     cases e <;> first | exact absurd rfl hne | exact h) h
   ·rename_i hw
    rw[if_neg hw]
    exact⟨h.1,ih m Q' _ w h.2⟩
 intro a w φ hr Q' hq
 rw[<-List.take_append_drop n l]
 exact key _ _ _ _ _ (h1 B rfl a w φ hr _ fun σ' a' w' φ' hs hr'=>h2 σ' hs a' w' φ' hr' Q' hq)
theorem AOpsB.last {o:Oper} {Q:St->Prop} (hg:o.guard=none) (h:wtZ B G N o σ Q):AOpsB B G N ops [o] σ Q:=by
 intro a w φ hr Q' hq
 simp only[wpL,Region.wanted,hg,if_true]
 exact h a w φ hr _ _ fun σ' a' w' φ' h1 h2=>hq σ' a' w' φ' h1 h2
def wipe:PV->PV
 | .d y=>if noRef y=true then .d y else .any
 | .val v=>.val v
 | _=>.any
def wnz:List (Nat×PV)->List (Nat×PV)
 | []=>[]
 | (t,p)::l=>(t,wipe p)::wnz l
theorem wnA:∀ (l:List (Nat×PV)) (t:Nat),wam (wnz l) t=wipe (wam l t)
 | [],t=>rfl
 | (s,p)::l,t=>by
  simp only[wnz,wam]
  split
  ·rfl
  ·exact wnA l t
theorem RepV.wipe {w w':World} {X X':Nat->Nat->Prop} {φ φ':Nm} {H H':wac} {v:Value} {p:PV} (h:RepV w X φ H v p):RepV w' X' φ' H' v (Pv.wipe p):=by
 cases h <;> simp only[Pv.wipe] <;> first | exact .any _ | skip
 ·split
  ·rename_i hd hn; exact .d (hd.noRef hn)
  ·exact .any _
 ·rename_i hf; exact .val hf
def wnB (els:List PD) (i off:Nat):Option PD :=
 match els[i]? with
 | some (.agg cs)=>cs[off]?
 | some c=>if off=0 then some c else none
 | none=>none
theorem Dfr.empty {m:Nat->Prop} {w:World} {X:Nat->Nat->Prop} {φ:Nm} {H:wac} {ds:List Deferred} (h:Dfr m w X φ H ds []) (hm:∀ D,¬ m D):ds=[]:=by
 cases h with
 | nil=>rfl
 | mark h=>exact absurd h (hm _)
theorem RepD.cell_int {w:World} {ok:Nat->Nat->Prop} {F:Nat->Value} {els:List PD} {k i off:Nat} {kd:IntKind} {n:Int} (hi:i < els.length) (hr:RepD w ok (F i) els[i]) (hk:(F i).cells.size=k) (he:wnB els i off=some (.int kd n)) :
  off < k/\(F i).cells.getD off undef=.int kd n:=by
 unfold wnB at he
 rw[List.getElem?_eq_getElem hi]at he
 generalize els[i]=x at he hr
 generalize F i=v at hr hk ⊢
 split at he
 ·rename_i cs hx
  simp only[Option.some.injEq]at hx; subst hx
  cases hr with
  | @agg vs ps hs hr' hf =>
   obtain⟨ho,he⟩:=List.getElem?_eq_some_iff.1 he
   simp only[Value.cells]at hk ⊢
   have h1:=hr' off ho
   rw[he]at h1
   refine⟨by omega,?_⟩
   generalize vs.getD off undef=u at h1
   cases h1; rfl
 ·rename_i c hc hx
  simp only[Option.some.injEq]at hx; subst hx
  split at he <;> simp only[Option.some.injEq,reduceCtorEq]at he
  rename_i h0; subst h0; subst he
  cases hr
  exact⟨by rw[<-hk]; simp[Value.cells],rfl⟩
 ·cases he
theorem wsd {o:Oper} {t:TypeId} {ad u:Operand} {y:Ty} {k i off:Nat} {els:List PD} {kd:IntKind} {n n0:Int} {r:Nat} {x:PD} {rest:List (Nat×PV)} {l0:Nat} {m:PD} {d0:Bool} {K:St->Prop}
  (hB:∀ b kk,b < B.w0.heap.size->¬ B.X b kk->B.o0 b) (ho:o.op=.store t ad u) (ht:wad P t=some y) (hy:y.size=1) (ha:σ.eval ad=.dptr k els i off) (hu:σ.eval u=.d (.int kd n)) (he:wnB els i off=some (.int kd n0)) (h8:kd≠.u8)
  (henv:σ.env=(r,.d x)::rest) (hh:σ.heap=[]) (hdf:σ.dfr=[]) (hgh:σ.gh=some (l0,[],[m],d0)) (hd:wao N o.dst)
  (hK:∀ x',shp x x'->K (({ σ with env:=(r,.d x')::wnz rest }:St).put o.dst .any)):wtZ B [] N o σ K:=by
 intro a w φ hr next Q hn
 have hav:=hr.eval ad
 rw[ha]at hav
 have huv:=hr.eval u
 rw[hu]at huv
 have huv:a.eval u=.int kd n:=by
  have h0:=waR huv
  generalize a.eval u=v at h0 ⊢
  cases h0; rfl
 generalize hadv:a.eval ad=av at hav
 cases hav with
 | @dptr c n' cap _ _ _ _ hd' hi =>
 cases hd' with
 | imm F ha' hok hn' hcap hr' hk hf hc hz =>
  obtain⟨h1,h2⟩:=RepD.cell_int hi (hr' i hi) (hk i hi) he
  have hne:els≠[]:=fun e=>by subst e; simp at hi
  have hcell:=hc i hi off h1
  rw[h2]at hcell
  have hfz:=hz i hi off h1 (by rw[h2]; cases kd <;> first | rfl | exact absurd rfl h8)
  have hb:=hok hne
  generalize hp:c.off+i*k+off=p at hcell hfz
  generalize hbk:c.block=b at hcell hfz hb
  -- the block
  obtain⟨cs,e,f,hcs⟩:∃ cs e f,w.heap[b]? = some (.cells cs e f):=by
   unfold World.cell? at hcell
   dsimp only at hcell
   cases hob:w.heap[b]? with
   | none=>simp[hob]at hcell
   | some ob =>
    cases ob with
    | cells cs e f=>exact⟨cs,e,f,rfl⟩
    | _=>simp[hob]at hcell
  have hlt:b < w.heap.size:=(Array.getElem?_eq_some_iff.1 hcs).1
  have hcp:cs[p]? = some (.int kd n0):=by
   unfold World.cell? at hcell
   simpa [hcs]using hcell
  have hpl:p < cs.size:=(Array.getElem?_eq_some_iff.1 hcp).1
  let w':=w.setCell ⟨b,p,none⟩ (.int kd n)
  have hcs':w'.heap[b]? = some (.cells (cs.setIfInBounds p (.int kd n)) e f):=wkJ w b cs e f hcs _ _
  have hoth:∀ b',b'≠b->w'.heap[b']? = w.heap[b']?:=fun b' h=>whp w ⟨b,p,none⟩ _ h
  have hsize:w'.heap.size=w.heap.size:=by simp[w']
  have hpk:Poked w w' b p kd n0 n:=by
   refine⟨hcell,fun c' o'=>?_,fun a'=>?_⟩
   ·by_cases hcb:c'=b
    ·subst hcb
     simp only[World.cell?,hcs',hcs,Option.isSome_none,Bool.false_eq_true,if_false,true_and]
     by_cases hop:o'=p
     ·subst hop; simp[hpl]
     ·rw[if_neg hop]; simp[Array.getElem?_setIfInBounds,Ne.symm hop]
    ·simp only[World.cell?,hoth _ hcb,hcb,false_and,if_false]
   ·unfold World.frozen?
    by_cases hcb:a'.block=b
    ·rw[hcb,hcs',hcs]
    ·rw[hoth _ hcb]
  have hkeep:Keeps (·=b) w w':=⟨rfl,rfl,rfl,Nat.le_of_eq hsize.symm,fun b' _ hne=>hoth b' hne⟩
  have hokd:∀ b' kk,okd w B.X φ σ.heap b' kk->okd w' B.X φ σ.heap b' kk:=fun b' kk h=>⟨hsize.symm▸h.1,h.2⟩
  have hx0:=hr.env r
  have er:wam σ.env r=.d x:=by rw[henv]; simp[wam]
  rw[er]at hx0
  obtain⟨x',hx1,hx2⟩:=(waR hx0).poke hpk
  obtain⟨q1,q2⟩:=hr.part hgh
  have hnil:∀ r',waa σ.heap r'=none:=fun r'=>by rw[hh]; rfl
  have hdf0:a.defers++B.held=[]:=by
   have:=hr.dfr
   rw[hdf]at this
   exact this.empty fun D hD=>by have:=hD.1; rw[hgh]at this; cases this
  have hrep:Rep [] B N { σ with env:=(r,.d x')::wnz rest } a w' φ:=by
   refine⟨hr.size,fun s=>?_,⟨fun r' z b' g=>(by rw[hnil]at g; cases g),fun r' z g=>(by rw[hnil]at g; cases g),fun r' s' z z' b' g=>(by rw[hnil]at g; cases g),fun b' hb'=>?_⟩,
    ?_,fun r' z b' g=>(by rw[hnil]at g; cases g),fun r' z g=>(by rw[hnil]at g; cases g),fun r' z b' g=>(by rw[hnil]at g; cases g),fun g z hm=>by simp at hm,hr.tnew,?_,?_⟩
   ·simp only[wam]
    split
    ·rename_i hs; subst hs; exact .d (hx2.mono hokd (fun _ _ _=>rfl))
    ·rename_i hs
     have:=hr.env s
     rw[henv]at this
     simp only[wam,hs,if_false]at this
     rw[wnA]
     exact this.wipe
   ·obtain⟨g1,g2,g3⟩:=hr.heap.far b' hb'
    exact⟨hsize.symm▸g1,g2,g3⟩
   ·refine⟨hkeep.os.trans hr.keeps.os,hkeep.tape.trans hr.keeps.tape,hkeep.output.trans hr.keeps.output,Nat.le_trans hr.keeps.size hkeep.size,fun b' hb' ho'=>?_⟩
    refine(hkeep.block b' (Nat.lt_of_lt_of_le hb' hr.keeps.size) (fun e=>?_)).trans (hr.keeps.block b' hb' ho')
    subst e
    exact ho' (hB _ _ hb' hb.2.1)
   ·show B.inv σ.gh _ _ _
    rw[hgh]
    exact .inr ⟨q1,rfl,m,[],rfl,fun b' hb'=>⟨hsize.symm▸(q2.1 b' hb').1,(q2.1 b' hb').2⟩,fun z h e=>by cases e⟩
   ·show Dfr _ _ _ _ _ _ σ.dfr
    rw[hdf0,hdf]; exact .nil
  refine wjC (w':=w') ?_ (hn _ _ _ φ (hK x' hx1) (hrep.put hd (.any _)))
  rw[Oper.semAt_eq _ _ _ (fun c hc=>by rw[ho]at hc; cases hc)]
  unfold execOp
  simp only[ho]
  have hrun:(Instr.storeAt t (a.eval ad) (a.eval u)).run P w=.ok () w':=by
   rw[hadv,huv]
   simp only[Instr.storeAt,Instr.sureAddr,storeVar,Sem.run_bind,Sem.run_pure,wdv ht,Result.andThen]
   rw[if_neg (by simp[Value.cells,hy])]
   simp only[Value.cells,storeCells,Sem.run_bind,wck,hp,hbk,Nat.add_zero,run_store P w _ _ .plain (show flat (.int kd n)=true from rfl),hcell,hfz,Bool.false_eq_true,if_false,Result.andThen]
   rfl
  rw[Sem.run_bind,hrun]; rfl
def wse:PV->Bool
 | .any | .d (.agg _) | .b (.agg _) | .agg _ | .tuple _=>false
 | _=>true
theorem wn2 {w:World} {X:Nat->Nat->Prop} {φ:Nm} {H:wac} {v:Value} {p:PV} (h:RepV w X φ H v p) (hp:wse p=true):flat v=true :=
 wh4 h (fun e=>by subst e; cases hp) (fun _ e=>by subst e; cases hp) (fun _ e=>by subst e; cases hp) (fun _ e=>by subst e; cases hp) (fun _ e=>by subst e; cases hp)
theorem woF (val:Nat->Value):∀ (ks:List Nat) (t:Nat),wam (ks.map fun k=>(k,PV.val (val k))) t=if t∈ks then .val (val t)else .any
 | [],t=>rfl
 | k::ks,t=>by
  simp only[List.map_cons,wam,List.mem_cons]
  by_cases h:k=t
  ·subst h; simp
  ·rw[if_neg h,woF val ks t]; simp[Ne.symm h]
theorem woG (e:List (Nat×PV)):∀ (ks:List Nat) (t:Nat),wam (whG ks e) t=if t∈ks then wam e t else .any
 | [],t=>rfl
 | k::ks,t=>by
  simp only[whG,wam,List.mem_cons]
  by_cases h:k=t
  ·subst h; simp
  ·rw[if_neg h,woG e ks t]; simp[Ne.symm h]
theorem AWp.apart {ro:Option Nat} {c:Code} {Q:Post} {r l0:Nat} {x m:PD} {h:List PD} {d0:Bool} (ks:List Nat) (E:Exit->Prop) (hg:σ.gh=some (l0,[],m::x::h,d0)) (hdf:σ.dfr=[]) (hr0:wam σ.env r=.val (hdr h)) (hrk:r ∉ ks)
  (hks:ks.all (fun k=>wse (wam σ.env k))=true)
  (hL:∀ (B:Base P) (val:Nat->Value),B.ro=ro->(∀ b kk,b < B.w0.heap.size->¬ B.X b kk->B.o0 b) →
   AWpB B [] N c ⟨(r,.d x)::ks.map (fun k=>(k,.val (val k))),[],[],some (0,[],[.nilptr],true)⟩ (fun e τ=>E e/\τ.dfr=[]/\τ.gh=some (0,[],[.nilptr],true)/\∀ k∈ks,wam τ.env k=.val (val k)))
  (hQ:∀ e,E e->Q e ⟨whG ks σ.env,σ.heap,[],some (l0,[],[m],d0)⟩):AWp P G ro N c σ Q:=by
 intro B hro a w φ hr Q' hq
 obtain⟨hfr,hj⟩:=hr.part hg
 have hd0:a.defers++B.held=[]:=by
  have:=hr.dfr
  rw[hdf]at this
  exact this.empty fun D hD=>by have:=hD.1; rw[hg]at this; cases this
 let B':Base P:={ w0:=w,X:=fun b _=>b < w.heap.size/\¬ φ.T b,hX:=fun _ _ h=>h.1,o0:=φ.T,φ0:=fun _=>none,z0:=fun _=>0,ro:=ro,held:=B.held,hheld:=fun h=>B.hheld (hro.trans h),J:=fun _ _ _ _=>True,stab:=fun _ _ _ _ _ _ _ _ _ _ _ _ _=>trivial,fr:=true,y:=none,yok:=fun _ _ h=>by cases h }
 let val:Nat->Value:=fun k=>a.tmps.getD k undef
 have hrep:Rep [] B' N ⟨(r,.d x)::ks.map (fun k=>(k,.val (val k))),[],[],some (0,[],[.nilptr],true)⟩ a w Nm.no:=by
  refine⟨hr.size,fun t=>?_,⟨fun r x b h=>by simp[waa]at h,fun r x h=>by simp[waa]at h,fun r s x y b h=>by simp[waa]at h,fun b h=>h.elim⟩,.refl _ _,fun r x b h=>by simp[waa]at h,fun r x h=>by simp[waa]at h,fun r x b h=>by simp[waa]at h,fun g x hm=>by simp at hm,fun b h=>h.elim,
   .inr ⟨rfl,rfl,.nilptr,[],rfl,fun b h=>h.elim,fun x h e=>by cases e⟩,?_⟩
  ·simp only[wam]
   split
   ·rename_i ht; subst ht
    have hv:=hr.env r
    rw[hr0]at hv
    rw[wmG hv]
    exact .d ((hj.2 x h rfl).mono (fun b kk hb=>⟨(hj.1 b hb).1,fun hX=>hX.2 hb,wgt b⟩) (fun _ _ _=>rfl))
   ·rw[woF]
    split
    ·rename_i ht
     exact .val (wn2 (hr.env t) (List.all_eq_true.1 hks t ht))
    ·exact .any _
  ·show Dfr _ _ _ _ _ (a.defers++B.held) []
   rw[hd0]; exact .nil
 have hrun:=hL B' val rfl (fun b kk hb hX=>Classical.byContradiction fun hn=>hX ⟨hb,hn⟩) a w Nm.no hrep Q' (fun e τ a' w' φ' ⟨hE,hτd,hτg,hval⟩ hr'=>?_)
 ·have:B'.ro=ro:=rfl
  rw[this]at hrun
  exact hrun
 have hk:Keeps φ.T w w':=hr'.keeps
 have hsz:=hk.size
 have hown:∀ b,own φ σ.heap b->b < w.heap.size:=fun _=>hr.heap.own_lt
 have hrb:∀ r x b,waa σ.heap r=some x->φ r=some b->w'.heap[b]? = w.heap[b]?:=fun r x b g1 g2=>hk.block b (hr.heap.lt g1 g2) (fun hT=>(hr.heap.far b hT).2.2 ⟨r,x,g1,g2⟩)
 have hext:Ext w B.X φ σ.heap w' φ σ.heap:=⟨fun r x h=>⟨x,h,rfl,fun _=>rfl,rfl⟩,fun b kk h=>⟨Nat.lt_of_lt_of_le h.1 hsz,h.2⟩,fun b kk h=>⟨Nat.lt_of_lt_of_le h.1 hsz,h.2⟩,
  fun b kk h=>hk.block b h.1 (fun hT=>h.2 (.inr hT)),fun r x b g1 g2 c e f hh=>⟨c,e,f,(hrb r x b g1 g2)▸hh,rfl⟩⟩
 refine hq e _ a' w' φ (hQ e hE) ?_
 refine⟨hr'.size,fun t=>?_,⟨fun r x b g1 g2=>(hr.heap.rows r x b g1 g2).ext hext (hrb r x b g1 g2),hr.heap.void,hr.heap.inj,fun b hb=>⟨Nat.lt_of_lt_of_le (hr.heap.far b hb).1 hsz,(hr.heap.far b hb).2⟩⟩,
  ⟨hk.os.trans hr.keeps.os,hk.tape.trans hr.keeps.tape,hk.output.trans hr.keeps.output,Nat.le_trans hr.keeps.size hsz,fun b hb ho=>?_⟩,hr.new,hr.pins,fun r x b g1 g2 g3=>(wel (hrb r x b g1 g3)).trans (hr.psz r x b g1 g2 g3),hr.glob.ext hext (fun n z hm=>?_),hr.tnew,?_,?_⟩
 ·rw[woG]
  split
  ·rename_i ht
   have hv:=hr'.env t
   rw[hval t ht]at hv
   rw[wmG hv]
   exact(hr.env t).ext hext
  ·exact .any _
 ·refine(hk.block b (Nat.lt_of_lt_of_le hb hr.keeps.size) (fun hT=>?_)).trans (hr.keeps.block b hb ho)
  rcases hr.tnew b hT with h | h
  ·exact ho h
  ·omega
 ·obtain⟨c,e,f,v,g1,g2,_⟩:=hr.glob n z hm
  exact g2
 ·exact .inr ⟨hfr,rfl,m,[],rfl,fun b hb=>⟨Nat.lt_of_lt_of_le (hj.1 b hb).1 hsz,(hj.1 b hb).2⟩,fun z h e=>by cases e⟩
 ·have:a'.defers++B.held=[]:=by
   have:=hr'.dfr
   rw[hτd]at this
   exact this.empty fun D hD=>by have:=hD.1; rw[hτg]at this; cases this
  show Dfr _ _ _ _ _ (a'.defers++B.held) []
  rw[this]; exact .nil
end
end Go.Pv

namespace Go.Pv
section
variable {P:Program} {B:Base P} {G:List (Nat×PD)} {ro:Option Nat} {N:Nat} {σ τ:St} {ops:Array Oper} {w:World} {φ:Nm}
def dOk (q:PV):PV->Prop
 | .any=>True
 | .d x=>q=.d x\/q=.b x
 | _=>False
def ws3 (e:List (Nat×PV)):List (Nat×PV)->Prop
 | []=>True
 | (t,p)::l=>dOk (wam e t) p/\ws3 e l
def bOk (q:PV):PV->Prop
 | .any=>True
 | .b x=>q=.d x
 | .d x=>q=.d x/\noRef x=true
 | _=>False
def ws4 (e:List (Nat×PV)):List (Nat×PV)->Prop
 | []=>True
 | (t,p)::l=>bOk (wam e t) p/\ws4 e l
theorem wp2 {e:List (Nat×PV)}:∀ {l:List (Nat×PV)},ws3 e l->∀ t,dOk (wam e t) (wam l t)
 | [],_,t=>trivial
 | (s,p)::l,h,t=>by
  simp only[wam]
  split
  ·rename_i hs; subst hs; exact h.1
  ·exact wp2 h.2 t
theorem wp3 {e:List (Nat×PV)}:∀ {l:List (Nat×PV)},ws4 e l->∀ t,bOk (wam e t) (wam l t)
 | [],_,t=>trivial
 | (s,p)::l,h,t=>by
  simp only[wam]
  split
  ·rename_i hs; subst hs; exact h.1
  ·exact wp3 h.2 t
theorem AOps.bare {l:List Oper} {Q:St->Prop} (hG:wnx G) (env1 env2:List (Nat×PV)) (hh:σ.heap=[]) (hd:σ.dfr=[]) (hg:σ.gh=none) (he:ws3 σ.env env1)
  (h:AOps P G ro N ops l ⟨env1,[],[],none⟩ (fun τ=>τ.dfr=[]/\τ.gh=none/\ws4 τ.env env2)) (hQ:Q ⟨env2,[],[],none⟩):AOps P G ro N ops l σ Q:=by
 intro B hro a w φ hr Q' hq
 have hT:∀ b,¬ φ.T b:=by have:=hr.inv; rw[hg]at this; exact this
 have hno:∀ b,¬ own φ [] b:=fun b h=>h.elim (wjb b) (hT b)
 have hrep:Rep G B.bare N ⟨env1,[],[],none⟩ a w φ:=by
  refine⟨hr.size,fun t=>?_,⟨fun r x b h=>by simp[waa]at h,fun r x h=>by simp[waa]at h,fun r s x y b h=>by simp[waa]at h,fun b h=>absurd h (hT b)⟩,hr.keeps,fun r x b h=>by simp[waa]at h,fun r x h=>by simp[waa]at h,fun r x b h=>by simp[waa]at h,fun g x hm=>?_,hr.tnew,hT,?_⟩
  ·have h1:=wp2 he t
   have h2:=hr.env t
   generalize wam env1 t=p at h1 ⊢
   cases p <;> simp only[dOk]at h1
   ·exact .any _
   ·rcases h1 with h1 | h1
    ·rw[h1]at h2; exact .d ((waR h2).mono (fun b k hb=>⟨hb.1,fun h=>h,hno b⟩) (fun _ _ _=>rfl))
    ·rw[h1]at h2; exact .d ((wh7 h2).mono (fun b k hb=>⟨hb.1,fun h=>h,hno b⟩) (fun _ _ _=>rfl))
  ·obtain⟨cs,e,f,v,h5,h6,h7,h8,h9⟩:=hr.glob g x hm
   exact⟨cs,e,f,v,h5,hno g,h7.mono (fun b k hb=>⟨hb.1,fun h=>h,hno b⟩) (fun _ _ _=>rfl),h8,h9.1,fun h=>h⟩
  ·have:=hr.dfr
   rw[hd]at this
   exact this.marks (fun D hD=>⟨rfl,hD.2⟩) (fun D hD _=>⟨⟨hD.1,fun h=>h,hno D⟩,rfl⟩)
 refine h B.bare hro a w φ hrep Q' fun τ a' w' φ' ⟨h1,h2,h3⟩ hr'=>?_
 have hT':∀ b,¬ φ'.T b:=by have:=hr'.inv; rw[h2]at this; exact this
 have hno':∀ b,¬ own φ' [] b:=fun b h=>h.elim (wjb b) (hT' b)
 refine hq _ _ _ φ' hQ ⟨hr'.size,fun t=>?_,⟨fun r x b h=>by simp[waa]at h,fun r x h=>by simp[waa]at h,fun r s x y b h=>by simp[waa]at h,fun b h=>absurd h (hT' b)⟩,hr'.keeps,fun r x b h=>by simp[waa]at h,fun r x h=>by simp[waa]at h,fun r x b h=>by simp[waa]at h,fun g x hm=>?_,fun b h=>absurd h (hT' b),hT',?_⟩
 ·have h1:=wp3 h3 t
  have h2:=hr'.env t
  generalize wam env2 t=p at h1 ⊢
  cases p <;> simp only[bOk]at h1
  ·exact .any _
  ·rw[h1.1]at h2; exact .d ((waR h2).noRef h1.2)
  ·rw[h1]at h2; exact .b ((waR h2).mono (fun b k hb=>⟨hb.1,hno' b⟩) (fun _ _ _=>rfl))
 ·obtain⟨cs,e,f,v,h5,h6,h7,h8,h9⟩:=hr'.glob g x hm
  obtain⟨cs',e',f',v',k5,k6,k7,k8,k9⟩:=hr.glob g x hm
  exact⟨cs,e,f,v,h5,hno' g,h7.noRef (hG g x hm),h8,h9.1,k9.2⟩
 ·have:=hr'.dfr
  rw[h1]at this
  have h4:∀ D kk,B.w0.heap.size<=D->¬ B.X D kk:=fun D kk hD hX=>absurd (B.hX D _ hX) (Nat.not_lt.2 hD)
  show Dfr _ w' B.X φ' [] (a'.defers++B.held) []
  have key:∀ {ds:List Deferred} {ps:List PV},Dfr (fun D=>τ.gh=none/\B.bare.ro=none/\B.bare.w0.heap.size<=D) w' B.bare.X φ' τ.heap ds ps->ps=[]->Dfr (fun D=>(none:Gh)=none/\B.ro=none/\B.w0.heap.size<=D) w' B.X φ' [] ds []:=by
   intro ds ps hd
   induction hd with
   | nil=>intro _; exact .nil
   | fn=>intro h; cases h
   | mark g0 g1 g2 g3 _ ih=>intro h; exact .mark ⟨rfl,g0.2⟩ ⟨g1.1,h4 _ 0 g0.2.2,hno' _⟩ g2 g3 (ih h)
  exact key this rfl
def Base.bare0 (B:Base P):Base P:={ B.bare with o0:=fun _=>False }
theorem RowFn.bor (hG:wnx G) {f:FuncId} {args args':List PV} {e k:Nat} {l:List PD} (h:RowFn P G f args e k l) (hn:∀ x∈l,noRef x=true) (hk:1<=k) (hd:wp1 args=true) (hb:wrt args args'):RowFn P G f args' e k l:=by
 intro B φ vs h0 h1 h2 h3
 obtain⟨hl,hg⟩:=wmH hb
 have hT:∀ b,¬ φ.T b:=h3.inv
 have h3':Sit G B.bare0 B.w0 φ [] none:=by
  have hs:=Sit.bare (H:=[]) h3
  exact⟨hs.heap,.refl _ _,fun r x b h=>by simp[waa]at h,hs.pins,hs.psz,hs.glob,fun b h=>absurd h (hT b),hs.inv⟩
 refine(h B.bare0 φ vs h0 (h1.trans hl.symm) (fun i hi=>?_) h3').mono ?_
 ·have h4:=h2 i (hl▸hi)
  obtain⟨z,hz⟩:=wmI hd i hi
  rw[hz]
  rcases hg i hi (hl▸hi)with e | ⟨y,e1,e2⟩
  ·rw[e,hz]at h4
   exact .d ((waR h4).mono (fun b k hb=>⟨hb.1,fun h=>h,hb.2.2⟩) (fun _ _ _=>rfl))
  ·rw[hz]at e1
   simp only[PV.d.injEq]at e1; subst e1
   rw[e2]at h4
   exact .d ((wh7 h4).mono (fun b k hb=>⟨hb.1,fun h=>h,hb.2⟩) (fun _ _ _=>rfl))
 ·rintro e' w' ⟨v,p,H',g',φ',he,⟨rfl,rfl⟩,hv,hs⟩
  -- the row is new
  have hnew:∀ b,φ' 1000=some b->B.w0.heap.size<=b:=fun b hb=>(hs.new 1000 { e,k,els:=dl l } b (by simp[waa]) hb).resolve_left fun h=>h
  have hX:∀ b,φ' 1000=some b->∀ kk,¬ B.X b kk:=fun b hb kk h=>absurd (B.hX b _ h) (Nat.not_lt.2 (hnew b hb))
  let φ2:Nm:=⟨φ'.f,fun _=>False⟩
  have hrow:∀ r x b,waa [(1000,({ e,k,els:=dl l }:Row))] r=some x->φ' r=some b->r=1000/\x={ e,k,els:=dl l }:=fun r x b h1 h2=>by
   simp only[waa]at h1
   split at h1
   ·rename_i hr; subst hr; exact⟨rfl,by simpa using h1.symm⟩
   ·cases h1
  have helt:∀ {X X':Nat->Nat->Prop} {φ1 φ3:Nm} {H H':wac} {v:Value} (i:Nat) (hi:i < (dl l).length),RepV w' X φ1 H v (dl l)[i]->RepV w' X' φ3 H' v (dl l)[i]:=by
   intro X X' φ1 φ3 H H' v i hi hv
   have hil:i < l.length:=by simpa [dl]using hi
   have e1:(dl l)[i]=.d l[i]:=by simp[dl]
   rw[e1]at hv ⊢
   exact .d ((waR hv).noRef (hn _ (List.getElem_mem hil)))
  refine⟨v,_,_,none,φ2,he,⟨rfl,rfl⟩,?_,⟨⟨fun r x b h1 h2=>?_,hs.heap.void,hs.heap.inj,fun b h=>h.elim⟩,?_,fun r x b h1 h2=>.inr ?_,fun r x h1 h2=>?_,fun r x b h1 h2 h3=>?_,fun g x hm=>?_,fun b h=>h.elim,fun b h=>h⟩⟩
  ·have key:∀ n,RepV w' B.bare0.X φ' [(1000,{ e,k,els:=dl l })] v (.slc 1000 0 n)->RepV w' B.X φ2 [(1000,{ e,k,els:=dl l })] v (.slc 1000 0 n):=fun n hv=>by
    cases hv with
    | slc g1 g2 g3 g4 g5 g6 g7=>exact .slc g1 g2 g3 g4 g5 g6 g7
    | slc0 g1 g2 g3 g4=>exact .slc0 g1 g2 g3 g4
   exact key _ hv
  ·obtain⟨rfl,rfl⟩:=hrow r x b h1 h2
   exact(hs.heap.rows 1000 _ b h1 h2).turn rfl rfl rfl (fun _ _ h=>h) (hX b h2) (fun i hi _ v hv=>helt i hi hv) fun _ h=>h
  ·exact⟨hs.keeps.os,hs.keeps.tape,hs.keeps.output,hs.keeps.size,fun b hb _=>hs.keeps.block b hb fun h=>h⟩
  ·obtain⟨rfl,rfl⟩:=hrow r x b h1 h2; exact hnew b h2
  ·simp only[waa]at h1
   split at h1
   ·rename_i hr; subst hr; simp[pinned]at h2
   ·cases h1
  ·simp only[waa]at h1
   split at h1
   ·rename_i hr; subst hr; simp[pinned]at h2
   ·cases h1
  ·obtain⟨cs,e',f',v,h5,h6,h7,h8,h9⟩:=hs.glob g x hm
   obtain⟨cs',e'',f'',v',k5,k6,k7,k8,k9⟩:=h3.glob g x hm
   refine⟨cs,e',f',v,h5,fun ho=>h6 (ho.elim .inl fun h=>h.elim),h7.noRef (hG g x hm),h8,h9.1,k9.2⟩
end
end Go.Pv

namespace Go.Pv
section
variable {P:Program} {B:Base P} {G:List (Nat×PD)} {ro:Option Nat} {N:Nat} {ops:Array Oper} {σ τ σ':St} {o:Oper} {rest:List Oper}
theorem pfF {f:FuncId} {fn:Func} {c:Code} {args:List PV} {x:PD} {n:Nat} {e0:List (Nat×PV)} (hx:noRef x=true) (hf:P.funcs[f]? = some fn) (hn:fn.ntmps=n)
  (h:AWp P G none n c ⟨e0,[],[],some (0,[],[.nilptr],true)⟩ (Fin P G fn fun p H=>∃ u,frzT H p=some u/\leV u (.d x))) (hb:fn.body=some c:=by rfl) (hN:args.length<=n:=by simp)
  (he:wcm 0 args=e0:=by(simp only[wcm,Nat.reduceAdd,Nat.zero_add]; rfl)):PureFn P G f args (.d x):=by
 subst hn he; exact PureFn.introF hx hf hb hN h
theorem wuf {f:FuncId} {c:Call} {args:List PV} {x:PD} {zs:List PD} {l0:Nat} {m:PD} {ys:List PD} {d0:Bool} {S:List PD->St} {Q:St->Prop} (j:Nat) (s:Nat->Bool) (hG:∀ g z,(g,z)∈G->sizD s z=true) (hf:PureFn P G f args (.tuple (zs.map .d))) (hj:zs[j]? = some x) (hb:args.all (wlR s)=true) (hav:sizD (fun k=>!s k) x=true)
  (hy:∀ i,i≠j->∀ z,zs[i]? = some z->noRef z=true) (h2:∀ h,AOps P G ro N ops rest (S h) Q)
  (hs0:s 0=true:=by rfl) (hgh:σ.gh=some (l0,[],m::ys,d0):=by rfl) (ho:o.op=.call c:=by rfl) (hc:c.callee=.value (.func f):=by rfl) (hcal:wbd P f=true:=by kernel_rfl) (hg:o.guard=none:=by rfl)
  (ha:wdD σ.heap (wau σ c.args.toList) args:=by(repeat' (first | exact trivial | exact rfl | exact .inl rfl | exact .inr rfl | apply And.intro)))
  (hx:wny x=true:=by first | rfl | exact wsb _ _) (hd:wao N o.dst:=by(simp only[go_sem,↓reduceIte]; done))
  (hp:∀ h,({ σ with gh:=some (l0,[],m::x::h,d0) }:St).put o.dst (.tuple ((zs.map .d).set j (.val (hdr h))))=S h:=by(intro h; simp only[go_sem,List.map_cons,List.map_nil,List.set_cons_zero,List.set_cons_succ,↓reduceIte]; rfl)):AOps P G ro N ops (o::rest) σ Q :=
 AOps.step hg (OpT.fresh j s hs0 hG hgh ho hc hcal hf hj ha hb hx hav hy hd fun h=>by rw[hp h]; exact h2 h)
theorem clF {f:FuncId} {c:Call} {args:List PV} {res:PV} {Q:St->Prop} (hf:PureFn P G f args res) (ha:wlQ σ (wau σ c.args.toList) args) (h2:AOps P G ro N ops rest σ' Q)
  (ho:o.op=.call c:=by rfl) (hc:c.callee=.value (.func f):=by rfl) (hcal:wbd P f=true:=by kernel_rfl) (hg:∀ {K:St->Prop},OpT P G ro N o σ K->wjR P G ro N (wbq ops) o σ K:=by(intro K k; simp(disch:=omega) only[go_sem,↓reduceIte]; exact k)) (hd:wao N o.dst:=by(simp only[go_sem,↓reduceIte]; done))
  (hp:σ.put o.dst res=σ':=by(simp only[go_sem,↓reduceIte]; rfl)) (hr:dOnly res:=by(simp only[go_sem]; done)):AOps P G ro N ops (o::rest) σ Q :=
 AOps.consU fun _ hK=>hg (OpT.callF ho hc hcal hf ha hd (hp▸hK _ h2) hr)
theorem AOpsB.pre1 {l l1 l2:List Oper} {Q:St->Prop} (n:Nat) (h1:AOps P G B.ro N ops l1 σ (fun τ=>AOpsB B G N ops l2 τ Q))
  (hl1:l.take n=l1:=by(simp only[List.take_succ_cons,List.take_zero]; rfl)) (hl2:l.drop n=l2:=by(simp only[List.drop_succ_cons,List.drop_zero]; rfl)):AOpsB B G N ops l σ Q:=by
 subst hl1 hl2; exact AOpsB.pre n _ h1 fun _ h=>h
end
inductive All2 {α β:Type} (p:α->β->Prop):List α->List β->Prop
 | nil:All2 p [] []
 | cons {a:α} {b:β} {l:List α} {m:List β} (h:p a b) (t:All2 p l m):All2 p (a::l) (b::m)
theorem wmJ {α:Type} {f:α->PD} {k:Nat} {p:α->α->Prop} (h:∀ a y,shp (f a) y->∃ b,y=f b/\p a b) {l:List α} {x:PD} (hx:shp (.imm k (wab f l)) x):∃ m,x=.imm k (wab f m)/\All2 p l m:=by
 simp only[shp]at hx
 obtain⟨els,rfl,hs⟩:=hx
 have key:∀ (l:List α) (els:List PD),shpL (wab f l) els->∃ m,els=wab f m/\All2 p l m:=by
  intro l
  induction l with
  | nil=>intro els h; simp only[wab,List.map_nil,shpL]at h; subst h; exact⟨[],rfl,.nil⟩
  | cons a l ih =>
   intro els hs
   simp only[wab,List.map_cons,shpL]at hs
   obtain⟨y,t,rfl,h1,h2⟩:=hs
   obtain⟨b,rfl,hb⟩:=h a y h1
   obtain⟨m,rfl,hm⟩:=ih t h2
   exact⟨b::m,rfl,.cons hb hm⟩
 obtain⟨m,rfl,hm⟩:=key l els hs
 exact⟨m,rfl,hm⟩
end Go.Pv

namespace Go.Pv
def edrop (dr:List Nat):List (Nat×PV)->List (Nat×PV)
 | []=>[]
 | (t,v)::l=>if dr.contains t then edrop dr l else (t,v)::edrop dr l
theorem wlt (dr:List Nat) (t:Nat):∀ l,wam (edrop dr l) t=if dr.contains t then .any else wam l t
 | []=>by simp[edrop,wam]
 | (s,v)::l=>by
  simp only[edrop]
  by_cases hs:dr.contains s=true
  ·rw[if_pos hs,wlt dr t l]
   by_cases ht:dr.contains t=true
   ·rw[if_pos ht,if_pos ht]
   ·rw[if_neg ht,if_neg ht]
    simp only[wam]
    rw[if_neg (fun e=>ht (by rw[<-e]; exact hs))]
  ·rw[if_neg hs]
   simp only[wam]
   rw[wlt dr t l]
   by_cases hst:s=t
   ·subst hst; rw[if_pos rfl,if_pos rfl,if_neg hs]
   ·rw[if_neg hst,if_neg hst]
section
variable {P:Program} {G:List (Nat×PD)} {ro:Option Nat} {B:Base P} {N:Nat} {ops:Array Oper} {σ τ σ':St} {a:Act} {w w':World} {φ φ':Nm} {H H' H2:wac} {g ρ:Nat->Nat} {gs:List Nat} {o:Oper} {rest:List Oper} {K:St->Prop}
theorem Rep.edrop (h:Rep G B N σ a w φ) (dr:List Nat):Rep G B N { σ with env:=edrop dr σ.env } a w φ:=by
 have he:∀ t,RepV w B.X φ σ.heap (a.tmps.getD t undef) (wam (Go.Pv.edrop dr σ.env) t):=fun t=>by
  rw[wlt]
  split
  ·exact .any _
  ·exact h.env t
 exact { h with env:=he }
theorem OpT.callU2 (dr:List Nat) {c:Call} {f:FuncId} {xo:Operand} {caps args:List PV} {Post:PV->wac->Prop} (ho:o.op=.call c) (hc:c.callee=.value xo) (hx:wcB (σ.eval xo)=some (f,caps)) (hcal:wbd P f=true)
  (hf:Fn P G f args H Post) (hh:HandU { σ with env:=edrop dr σ.env } H g gs) (ha:wdq σ.heap H g (wau σ c.args.toList++caps) args) (hd:wao N o.dst)
  (hK:∀ p H',Post p H'->∃ ρ,BackU { σ with env:=edrop dr σ.env } H H' g ρ gs/\clean p/\refsIn H' p/\K (({ σ with env:=edrop dr σ.env,heap:=wbP ρ H' (wbA gs σ.heap) }:St).put o.dst (p.ren ρ))):OpT P G ro N o σ K:=by
 intro B hro a w φ hr0 next Q hn
 obtain⟨vs,hv1,hv2,hv3⟩:=wjM hx (hr0.eval xo)
 obtain⟨h1,h2⟩:=whf ha
 obtain⟨h3,h4⟩:=wkY hr0 (ops:=c.args.toList) hv2 hv3
 have hr:=hr0.edrop dr
 have hcall:=hf (hr.bc H g none) (wbT φ H g none) (c.args.toList.map a.eval++vs.toList) rfl (h3.trans h1) (fun i hi=>wkX hr hh.h0 (h4 i (h1▸hi)) (h2 i (h1▸hi) hi)) (hr.hand hh.h0 (.inl rfl))
 have hrun:(o.semAt ro a.eval).run P w=.ok (.enter f (c.args.toList.map a.eval++vs.toList).toArray) w:=by
  rw[Oper.semAt_eq _ _ _ (fun c hc=>by rw[ho]at hc; cases hc)]
  have e1:(c.args.toList.map a.eval++vs.toList).toArray=c.args.map a.eval++vs:=by
   apply Array.toList_inj.1; simp
  have e2:(#[]++c.args.map a.eval++vs:Array Value)=c.args.map a.eval++vs:=by simp
  simp only[execOp,ho,resolve,hc,hv1,Deferred.ofValue,Sem.run_bind,Sem.run_pure,Result.andThen_ok,invoke,e1,e2]
  exact weD hcal _ w
 refine⟨fun _ _=>trivial,?_⟩
 show o.uponIn (Fw ro) 0 P a next Q ((o.semAt ro a.eval).run P w)
 rw[hrun]
 refine⟨fun h=>(by cases h),?_⟩
 refine CallsIn.mono (R:=fun e w'=>∃ v p H' g' φ',e=.returned v/\Post p H'/\RepV w' (hr.bc H g none).X φ' H' v p/\Sit G (hr.bc H g none) w' φ' H' g') hcall ?_
 rintro e w' ⟨v,p,H',g',φ',rfl,hP,h5,h6⟩
 obtain⟨ρ,hb,hcl,href,hKp⟩:=hK p H' hP
 have cm:CameU hr H H' (wbP ρ H' (wbA gs σ.heap)) g ρ gs g' w' φ':=⟨hh,hb,hb.merged,h6⟩
 exact hn _ _ _ _ hKp (cm.rep.put hd (cm.val h5 hcl href))
theorem wt0 {f:FuncId} {c:Call} {xo:Operand} {caps args:List PV} {res:PV} {Q:St->Prop} (gl:List (Nat×Nat)) (gs dr:List Nat) (hf:ObjFn P G f args H res H') (h2:AOps P G ro N ops rest σ' Q)
  (hd:wao N o.dst:=by(simp only[go_sem,↓reduceIte]; done)) (hg:∀ {K:St->Prop},OpT P G ro N o σ K->wfh P G ro N (wbq ops) o σ K:=by(intro K k; simp(disch:=omega) only[go_sem,↓reduceIte]; exact k))
  (ho:o.op=.call c:=by rfl) (hc:c.callee=.value xo:=by rfl) (hx:wcB (σ.eval xo)=some (f,caps):=by rfl) (hcal:wbd P f=true:=by kernel_rfl)
  (hrow:weo σ.heap (war gl) H H:=by(simp only[weo,Row.ren,go_sem,↓reduceIte]; (repeat' (first | exact trivial | exact rfl | exact dyR rfl | exact dyS rfl | apply And.intro))))
  (hinj:wd5 (war gl) H:=by(simp only[wd5,wfp,go_sem,↓reduceIte]; (repeat' (first | exact trivial | (intro h; cases h; done) | apply And.intro))))
  (hgs:wiT (war gl) gs H:=by(simp only[wiT,go_sem,↓reduceIte]; (repeat' (first | exact trivial | exact rfl | apply And.intro))))
  (him:wmu (war gl) H gs:=by(repeat' (first | exact trivial | exact rfl | decide | apply And.intro)))
  (henv:wg1 gs (edrop dr σ.env):=by(repeat' (first | exact trivial | exact rfl | apply And.intro)))
  (hdfr:((rowsOfL σ.dfr).any fun r=>gs.contains r)=false:=by rfl)
  (hout:wfX (war gl) H gs σ.heap:=by(repeat' (first | exact trivial | exact .inl rfl | exact .inr rfl | exact .inr (by simp only[go_sem,List.any_nil]) | apply And.intro)))
  (ha:wdq σ.heap H (war gl) (wau σ c.args.toList++caps) args:=by(repeat' (first | exact trivial | exact rfl | exact dyR rfl | exact dyS rfl | apply And.intro | (simp only[go_sem,↓reduceIte]; done))))
  (hback:wfI H (war gl) gs H' H':=by(simp only[wfI,go_sem,↓reduceIte]; (repeat' (first | exact trivial | exact rfl | exact dyR rfl | exact dyS rfl | exact .inl trivial | exact .inl rfl | exact .inr rfl | decide | apply And.intro))))
  (hall:whg H' H:=by(repeat' (first | exact trivial | exact rfl | apply And.intro)))
  (hinj2:wd5 (war gl) H':=by(simp only[wd5,wfp,go_sem,↓reduceIte]; (repeat' (first | exact trivial | (intro h; cases h; done) | apply And.intro))))
  (hp:({ σ with env:=edrop dr σ.env,heap:=wbP (war gl) H' (wbA gs σ.heap) }:St).put o.dst (res.ren (war gl))=σ':=by(simp only[wbA,Row.ren,edrop,List.contains_cons,List.contains_nil,beq_iff_eq,BEq.rfl,Nat.reduceBEq,Bool.or_false,Bool.false_or,Bool.true_or,Bool.or_true,Bool.false_eq_true,go_sem,↓reduceIte]; rfl))
  (hcl:clean res:=by(simp only[clean,cleanL,and_self]; done)) (hrf:refsIn H' res:=by(first | exact trivial | exact rfl | (simp only[go_sem,↓reduceIte]; done))) :
  AOps P G ro N ops (o::rest) σ Q:=by
 refine AOps.consC hd fun K hK=>hg ?_
 refine OpT.callU2 dr (H:=H) (g:=war gl) (gs:=gs) ho hc hx hcal hf ⟨⟨fun r x h=>(wdU hrow r x h).1,fun r s x y h h'=>wd6 hinj r s x y (waK h) (waK h'),fun r x h=>(wdU hrow r x h).2⟩,fun r x h hr=>?_,fun r x h hr=>?_,fun s hs=>(wfZ him s hs).1,fun s hs=>(wfZ him s hs).2,whk henv,whY hdfr,wgy hout⟩ ha hd ?_
 ·have:=wfY hgs r x h
  rw[if_neg (by omega)]at this; exact this
 ·have:=wfY hgs r x h
  rw[if_pos hr]at this; exact this
 ·rintro p K' ⟨rfl,rfl⟩
  refine⟨war gl,⟨fun r x h hr=>?_,fun r x h _=>Option.isSome_iff_exists.1 (wge hall r x (waK h)),fun r x h hr=>?_,fun r s x y h h'=>wd6 hinj2 r s x y (waK h) (waK h'),fun r x h=>(wdz hback r x h).2⟩,hcl,hrf,hp▸hK _ h2⟩
  ·have:=(wdz hback r x h).1
   rw[if_pos hr]at this
   split at this
   ·rename_i y hy; exact⟨y,hy,rfl,this.1,fun hk=>this.2.resolve_left (by have:=this.1; omega)⟩
   ·exact this.elim
  ·have:=(wdz hback r x h).1
   rw[if_neg (by omega)]at this
   exact⟨.inr (by simpa using this.1),this.2⟩
end
end Go.Pv

namespace Go.Pv.Tryd
open Go.Proofs Go.Pv
set_option maxHeartbeats 4000000 in
theorem wqt (o1:Search) (n:Nat):∀ (at1:Int) (l1 r:List Int) (h:whH o1 n at1 l1=some r),ObjFn Tryd.prog G 56 [.ptr 0 0 0,.d (.int .i64 at1),.slc 1007 0 l1.length] [(0,⟨81,8,[.agg [.d (.int .i64 o1.k),.d (.imm 2 (wab Rule.pd o1.t)),.slc 1001 0 o1.seen.heads.length,.slc 1002 0 o1.seen.next.length,.slc 1003 0 o1.seen.keys.length,.slc 1004 0 o1.many.length,.slc 1005 0 o1.at_.length,.slc 1006 0 o1.nodes.length]]⟩),(1001,⟨3,1,dl (wab (PD.int .i64) o1.seen.heads)⟩),(1002,⟨3,1,dl (wab (PD.int .i64) o1.seen.next)⟩),(1003,⟨120,3,dl (wab Arr3_Int.pd o1.seen.keys)⟩),(1004,⟨26,1,dl (wab (wbb 1 (PD.int .i64)) o1.many)⟩),(1005,⟨3,1,dl (wab (PD.int .i64) o1.at_)⟩),(1006,⟨37,3,dl (wab Node.pd o1.nodes)⟩),(1007,⟨3,1,dl (wab (PD.int .i64) l1)⟩)] (.slc 1007 0 r.length) [(0,⟨81,8,[.agg [.d (.int .i64 o1.k),.d (.imm 2 (wab Rule.pd o1.t)),.slc 1001 0 o1.seen.heads.length,.slc 1002 0 o1.seen.next.length,.slc 1003 0 o1.seen.keys.length,.slc 1004 0 o1.many.length,.slc 1005 0 o1.at_.length,.slc 1006 0 o1.nodes.length]]⟩),(1001,⟨3,1,dl (wab (PD.int .i64) o1.seen.heads)⟩),(1002,⟨3,1,dl (wab (PD.int .i64) o1.seen.next)⟩),(1003,⟨120,3,dl (wab Arr3_Int.pd o1.seen.keys)⟩),(1004,⟨26,1,dl (wab (wbb 1 (PD.int .i64)) o1.many)⟩),(1005,⟨3,1,dl (wab (PD.int .i64) o1.at_)⟩),(1006,⟨37,3,dl (wab Node.pd o1.nodes)⟩),(1007,⟨3,1,dl (wab (PD.int .i64) r)⟩)]:=by
 induction n with
 | zero=>intro at1 l1 r h; cases h
 | succ n ih =>
  intro at1 l1 r h
  replace h:wmw (whH o1 n) o1 at1 l1=some r:=h
  unfold wmw at h
  refine ObjFn.pf Tryd.func56 Tryd.ntmps56 ?_
  refine sg fun K k=>?_
  refine oo ?_
  refine AOps.nil (k _ ?_)
  refine AWp.seq fun _ K_1=>?_
  refine sg fun K k=>?_
  iterate 2 refine oo ?_
  refine AOps.nil (k _ ?_)
  refine cd h (fun h=>?_) (fun h=>?_)
  ·refine sg fun K k=>?_
   iterate 2 refine oo ?_
   refine AOps.nil (k _ ?_)
   refine AWp.ret ?_
   cases h; exact rtO
  ·refine AWp.skip ?_
   refine K_1 _ ?_
   refine jm (ι:=Unit) [0,1,2] [0,1001,1002,1003,1004,1005,1006,1007] (fun i t=>t) (fun i t=>t) .inl h ?_ ?_
   ·intro _ hj_4 h
    refine sg fun K k=>?_
    refine oo ?_
    refine AOps.nil (k _ ?_)
    refine AWp.block ?_
    obtain⟨x_9,hl_6,h2_7⟩:=bind_some hj_4
    refine lp (S:=Int) [0,1,2] [0,1001,1002,1003,1004,1005,1006,1007] (fun i t=>(7,.d (.int .i64 i))::t) (fun i t=>t) hl_6 ?_ ?_; exact sb; clear hl_6
    rintro i1 _ hb_8; unfold wiF at hb_8; try dsimp only at hb_8
    try dsimp only
    refine AWp.seq fun _ K_11=>?_
    refine sg fun K k=>?_
    iterate 4 refine oo ?_
    refine AOps.nil (k _ ?_)
    refine cd hb_8 (fun hb_8=>?_) (fun hb_8=>?_)
    ·refine AWp.skip ?_
     refine K_11 _ ?_
     refine AWp.seq fun _ K_13=>?_
     refine AWp.block ?_
     refine sg fun K k=>?_
     obtain⟨e1,⟨f_14,f_15,f_16,f_17⟩,hb_8⟩:=waj hb_8
     iterate 3 refine oo ?_
     refine oo ?_ (by intro K k; simp(disch:=omega) only[go_sem,f_16,↓reduceIte]; exact k)
     iterate 2 refine oo ?_
     refine AOps.nil (k _ ?_)
     refine cd hb_8 (fun hb_8=>?_) (fun hb_8=>?_)
     ·refine sg fun K k=>?_
      iterate 2 refine oo ?_
      refine AOps.nil (k _ ?_)
      refine AWp.ret ?_
      refine lx hb_8 fun hx=>?_; cases hx; try dsimp only at h2_7
      cases h2_7; try dsimp only at h
      cases h; exact rtO
     ·refine AWp.skip ?_
      refine K_13 _ ?_
      refine AWp.reg ?_
      iterate 3 refine oo ?_
      refine AOps.nil ?_
      exact ln hb_8 sb
    ·refine AWp.exit ?_
     refine lx hb_8 fun hx=>?_; cases hx; try dsimp only at h2_7
     exact ln h2_7 sb
   ·rintro _ h; dsimp only at h ⊢
    obtain⟨hg_5,h⟩:=wae h
    refine sg fun K k=>?_
    iterate 2 refine oo ?_
    refine ol ?_
    iterate 2 refine oo ?_
    refine AOps.nil (k _ ?_)
    refine jn (α:=List Int) [0,1] [0,1001,1002,1003,1004,1005,1006] (fun i t=>(2,.slc 1007 0 i.length)::t) (fun i t=>(1007,⟨3,1,dl (wab (PD.int .i64) i)⟩)::t) h ?_ ?_
    ·intro _ hj_20
     refine sg fun K k=>?_
     refine oo ?_
     refine AOps.nil (k _ ?_)
     refine AWp.block ?_
     obtain⟨x_15,hl_12,h2_13⟩:=bind_some hj_20
     refine lp (S:=Int×List Int) [0,1] [0,1001,1002,1003,1004,1005,1006] (fun i t=>(2,.slc 1007 0 i.2.length)::(8,.d (.int .i64 i.1))::t) (fun i t=>(1007,⟨3,1,dl (wab (PD.int .i64) i.2)⟩)::t) hl_12 ?_ ?_; exact sb; clear hl_12
     rintro⟨i1,L1⟩ _ hb_14; unfold wj2 at hb_14; try dsimp only at hb_14
     try dsimp only
     refine AWp.seq fun _ K_17=>?_
     refine sg fun K k=>?_
     obtain⟨e1,⟨f_14,f_15,f_16,f_17⟩,hb_14⟩:=waj hb_14
     iterate 8 refine oo ?_
     refine oo ?_ (by intro K k; simp(disch:=omega) only[go_sem,f_16,↓reduceIte]; exact k)
     iterate 2 refine oo ?_
     refine AOps.nil (k _ ?_)
     refine cd hb_14 (fun hb_14=>?_) (fun hb_14=>?_)
     ·refine AWp.skip ?_
      refine K_17 _ ?_
      refine AWp.seq fun _ K_18=>?_
      refine AWp.block ?_
      refine AWp.reg ?_
      obtain⟨e2,⟨f_18,f_19,f_20,f_21⟩,hb_14⟩:=waj hb_14
      iterate 8 refine oo ?_
      refine oo ?_ (by intro K k; simp(disch:=omega) only[go_sem,f_16,↓reduceIte]; exact k)
      iterate 2 refine oo ?_
      refine oo ?_ (by intro K k; simp(disch:=omega) only[go_sem,f_20,↓reduceIte]; exact k)
      refine oo ?_
      obtain⟨r2,hx_22,hb_14⟩:=bind_some hb_14
      refine wt0 [(0,0),(1001,1001),(1002,1002),(1003,1003),(1004,1004),(1005,1005),(1006,1006),(1007,1007)] [1001,1002,1003,1004,1005,1006,1007] [2,33,35,36,46,48,49,54] (ih e2 L1 _ hx_22) ?_
      refine oo ?_
      refine AOps.nil ?_
      refine K_18 _ ?_
      refine AWp.reg ?_
      iterate 3 refine oo ?_
      refine AOps.nil ?_
      exact ln hb_14 sb
     ·refine AWp.exit ?_
      refine lx hb_14 fun hx=>?_; cases hx; try dsimp only at h2_13
      cases h2_13; exact sb
    ·rintro L3 h; dsimp only at h ⊢
     refine sg fun K k=>?_
     iterate 2 refine oo ?_
     refine AOps.nil (k _ ?_)
     refine AWp.ret ?_
     cases h; exact rtO
set_option maxHeartbeats 4000000 in
theorem wgs (o1:Search) (at1:Int) (r:(List Int)×Search) (h:wbx o1 at1 []=some r):ObjFn Tryd.prog G 56 [.ptr 0 0 0,.d (.int .i64 at1),.d .nilslice] [(0,⟨81,8,[.agg [.d (.int .i64 o1.k),.d (.imm 2 (wab Rule.pd o1.t)),.slc 1001 0 o1.seen.heads.length,.slc 1002 0 o1.seen.next.length,.slc 1003 0 o1.seen.keys.length,.slc 1004 0 o1.many.length,.slc 1005 0 o1.at_.length,.slc 1006 0 o1.nodes.length]]⟩),(1001,⟨3,1,dl (wab (PD.int .i64) o1.seen.heads)⟩),(1002,⟨3,1,dl (wab (PD.int .i64) o1.seen.next)⟩),(1003,⟨120,3,dl (wab Arr3_Int.pd o1.seen.keys)⟩),(1004,⟨26,1,dl (wab (wbb 1 (PD.int .i64)) o1.many)⟩),(1005,⟨3,1,dl (wab (PD.int .i64) o1.at_)⟩),(1006,⟨37,3,dl (wab Node.pd o1.nodes)⟩)] (.d (.imm 1 (wab (PD.int .i64) r.1))) [(0,⟨81,8,[.agg [.d (.int .i64 r.2.k),.d (.imm 2 (wab Rule.pd r.2.t)),.slc 1001 0 r.2.seen.heads.length,.slc 1002 0 r.2.seen.next.length,.slc 1003 0 r.2.seen.keys.length,.slc 1004 0 r.2.many.length,.slc 1005 0 r.2.at_.length,.slc 1006 0 r.2.nodes.length]]⟩),(1001,⟨3,1,dl (wab (PD.int .i64) r.2.seen.heads)⟩),(1002,⟨3,1,dl (wab (PD.int .i64) r.2.seen.next)⟩),(1003,⟨120,3,dl (wab Arr3_Int.pd r.2.seen.keys)⟩),(1004,⟨26,1,dl (wab (wbb 1 (PD.int .i64)) r.2.many)⟩),(1005,⟨3,1,dl (wab (PD.int .i64) r.2.at_)⟩),(1006,⟨37,3,dl (wab Node.pd r.2.nodes)⟩)]:=by
 obtain⟨_,r,rfl,h2⟩:=wtp h
 clear h
 have h:wmw (whH o1 99) o1 at1 []=some r:=h2
 unfold wmw at h
 refine ObjFn.pf Tryd.func56 Tryd.ntmps56 ?_
 refine sg fun K k=>?_
 refine oo ?_
 refine AOps.nil (k _ ?_)
 refine AWp.sub (Sub.void 2 3 1 1007 (by rfl) (by rfl) (by decide) (by decide)) ?_
 simp only[wdC,wal,reduceCtorEq,↓reduceIte,Nat.reduceAdd,Nat.reduceMul,Nat.reduceLT,Nat.reduceLeDiff,Nat.reduceEqDiff,Nat.reduceBEq,Int.reduceToNat]
 refine AWp.seq fun _ K_1=>?_
 refine sg fun K k=>?_
 iterate 2 refine oo ?_
 refine AOps.nil (k _ ?_)
 refine cd h (fun h=>?_) (fun h=>?_)
 ·refine sg fun K k=>?_
  iterate 2 refine oo ?_
  refine AOps.nil (k _ ?_)
  cases h
  refine AWp.sub (τ:=⟨[(6,.d (.imm 1 (wab (PD.int .i64) [])))],[(0,⟨81,8,[.agg [.d (.int .i64 o1.k),.d (.imm 2 (wab Rule.pd o1.t)),.slc 1001 0 o1.seen.heads.length,.slc 1002 0 o1.seen.next.length,.slc 1003 0 o1.seen.keys.length,.slc 1004 0 o1.many.length,.slc 1005 0 o1.at_.length,.slc 1006 0 o1.nodes.length]]⟩),(1001,⟨3,1,dl (wab (PD.int .i64) o1.seen.heads)⟩),(1002,⟨3,1,dl (wab (PD.int .i64) o1.seen.next)⟩),(1003,⟨120,3,dl (wab Arr3_Int.pd o1.seen.keys)⟩),(1004,⟨26,1,dl (wab (wbb 1 (PD.int .i64)) o1.many)⟩),(1005,⟨3,1,dl (wab (PD.int .i64) o1.at_)⟩),(1006,⟨37,3,dl (wab Node.pd o1.nodes)⟩)],[],none⟩) sc ?_
  refine AWp.ret ?_
  exact rtO
 ·refine AWp.skip ?_
  refine K_1 _ ?_
  refine jm (ι:=Unit) [0,1,2] [0,1001,1002,1003,1004,1005,1006,1007] (fun i t=>t) (fun i t=>t) .inl h ?_ ?_
  ·intro _ hj_4 h
   refine sg fun K k=>?_
   refine oo ?_
   refine AOps.nil (k _ ?_)
   refine AWp.block ?_
   obtain⟨x_9,hl_6,h2_7⟩:=bind_some hj_4
   refine lp (S:=Int) [0,1,2] [0,1001,1002,1003,1004,1005,1006,1007] (fun i t=>(7,.d (.int .i64 i))::t) (fun i t=>t) hl_6 ?_ ?_; exact sb; clear hl_6
   rintro i1 _ hb_8; unfold wiF at hb_8; try dsimp only at hb_8
   try dsimp only
   refine AWp.seq fun _ K_11=>?_
   refine sg fun K k=>?_
   iterate 4 refine oo ?_
   refine AOps.nil (k _ ?_)
   refine cd hb_8 (fun hb_8=>?_) (fun hb_8=>?_)
   ·refine AWp.skip ?_
    refine K_11 _ ?_
    refine AWp.seq fun _ K_13=>?_
    refine AWp.block ?_
    refine sg fun K k=>?_
    obtain⟨e1,⟨f_14,f_15,f_16,f_17⟩,hb_8⟩:=waj hb_8
    exact absurd f_16 (by simp)
   ·refine AWp.exit ?_
    refine lx hb_8 fun hx=>?_; cases hx; try dsimp only at h2_7
    exact ln h2_7 sb
  ·rintro _ h; dsimp only at h ⊢
   obtain⟨hg_5,h⟩:=wae h
   refine sg fun K k=>?_
   iterate 2 refine oo ?_
   refine ol ?_
   iterate 2 refine oo ?_
   refine AOps.nil (k _ ?_)
   refine jn (α:=List Int) [0,1] [0,1001,1002,1003,1004,1005,1006] (fun i t=>(2,.slc 1007 0 i.length)::t) (fun i t=>(1007,⟨3,1,dl (wab (PD.int .i64) i)⟩)::t) h ?_ ?_
   ·intro _ hj_20
    refine sg fun K k=>?_
    refine oo ?_
    refine AOps.nil (k _ ?_)
    refine AWp.block ?_
    obtain⟨x_15,hl_12,h2_13⟩:=bind_some hj_20
    refine lp (S:=Int×List Int) [0,1] [0,1001,1002,1003,1004,1005,1006] (fun i t=>(2,.slc 1007 0 i.2.length)::(8,.d (.int .i64 i.1))::t) (fun i t=>(1007,⟨3,1,dl (wab (PD.int .i64) i.2)⟩)::t) hl_12 ?_ ?_; exact sb; clear hl_12
    rintro⟨i1,L1⟩ _ hb_14; unfold wj2 at hb_14; try dsimp only at hb_14
    try dsimp only
    refine AWp.seq fun _ K_17=>?_
    refine sg fun K k=>?_
    obtain⟨e1,⟨f_14,f_15,f_16,f_17⟩,hb_14⟩:=waj hb_14
    iterate 8 refine oo ?_
    refine oo ?_ (by intro K k; simp(disch:=omega) only[go_sem,f_16,↓reduceIte]; exact k)
    iterate 2 refine oo ?_
    refine AOps.nil (k _ ?_)
    refine cd hb_14 (fun hb_14=>?_) (fun hb_14=>?_)
    ·refine AWp.skip ?_
     refine K_17 _ ?_
     refine AWp.seq fun _ K_18=>?_
     refine AWp.block ?_
     refine AWp.reg ?_
     obtain⟨e2,⟨f_18,f_19,f_20,f_21⟩,hb_14⟩:=waj hb_14
     iterate 8 refine oo ?_
     refine oo ?_ (by intro K k; simp(disch:=omega) only[go_sem,f_16,↓reduceIte]; exact k)
     iterate 2 refine oo ?_
     refine oo ?_ (by intro K k; simp(disch:=omega) only[go_sem,f_20,↓reduceIte]; exact k)
     refine oo ?_
     obtain⟨r2,hx_22,hb_14⟩:=bind_some hb_14
     refine wt0 [(0,0),(1001,1001),(1002,1002),(1003,1003),(1004,1004),(1005,1005),(1006,1006),(1007,1007)] [1001,1002,1003,1004,1005,1006,1007] [2,33,35,36,46,48,49,54] (wqt o1 99 e2 L1 _ hx_22) ?_
     refine oo ?_
     refine AOps.nil ?_
     refine K_18 _ ?_
     refine AWp.reg ?_
     iterate 3 refine oo ?_
     refine AOps.nil ?_
     exact ln hb_14 sb
    ·refine AWp.exit ?_
     refine lx hb_14 fun hx=>?_; cases hx; try dsimp only at h2_13
     cases h2_13; exact sb
   ·rintro L3 h; dsimp only at h ⊢
    refine sg fun K k=>?_
    iterate 2 refine oo ?_
    refine AOps.nil (k _ ?_)
    cases h
    refine AWp.sub (τ:=⟨[(6,.d (.imm 1 (wab (PD.int .i64) r)))],[(0,⟨81,8,[.agg [.d (.int .i64 o1.k),.d (.imm 2 (wab Rule.pd o1.t)),.slc 1001 0 o1.seen.heads.length,.slc 1002 0 o1.seen.next.length,.slc 1003 0 o1.seen.keys.length,.slc 1004 0 o1.many.length,.slc 1005 0 o1.at_.length,.slc 1006 0 o1.nodes.length]]⟩),(1001,⟨3,1,dl (wab (PD.int .i64) o1.seen.heads)⟩),(1002,⟨3,1,dl (wab (PD.int .i64) o1.seen.next)⟩),(1003,⟨120,3,dl (wab Arr3_Int.pd o1.seen.keys)⟩),(1004,⟨26,1,dl (wab (wbb 1 (PD.int .i64)) o1.many)⟩),(1005,⟨3,1,dl (wab (PD.int .i64) o1.at_)⟩),(1006,⟨37,3,dl (wab Node.pd o1.nodes)⟩)],[],none⟩) sc ?_
    refine AWp.ret ?_
    exact rtO
end Go.Pv.Tryd

namespace Go.Pv.Tryd
open Go.Proofs Go.Pv
set_option maxHeartbeats 4000000 in
theorem wio (k1:Int) (t1:(List Rule)) (r:((List Node)×Int)) (h:wbG k1 t1=some r):PureFn Tryd.prog G 25 [.d (.int .i64 k1),.d (.imm 2 (wab Rule.pd t1))] (.tuple [.d (.imm 3 (wab Node.pd r.1)),.d (.int .i64 r.2)]):=by
 unfold wbG at h
 refine pf Tryd.func25 Tryd.ntmps25 ?_
 refine sg fun K k=>?_
 iterate 2 refine oo ?_
 refine AOps.nil (k _ ?_)
 refine sg fun K k=>?_
 iterate 2 refine oo ?_
 obtain⟨r1,hx_1,h⟩:=bind_some h
 refine cl (wgh k1 t1 _ hx_1) ?_
 refine oo ?_
 refine AOps.nil (k _ ?_)
 refine AWp.seq fun _ K_2=>?_
 refine sg fun K k=>?_
 iterate 2 refine oo ?_
 refine AOps.nil (k _ ?_)
 refine cd h (fun h=>?_) (fun h=>?_)
 ·refine sg fun K k=>?_
  iterate 3 refine oo ?_
  refine AOps.nil (k _ ?_)
  refine AWp.ret ?_
  cases h; exact rt
 ·refine AWp.skip ?_
  refine K_2 _ ?_
  refine sg fun K k=>?_
  iterate 5 refine oo ?_
  refine AOps.sub (Sub.voidCell 1000 2 3 1 1001 (x:=⟨81,8,[.d (.agg [(.int .i64 k1),(.imm 2 (wab Rule.pd t1)),.nilslice,.nilslice,.nilslice,.nilslice,.nilslice,.nilslice])]⟩) (p:=.d (.agg [(.int .i64 k1),(.imm 2 (wab Rule.pd t1)),.nilslice,.nilslice,.nilslice,.nilslice,.nilslice,.nilslice])) (cs:=[.d (.int .i64 k1),.d (.imm 2 (wab Rule.pd t1)),.d .nilslice,.d .nilslice,.d .nilslice,.d .nilslice,.d .nilslice,.d .nilslice]) rfl (Nat.le_of_ble_eq_true rfl) rfl rfl rfl rfl rfl (by decide) (by decide)) ?_
  simp only[wal,List.set_cons_succ,List.set_cons_zero,reduceCtorEq,↓reduceIte,Nat.reduceAdd,Nat.reduceMul,Nat.reduceLT,Nat.reduceLeDiff,Nat.reduceEqDiff,Nat.reduceBEq,Int.reduceToNat]
  refine AOps.sub (Sub.voidCell 1000 3 3 1 1002 (x:=⟨81,8,[.agg [.d (.int .i64 k1),.d (.imm 2 (wab Rule.pd t1)),.slc 1001 0 0,.d .nilslice,.d .nilslice,.d .nilslice,.d .nilslice,.d .nilslice]]⟩) (p:=.agg [.d (.int .i64 k1),.d (.imm 2 (wab Rule.pd t1)),.slc 1001 0 0,.d .nilslice,.d .nilslice,.d .nilslice,.d .nilslice,.d .nilslice]) (cs:=[.d (.int .i64 k1),.d (.imm 2 (wab Rule.pd t1)),.slc 1001 0 0,.d .nilslice,.d .nilslice,.d .nilslice,.d .nilslice,.d .nilslice]) rfl (Nat.le_of_ble_eq_true rfl) rfl rfl rfl rfl rfl (by decide) (by decide)) ?_
  simp only[wal,List.set_cons_succ,List.set_cons_zero,reduceCtorEq,↓reduceIte,Nat.reduceAdd,Nat.reduceMul,Nat.reduceLT,Nat.reduceLeDiff,Nat.reduceEqDiff,Nat.reduceBEq,Int.reduceToNat]
  refine AOps.sub (Sub.voidCell 1000 4 120 3 1003 (x:=⟨81,8,[.agg [.d (.int .i64 k1),.d (.imm 2 (wab Rule.pd t1)),.slc 1001 0 0,.slc 1002 0 0,.d .nilslice,.d .nilslice,.d .nilslice,.d .nilslice]]⟩) (p:=.agg [.d (.int .i64 k1),.d (.imm 2 (wab Rule.pd t1)),.slc 1001 0 0,.slc 1002 0 0,.d .nilslice,.d .nilslice,.d .nilslice,.d .nilslice]) (cs:=[.d (.int .i64 k1),.d (.imm 2 (wab Rule.pd t1)),.slc 1001 0 0,.slc 1002 0 0,.d .nilslice,.d .nilslice,.d .nilslice,.d .nilslice]) rfl (Nat.le_of_ble_eq_true rfl) rfl rfl rfl rfl rfl (by decide) (by decide)) ?_
  simp only[wal,List.set_cons_succ,List.set_cons_zero,reduceCtorEq,↓reduceIte,Nat.reduceAdd,Nat.reduceMul,Nat.reduceLT,Nat.reduceLeDiff,Nat.reduceEqDiff,Nat.reduceBEq,Int.reduceToNat]
  refine AOps.sub (Sub.voidCell 1000 5 26 1 1004 (x:=⟨81,8,[.agg [.d (.int .i64 k1),.d (.imm 2 (wab Rule.pd t1)),.slc 1001 0 0,.slc 1002 0 0,.slc 1003 0 0,.d .nilslice,.d .nilslice,.d .nilslice]]⟩) (p:=.agg [.d (.int .i64 k1),.d (.imm 2 (wab Rule.pd t1)),.slc 1001 0 0,.slc 1002 0 0,.slc 1003 0 0,.d .nilslice,.d .nilslice,.d .nilslice]) (cs:=[.d (.int .i64 k1),.d (.imm 2 (wab Rule.pd t1)),.slc 1001 0 0,.slc 1002 0 0,.slc 1003 0 0,.d .nilslice,.d .nilslice,.d .nilslice]) rfl (Nat.le_of_ble_eq_true rfl) rfl rfl rfl rfl rfl (by decide) (by decide)) ?_
  simp only[wal,List.set_cons_succ,List.set_cons_zero,reduceCtorEq,↓reduceIte,Nat.reduceAdd,Nat.reduceMul,Nat.reduceLT,Nat.reduceLeDiff,Nat.reduceEqDiff,Nat.reduceBEq,Int.reduceToNat]
  refine AOps.sub (Sub.voidCell 1000 6 3 1 1005 (x:=⟨81,8,[.agg [.d (.int .i64 k1),.d (.imm 2 (wab Rule.pd t1)),.slc 1001 0 0,.slc 1002 0 0,.slc 1003 0 0,.slc 1004 0 0,.d .nilslice,.d .nilslice]]⟩) (p:=.agg [.d (.int .i64 k1),.d (.imm 2 (wab Rule.pd t1)),.slc 1001 0 0,.slc 1002 0 0,.slc 1003 0 0,.slc 1004 0 0,.d .nilslice,.d .nilslice]) (cs:=[.d (.int .i64 k1),.d (.imm 2 (wab Rule.pd t1)),.slc 1001 0 0,.slc 1002 0 0,.slc 1003 0 0,.slc 1004 0 0,.d .nilslice,.d .nilslice]) rfl (Nat.le_of_ble_eq_true rfl) rfl rfl rfl rfl rfl (by decide) (by decide)) ?_
  simp only[wal,List.set_cons_succ,List.set_cons_zero,reduceCtorEq,↓reduceIte,Nat.reduceAdd,Nat.reduceMul,Nat.reduceLT,Nat.reduceLeDiff,Nat.reduceEqDiff,Nat.reduceBEq,Int.reduceToNat]
  refine AOps.sub (Sub.voidCell 1000 7 37 3 1006 (x:=⟨81,8,[.agg [.d (.int .i64 k1),.d (.imm 2 (wab Rule.pd t1)),.slc 1001 0 0,.slc 1002 0 0,.slc 1003 0 0,.slc 1004 0 0,.slc 1005 0 0,.d .nilslice]]⟩) (p:=.agg [.d (.int .i64 k1),.d (.imm 2 (wab Rule.pd t1)),.slc 1001 0 0,.slc 1002 0 0,.slc 1003 0 0,.slc 1004 0 0,.slc 1005 0 0,.d .nilslice]) (cs:=[.d (.int .i64 k1),.d (.imm 2 (wab Rule.pd t1)),.slc 1001 0 0,.slc 1002 0 0,.slc 1003 0 0,.slc 1004 0 0,.slc 1005 0 0,.d .nilslice]) rfl (Nat.le_of_ble_eq_true rfl) rfl rfl rfl rfl rfl (by decide) (by decide)) ?_
  simp only[wal,List.set_cons_succ,List.set_cons_zero,reduceCtorEq,↓reduceIte,Nat.reduceAdd,Nat.reduceMul,Nat.reduceLT,Nat.reduceLeDiff,Nat.reduceEqDiff,Nat.reduceBEq,Int.reduceToNat]
  refine AOps.nil (k _ ?_)
  refine sg fun K k=>?_
  iterate 2 refine oo ?_
  obtain⟨r2,hx_4,h⟩:=bind_some h
  refine cl (wgI t1 _ hx_4) ?_
  obtain⟨r3,hx_5,h⟩:=bind_some h
  refine clU [(0,1000),(1001,1001),(1002,1002),(1003,1003),(1004,1004),(1005,1005),(1006,1006)] [1001,1002,1003,1004,1005,1006] (wgL 100 (⟨k1,t1,(⟨[],[],[]⟩:Table),[],[],[]⟩:Search) 0 r2 _ hx_5) ?_
  refine oo ?_
  refine AOps.nil (k _ ?_)
  refine AWp.seq fun _ K_6=>?_
  refine sg fun K k=>?_
  iterate 2 refine oo ?_
  refine AOps.nil (k _ ?_)
  refine cd h (fun h=>?_) (fun h=>?_)
  ·refine sg fun K k=>?_
   refine ol ?_
   refine oo ?_
   refine ol ?_
   refine oo ?_
   refine ol ?_
   iterate 2 refine oo ?_
   refine AOps.nil (k _ ?_)
   refine AWp.ret ?_
   cases h; exact rt
  ·refine AWp.skip ?_
   refine K_6 _ ?_
   refine sg fun K k=>?_
   iterate 2 refine oo ?_
   obtain⟨r4,hx_8,h⟩:=bind_some h
   refine clU [(0,1000),(1001,1001),(1002,1002),(1003,1003),(1004,1004),(1005,1005),(1006,1006)] [1001,1002,1003,1004,1005,1006] (wgs r3.2 r3.1 _ hx_8) ?_
   refine oo ?_
   refine AOps.nil (k _ ?_)
   refine sg fun K k=>?_
   refine oo ?_
   refine AOps.nil (k _ ?_)
   refine AWp.sub (Sub.void 10 37 3 1007 (by rfl) (by rfl) (by decide) (by decide)) ?_
   simp only[wdC,wal,reduceCtorEq,↓reduceIte,Nat.reduceAdd,Nat.reduceMul,Nat.reduceLT,Nat.reduceLeDiff,Nat.reduceEqDiff,Nat.reduceBEq,Int.reduceToNat]
   refine jn (α:=(List Node)) [] [] (fun i t=>(10,.slc 1007 0 i.length)::t) (fun i t=>(1007,⟨37,3,dl (wab Node.pd i)⟩)::t) h ?_ ?_
   ·intro _ hj_10
    refine sg fun K k=>?_
    refine oo ?_
    refine AOps.nil (k _ ?_)
    refine AWp.block ?_
    obtain⟨x_15,hl_12,h2_13⟩:=bind_some hj_10
    refine lp (S:=(Int×(List Node))) [7,9] [1000,1001,1002,1003,1004,1005,1006] (fun i t=>(10,.slc 1007 0 i.2.length)::(11,.d (.int .i64 i.1))::t) (fun i t=>(1007,⟨37,3,dl (wab Node.pd i.2)⟩)::t) hl_12 ?_ ?_; exact sb; clear hl_12
    rintro⟨i1,L2⟩ _ hb_14; unfold wb1 at hb_14; try dsimp only at hb_14
    try dsimp only
    refine AWp.seq fun _ K_17=>?_
    refine sg fun K k=>?_
    iterate 4 refine oo ?_
    refine AOps.nil (k _ ?_)
    refine cd hb_14 (fun hb_14=>?_) (fun hb_14=>?_)
    ·refine AWp.skip ?_
     refine K_17 _ ?_
     refine jn (α:=(List Node)) [7,9,11] [1000,1001,1002,1003,1004,1005,1006] (fun i t=>(10,.slc 1007 0 i.length)::t) (fun i t=>(1007,⟨37,3,dl (wab Node.pd i)⟩)::t) hb_14 ?_ ?_
     ·intro _ hj_20
      refine AWp.block ?_
      refine sd mo fun K k=>?_
      obtain⟨e1,⟨f_21,f_22,f_23,f_24⟩,hj_20⟩:=waj hj_20
      iterate 7 refine dd ?_
      refine dd ?_ (by intro K k; simp(disch:=omega) only[go_sem,f_23,↓reduceIte]; exact k)
      obtain⟨e2,⟨f_25,f_26,f_27,f_28⟩,hj_20⟩:=waj hj_20
      refine dd ?_
      refine dd ?_ (by intro K k; simp(disch:=omega) only[go_sem,f_27,↓reduceIte]; exact k)
      iterate 2 refine dd ?_
      refine DOps.nil (by kernel_rfl) (k _ ?_)
      refine sg fun K k=>?_
      iterate 5 refine oo ?_
      refine AOps.sub (Sub.voidCell 1009 1 3 1 1010 (x:=⟨37,3,[.d (.agg [(.int .i64 e2.Mark),.nilslice,.nilslice])]⟩) (p:=.d (.agg [(.int .i64 e2.Mark),.nilslice,.nilslice])) (cs:=[.d (.int .i64 e2.Mark),.d .nilslice,.d .nilslice]) rfl (Nat.le_of_ble_eq_true rfl) rfl rfl rfl rfl rfl (by decide) (by decide)) ?_
      simp only[wal,List.set_cons_succ,List.set_cons_zero,reduceCtorEq,↓reduceIte,Nat.reduceAdd,Nat.reduceMul,Nat.reduceLT,Nat.reduceLeDiff,Nat.reduceEqDiff,Nat.reduceBEq,Int.reduceToNat]
      refine AOps.sub (Sub.voidCell 1009 2 3 1 1011 (x:=⟨37,3,[.agg [.d (.int .i64 e2.Mark),.slc 1010 0 0,.d .nilslice]]⟩) (p:=.agg [.d (.int .i64 e2.Mark),.slc 1010 0 0,.d .nilslice]) (cs:=[.d (.int .i64 e2.Mark),.slc 1010 0 0,.d .nilslice]) rfl (Nat.le_of_ble_eq_true rfl) rfl rfl rfl rfl rfl (by decide) (by decide)) ?_
      simp only[wal,List.set_cons_succ,List.set_cons_zero,reduceCtorEq,↓reduceIte,Nat.reduceAdd,Nat.reduceMul,Nat.reduceLT,Nat.reduceLeDiff,Nat.reduceEqDiff,Nat.reduceBEq,Int.reduceToNat]
      refine AOps.nil (k _ ?_)
      refine sg fun K k=>?_
      obtain⟨hg_29,hj_20⟩:=wae hj_20
      iterate 7 refine oo ?_
      refine AOps.nil (k _ ?_)
      refine jn (α:=(List Int)) [7,9,10,11,13] [1000,1001,1002,1003,1004,1005,1006,1007,1010] (fun i t=>t) (fun i t=>(1009,⟨37,3,[.agg [.d (.int .i64 e2.Mark),.slc 1010 0 (0+e2.Cuts.length),.slc 1011 0 i.length]]⟩)::(1011,⟨3,1,dl (wab (PD.int .i64) i)⟩)::t) hj_20 ?_ ?_
      ·intro _ hj_31
       refine sg fun K k=>?_
       refine oo ?_
       refine AOps.nil (k _ ?_)
       refine AWp.block ?_
       obtain⟨x_36,hl_33,h2_34⟩:=bind_some hj_31
       refine lp (S:=(Int×(List Int))) [7,9,10,11,12,13] [1000,1001,1002,1003,1004,1005,1006,1007,1008,1010] (fun i t=>(14,.d (.int .i64 i.1))::t) (fun i t=>(1009,⟨37,3,[.agg [.d (.int .i64 e2.Mark),.slc 1010 0 (0+e2.Cuts.length),.slc 1011 0 i.2.length]]⟩)::(1011,⟨3,1,dl (wab (PD.int .i64) i.2)⟩)::t) hl_33 ?_ ?_; exact sb; clear hl_33
       rintro⟨j1,L5⟩ _ hb_35; unfold wb0 at hb_35; try dsimp only at hb_35
       try dsimp only
       refine AWp.seq fun _ K_38=>?_
       refine sg fun K k=>?_
       iterate 5 refine oo ?_
       refine AOps.nil (k _ ?_)
       refine cd hb_35 (fun hb_35=>?_) (fun hb_35=>?_)
       ·refine AWp.skip ?_
        refine K_38 _ ?_
        refine jn (α:=(List Int)) [7,9,10,11,12,13,14] [1000,1001,1002,1003,1004,1005,1006,1007,1008,1010] (fun i t=>t) (fun i t=>(1009,⟨37,3,[.agg [.d (.int .i64 e2.Mark),.slc 1010 0 (0+e2.Cuts.length),.slc 1011 0 i.length]]⟩)::(1011,⟨3,1,dl (wab (PD.int .i64) i)⟩)::t) hb_35 ?_ ?_
        ·intro _ hj_41
         refine AWp.block ?_
         refine sg fun K k=>?_
         obtain⟨e3,⟨f_42,f_43,f_44,f_45⟩,hj_41⟩:=waj hj_41
         iterate 4 refine oo ?_
         refine oo ?_ (by intro K k; simp(disch:=omega) only[go_sem,f_44,↓reduceIte]; exact k)
         refine oo ?_
         refine AOps.nil (k _ ?_)
         refine jn (α:=Int) [7,9,10,11,12,13,14] [1000,1001,1002,1003,1004,1005,1006,1007,1008,1009,1010,1011] (fun i t=>(15,.d (.int .i64 i))::t) (fun i t=>t) hj_41 ?_ ?_
         ·intro _ hj_47
          refine sg fun K k=>?_
          refine oo ?_
          refine AOps.nil (k _ ?_)
          refine AWp.block ?_
          obtain⟨x_52,hl_49,h2_50⟩:=bind_some hj_47
          refine lp (S:=(Int×Int)) [7,9,10,11,12,13,14] [1000,1001,1002,1003,1004,1005,1006,1007,1008,1009,1010,1011] (fun i t=>(15,.d (.int .i64 i.1))::(16,.d (.int .i64 i.2))::t) (fun i t=>t) hl_49 ?_ ?_; exact sb; clear hl_49
          rintro⟨to2,m1⟩ _ hb_51; unfold waO at hb_51; try dsimp only at hb_51
          try dsimp only
          refine AWp.seq fun _ K_54=>?_
          refine sg fun K k=>?_
          iterate 5 refine oo ?_
          obtain⟨b1,hc_55,hb_51⟩:=bind_some hb_51
          refine ct 7 [7,9,10,11,12,13,14,15,16] [1000,1001,1002,1003,1004,1005,1006,1007,1008,1009,1010,1011] (fun  t=>(89,.d (.bool b1))::t) ?_ ?_
          ·rcases bt (decide (m1 < (r4.1.length:Int)))with hg_60 | hg_60
           ·rw[hg_60]
            rw[hg_60,cond_true]at hc_55
            obtain⟨e4,⟨f_56,f_57,f_58,f_59⟩,hc_55⟩:=waj hc_55
            iterate 4 refine oo ?_
            refine oo ?_ (by intro K k; simp(disch:=omega) only[go_sem,f_58,↓reduceIte]; exact k)
            iterate 2 refine oo ?_
            refine AOps.nil ?_
            cases hc_55
            exact sb
           ·rw[hg_60]
            rw[hg_60,cond_false]at hc_55
            iterate 7 refine oo ?_
            refine AOps.nil ?_
            cases hc_55
            exact sb
          refine AOps.nil (k _ ?_)
          refine cd hb_51 (fun hb_51=>?_) (fun hb_51=>?_)
          ·refine AWp.skip ?_
           refine K_54 _ ?_
           refine jn (α:=Int) [7,9,10,11,12,13,14,16] [1000,1001,1002,1003,1004,1005,1006,1007,1008,1009,1010,1011] (fun i t=>(15,.d (.int .i64 i))::t) (fun i t=>t) hb_51 ?_ ?_
           ·intro _ hj_63
            refine AWp.block ?_
            refine sd mo fun K k=>?_
            obtain⟨e5,⟨f_64,f_65,f_66,f_67⟩,hj_63⟩:=waj hj_63
            iterate 3 refine dd ?_
            refine dd ?_ (by intro K k; simp(disch:=omega) only[go_sem,f_66,↓reduceIte]; exact k)
            obtain⟨e6,⟨f_68,f_69,f_70,f_71⟩,hj_63⟩:=waj hj_63
            iterate 4 refine dd ?_
            refine dd ?_ (by intro K k; simp(disch:=omega) only[go_sem,f_70,↓reduceIte]; exact k)
            refine dd ?_
            refine DOps.nil (by kernel_rfl) (k _ ?_)
            refine cd hj_63 (fun hj_63=>?_) (fun hj_63=>?_)
            ·refine AWp.reg ?_
             iterate 2 refine oo ?_
             refine AOps.nil ?_
             cases hj_63; exact sb
            ·refine AWp.skip ?_
             cases hj_63; exact sb
           ·rintro to3 hb_51; dsimp only at hb_51 ⊢
            refine AWp.reg ?_
            iterate 3 refine oo ?_
            refine AOps.nil ?_
            exact ln hb_51 sb
          ·refine AWp.exit ?_
           refine lx hb_51 fun hx=>?_; cases hx; try dsimp only at h2_50
           cases h2_50; exact sb
         ·rintro to1 hj_41; dsimp only at hj_41 ⊢
          refine AWp.reg ?_
          iterate 3 refine oo ?_
          refine ol ?_
          obtain⟨hg_73,hj_41⟩:=wae hj_41
          iterate 3 refine oo ?_
          refine AOps.nil ?_
          cases hj_41; exact sb
        ·rintro L6 hb_35; dsimp only at hb_35 ⊢
         refine AWp.reg ?_
         iterate 3 refine oo ?_
         refine AOps.nil ?_
         exact ln hb_35 sb
       ·refine AWp.exit ?_
        refine lx hb_35 fun hx=>?_; cases hx; try dsimp only at h2_34
        cases h2_34; exact sb
      ·rintro L4 hj_20; dsimp only at hj_20 ⊢
       refine AWp.reg ?_
       iterate 2 refine oo ?_
       refine AOps.sub (τ:=⟨[(7,.ptr 1000 0 0),(9,.d (.imm 1 (wab (PD.int .i64) r4.1))),(11,.d (.int .i64 i1)),(109,.slc 1007 0 L2.length),(110,.d (.agg [(.int .i64 e2.Mark),(.imm 1 (wab (PD.int .i64) e2.Cuts)),(.imm 1 (wab (PD.int .i64) L4))]))],[(1000,⟨81,8,[.agg [.d (.int .i64 r4.2.k),.d (.imm 2 (wab Rule.pd r4.2.t)),.slc 1001 0 r4.2.seen.heads.length,.slc 1002 0 r4.2.seen.next.length,.slc 1003 0 r4.2.seen.keys.length,.slc 1004 0 r4.2.many.length,.slc 1005 0 r4.2.at_.length,.slc 1006 0 r4.2.nodes.length]]⟩),(1001,⟨3,1,dl (wab (PD.int .i64) r4.2.seen.heads)⟩),(1002,⟨3,1,dl (wab (PD.int .i64) r4.2.seen.next)⟩),(1003,⟨120,3,dl (wab Arr3_Int.pd r4.2.seen.keys)⟩),(1004,⟨26,1,dl (wab (wbb 1 (PD.int .i64)) r4.2.many)⟩),(1005,⟨3,1,dl (wab (PD.int .i64) r4.2.at_)⟩),(1006,⟨37,3,dl (wab Node.pd r4.2.nodes)⟩),(1007,⟨37,3,dl (wab Node.pd L2)⟩)],[],none⟩) sc ?_
       refine ol ?_
       obtain⟨hg_74,hj_20⟩:=wae hj_20
       iterate 2 refine oo ?_
       refine AOps.nil ?_
       cases hj_20; exact sb
     ·rintro L3 hb_14; dsimp only at hb_14 ⊢
      refine AWp.reg ?_
      iterate 3 refine oo ?_
      refine AOps.nil ?_
      exact ln hb_14 sb
    ·refine AWp.exit ?_
     refine lx hb_14 fun hx=>?_; cases hx; try dsimp only at h2_13
     cases h2_13; exact sb
   ·rintro L1 h; dsimp only at h ⊢
    refine sg fun K k=>?_
    iterate 3 refine oo ?_
    refine AOps.nil (k _ ?_)
    refine AWp.ret ?_
    cases h; exact rt
end Go.Pv.Tryd

namespace Go.Pv.Tryd
open Go.Proofs Go.Pv
theorem wi5 (a1:(List Node)) (b1:(List Node)) (r:Bool) (h:wcj a1 b1=some r):PureFn Tryd.prog G 27 [.d (.imm 3 (wab Node.pd a1)),.d (.imm 3 (wab Node.pd b1))] (.d (.bool r)):=by
 unfold wcj at h
 refine pf Tryd.func27 Tryd.ntmps27 ?_
 refine sg fun K k=>?_
 refine oo ?_
 refine AOps.nil (k _ ?_)
 refine AWp.seq fun _ K_1=>?_
 refine sg fun K k=>?_
 iterate 5 refine oo ?_
 refine AOps.nil (k _ ?_)
 refine cd h (fun h=>?_) (fun h=>?_)
 ·refine sg fun K k=>?_
  refine oo ?_
  refine AOps.nil (k _ ?_)
  refine AWp.ret ?_
  cases h; exact rt
 ·refine AWp.skip ?_
  refine K_1 _ ?_
  refine jm (ι:=Unit) [] [] (fun i t=>t) (fun i t=>t) .inl h ?_ ?_
  ·intro _ hj_4 h
   refine sg fun K k=>?_
   refine oo ?_
   refine AOps.nil (k _ ?_)
   refine AWp.block ?_
   obtain⟨x_9,hl_6,h2_7⟩:=bind_some hj_4
   refine lp (S:=Int) [0,1] [] (fun i t=>(5,.d (.int .i64 i))::t) (fun i t=>t) hl_6 ?_ ?_; exact sb; clear hl_6
   rintro i1 _ hb_8; unfold waX at hb_8; try dsimp only at hb_8
   try dsimp only
   refine AWp.seq fun _ K_11=>?_
   refine sg fun K k=>?_
   iterate 4 refine oo ?_
   refine AOps.nil (k _ ?_)
   refine cd hb_8 (fun hb_8=>?_) (fun hb_8=>?_)
   ·refine AWp.skip ?_
    refine K_11 _ ?_
    refine AWp.seq fun _ K_13=>?_
    refine AWp.block ?_
    refine sd mo fun K k=>?_
    obtain⟨e1,⟨f_14,f_15,f_16,f_17⟩,hb_8⟩:=waj hb_8
    iterate 4 refine dd ?_
    refine dd ?_ (by intro K k; simp(disch:=omega) only[go_sem,f_16,↓reduceIte]; exact k)
    obtain⟨e2,⟨f_18,f_19,f_20,f_21⟩,hb_8⟩:=waj hb_8
    iterate 4 refine dd ?_
    refine dd ?_ (by intro K k; simp(disch:=omega) only[go_sem,f_20,↓reduceIte]; exact k)
    iterate 2 refine dd ?_
    rcases bt (decide (¬e1.Mark=e2.Mark))with hg_22 | hg_22
    ·rw[hg_22]
     rw[hg_22,cond_true]at hb_8
     iterate 27 refine dd ?_
     refine DOps.nil (by kernel_rfl) (k _ ?_)
     refine cdt ?_
     refine sg fun K k=>?_
     refine oo ?_
     refine AOps.nil (k _ ?_)
     refine AWp.ret ?_
     refine lx hb_8 fun hx=>?_; cases hx; try dsimp only at h2_7
     cases h2_7; try dsimp only at h
     cases h; exact rt
    ·rw[hg_22]
     rw[hg_22,cond_false]at hb_8
     iterate 4 refine dd ?_
     refine dd ?_ (by intro K k; simp(disch:=omega) only[go_sem,f_16,↓reduceIte]; exact k)
     iterate 4 refine dd ?_
     refine dd ?_ (by intro K k; simp(disch:=omega) only[go_sem,f_20,↓reduceIte]; exact k)
     obtain⟨r1,hx_24,hb_8⟩:=bind_some hb_8
     refine dcl (wc2 e1.Cuts e2.Cuts _ hx_24) ?_
     iterate 3 refine dd ?_
     rcases bt (!r1)with hg_25 | hg_25
     ·rw[hg_25]
      rw[hg_25,cond_true]at hb_8
      iterate 13 refine dd ?_
      refine DOps.nil (by kernel_rfl) (k _ ?_)
      refine cdt ?_
      refine sg fun K k=>?_
      refine oo ?_
      refine AOps.nil (k _ ?_)
      refine AWp.ret ?_
      refine lx hb_8 fun hx=>?_; cases hx; try dsimp only at h2_7
      cases h2_7; try dsimp only at h
      cases h; exact rt
     ·rw[hg_25]
      rw[hg_25,cond_false]at hb_8
      iterate 4 refine dd ?_
      refine dd ?_ (by intro K k; simp(disch:=omega) only[go_sem,f_16,↓reduceIte]; exact k)
      iterate 4 refine dd ?_
      refine dd ?_ (by intro K k; simp(disch:=omega) only[go_sem,f_20,↓reduceIte]; exact k)
      obtain⟨r2,hx_27,hb_8⟩:=bind_some hb_8
      refine dcl (wc2 e1.To e2.To _ hx_27) ?_
      iterate 2 refine dd ?_
      refine DOps.nil (by kernel_rfl) (k _ ?_)
      refine cd hb_8 (fun hb_8=>?_) (fun hb_8=>?_)
      ·refine sg fun K k=>?_
       refine oo ?_
       refine AOps.nil (k _ ?_)
       refine AWp.ret ?_
       refine lx hb_8 fun hx=>?_; cases hx; try dsimp only at h2_7
       cases h2_7; try dsimp only at h
       cases h; exact rt
      ·refine AWp.skip ?_
       refine K_13 _ ?_
       refine AWp.reg ?_
       iterate 3 refine oo ?_
       refine AOps.nil ?_
       exact ln hb_8 sb
   ·refine AWp.exit ?_
    refine lx hb_8 fun hx=>?_; cases hx; try dsimp only at h2_7
    exact ln h2_7 sb
  ·rintro _ h; dsimp only at h ⊢
   refine sg fun K k=>?_
   refine oo ?_
   refine AOps.nil (k _ ?_)
   refine AWp.ret ?_
   cases h; exact rt
end Go.Pv.Tryd

namespace Go.Pv.Tryd
open Go.Proofs Go.Pv
end Go.Pv.Tryd

namespace Go.Pv.Tryd
open Go.Proofs Go.Pv
end Go.Pv.Tryd

namespace Go.Pv.Tryd
open Go.Proofs Go.Pv
end Go.Pv.Tryd

namespace Go.Pv.Tryd
open Go.Proofs Go.Pv
end Go.Pv.Tryd

namespace Go.Pv.Tryd
open Go.Proofs Go.Pv
end Go.Pv.Tryd

namespace Go.Pv.Tryd
open Go.Proofs Go.Pv
end Go.Pv.Tryd

namespace Go.Pv.Tryd
open Go.Proofs Go.Pv
theorem wti:wnx G:=by
 intro g x h
 simp only[G,List.mem_singleton,Prod.mk.injEq]at h
 obtain⟨_,rfl⟩:=h
 simp only[noRef]
 exact woE _
end Go.Pv.Tryd

namespace Go.Pv
def wip (l:List Node):Prop:=l.length<=1000000/\∀ x∈l,x.To.length<=1000000/\x.Cuts.length=x.To.length
instance (l:List Node):Decidable (wip l):=by unfold wip; infer_instance
noncomputable def wed (k1:Int) (t1:(List Rule)) (r3:((List Node)×Int)):Int->Option (Int ⊕ (Unit ⊕ Bool)):=fun turn1 =>
 cond (decide (turn1 < 2))
  ((((wbD k1 t1).bind fun r4 =>
   (wcj r4.1 r3.1).bind fun r5 =>
   cond ((!r5)||(decide (¬r4.2=r3.2)))
    (some (.inr false))
    (wah (wip r4.1)<|some (.inl ()))
   : Option (Unit ⊕ Bool)).bind fun o_16=>match o_16 with
    | (.inl _)=>some (.inl (IntKind.i64.wrap (turn1+1)))
    | (.inr y1)=>some (.inr (.inr y1))))
  (some (.inr (.inl ())))
noncomputable def wiL (k1:Int) (t1:(List Rule)):Option Bool :=
 (wcf k1 t1).bind fun r1 =>
 cond (!r1)
  ((wci).bind fun r2=>some r2)
  ((wbG k1 t1).bind fun r3 =>
  (((iter (wed k1 t1 r3) 0).bind fun x_12=>match x_12 with
     | (.inl y2)=>some (.inl y2)
     | (.inr y3)=>some (.inr y3)
   : Option (Unit ⊕ Bool)).bind fun o_6=>match o_6 with
    | (.inl _)=>(wci).bind fun r6=>some r6
    | (.inr y4)=>some y4))
end Go.Pv
namespace Go.Pv.Tryd
open Go.Proofs Go.Pv
theorem wn3 (a:Int) (y:PD) (h:shp (PD.int .i64 a) y):∃ b,y=PD.int .i64 b/\True:=by
 simp only[shp]at h
 obtain⟨n,rfl⟩:=h
 exact⟨n,rfl,trivial⟩
theorem wlu {α β:Type} {p:α->β->Prop} {l:List α} {m:List β} (h:All2 p l m):l.length=m.length:=by induction h <;> simp_all
theorem wsf {α β:Type} {p:α->β->Prop} {l:List α} {m:List β} (h:All2 p l m):∀ {i:Nat} {a:α},l[i]? = some a->∃ b,m[i]? = some b/\p a b:=by
 induction h with
 | nil=>intro i a h; simp at h
 | cons h _ ih =>
  intro i a ha
  cases i with
  | zero=>simp at ha; subst ha; exact⟨_,rfl,h⟩
  | succ i=>simpa using ih (by simpa using ha)
theorem ws5 (a:Node) (y:PD) (h:shp (Node.pd a) y):∃ b,y=Node.pd b/\(a.Cuts.length=b.Cuts.length/\a.To.length=b.To.length):=by
 simp only[Node.pd]at h
 unfold shp at h
 obtain⟨m,rfl,hm⟩:=h
 unfold shpL at hm
 obtain⟨y,t,rfl,h1,hm⟩:=hm
 unfold shpL at hm
 obtain⟨y2,t,rfl,h2,hm⟩:=hm
 unfold shpL at hm
 obtain⟨y3,t,rfl,h3,hm⟩:=hm
 obtain⟨cs,rfl,h4⟩:=wmJ wn3 h2
 obtain⟨ts,rfl,h5⟩:=wmJ wn3 h3
 obtain⟨n,rfl,_⟩:=wn3 _ _ h1
 simp only[shpL]at hm
 subst hm
 exact⟨⟨n,cs,ts⟩,rfl,wlu h4,wlu h5⟩
theorem wp4 {l:List Node} {x:PD} (hl:wip l) (h:shp (.imm 3 (wab Node.pd l)) x):∃ m,x=.imm 3 (wab Node.pd m)/\wip m/\All2 (fun a b:Node=>a.Cuts.length=b.Cuts.length/\a.To.length=b.To.length) l m:=by
 obtain⟨m,rfl,hm⟩:=wmJ ws5 h
 refine⟨m,rfl,⟨by rw[<-wlu hm]; exact hl.1,?_⟩,hm⟩
 have h2:=hl.2
 clear hl h
 induction hm with
 | nil=>intro x hx; cases hx
 | cons h _ ih =>
  intro x hx
  rcases List.mem_cons.1 hx with rfl | hx
  ·rw[<-h.1,<-h.2]; exact h2 _ (by simp)
  ·exact ih (fun y hy=>h2 y (by simp[hy])) x hx
theorem ws6 (a:Node):sizD (fun k=>!(k == 2||k == 0)) (Node.pd a)=true:=by
 have h1:=wju (g:=fun k=>!(k == 2||k == 0)) (k:=1) (f:=PD.int .i64) rfl (fun a=>rfl) a.Cuts
 have h2:=wju (g:=fun k=>!(k == 2||k == 0)) (k:=1) (f:=PD.int .i64) rfl (fun a=>rfl) a.To
 simp only[Node.pd,sizD,sizL,h1,h2,Bool.and_self]
theorem wsg (a:Rule):sizD (fun k=>(k == 2||k == 0)) (Rule.pd a)=true:=by
 have:=wju (g:=fun k=>(k == 2||k == 0)) (k:=2) (f:=Band.pd) rfl (fun a=>rfl) a.Bands
 simp only[Rule.pd,sizD,sizL,this,Bool.and_self]
theorem wru (l:List Rule):sizD (fun k=>(k == 2||k == 0)) (.imm 2 (wab Rule.pd l))=true:=wju rfl wsg l
set_option maxHeartbeats 8000000 in
theorem wqu (k1:Int) (t1:(List Rule)) (r:Bool) (h:wiL k1 t1=some r):PureFn Tryd.prog G 4 [.d (.int .i64 k1),.d (.imm 2 (wab Rule.pd t1))] (.d (.bool r)):=by
 unfold wiL at h
 refine pfF rfl Tryd.func4 Tryd.ntmps4 ?_
 refine sg fun K k=>?_
 refine oo ?_
 refine AOps.nil (k _ ?_)
 refine AWp.seq fun _ K_1=>?_
 refine sg fun K k=>?_
 iterate 2 refine oo ?_
 obtain⟨r1,hx_2,h⟩:=bind_some h
 refine cl (wke k1 t1 _ hx_2) ?_
 refine oo ?_
 refine AOps.nil (k _ ?_)
 refine cd h (fun h=>?_) (fun h=>?_)
 ·refine sg fun K k=>?_
  obtain⟨r2,hx_4,h⟩:=bind_some h
  refine cl (wfP _ hx_4) ?_
  refine oo ?_
  refine AOps.nil (k _ ?_)
  refine AWp.ret ?_
  cases h; exact rt
 ·refine AWp.skip ?_
  refine K_1 _ ?_
  refine sg fun K k=>?_
  iterate 2 refine oo ?_
  obtain⟨r3,hx_5,h⟩:=bind_some h
  refine cl (wio k1 t1 _ hx_5) ?_
  iterate 5 refine oo ?_
  refine AOps.nil (k _ ?_)
  refine jm (ι:=Unit) [] [] (fun i t=>t) (fun i t=>t) .inl h ?_ ?_
  ·intro _ hj_7 h
   refine sg fun K k=>?_
   refine oo ?_
   refine AOps.nil (k _ ?_)
   refine AWp.block ?_
   obtain⟨x_12,hl_9,h2_10⟩:=bind_some hj_7
   refine lp (S:=Int) [0,1,5,6] [] (fun i t=>(7,.d (.int .i64 i))::t) (fun i t=>t) hl_9 ?_ ?_; exact sb; clear hl_9
   rintro turn1 _ hb_11; unfold wed at hb_11; try dsimp only at hb_11
   try dsimp only
   refine AWp.seq fun _ K_14=>?_
   refine sg fun K k=>?_
   iterate 2 refine oo ?_
   refine AOps.nil (k _ ?_)
   refine cd hb_11 (fun hb_11=>?_) (fun hb_11=>?_)
   ·refine AWp.skip ?_
    refine K_14 _ ?_
    refine jm (ι:=Unit) [0,1,5,6,7] [] (fun i t=>t) (fun i t=>t) .inl hb_11 ?_ ?_
    ·intro _ hj_17 hb_11
     refine AWp.block ?_
     refine sg fun K k=>?_
     iterate 2 refine oo ?_
     obtain⟨r4,hx_18,hj_17⟩:=bind_some hj_17
     refine wuf (zs:=[.imm 3 (wab Node.pd r4.1),.int .i64 r4.2]) 0 (fun k=>k == 2||k == 0) (fun g z h=>wsa (wti g z h)) (wgR k1 t1 _ hx_18) rfl (by simp only[List.all_cons,List.all_nil,wlR,wru,sizD,Bool.and_self]) (wju rfl ws6 _) (fun i hi z hz=>by
       match i,hz with
       | 0,_=>exact absurd rfl hi
       | 1,hz=>cases hz; rfl
       | i+2,hz=>simp at hz) (fun hh=>?_)
     iterate 5 refine oo ?_
     refine AOps.nil (k _ ?_)
     refine AWp.seq fun _ K_19=>?_
     refine sg fun K k=>?_
     iterate 2 refine oo ?_
     obtain⟨r5,hx_20,hj_17⟩:=bind_some hj_17
     refine clF (PureFn.bor wti (wi5 r4.1 r3.1 _ hx_20) rfl rfl (args':=[.b (.imm 3 (wab Node.pd r4.1)),.d (.imm 3 (wab Node.pd r3.1))]) ⟨.inr ⟨_,rfl,rfl⟩,.inl rfl,trivial⟩) ?_ ?_
     ·constructor
      ·exact .inr ⟨_,_,_,_,_,_,rfl,rfl,rfl,leD_refl _⟩
      ·constructor
       ·exact .inl rfl
       ·exact trivial
     iterate 2 refine oo ?_
     refine ct 4 [0,1,5,6,7,8] [] (fun  t=>(41,.d (.bool ((!r5)||(decide (¬r4.2=r3.2)))))::t) ?_ ?_
     ·rcases bt (!r5)with hg_22 | hg_22
      ·rw[hg_22]
       iterate 4 refine oo ?_
       refine AOps.nil ?_
       exact sb
      ·rw[hg_22]
       iterate 4 refine oo ?_
       refine AOps.nil ?_
       exact sb
     refine AOps.nil (k _ ?_)
     refine cd hj_17 (fun hj_17=>?_) (fun hj_17=>?_)
     ·refine sg fun K k=>?_
      refine oo ?_
      refine AOps.nil (k _ ?_)
      refine AWp.ret ?_
      cases hj_17; try dsimp only at hb_11
      refine lx hb_11 fun hx=>?_; cases hx; try dsimp only at h2_10
      cases h2_10; try dsimp only at h
      cases h; exact rt
     ·refine AWp.skip ?_
      refine K_19 _ ?_
      obtain⟨hfew,hj_17⟩:=wae hj_17
      refine AWp.apart (r:=8) [0,1,5,6,7] (fun e=>e=.normal) rfl rfl rfl (by decide) rfl (fun B val hro hB=>?_) (fun e he=>by subst he; exact ln hj_17 sb)
      clear hj_17 hb_11 h hj_7 h2_10 k K_19 K_14 K_1
      refine AWpB.seq (fun σ=>σ=⟨[(8,.d (.imm 3 (wab Node.pd r4.1))),(0,.val (val 0)),(1,.val (val 1)),(5,.val (val 5)),(6,.val (val 6)),(7,.val (val 7)),(10,.d (.int .i64 0))],[],[],some (0,[],[.nilptr],true)⟩) (AWpB.of (AWp.reg ?_)) ?_
      ·refine oo ?_
       exact AOps.nil rfl
      rintro _ rfl
      refine AWpB.block ?_
      refine AWpB.loopI (ι:=Int×List Node) (fun i=>⟨[(8,.d (.imm 3 (wab Node.pd i.2))),(0,.val (val 0)),(1,.val (val 1)),(5,.val (val 5)),(6,.val (val 6)),(7,.val (val 7)),(10,.d (.int .i64 i.1))],[],[],some (0,[],[.nilptr],true)⟩) (fun i=>0<=i.1/\i.1<=i.2.length/\wip i.2) (fun i=>(2000000 - i.1).toNat) (0,r4.1) ⟨Int.le_refl 0,by simp,hfew⟩ Sub.refl ?_
      rintro⟨i,l⟩ ⟨hi0,hi1,hl⟩
      dsimp only at hi0 hi1 hl ⊢
      have hl1:=hl.1
      refine AWpB.seq (fun σ=>i < l.length/\Sub [] 73 σ ⟨[(8,.d (.imm 3 (wab Node.pd l))),(0,.val (val 0)),(1,.val (val 1)),(5,.val (val 5)),(6,.val (val 6)),(7,.val (val 7)),(10,.d (.int .i64 i))],[],[],some (0,[],[.nilptr],true)⟩) (AWpB.of ?_) ?_
      ·refine sg fun K k=>?_
       iterate 4 refine oo ?_
       refine AOps.nil (k _ ?_)
       refine AWp.cond (b:=decide (i < l.length)) rfl (fun hb=>?_) (fun hb=>?_)
       ·exact AWp.skip ⟨by simpa using hb,sb⟩
       ·refine AWp.exit ?_
        simp only[Post.then,Post.inBlock,↓reduceIte]
        refine⟨trivial,trivial,trivial,fun k hk=>?_⟩
        simp only[List.mem_cons,List.not_mem_nil,or_false]at hk
        rcases hk with rfl | rfl | rfl | rfl | rfl <;> rfl
      rintro _ ⟨hlt,hs⟩
      refine AWpB.sub hs ?_
      refine AWpB.seq (fun σ=>∃ m,wip m/\m.length=l.length/\Sub [] 73 σ ⟨[(8,.d (.imm 3 (wab Node.pd m))),(0,.val (val 0)),(1,.val (val 1)),(5,.val (val 5)),(6,.val (val 6)),(7,.val (val 7)),(10,.d (.int .i64 i))],[],[],some (0,[],[.nilptr],true)⟩) ?_ ?_
      rotate_left
      ·rintro _ ⟨m,hm,hml,hs⟩
       refine AWpB.sub hs (AWpB.of (AWp.reg ?_))
       iterate 3 refine oo ?_
       have hw:IntKind.i64.wrap (i+1)=i+1:=wak ⟨by omega,by omega⟩
       refine AOps.nil ⟨(i+1,m),⟨by dsimp only; omega,by dsimp only; omega,hm⟩,by dsimp only; omega,?_⟩
       rw[hw]
       exact sb
      refine AWpB.block ?_
      refine AWpB.seq (fun σ=>σ=⟨[(8,.d (.imm 3 (wab Node.pd l))),(0,.val (val 0)),(1,.val (val 1)),(5,.val (val 5)),(6,.val (val 6)),(7,.val (val 7)),(10,.d (.int .i64 i)),(11,.d (.int .i64 0))],[],[],some (0,[],[.nilptr],true)⟩) (AWpB.of (AWp.reg ?_)) ?_
      ·refine oo ?_
       exact AOps.nil rfl
      rintro _ rfl
      refine AWpB.block ?_
      obtain⟨e0,he0⟩:∃ e,l[i.toNat]? = some e:=⟨_,List.getElem?_eq_getElem (by omega)⟩
      refine AWpB.loopI (ι:=Int×List Node) (fun j=>⟨[(8,.d (.imm 3 (wab Node.pd j.2))),(0,.val (val 0)),(1,.val (val 1)),(5,.val (val 5)),(6,.val (val 6)),(7,.val (val 7)),(10,.d (.int .i64 i)),(11,.d (.int .i64 j.1))],[],[],some (0,[],[.nilptr],true)⟩) (fun j=>0<=j.1/\wip j.2/\j.2.length=l.length/\∃ e,j.2[i.toNat]? = some e/\j.1<=e.To.length) (fun j=>(2000000 - j.1).toNat) (0,l) ⟨Int.le_refl 0,hl,rfl,e0,he0,by simp⟩ Sub.refl ?_
      rintro⟨j,l2⟩ ⟨hj0,hl2,hlen2,e,he,hje⟩
      dsimp only at hj0 hl2 hlen2 he hje ⊢
      have hmem:=hl2.2 e (List.mem_of_getElem? he)
      refine AWpB.seq (fun σ=>j < e.To.length/\Sub [] 73 σ ⟨[(8,.d (.imm 3 (wab Node.pd l2))),(0,.val (val 0)),(1,.val (val 1)),(5,.val (val 5)),(6,.val (val 6)),(7,.val (val 7)),(10,.d (.int .i64 i)),(11,.d (.int .i64 j))],[],[],some (0,[],[.nilptr],true)⟩) (AWpB.of ?_) ?_
      ·refine sg fun K k=>?_
       iterate 5 refine oo ?_
       refine oo ?_ (by intro K k; simp(disch:=omega) only[go_sem,he,↓reduceIte]; exact k)
       iterate 2 refine oo ?_
       refine AOps.nil (k _ ?_)
       refine AWp.cond (b:=decide (j < e.To.length)) rfl (fun hb=>?_) (fun hb=>?_)
       ·exact AWp.skip ⟨by simpa using hb,sb⟩
       ·refine AWp.exit ?_
        simp only[Post.then,Post.inBlock,↓reduceIte]
        exact⟨l2,hl2,hlen2,sb⟩
      rintro _ ⟨hjlt,hs⟩
      refine AWpB.sub hs ?_
      refine AWpB.seq (fun σ=>∃ l3,wip l3/\l3.length=l.length/\(∃ e,l3[i.toNat]? = some e/\j+1<=e.To.length)/\Sub [] 73 σ ⟨[(8,.d (.imm 3 (wab Node.pd l3))),(0,.val (val 0)),(1,.val (val 1)),(5,.val (val 5)),(6,.val (val 6)),(7,.val (val 7)),(10,.d (.int .i64 i)),(11,.d (.int .i64 j))],[],[],some (0,[],[.nilptr],true)⟩) ?_ ?_
      rotate_left
      ·rintro _ ⟨l3,hl3,hlen3,⟨e3,he3,hj3⟩,hs⟩
       refine AWpB.sub hs (AWpB.of (AWp.reg ?_))
       iterate 3 refine oo ?_
       have hw:IntKind.i64.wrap (j+1)=j+1:=wak ⟨by omega,by omega⟩
       refine AOps.nil ⟨(j+1,l3),⟨by dsimp only; omega,hl3,hlen3,e3,he3,hj3⟩,by dsimp only; omega,?_⟩
       rw[hw]
       exact sb
      refine AWpB.block ?_
      refine AWpB.seq (fun σ=>∃ l3,wip l3/\l3.length=l.length/\(∃ e,l3[i.toNat]? = some e/\j+1<=e.To.length)/\Sub [] 73 σ ⟨[(8,.d (.imm 3 (wab Node.pd l3))),(0,.val (val 0)),(1,.val (val 1)),(5,.val (val 5)),(6,.val (val 6)),(7,.val (val 7)),(10,.d (.int .i64 i)),(11,.d (.int .i64 j))],[],[],some (0,[],[.nilptr],true)⟩) ?_ ?_
      ·refine AWpB.reg ?_
       refine AOpsB.pre1 7 ?_
       iterate 4 refine oo ?_
       refine oo ?_ (by intro K k; simp(disch:=omega) only[go_sem,he,↓reduceIte]; exact k)
       iterate 2 refine oo ?_
       refine AOps.nil ?_
       obtain⟨b,hb⟩:∃ b,e.To[j.toNat]? = some b:=⟨_,List.getElem?_eq_getElem (by omega)⟩
       refine AOpsB.last rfl (wsd (n0:=b) hB rfl ty3 (by kernel_rfl) rfl rfl (by simp only[wnB,wab,List.getElem?_map,hb,Option.map_some]; rfl) (by decide) rfl rfl rfl rfl trivial fun x' hx'=>?_)
       obtain⟨m,rfl,hm,hall⟩:=wp4 hl2 hx'
       obtain⟨e3,he3,hee⟩:=wsf hall he
       exact⟨m,hm,by rw[<-wlu hall]; exact hlen2,⟨e3,he3,by omega⟩,sb⟩
      rintro _ ⟨l3,hl3,hlen3,⟨e3,he3,hj3⟩,hs⟩
      refine AWpB.sub hs ?_
      have hmem3:=hl3.2 e3 (List.mem_of_getElem? he3)
      refine AWpB.reg ?_
      refine AOpsB.pre1 7 ?_
      iterate 4 refine oo ?_
      refine oo ?_ (by intro K k; simp(disch:=omega) only[go_sem,he3,↓reduceIte]; exact k)
      iterate 2 refine oo ?_
      refine AOps.nil ?_
      obtain⟨b,hb⟩:∃ b,e3.Cuts[j.toNat]? = some b:=⟨_,List.getElem?_eq_getElem (by omega)⟩
      refine AOpsB.last rfl (wsd (n0:=b) hB rfl ty3 (by kernel_rfl) rfl rfl (by simp only[wnB,wab,List.getElem?_map,hb,Option.map_some]; rfl) (by decide) rfl rfl rfl rfl trivial fun x' hx'=>?_)
      obtain⟨m,rfl,hm,hall⟩:=wp4 hl3 hx'
      obtain⟨e4,he4,hee⟩:=wsf hall he3
      exact⟨m,hm,by rw[<-wlu hall]; exact hlen3,⟨e4,he4,by omega⟩,sb⟩
    ·rintro _ hb_11; dsimp only at hb_11 ⊢
     refine AWp.reg ?_
     iterate 3 refine oo ?_
     refine AOps.nil ?_
     exact ln hb_11 sb
   ·refine AWp.exit ?_
    refine lx hb_11 fun hx=>?_; cases hx; try dsimp only at h2_10
    exact ln h2_10 sb
  ·rintro _ h; dsimp only at h ⊢
   refine sg fun K k=>?_
   obtain⟨r6,hx_55,h⟩:=bind_some h
   refine cl (wfP _ hx_55) ?_
   refine oo ?_
   refine AOps.nil (k _ ?_)
   refine AWp.ret ?_
   cases h; exact rt
end Go.Pv.Tryd

namespace Go.Pv
theorem wsh:wcj [] []=some true:=by
 obtain⟨r,h1,h2⟩:=woz [] [] (by simp) (by simp)
 rw[h1,h2.2 rfl]
theorem wp5 (k:Int) (t:List Rule) (hf:wcf k t=some true):∃ d e,wbD k t=some (d,e)/\wbG k t=some (d,e)/\wip d/\wcj d d=some true:=by
 by_cases ht:chk k [t]=0
 ·obtain⟨k1,k2,t1,t2⟩:=wg3 ht
  obtain⟨n,rfl⟩:∃ n:Nat,k=n:=⟨k.toNat,by omega⟩
  have hk:n<=4:=by omega
  obtain⟨N,top,a1,a2,a3,a4,a5⟩:=wqq ht
  obtain⟨N',top',b1,b3,b4⟩:=wn0 ht
  have hns:=wr3 hf ht
  obtain⟨c1,c2,c3,c4,c5⟩:=wtW hk (by omega) a1 a3.1 99 a5
  have hdia:dia 100 N top=dia 100 N' top':=wsU 100 hk a1 b1 a3.1 b3.1 ((wsX ⟨t1,t2⟩ ⟨t1,t2⟩ a3 b3).2 fun xs hx=>rfl)
  have hl:(dia 100 N top).length<=1000000:=by have:(dia 100 N top).length<=max 1 N.length:=c3; omega
  obtain⟨r,g1,g2⟩:=woz (dia 100 N top) (dia 100 N top) hl (woA c1)
  refine⟨dia 100 N top,0,a4,by rw[hdia]; exact b4,⟨hl,fun x hx=>?_⟩,by rw[g1,g2.2 rfl]⟩
  obtain⟨i,hi,rfl⟩:=List.getElem_of_mem hx
  have hg:=List.getElem?_eq_getElem hi
  exact⟨(woA c1 _ (List.getElem_mem hi)).2,wec (c1.runs i _ hg)⟩
 ·exact⟨[],chk k [t],wqr ht,wn1 ht,⟨by simp,by simp⟩,wsh⟩
theorem wlv (k:Int) (t:List Rule):wiL k t=some true:=by
 unfold wiL
 obtain⟨b,hb⟩:=wrT k t
 rw[hb,Option.bind_some]
 cases b with
 | false=>simp only[Bool.not_false,cond_true,Option.bind_some,wnj]
 | true =>
  obtain⟨d,e,h1,h2,h3,h4⟩:=wp5 k t hb
  have hstep:∀ i:Nat,i < 2->wed k t (d,e) (i:Int)=some (.inl ((i+1:Nat):Int)):=fun i hi=>by
   unfold wed
   have hw:IntKind.i64.wrap ((i:Int)+1)=((i+1:Nat):Int):=by rw[wak (by omega)]; rfl
   have hz:decide (¬ e=e)=false:=decide_eq_false (by simp)
   rw[decide_eq_true (by omega),cond_true,h1,Option.bind_some,h4,Option.bind_some,hw]
   dsimp only
   rw[hz]
   simp only[Bool.not_true,Bool.or_self,cond_false]
   rw[waV h3]; rfl
  have hend:wed k t (d,e) ((2:Nat):Int)=some (.inr (.inl ())):=by
   unfold wed
   rw[decide_eq_false (by omega)]; rfl
  have hit:iter (wed k t (d,e)) 0=some (.inl ()):=waF (hstep 0 (by omega)) (waF (hstep 1 (by omega)) (waC hend))
  rw[h2]
  simp only[Bool.not_true,cond_false,Option.bind_some]
  rw[hit]
  simp only[Option.bind_some,wnj]
end Go.Pv

