/- TariffLeans answers true for every input, as its tied card says: under the conditions of the card (Rows, Cards, Tie), no more. Part 6 of 7: by one AI agent and its programs; no person has read it. -/
import Derived.Test.YtnfnkllhjaemnaaDoorTariffLeansA
import Derived.Test.YtnfnkllhjaemnaaDoorTariffLeansB
import Derived.Test.YtnfnkllhjaemnaaDoorTariffLeansC
import Derived.Test.YtnfnkllhjaemnaaDoorTariffLeansD
import Derived.Test.YtnfnkllhjaemnaaDoorTariffLeansE
set_option linter.unusedSimpArgs false
set_option linter.unusedVariables false
set_option linter.all false

namespace Go.Pv.Tryd
open Go.Proofs Go.Pv
set_option maxHeartbeats 4000000 in
theorem whC (o1 : Builder) (x1 : Node) (r : (Int × Builder)) (h : wcv o1 x1 = some r) : ObjFn Tryd.prog G 90 [.ptr 0 0 0, .d (.agg [(.int .i64 x1.Mark), (.imm 1 (wab (PD.int .i64) x1.Cuts)), (.imm 1 (wab (PD.int .i64) x1.To))])] [(0, ⟨92, 5, [.agg [.d (.int .i64 o1.k), .d (.imm 2 (wab Rule.pd o1.rules)), .mp 1, .mp 2, .slc 1003 0 o1.nodes.length]]⟩), (1, ⟨89, 0, wap Arr3_Int.pd (PD.int .i64) o1.known⟩), (2, ⟨90, 0, wap PD.str (PD.int .i64) o1.same⟩), (1003, ⟨37, 3, dl (wab Node.pd o1.nodes)⟩)] (.d (.int .i64 r.1)) [(0, ⟨92, 5, [.agg [.d (.int .i64 r.2.k), .d (.imm 2 (wab Rule.pd r.2.rules)), .mp 1, .mp 2, .slc 1003 0 r.2.nodes.length]]⟩), (1, ⟨89, 0, wap Arr3_Int.pd (PD.int .i64) r.2.known⟩), (2, ⟨90, 0, wap PD.str (PD.int .i64) r.2.same⟩), (1003, ⟨37, 3, dl (wab Node.pd r.2.nodes)⟩)] := by
 unfold wcv at h
 refine ObjFn.pf Tryd.func90 Tryd.ntmps90 ?_
 refine sg fun K k => ?_
 iterate 2 refine oo ?_
 refine AOps.nil (k _ ?_)
 refine sg fun K k => ?_
 refine oo ?_
 refine AOps.sub (Sub.voidCell 1005 1 5 1 1006 (x := ⟨148, 2, [.d (.agg [.nilptr, .nilslice])]⟩) (p := .d (.agg [.nilptr, .nilslice])) (cs := [.d .nilptr, .d .nilslice]) rfl (Nat.le_of_ble_eq_true rfl) rfl rfl rfl rfl rfl (by decide) (by decide)) ?_
 simp only [waj, List.set_cons_succ, List.set_cons_zero, reduceCtorEq, ↓reduceIte, Nat.reduceAdd, Nat.reduceMul, Nat.reduceLT, Nat.reduceLeDiff, Nat.reduceEqDiff, Nat.reduceBEq, Int.reduceToNat]
 refine AOps.nil (k _ ?_)
 refine jn (α := (Bool × (List Int))) [0, 3] [0, 1, 2, 1003, 1004] (fun i t => (5, .ptr 1005 0 0) :: t) (fun i t => (1005, ⟨148, 2, [.agg [wdl i.1 1005, .slc 1006 0 i.2.length]]⟩) :: (1006, ⟨5, 1, dl (wab (PD.int .u8) i.2)⟩) :: t) h ?_ ?_
 ·intro _ hj_2
  refine sg fun K k => ?_
  iterate 2 refine oo ?_
  refine ol ?_
  iterate 4 refine oo ?_
  refine ol ?_
  refine AOps.sub (τ := ⟨[(0, .ptr 0 0 0), (3, .ptr 1004 0 0), (5, .ptr 1005 0 0), (19, .d (.imm 1 (wab (wda 1 (PD.int .i64)) [[x1.Mark], x1.Cuts, x1.To])))], [(0, ⟨92, 5, [.agg [.d (.int .i64 o1.k), .d (.imm 2 (wab Rule.pd o1.rules)), .mp 1, .mp 2, .slc 1003 0 o1.nodes.length]]⟩), (1, ⟨89, 0, wap Arr3_Int.pd (PD.int .i64) o1.known⟩), (2, ⟨90, 0, wap PD.str (PD.int .i64) o1.same⟩), (1003, ⟨37, 3, dl (wab Node.pd o1.nodes)⟩), (1004, ⟨37, 3, [.d (.agg [(.int .i64 x1.Mark), (.imm 1 (wab (PD.int .i64) x1.Cuts)), (.imm 1 (wab (PD.int .i64) x1.To))])]⟩), (1005, ⟨148, 2, [.agg [.d .nilptr, .slc 1006 0 0]]⟩), (1006, ⟨5, 1, dl (wab (PD.int .u8) [])⟩)], [], none⟩) sb ?_
  iterate 2 refine oo ?_
  refine AOps.nil (k _ ?_)
  refine AWp.block ?_
  obtain ⟨x_7, hl_4, h2_5⟩ := bind_some hj_2
  refine lp (S := (Int × Bool × (List Int))) [0, 3, 19, 20] [0, 1, 2, 1003, 1004] (fun i t => (5, .ptr 1005 0 0) :: (21, .d (.int .i64 i.1)) :: t) (fun i t => (1005, ⟨148, 2, [.agg [wdl i.2.1 1005, .slc 1006 0 i.2.2.length]]⟩) :: (1006, ⟨5, 1, dl (wab (PD.int .u8) i.2.2)⟩) :: t) hl_4 ?_ ?_; exact sb; clear hl_4
  rintro ⟨v1, c2, L2⟩ _ hb_6; unfold wcJ at hb_6; try dsimp only at hb_6
  try dsimp only
  refine sg fun K k => ?_
  refine oo ?_
  refine AOps.nil (k _ ?_)
  refine AWp.seq fun _ K_9 => ?_
  refine cd hb_6 (fun hb_6 => ?_) (fun hb_6 => ?_)
  ·refine AWp.skip ?_
   refine K_9 _ ?_
   refine jn (α := (Bool × (List Int))) [0, 3, 19, 20, 21] [0, 1, 2, 1003, 1004] (fun i t => (5, .ptr 1005 0 0) :: t) (fun i t => (1005, ⟨148, 2, [.agg [wdl i.1 1005, .slc 1006 0 i.2.length]]⟩) :: (1006, ⟨5, 1, dl (wab (PD.int .u8) i.2)⟩) :: t) hb_6 ?_ ?_
   ·intro _ hj_12
    refine AWp.block ?_
    refine sg fun K k => ?_
    obtain ⟨e1, ⟨f_13, f_14, f_15, f_16⟩, hj_12⟩ := wak hj_12
    try simp only [List.length_append, List.length_set, List.length_replicate, List.length_cons, List.length_nil] at f_14 f_16
    refine oo ?_
    refine oo ?_ (by intro K k; simp (disch := omega) only [go_sem, f_15, ↓reduceIte]; exact k)
    refine oo ?_
    refine AOps.nil (k _ ?_)
    refine jn (α := (Bool × (List Int))) [0, 3, 19, 20, 21] [0, 1, 2, 1003, 1004] (fun i t => (5, .ptr 1005 0 0) :: t) (fun i t => (1005, ⟨148, 2, [.agg [wdl i.1 1005, .slc 1006 0 i.2.length]]⟩) :: (1006, ⟨5, 1, dl (wab (PD.int .u8) i.2)⟩) :: t) hj_12 ?_ ?_
    ·intro _ hj_18
     refine sg fun K k => ?_
     iterate 3 refine oo ?_
     refine AOps.nil (k _ ?_)
     refine AWp.block ?_
     obtain ⟨x_23, hl_20, h2_21⟩ := bind_some hj_18
     refine lp (S := (Int × Bool × (List Int))) [0, 3, 19, 20, 21, 25, 26] [0, 1, 2, 1003, 1004] (fun i t => (5, .ptr 1005 0 0) :: (27, .d (.int .i64 i.1)) :: t) (fun i t => (1005, ⟨148, 2, [.agg [wdl i.2.1 1005, .slc 1006 0 i.2.2.length]]⟩) :: (1006, ⟨5, 1, dl (wab (PD.int .u8) i.2.2)⟩) :: t) hl_20 ?_ ?_; exact sb; clear hl_20
     rintro ⟨v2, c5, L5⟩ _ hb_22; unfold wcI at hb_22; try dsimp only at hb_22
     try dsimp only
     refine sg fun K k => ?_
     refine oo ?_
     refine AOps.nil (k _ ?_)
     refine AWp.seq fun _ K_25 => ?_
     refine cd hb_22 (fun hb_22 => ?_) (fun hb_22 => ?_)
     ·refine AWp.skip ?_
      refine K_25 _ ?_
      refine AWp.seq fun _ K_27 => ?_
      refine AWp.block ?_
      refine sg fun K k => ?_
      obtain ⟨e2, ⟨f_28, f_29, f_30, f_31⟩, hb_22⟩ := wak hb_22
      refine oo ?_
      refine oo ?_ (by intro K k; simp (disch := omega) only [go_sem, f_30, ↓reduceIte]; exact k)
      refine oo ?_
      refine AOps.nil (k _ ?_)
      refine AWp.reg ?_
      refine oo ?_
      obtain ⟨r1, hx_32, hb_22⟩ := bind_some hb_22
      refine cl (wsv e2 _ hx_32) ?_
      obtain ⟨hg_33, hb_22⟩ := wae hb_22
      refine oo ?_
      obtain ⟨r2, hx_34, hb_22⟩ := bind_some hb_22
      refine clU [(0, 1005), (1001, 1006)] [1006] (wru (⟨c5, L5⟩ : StringsBuilder) (r1 ++ (⟨#[32]⟩ : ByteArray)) _ hx_34) ?_
      refine AOps.nil ?_
      refine K_27 _ ?_
      refine AWp.reg ?_
      iterate 2 refine oo ?_
      refine AOps.nil ?_
      exact ln hb_22 sb
     ·refine AWp.exit ?_
      refine lx hb_22 fun hx => ?_; cases hx; try dsimp only at h2_21
      cases h2_21; exact sb
    ·rintro ⟨c4, L4⟩ hj_12; dsimp only at hj_12 ⊢
     refine AWp.reg ?_
     obtain ⟨r3, hx_35, hj_12⟩ := bind_some hj_12
     refine clU [(0, 1005), (1001, 1006)] [1006] (wom (⟨c4, L4⟩ : StringsBuilder) 124 _ hx_35) ?_
     refine AOps.nil ?_
     cases hj_12; exact sb
   ·rintro ⟨c3, L3⟩ hb_6; dsimp only at hb_6 ⊢
    refine AWp.reg ?_
    iterate 2 refine oo ?_
    refine AOps.nil ?_
    exact ln hb_6 sb
  ·refine AWp.exit ?_
   refine lx hb_6 fun hx => ?_; cases hx; try dsimp only at h2_5
   cases h2_5; exact sb
 ·rintro ⟨c1, L1⟩ h; dsimp only at h ⊢
  refine sd mo fun K k => ?_
  iterate 4 refine dd ?_
  obtain ⟨r4, hx_36, h⟩ := bind_some h
  refine wsD [(0, 1005), (1, 1006)] (wlN (⟨c1, L1⟩ : StringsBuilder) _ hx_36) ?_
  refine DOps.bar (by kernel_rfl) ?_
  refine BOps.hard (by kernel_rfl) ?_
  refine oml (k := r4) (L := o1.same) (v0 := 0) (encV := (PD.int .i64)) KE9 wsG ty3 MZ3 (fun _ _ => .int _ _) ?_
  refine AOps.nil ?_
  refine BOps.draw [] trivial (Nat.le_of_ble_eq_true rfl) ?_
  iterate 5 refine dd ?_
  refine DOps.nil (by kernel_rfl) (k _ ?_)
  refine jn (α := (Int × (List (ByteArray × Int)) × (List Node))) [] [1] (fun i t => (10, .d (.int .i64 i.1)) :: t) (fun i t => (0, ⟨92, 5, [.agg [.d (.int .i64 o1.k), .d (.imm 2 (wab Rule.pd o1.rules)), .mp 1, .mp 2, .slc 1003 0 i.2.2.length]]⟩) :: (2, ⟨90, 0, wap PD.str (PD.int .i64) i.2.1⟩) :: (1003, ⟨37, 3, dl (wab Node.pd i.2.2)⟩) :: t) h ?_ ?_
  ·intro _ hj_38
   refine sg fun K k => ?_
   iterate 2 refine oo ?_
   refine AOps.nil (k _ ?_)
   refine cd hj_38 (fun hj_38 => ?_) (fun hj_38 => ?_)
   ·refine sg fun K k => ?_
    iterate 6 refine oo ?_
    refine AOps.nil (k _ ?_)
    refine sd mo fun K k => ?_
    iterate 4 refine dd ?_
    obtain ⟨r5, hx_40, hj_38⟩ := bind_some hj_38
    refine wsD [(0, 1005), (1, 1006)] (wlN (⟨c1, L1⟩ : StringsBuilder) _ hx_40) ?_
    refine dd ?_
    refine DOps.stop (by kernel_rfl) ?_
    refine oms (k := r5) (L := o1.same) (v := (o1.nodes.length : Int)) (encV := (PD.int .i64)) KE9 wsG ?_
    refine AOps.nil (k _ ?_)
    refine AWp.sub (τ := ⟨[(0, .ptr 0 0 0), (3, .ptr 1004 0 0), (5, .ptr 1005 0 0), (10, .d (.int .i64 (o1.nodes.length : Int))), (11, .d (.bool ((waP r4 o1.same).isSome))), (38, .tuple [.d (.int .i64 ((waP r4 o1.same).getD 0)), .d (.bool ((waP r4 o1.same).isSome))]), (39, .ptr 0 0 0), (40, .ptr 0 0 0), (41, .ptr 0 0 3), (42, .mp 2), (43, .d (.str r4)), (44, .tuple [.d (.int .i64 ((waP r4 o1.same).getD 0)), .d (.bool ((waP r4 o1.same).isSome))]), (45, .d (.int .i64 ((waP r4 o1.same).getD 0))), (46, .d (.bool ((waP r4 o1.same).isSome))), (47, .d (.bool ((waP r4 o1.same).isSome))), (48, .d (.bool (!((waP r4 o1.same).isSome)))), (49, .ptr 0 0 0), (50, .ptr 0 0 0), (51, .ptr 0 0 4), (53, .d (.int .i64 (o1.nodes.length : Int))), (54, .ptr 0 0 0), (55, .ptr 0 0 0), (56, .ptr 0 0 3), (57, .mp 2), (58, .d (.str r5)), (59, .d (.int .i64 (o1.nodes.length : Int)))], [(0, ⟨92, 5, [.agg [.d (.int .i64 o1.k), .d (.imm 2 (wab Rule.pd o1.rules)), .mp 1, .mp 2, .slc 1003 0 o1.nodes.length]]⟩), (1, ⟨89, 0, wap Arr3_Int.pd (PD.int .i64) o1.known⟩), (2, ⟨90, 0, wap PD.str (PD.int .i64) (wdt r5 (o1.nodes.length : Int) o1.same)⟩), (1003, ⟨37, 3, dl (wab Node.pd o1.nodes)⟩), (1004, ⟨37, 3, [.d (.agg [(.int .i64 x1.Mark), (.imm 1 (wab (PD.int .i64) x1.Cuts)), (.imm 1 (wab (PD.int .i64) x1.To))])]⟩), (1005, ⟨148, 2, [.agg [wdl c1 1005, .slc 1006 0 L1.length]]⟩), (1006, ⟨5, 1, dl (wab (PD.int .u8) L1)⟩)], [], none⟩) sb ?_
    refine drX mo [(1003, [64, 67, 1000000])] ?_
    iterate 6 (refine dd ?_ (by intro K k; simp (disch := omega) only [go_sem, true_or, or_true, and_self, true_and, and_true, ↓reduceIte]; exact k))
    refine ddl ?_ (by intro K k; simp (disch := omega) only [go_sem, true_or, or_true, and_self, true_and, and_true, ↓reduceIte]; exact k)
    obtain ⟨hg_41, hj_38⟩ := wae hj_38
    refine wnl [64, 67, 1000000] [(0, ⟨92, 5, [.agg [.d (.int .i64 o1.k), .d (.imm 2 (wab Rule.pd o1.rules)), .mp 1, .mp 2, .slc 1003 0 o1.nodes.length]]⟩)] (dl (wab Node.pd [x1])) se32 ?_
    iterate 3 (refine dd ?_ (by intro K k; simp (disch := omega) only [go_sem, true_or, or_true, and_self, true_and, and_true, ↓reduceIte]; exact k))
    refine DOps.nil (by kernel_rfl) ?_
    cases hj_38; exact sb
   ·refine AWp.skip ?_
    cases hj_38; exact sb
  ·rintro ⟨n1, M1, L6⟩ h; dsimp only at h ⊢
   refine sg fun K k => ?_
   iterate 2 refine oo ?_
   refine AOps.nil (k _ ?_)
   refine AWp.ret ?_
   cases h; exact rtO
end Go.Pv.Tryd

namespace Go.Pv.Tryd
open Go.Proofs Go.Pv
set_option maxHeartbeats 4000000 in
theorem wid (n : Nat) : ∀ (o1 : Builder) (mark1 : Int) (a1 : Int) (r : (Int × Builder)) (h : wcX n o1 mark1 a1 = some r), ObjFn Tryd.prog G 57 [.ptr 0 0 0, .d (.int .i64 mark1), .d (.int .u32 a1)] [(0, ⟨92, 5, [.agg [.d (.int .i64 o1.k), .d (.imm 2 (wab Rule.pd o1.rules)), .mp 1, .mp 2, .slc 1003 0 o1.nodes.length]]⟩), (1, ⟨89, 0, wap Arr3_Int.pd (PD.int .i64) o1.known⟩), (2, ⟨90, 0, wap PD.str (PD.int .i64) o1.same⟩), (1003, ⟨37, 3, dl (wab Node.pd o1.nodes)⟩)] (.d (.int .i64 r.1)) [(0, ⟨92, 5, [.agg [.d (.int .i64 r.2.k), .d (.imm 2 (wab Rule.pd r.2.rules)), .mp 1, .mp 2, .slc 1003 0 r.2.nodes.length]]⟩), (1, ⟨89, 0, wap Arr3_Int.pd (PD.int .i64) r.2.known⟩), (2, ⟨90, 0, wap PD.str (PD.int .i64) r.2.same⟩), (1003, ⟨37, 3, dl (wab Node.pd r.2.nodes)⟩)] := by
 induction n with
 | zero => intro o1 mark1 a1 r h; cases h
 | succ n ih =>
  intro o1 mark1 a1 r h
  replace h : wcw (wcX n) o1 mark1 a1 = some r := h
  unfold wcw at h
  refine ObjFn.pf Tryd.func57 Tryd.ntmps57 ?_
  refine sg fun K k => ?_
  refine oo ?_
  refine AOps.nil (k _ ?_)
  refine AWp.seq fun _ K_1 => ?_
  refine sg fun K k => ?_
  iterate 6 refine oo ?_
  refine AOps.nil (k _ ?_)
  refine cd h (fun h => ?_) (fun h => ?_)
  ·refine sg fun K k => ?_
   iterate 2 refine oo ?_
   obtain ⟨r1, hx_3, h⟩ := bind_some h
   refine clU [(0, 0), (1, 1), (2, 2), (1003, 1003)] [1003] (whB o1 a1 _ hx_3) ?_
   refine oo ?_
   refine AOps.nil (k _ ?_)
   refine AWp.ret ?_
   cases h; exact rtO
  ·refine AWp.skip ?_
   refine K_1 _ ?_
   refine sg fun K k => ?_
   iterate 6 refine oo ?_
   refine AOps.nil (k _ ?_)
   refine AWp.seq fun _ K_4 => ?_
   refine sd mo fun K k => ?_
   iterate 5 refine dd ?_
   refine DOps.bar (by kernel_rfl) ?_
   refine BOps.hard (by kernel_rfl) ?_
   refine oml (k := (⟨mark1, (IntKind.i64.wrap a1), 0⟩ : Arr3_Int)) (L := o1.known) (v0 := 0) (encV := (PD.int .i64)) wix wsF ty3 MZ3 (fun _ _ => .int _ _) ?_
   refine AOps.nil ?_
   refine BOps.draw [] trivial (Nat.le_of_ble_eq_true rfl) ?_
   iterate 5 refine dd ?_
   refine DOps.nil (by kernel_rfl) (k _ ?_)
   refine sg fun K k => ?_
   refine oo ?_
   refine AOps.nil (k _ ?_)
   refine cd h (fun h => ?_) (fun h => ?_)
   ·refine sg fun K k => ?_
    iterate 2 refine oo ?_
    refine AOps.nil (k _ ?_)
    refine AWp.ret ?_
    cases h; exact rtO
   ·refine AWp.skip ?_
    refine K_4 _ ?_
    refine sg fun K k => ?_
    iterate 5 refine oo ?_
    refine ol ?_
    obtain ⟨r2, hx_6, h⟩ := bind_some h
    refine cl (we9 mark1 [o1.rules] _ hx_6) ?_
    refine oo ?_
    refine AOps.nil (k _ ?_)
    refine sg fun K k => ?_
    refine oo ?_
    refine AOps.nil (k _ ?_)
    refine AWp.sub (Sub.void 11 3 1 1005 (by rfl) (by rfl) (by decide) (by decide)) ?_
    simp only [wcK, waj, reduceCtorEq, ↓reduceIte, Nat.reduceAdd, Nat.reduceMul, Nat.reduceLT, Nat.reduceLeDiff, Nat.reduceEqDiff, Nat.reduceBEq, Int.reduceToNat]
    refine sg fun K k => ?_
    refine oo ?_
    refine AOps.nil (k _ ?_)
    refine jn (α := (Int × (List Rule) × (List (Arr3_Int × Int)) × (List (ByteArray × Int)) × (List Node) × (List Int))) [1, 7, 10] [1004] (fun i t => (0, .ptr 0 0 0) :: (11, .slc 1005 0 i.2.2.2.2.2.length) :: t) (fun i t => (0, ⟨92, 5, [.agg [.d (.int .i64 i.1), .d (.imm 2 (wab Rule.pd i.2.1)), .mp 1, .mp 2, .slc 1003 0 i.2.2.2.2.1.length]]⟩) :: (1, ⟨89, 0, wap Arr3_Int.pd (PD.int .i64) i.2.2.1⟩) :: (2, ⟨90, 0, wap PD.str (PD.int .i64) i.2.2.2.1⟩) :: (1003, ⟨37, 3, dl (wab Node.pd i.2.2.2.2.1)⟩) :: (1005, ⟨3, 1, dl (wab (PD.int .i64) i.2.2.2.2.2)⟩) :: t) h ?_ ?_
    ·intro _ hj_8
     refine sg fun K k => ?_
     iterate 3 refine oo ?_
     refine AOps.nil (k _ ?_)
     refine AWp.block ?_
     obtain ⟨x_13, hl_10, h2_11⟩ := bind_some hj_8
     refine lp (S := (Int × Int × Int × (List Rule) × (List (Arr3_Int × Int)) × (List (ByteArray × Int)) × (List Node) × (List Int))) [1, 2, 7, 10, 49, 50] [1004] (fun i t => (0, .ptr 0 0 0) :: (11, .slc 1005 0 i.2.2.2.2.2.2.2.length) :: (12, .d (.int .i64 i.1)) :: (51, .d (.int .i64 i.2.1)) :: t) (fun i t => (0, ⟨92, 5, [.agg [.d (.int .i64 i.2.2.1), .d (.imm 2 (wab Rule.pd i.2.2.2.1)), .mp 1, .mp 2, .slc 1003 0 i.2.2.2.2.2.2.1.length]]⟩) :: (1, ⟨89, 0, wap Arr3_Int.pd (PD.int .i64) i.2.2.2.2.1⟩) :: (2, ⟨90, 0, wap PD.str (PD.int .i64) i.2.2.2.2.2.1⟩) :: (1003, ⟨37, 3, dl (wab Node.pd i.2.2.2.2.2.2.1)⟩) :: (1005, ⟨3, 1, dl (wab (PD.int .i64) i.2.2.2.2.2.2.2)⟩) :: t) hl_10 ?_ ?_; exact sb; clear hl_10
     rintro ⟨from1, v1, c3, c4, M3, M4, L3, L4⟩ _ hb_12; unfold wdc at hb_12; try dsimp only at hb_12
     try dsimp only
     refine sg fun K k => ?_
     refine oo ?_
     refine AOps.nil (k _ ?_)
     refine AWp.seq fun _ K_15 => ?_
     refine cd hb_12 (fun hb_12 => ?_) (fun hb_12 => ?_)
     ·refine AWp.skip ?_
      refine K_15 _ ?_
      refine AWp.seq fun _ K_17 => ?_
      refine AWp.block ?_
      refine sg fun K k => ?_
      obtain ⟨e1, ⟨f_18, f_19, f_20, f_21⟩, hb_12⟩ := wak hb_12
      refine oo ?_
      refine oo ?_ (by intro K k; simp (disch := omega) only [go_sem, f_20, ↓reduceIte]; exact k)
      refine oo ?_
      refine AOps.nil (k _ ?_)
      refine sg fun K k => ?_
      iterate 11 refine oo ?_
      obtain ⟨r3, hx_22, hb_12⟩ := bind_some hb_12
      refine cl (wdz c4 mark1 from1 _ hx_22) ?_
      refine oo ?_
      obtain ⟨r4, hx_23, hb_12⟩ := bind_some hb_12
      refine clU [(0, 0), (1, 1), (2, 2), (1003, 1003)] [1003] (ih (⟨c3, c4, M3, M4, L3⟩ : Builder) (IntKind.i64.wrap (mark1 + 1)) (IntKind.u32.wrap ↑(BitVec.ofInt IntKind.u32.bits a1 &&& BitVec.ofInt IntKind.u32.bits r3).toNat) _ hx_23) ?_
      refine ol ?_
      obtain ⟨hg_24, hb_12⟩ := wae hb_12
      iterate 2 refine oo ?_
      refine AOps.nil (k _ ?_)
      refine AWp.reg ?_
      iterate 2 refine oo ?_
      refine AOps.nil ?_
      refine K_17 _ ?_
      refine AWp.reg ?_
      iterate 2 refine oo ?_
      refine AOps.nil ?_
      exact ln hb_12 sb
     ·refine AWp.exit ?_
      refine lx hb_12 fun hx => ?_; cases hx; try dsimp only at h2_11
      cases h2_11; exact sb
    ·rintro ⟨c1, c2, M1, M2, L1, L2⟩ h; dsimp only at h ⊢
     refine sg fun K k => ?_
     iterate 2 refine oo ?_
     refine AOps.sub (τ := ⟨[(0, .ptr 0 0 0), (1, .d (.int .i64 mark1)), (7, .ptr 1004 0 0), (74, .d (.imm 1 (wab (PD.int .i64) r2))), (75, .d (.imm 1 (wab (PD.int .i64) L2)))], [(0, ⟨92, 5, [.agg [.d (.int .i64 c1), .d (.imm 2 (wab Rule.pd c2)), .mp 1, .mp 2, .slc 1003 0 L1.length]]⟩), (1, ⟨89, 0, wap Arr3_Int.pd (PD.int .i64) M1⟩), (2, ⟨90, 0, wap PD.str (PD.int .i64) M2⟩), (1003, ⟨37, 3, dl (wab Node.pd L1)⟩), (1004, ⟨121, 3, [.d (.agg [(.int .i64 mark1), (.int .i64 (IntKind.i64.wrap a1)), (.int .i64 0)])]⟩)], [], none⟩) sc ?_
     obtain ⟨r5, hx_25, h⟩ := bind_some h
     refine cl (wk1 r2 L2 _ hx_25) ?_
     iterate 5 refine oo ?_
     refine AOps.nil (k _ ?_)
     refine sg fun K k => ?_
     obtain ⟨e2, ⟨f_26, f_27, f_28, f_29⟩, h⟩ := wak h
     try simp only [Int.reduceToNat] at f_28 f_29
     iterate 2 refine oo ?_
     refine oo ?_ (by intro K k; simp (disch := omega) only [go_sem, f_28, ↓reduceIte]; exact k)
     refine oo ?_
     refine AOps.nil (k _ ?_)
     refine jn (α := (Int × Int × (List Rule) × (List (Arr3_Int × Int)) × (List (ByteArray × Int)) × (List Node))) [7] [1004] (fun i t => (0, .ptr 0 0 0) :: (17, .d (.int .i64 i.1)) :: t) (fun i t => (0, ⟨92, 5, [.agg [.d (.int .i64 i.2.1), .d (.imm 2 (wab Rule.pd i.2.2.1)), .mp 1, .mp 2, .slc 1003 0 i.2.2.2.2.2.length]]⟩) :: (1, ⟨89, 0, wap Arr3_Int.pd (PD.int .i64) i.2.2.2.1⟩) :: (2, ⟨90, 0, wap PD.str (PD.int .i64) i.2.2.2.2.1⟩) :: (1003, ⟨37, 3, dl (wab Node.pd i.2.2.2.2.2)⟩) :: t) h ?_ ?_
     ·intro _ hj_31
      refine sg fun K k => ?_
      iterate 3 refine oo ?_
      refine AOps.nil (k _ ?_)
      refine cd hj_31 (fun hj_31 => ?_) (fun hj_31 => ?_)
      ·refine AWp.reg ?_
       iterate 5 refine oo ?_
       refine AOps.sub (τ := ⟨[(0, .ptr 0 0 0), (7, .ptr 1004 0 0), (85, .ptr 0 0 0), (89, .d (.agg [(.int .i64 mark1), (.imm 1 (wab (PD.int .i64) r5.1)), (.imm 1 (wab (PD.int .i64) r5.2))]))], [(0, ⟨92, 5, [.agg [.d (.int .i64 c1), .d (.imm 2 (wab Rule.pd c2)), .mp 1, .mp 2, .slc 1003 0 L1.length]]⟩), (1, ⟨89, 0, wap Arr3_Int.pd (PD.int .i64) M1⟩), (2, ⟨90, 0, wap PD.str (PD.int .i64) M2⟩), (1003, ⟨37, 3, dl (wab Node.pd L1)⟩), (1004, ⟨121, 3, [.d (.agg [(.int .i64 mark1), (.int .i64 (IntKind.i64.wrap a1)), (.int .i64 0)])]⟩)], [], none⟩) sb ?_
       obtain ⟨r6, hx_33, hj_31⟩ := bind_some hj_31
       refine clU [(0, 0), (1, 1), (2, 2), (1003, 1003)] [1003] (whC (⟨c1, c2, M1, M2, L1⟩ : Builder) (⟨mark1, r5.1, r5.2⟩ : Node) _ hx_33) ?_
       refine oo ?_
       refine AOps.nil ?_
       cases hj_31; exact sb
      ·refine AWp.skip ?_
       cases hj_31; exact sb
     ·rintro ⟨n1, c5, c6, M5, M6, L5⟩ h; dsimp only at h ⊢
      refine sd mo fun K k => ?_
      iterate 6 refine dd ?_
      refine DOps.stop (by kernel_rfl) ?_
      refine oms (k := (⟨mark1, (IntKind.i64.wrap a1), 0⟩ : Arr3_Int)) (L := M5) (v := n1) (encV := (PD.int .i64)) wix wsF ?_
      refine AOps.nil (k _ ?_)
      refine sg fun K k => ?_
      iterate 2 refine oo ?_
      refine AOps.nil (k _ ?_)
      refine AWp.ret ?_
      cases h; exact rtO
end Go.Pv.Tryd

namespace Go.Pv.Tryd
open Go.Proofs Go.Pv
theorem wgo (n : Nat) : ∀ (m1 : (List (Int × Int))) (l1 : (List Node)) (o1 : Builder) (n1 : Int) (r : (Int × (List (Int × Int)) × (List Node))) (h : wbM n m1 l1 o1 n1 = some r), ObjFn Tryd.prog G 91 [.d (.int .i64 n1), .ptr 0 0 0, .ptr 1 0 0, .ptr 2 0 0, .ptr 3 0 0] (waB 0 (waK Node.sub l1) ([(0, ⟨133, 1, [.mp 4]⟩), (1, ⟨32, 1, [.slc 1005 0 l1.length]⟩), (2, ⟨88, 1, [.ptr 6 0 0]⟩), (3, ⟨124, 1, [.func (.func 91) [.ptr 0 0 0, .ptr 1 0 0, .ptr 2 0 0, .ptr 3 0 0]]⟩), (4, ⟨133, 0, wap (PD.int .i64) (PD.int .i64) m1⟩), (1005, ⟨37, 3, wbp 0 Node.npv l1⟩), (6, ⟨92, 5, [.agg [.d (.int .i64 o1.k), .d (.imm 2 (wab Rule.pd o1.rules)), .mp 7, .mp 8, .slc 1009 0 o1.nodes.length]]⟩), (7, ⟨89, 0, wap Arr3_Int.pd (PD.int .i64) o1.known⟩), (8, ⟨90, 0, wap PD.str (PD.int .i64) o1.same⟩), (1009, ⟨37, 3, dl (wab Node.pd o1.nodes)⟩)])) (.d (.int .i64 r.1)) (waB 0 (waK Node.sub r.2.2) ([(0, ⟨133, 1, [.mp 4]⟩), (1, ⟨32, 1, [.slc 1005 0 r.2.2.length]⟩), (2, ⟨88, 1, [.ptr 6 0 0]⟩), (3, ⟨124, 1, [.func (.func 91) [.ptr 0 0 0, .ptr 1 0 0, .ptr 2 0 0, .ptr 3 0 0]]⟩), (4, ⟨133, 0, wap (PD.int .i64) (PD.int .i64) r.2.1⟩), (1005, ⟨37, 3, wbp 0 Node.npv r.2.2⟩), (6, ⟨92, 5, [.agg [.d (.int .i64 o1.k), .d (.imm 2 (wab Rule.pd o1.rules)), .mp 7, .mp 8, .slc 1009 0 o1.nodes.length]]⟩), (7, ⟨89, 0, wap Arr3_Int.pd (PD.int .i64) o1.known⟩), (8, ⟨90, 0, wap PD.str (PD.int .i64) o1.same⟩), (1009, ⟨37, 3, dl (wab Node.pd o1.nodes)⟩)])) := by
 induction n with
 | zero => intro m1 l1 o1 n1 r h; cases h
 | succ n ih =>
  intro m1 l1 o1 n1 r h
  replace h : wbx (wbM n) m1 l1 o1 n1 = some r := h
  unfold wbx at h
  refine ObjFn.pf Tryd.func91 Tryd.ntmps91 ?_
  refine sg fun K k => ?_
  refine oo ?_
  refine AOps.nil (k _ ?_)
  refine AWp.seq fun _ K_1 => ?_
  refine sg fun K k => ?_
  iterate 2 refine oo ?_
  refine AOps.nil (k _ ?_)
  refine cd h (fun h => ?_) (fun h => ?_)
  ·refine sg fun K k => ?_
   iterate 2 refine oo ?_
   refine AOps.nil (k _ ?_)
   refine AWp.ret ?_
   cases h; exact rtO
  ·refine AWp.skip ?_
   refine K_1 _ ?_
   refine AWp.seq fun _ K_3 => ?_
   refine sg fun K k => ?_
   iterate 2 refine oo ?_
   refine oml (k := n1) (L := m1) (v0 := 0) (encV := (PD.int .i64)) KE3 wsm ty3 MZ3 (fun _ _ => .int _ _) ?_
   iterate 5 refine oo ?_
   refine AOps.nil (k _ ?_)
   refine sg fun K k => ?_
   refine oo ?_
   refine AOps.nil (k _ ?_)
   refine cd h (fun h => ?_) (fun h => ?_)
   ·refine sg fun K k => ?_
    iterate 2 refine oo ?_
    refine AOps.nil (k _ ?_)
    refine AWp.ret ?_
    cases h; exact rtO
   ·refine AWp.skip ?_
    refine K_3 _ ?_
    refine sg fun K k => ?_
    iterate 3 refine oo ?_
    refine AOps.nil (k _ ?_)
    refine sg fun K k => ?_
    iterate 3 refine oo ?_
    refine oms (k := n1) (L := m1) (v := (l1.length : Int)) (encV := (PD.int .i64)) KE3 wsm ?_
    refine AOps.nil (k _ ?_)
    refine AWp.sub (τ := ⟨[(0, .d (.int .i64 n1)), (1, .ptr 0 0 0), (2, .ptr 1 0 0), (3, .ptr 2 0 0), (4, .ptr 3 0 0), (6, .d (.int .i64 0)), (7, .d (.int .i64 ((waP n1 m1).getD 0))), (8, .d (.bool ((waP n1 m1).isSome))), (9, .d (.int .i64 (l1.length : Int))), (13, .d (.int .i64 n1)), (14, .d (.bool (decide (n1 < 0)))), (16, .tuple [.d (.int .i64 ((waP n1 m1).getD 0)), .d (.bool ((waP n1 m1).isSome))]), (17, .mp 4), (18, .d (.int .i64 n1)), (19, .tuple [.d (.int .i64 ((waP n1 m1).getD 0)), .d (.bool ((waP n1 m1).isSome))]), (20, .d (.int .i64 ((waP n1 m1).getD 0))), (21, .d (.bool ((waP n1 m1).isSome))), (22, .d (.bool ((waP n1 m1).isSome))), (25, .d (.int .i64 (l1.length : Int))), (26, .mp 4), (27, .d (.int .i64 n1)), (28, .d (.int .i64 (l1.length : Int)))], (waB 0 (waK Node.sub l1) ([(0, ⟨133, 1, [.mp 4]⟩), (1, ⟨32, 1, [.slc 1005 0 l1.length]⟩), (2, ⟨88, 1, [.ptr 6 0 0]⟩), (3, ⟨124, 1, [.func (.func 91) [.ptr 0 0 0, .ptr 1 0 0, .ptr 2 0 0, .ptr 3 0 0]]⟩), (4, ⟨133, 0, wap (PD.int .i64) (PD.int .i64) (wdt n1 (l1.length : Int) m1)⟩), (1005, ⟨37, 3, wbp 0 Node.npv l1⟩), (6, ⟨92, 5, [.agg [.d (.int .i64 o1.k), .d (.imm 2 (wab Rule.pd o1.rules)), .mp 7, .mp 8, .slc 1009 0 o1.nodes.length]]⟩), (7, ⟨89, 0, wap Arr3_Int.pd (PD.int .i64) o1.known⟩), (8, ⟨90, 0, wap PD.str (PD.int .i64) o1.same⟩), (1009, ⟨37, 3, dl (wab Node.pd o1.nodes)⟩)])), [], none⟩) sb ?_
    refine sdX mo [(1005, [29, 49, 1000001])] fun K k => ?_
    obtain ⟨e1, ⟨f_5, f_6, f_7, f_8⟩, h⟩ := wak h
    iterate 8 (refine dd ?_ (by intro K k; simp (disch := omega) only [go_sem, true_or, or_true, and_self, true_and, and_true, ↓reduceIte]; exact k))
    refine dd ?_ (by intro K k; simp (disch := omega) only [go_sem, f_7, true_or, or_true, and_self, true_and, and_true, ↓reduceIte]; exact k)
    iterate 7 (refine dd ?_ (by intro K k; simp (disch := omega) only [go_sem, true_or, or_true, and_self, true_and, and_true, ↓reduceIte]; exact k))
    refine dd ?_ (by intro K k; simp (disch := omega) only [go_sem, f_7, true_or, or_true, and_self, true_and, and_true, ↓reduceIte]; exact k)
    obtain ⟨r1, hx_9, h⟩ := bind_some h
    refine dcl (RowFn.pure (wpq e1.Cuts _ hx_9)) ?_
    refine dd ?_ (by intro K k; simp (disch := omega) only [go_sem, true_or, or_true, and_self, true_and, and_true, ↓reduceIte]; exact k)
    refine ddl ?_ (by intro K k; simp (disch := omega) only [go_sem, true_or, or_true, and_self, true_and, and_true, ↓reduceIte]; exact k)
    obtain ⟨hg_10, h⟩ := wae h
    refine wnl [29, 49, 1000001] [(1, ⟨32, 1, [.slc 1005 0 l1.length]⟩)] [.d (.agg [(.int .i64 e1.Mark), (.imm 1 (wab (PD.int .i64) r1)), .nilslice])] se32 ?_
    refine dd ?_ (by intro K k; simp (disch := omega) only [go_sem, true_or, or_true, and_self, true_and, and_true, ↓reduceIte]; exact k)
    refine DOps.nil (by kernel_rfl) (k _ ?_)
    refine AWp.sub (psh 0 1005 2 (⟨e1.Mark, r1, []⟩ : Node)) ?_
    refine jn (α := ((List (Int × Int)) × (List Node))) [9] [2, 3, 6, 7, 8, 1009] (fun i t => t) (fun i t => waB 0 (waK Node.sub i.2) ((0, ⟨133, 1, [.mp 4]⟩) :: (1, ⟨32, 1, [.slc 1005 0 i.2.length]⟩) :: (4, ⟨133, 0, wap (PD.int .i64) (PD.int .i64) i.1⟩) :: (1005, ⟨37, 3, wbp 0 Node.npv i.2⟩) :: t)) h ?_ ?_
    ·intro _ hj_12
     refine sg fun K k => ?_
     obtain ⟨e2, ⟨f_13, f_14, f_15, f_16⟩, hj_12⟩ := wak hj_12
     iterate 7 refine oo ?_
     refine oo ?_ (by intro K k; simp (disch := omega) only [go_sem, f_15, ↓reduceIte]; exact k)
     iterate 2 refine oo ?_
     refine AOps.nil (k _ ?_)
     refine AWp.block ?_
     obtain ⟨x_21, hl_18, h2_19⟩ := bind_some hj_12
     refine lp (S := (Int × (List (Int × Int)) × (List Node))) [2, 4, 9, 57, 58] [2, 3, 6, 7, 8, 1009] (fun i t => (59, .d (.int .i64 i.1)) :: t) (fun i t => waB 0 (waK Node.sub i.2.2) ((0, ⟨133, 1, [.mp 4]⟩) :: (1, ⟨32, 1, [.slc 1005 0 i.2.2.length]⟩) :: (4, ⟨133, 0, wap (PD.int .i64) (PD.int .i64) i.2.1⟩) :: (1005, ⟨37, 3, wbp 0 Node.npv i.2.2⟩) :: t)) hl_18 ?_ ?_; exact sb; clear hl_18
     rintro ⟨v1, M2, L2⟩ _ hb_20; unfold wb3 at hb_20; try dsimp only at hb_20
     try dsimp only
     refine sg fun K k => ?_
     refine oo ?_
     refine AOps.nil (k _ ?_)
     refine AWp.seq fun _ K_23 => ?_
     refine cd hb_20 (fun hb_20 => ?_) (fun hb_20 => ?_)
     ·refine AWp.skip ?_
      refine K_23 _ ?_
      refine AWp.seq fun _ K_25 => ?_
      refine AWp.block ?_
      refine sg fun K k => ?_
      obtain ⟨e3, ⟨f_26, f_27, f_28, f_29⟩, hb_20⟩ := wak hb_20
      refine oo ?_
      refine oo ?_ (by intro K k; simp (disch := omega) only [go_sem, f_28, ↓reduceIte]; exact k)
      refine oo ?_
      refine AOps.nil (k _ ?_)
      refine sg fun K k => ?_
      iterate 2 refine oo ?_
      obtain ⟨r2, hx_30, hb_20⟩ := bind_some hb_20
      refine clD [(0, 0), (1, 1), (2, 2), (3, 3), (4, 4), (1005, 1005), (6, 6), (7, 7), (8, 8), (1009, 1009)] [1005, 1009] (ih M2 L2 o1 e3 _ hx_30) ?_
      refine oo ?_
      refine AOps.nil (k _ ?_)
      obtain ⟨e4, ⟨f_31, f_32, f_33, f_34⟩, hb_20⟩ := wak hb_20
      try simp only [Int.toNat_natCast] at f_33 f_34
      have hF_35 := fun p => wrh (c := 0) (i := ((l1.length : Int)).toNat) (F := Node.npv) f_33 p
      have hf_36 := wqI (c := 0) (i := ((l1.length : Int)).toNat) (q := 1010) (F := Node.npv) f_33
      refine AWp.sub (fcs 0 (((l1.length : Int)).toNat) 1010 (⟨3, 1, dl (wab (PD.int .i64) e4.To)⟩ : Row) (F := Node.npv) (g := Node.sub) f_33 (hl := by (simp only [wcU, Row.ren, renL, PV.ren, dl_ren, mels_ren, optP_ren, wfi, Nat.reduceLT, hf_36]; rfl))) ?_
      refine drX mo [(1010, [72, 75, 1001005])] ?_
      iterate 6 (refine dd ?_ (by intro K k; simp (disch := omega) only [go_sem, true_or, or_true, and_self, true_and, and_true, ↓reduceIte]; exact k))
      refine dd ?_ (by intro K k; simp (disch := omega) only [go_sem, hF_35, List.set_set, true_or, or_true, and_self, true_and, and_true, ↓reduceIte]; exact k)
      refine dd ?_ (by intro K k; simp (disch := omega) only [go_sem, true_or, or_true, and_self, true_and, and_true, ↓reduceIte]; exact k)
      refine ddl ?_ (by intro K k; simp (disch := omega) only [go_sem, true_or, or_true, and_self, true_and, and_true, ↓reduceIte]; exact k)
      obtain ⟨hg_37, hb_20⟩ := wae hb_20
      refine wnl [72, 75, 1001005] [(1005, ⟨37, 3, (wbp 0 Node.npv r2.2.2).set (((l1.length : Int)).toNat) (.agg [.d (.int .i64 e4.Mark), .d (.imm 1 (wab (PD.int .i64) e4.Cuts)), .slc 1010 0 e4.To.length])⟩)] (dl (wab (PD.int .i64) [r2.1])) se26 ?_
      iterate 2 (refine dd ?_ (by intro K k; simp (disch := omega) only [go_sem, true_or, or_true, and_self, true_and, and_true, ↓reduceIte]; exact k))
      refine dd ?_ (by intro K k; simp (disch := omega) only [go_sem, hF_35, List.set_set, true_or, or_true, and_self, true_and, and_true, ↓reduceIte]; exact k)
      refine DOps.nil (by kernel_rfl) ?_
      refine K_25 _ ?_
      refine AWp.sub (drp [(2, .ptr 1 0 0), (4, .ptr 3 0 0), (9, .d (.int .i64 (l1.length : Int))), (11, .d (.int .i64 e3)), (12, .d (.int .i64 r2.1)), (57, .d (.imm 1 (wab (PD.int .i64) e2.To))), (58, .d (.int .i64 (e2.To.length : Int))), (59, .d (.int .i64 v1)), (60, .d (.bool (decide (v1 < (e2.To.length : Int))))), (61, .dptr 1 (wab (PD.int .i64) e2.To) ((v1).toNat) 0), (62, .d (.int .i64 e3)), (63, .func (.func 91) [.ptr 0 0 0, .ptr 1 0 0, .ptr 2 0 0, .ptr 3 0 0]), (64, .d (.int .i64 e3)), (65, .d (.int .i64 r2.1)), (66, .slc 1005 0 ((r2.2.2.set (((l1.length : Int)).toNat) (⟨e4.Mark, e4.Cuts, (e4.To ++ [r2.1])⟩ : Node)).length)), (67, .d (.int .i64 (l1.length : Int))), (68, .slc 1005 0 ((r2.2.2.set (((l1.length : Int)).toNat) (⟨e4.Mark, e4.Cuts, (e4.To ++ [r2.1])⟩ : Node)).length)), (69, .d (.int .i64 (l1.length : Int))), (70, .ptr 1005 (((l1.length : Int)).toNat) 0), (71, .ptr 1005 (((l1.length : Int)).toNat) 2), (73, .d (.int .i64 r2.1)), (74, .d (.imm 1 (wab (PD.int .i64) [r2.1]))), (76, .ptr 1005 (((l1.length : Int)).toNat) 0), (77, .ptr 1005 (((l1.length : Int)).toNat) 2)]) ?_
      refine AWp.sub (ufc (F := Node.npv) (g := Node.sub) 0 (((l1.length : Int)).toNat) 1010 (⟨e4.Mark, e4.Cuts, (e4.To ++ [r2.1])⟩ : Node) [(0, ⟨133, 1, [.mp 4]⟩), (1, ⟨32, 1, [.slc 1005 0 ((r2.2.2.set (((l1.length : Int)).toNat) (⟨e4.Mark, e4.Cuts, (e4.To ++ [r2.1])⟩ : Node)).length)]⟩), (2, ⟨88, 1, [.ptr 6 0 0]⟩), (3, ⟨124, 1, [.func (.func 91) [.ptr 0 0 0, .ptr 1 0 0, .ptr 2 0 0, .ptr 3 0 0]]⟩), (4, ⟨133, 0, wap (PD.int .i64) (PD.int .i64) r2.2.1⟩), (6, ⟨92, 5, [.agg [.d (.int .i64 o1.k), .d (.imm 2 (wab Rule.pd o1.rules)), .mp 7, .mp 8, .slc 1009 0 o1.nodes.length]]⟩), (7, ⟨89, 0, wap Arr3_Int.pd (PD.int .i64) o1.known⟩), (8, ⟨90, 0, wap PD.str (PD.int .i64) o1.same⟩), (1005, ⟨37, 3, wbp 0 Node.npv (r2.2.2.set (((l1.length : Int)).toNat) (⟨e4.Mark, e4.Cuts, (e4.To ++ [r2.1])⟩ : Node))⟩), (1009, ⟨37, 3, dl (wab Node.pd o1.nodes)⟩)] f_34 (hl := by (repeat' (first | exact trivial | exact rfl | exact dl_ren _ _ | exact mels_ren _ _ _ _ | exact wkM (by decide) f_34 | exact wok (by decide) f_34 (by (simp only [go_sem, List.length_append, List.length_set, List.length_replicate, List.length_cons, List.length_nil, Nat.zero_add]; done)) | (simp only [renL, PV.ren, List.length_append, List.length_set, List.length_replicate, List.length_cons, List.length_nil, Nat.zero_add]; exact rfl) | apply And.intro)))) ?_
      refine AWp.reg ?_
      iterate 2 refine oo ?_
      refine AOps.nil ?_
      exact ln hb_20 sb
     ·refine AWp.exit ?_
      refine lx hb_20 fun hx => ?_; cases hx; try dsimp only at h2_19
      cases h2_19; exact sb
    ·rintro ⟨M1, L1⟩ h; dsimp only at h ⊢
     refine sg fun K k => ?_
     iterate 2 refine oo ?_
     refine AOps.nil (k _ ?_)
     refine AWp.ret ?_
     cases h; exact rtO
end Go.Pv.Tryd

namespace Go.Pv.Tryd
open Go.Proofs Go.Pv
theorem wgN (o1 : Builder) (top1 : Int) (r : ((List Node) × Builder)) (h : wb0 o1 top1 = some r) : ObjFn Tryd.prog G 59 [.ptr 0 0 0, .d (.int .i64 top1)] [(0, ⟨92, 5, [.agg [.d (.int .i64 o1.k), .d (.imm 2 (wab Rule.pd o1.rules)), .mp 1, .mp 2, .slc 1003 0 o1.nodes.length]]⟩), (1, ⟨89, 0, wap Arr3_Int.pd (PD.int .i64) o1.known⟩), (2, ⟨90, 0, wap PD.str (PD.int .i64) o1.same⟩), (1003, ⟨37, 3, dl (wab Node.pd o1.nodes)⟩)] (.d (.imm 3 (wab Node.pd r.1))) [(0, ⟨92, 5, [.agg [.d (.int .i64 r.2.k), .d (.imm 2 (wab Rule.pd r.2.rules)), .mp 1, .mp 2, .slc 1003 0 r.2.nodes.length]]⟩), (1, ⟨89, 0, wap Arr3_Int.pd (PD.int .i64) r.2.known⟩), (2, ⟨90, 0, wap PD.str (PD.int .i64) r.2.same⟩), (1003, ⟨37, 3, dl (wab Node.pd r.2.nodes)⟩)] := by
 unfold wb0 at h
 refine ObjFn.pf Tryd.func59 Tryd.ntmps59 ?_
 refine sg fun K k => ?_
 iterate 2 refine oo ?_
 refine AOps.nil (k _ ?_)
 refine sg fun K k => ?_
 refine oo ?_
 refine AOps.sub (Sub.voidVar 1005 37 3 1006 rfl (by decide) rfl rfl (by decide) (by decide)) ?_
 simp only [waj, reduceCtorEq, ↓reduceIte, Nat.reduceAdd, Nat.reduceMul, Nat.reduceLT, Nat.reduceLeDiff, Nat.reduceEqDiff, Nat.reduceBEq, Int.reduceToNat]
 refine AOps.sub (wsX 0 Node.sub) ?_
 refine AOps.nil (k _ ?_)
 refine sg fun K k => ?_
 refine omk (α := Int) (β := Int) (PD.int .i64) (PD.int .i64) 1007 ?_
 iterate 2 refine oo ?_
 refine AOps.nil (k _ ?_)
 refine sg fun K k => ?_
 refine oo ?_
 refine AOps.nil (k _ ?_)
 refine sg fun K k => ?_
 iterate 2 refine oo ?_
 refine AOps.nil (k _ ?_)
 refine sg fun K k => ?_
 iterate 2 refine oo ?_
 obtain ⟨r1, hx_1, h⟩ := bind_some h
 refine clD [(0, 1008), (1, 1005), (2, 1004), (3, 1009), (4, 1007), (1005, 1006), (6, 0), (7, 1), (8, 2), (1009, 1003)] [1006, 1003] (wgo 100 [] [] o1 top1 _ hx_1) ?_
 refine AOps.nil (k _ ?_)
 refine sg fun K k => ?_
 iterate 2 refine oo ?_
 refine AOps.nil (k _ ?_)
 refine AWp.sub (unn 0 1006 Node.pd) ?_
 refine AWp.sub (τ := ⟨[(4, .d (.imm 3 (wab Node.pd r1.2.2)))], [(0, ⟨92, 5, [.agg [.d (.int .i64 o1.k), .d (.imm 2 (wab Rule.pd o1.rules)), .mp 1, .mp 2, .slc 1003 0 o1.nodes.length]]⟩), (1, ⟨89, 0, wap Arr3_Int.pd (PD.int .i64) o1.known⟩), (2, ⟨90, 0, wap PD.str (PD.int .i64) o1.same⟩), (1003, ⟨37, 3, dl (wab Node.pd o1.nodes)⟩)], [], none⟩) sc ?_
 refine AWp.ret ?_
 cases h; exact rtO
end Go.Pv.Tryd

namespace Go.Pv.Tryd
open Go.Proofs Go.Pv
theorem wkh (k1 : Int) (t1 : (List Rule)) (r : ((List Node) × Int)) (h : wd9 k1 t1 = some r) : PureFn Tryd.prog G 26 [.d (.int .i64 k1), .d (.imm 2 (wab Rule.pd t1))] (.tuple [.d (.imm 3 (wab Node.pd r.1)), .d (.int .i64 r.2)]) := by
 unfold wd9 at h
 refine pf Tryd.func26 Tryd.ntmps26 ?_
 refine sg fun K k => ?_
 iterate 2 refine oo ?_
 refine AOps.nil (k _ ?_)
 refine AWp.seq fun _ K_1 => ?_
 refine sg fun K k => ?_
 iterate 2 refine oo ?_
 refine ol ?_
 obtain ⟨r1, hx_2, h⟩ := bind_some h
 refine cl (wee k1 [t1] _ hx_2) ?_
 refine oo ?_
 refine AOps.nil (k _ ?_)
 refine sg fun K k => ?_
 iterate 2 refine oo ?_
 refine AOps.nil (k _ ?_)
 refine cd h (fun h => ?_) (fun h => ?_)
 ·refine sg fun K k => ?_
  iterate 3 refine oo ?_
  refine AOps.nil (k _ ?_)
  refine AWp.ret ?_
  cases h; exact rt
 ·refine AWp.skip ?_
  refine K_1 _ ?_
  refine sg fun K k => ?_
  iterate 2 refine oo ?_
  refine omk (α := Arr3_Int) (β := Int) Arr3_Int.pd (PD.int .i64) 1000 ?_
  refine omk (α := ByteArray) (β := Int) PD.str (PD.int .i64) 1001 ?_
  iterate 3 refine oo ?_
  refine AOps.sub (Sub.voidCell 1002 4 37 3 1003 (x := ⟨92, 5, [.agg [.d (.int .i64 k1), .d (.imm 2 (wab Rule.pd t1)), .mp 1000, .mp 1001, .d .nilslice]]⟩) (p := .agg [.d (.int .i64 k1), .d (.imm 2 (wab Rule.pd t1)), .mp 1000, .mp 1001, .d .nilslice]) (cs := [.d (.int .i64 k1), .d (.imm 2 (wab Rule.pd t1)), .mp 1000, .mp 1001, .d .nilslice]) rfl (Nat.le_of_ble_eq_true rfl) rfl rfl rfl rfl rfl (by decide) (by decide)) ?_
  simp only [waj, List.set_cons_succ, List.set_cons_zero, reduceCtorEq, ↓reduceIte, Nat.reduceAdd, Nat.reduceMul, Nat.reduceLT, Nat.reduceLeDiff, Nat.reduceEqDiff, Nat.reduceBEq, Int.reduceToNat]
  refine AOps.nil (k _ ?_)
  refine sg fun K k => ?_
  iterate 2 refine oo ?_
  obtain ⟨r2, hx_4, h⟩ := bind_some h
  refine cl (wdP t1 _ hx_4) ?_
  obtain ⟨r3, hx_5, h⟩ := bind_some h
  refine clU [(0, 1002), (1, 1000), (2, 1001), (1003, 1003)] [1003] (wid 100 (⟨k1, t1, [], [], []⟩ : Builder) 0 r2 _ hx_5) ?_
  refine oo ?_
  refine AOps.nil (k _ ?_)
  refine AWp.seq fun _ K_6 => ?_
  refine sg fun K k => ?_
  iterate 2 refine oo ?_
  refine AOps.nil (k _ ?_)
  refine cd h (fun h => ?_) (fun h => ?_)
  ·refine sg fun K k => ?_
   refine ol ?_
   refine oo ?_
   refine ol ?_
   refine oo ?_
   refine ol ?_
   iterate 2 refine oo ?_
   refine AOps.nil (k _ ?_)
   refine AWp.ret ?_
   cases h; exact rt
  ·refine AWp.skip ?_
   refine K_6 _ ?_
   refine sg fun K k => ?_
   iterate 2 refine oo ?_
   obtain ⟨r4, hx_8, h⟩ := bind_some h
   refine clU [(0, 1002), (1, 1000), (2, 1001), (1003, 1003)] [1003] (wgN r3.2 r3.1 _ hx_8) ?_
   iterate 2 refine oo ?_
   refine AOps.nil (k _ ?_)
   refine AWp.ret ?_
   cases h; exact rt
end Go.Pv.Tryd

namespace Go.Pv.Tryd
open Go.Proofs Go.Pv
theorem weP (a1 : (List Int)) (b1 : (List Int)) (r : Bool) (h : wcl a1 b1 = some r) : PureFn Tryd.prog G 23 [.d (.imm 1 (wab (PD.int .i64) a1)), .d (.imm 1 (wab (PD.int .i64) b1))] (.d (.bool r)) := by
 unfold wcl at h
 refine pf Tryd.func23 Tryd.ntmps23 ?_
 refine sg fun K k => ?_
 refine oo ?_
 refine AOps.nil (k _ ?_)
 refine AWp.seq fun _ K_1 => ?_
 refine sg fun K k => ?_
 iterate 5 refine oo ?_
 refine AOps.nil (k _ ?_)
 refine cd h (fun h => ?_) (fun h => ?_)
 ·refine sg fun K k => ?_
  refine oo ?_
  refine AOps.nil (k _ ?_)
  refine AWp.ret ?_
  cases h; exact rt
 ·refine AWp.skip ?_
  refine K_1 _ ?_
  refine jm (ι := Unit) [] [] (fun i t => t) (fun i t => t) .inl h ?_ ?_
  ·intro _ hj_4 h
   refine sg fun K k => ?_
   refine oo ?_
   refine AOps.nil (k _ ?_)
   refine AWp.block ?_
   obtain ⟨x_9, hl_6, h2_7⟩ := bind_some hj_4
   refine lp (S := Int) [0, 1] [] (fun i t => (5, .d (.int .i64 i)) :: t) (fun i t => t) hl_6 ?_ ?_; exact sb; clear hl_6
   rintro i1 _ hb_8; unfold wdM at hb_8; try dsimp only at hb_8
   try dsimp only
   refine AWp.seq fun _ K_11 => ?_
   refine sg fun K k => ?_
   iterate 4 refine oo ?_
   refine AOps.nil (k _ ?_)
   refine cd hb_8 (fun hb_8 => ?_) (fun hb_8 => ?_)
   ·refine AWp.skip ?_
    refine K_11 _ ?_
    refine AWp.seq fun _ K_13 => ?_
    refine AWp.block ?_
    refine sd mo fun K k => ?_
    obtain ⟨e1, ⟨f_14, f_15, f_16, f_17⟩, hb_8⟩ := wak hb_8
    iterate 3 refine dd ?_
    refine dd ?_ (by intro K k; simp (disch := omega) only [go_sem, f_16, ↓reduceIte]; exact k)
    obtain ⟨e2, ⟨f_18, f_19, f_20, f_21⟩, hb_8⟩ := wak hb_8
    iterate 3 refine dd ?_
    refine dd ?_ (by intro K k; simp (disch := omega) only [go_sem, f_20, ↓reduceIte]; exact k)
    refine dd ?_
    refine DOps.nil (by kernel_rfl) (k _ ?_)
    refine cd hb_8 (fun hb_8 => ?_) (fun hb_8 => ?_)
    ·refine sg fun K k => ?_
     refine oo ?_
     refine AOps.nil (k _ ?_)
     refine AWp.ret ?_
     refine lx hb_8 fun hx => ?_; cases hx; try dsimp only at h2_7
     cases h2_7; try dsimp only at h
     cases h; exact rt
    ·refine AWp.skip ?_
     refine K_13 _ ?_
     refine AWp.reg ?_
     iterate 3 refine oo ?_
     refine AOps.nil ?_
     exact ln hb_8 sb
   ·refine AWp.exit ?_
    refine lx hb_8 fun hx => ?_; cases hx; try dsimp only at h2_7
    exact ln h2_7 sb
  ·rintro _ h; dsimp only at h ⊢
   refine sg fun K k => ?_
   refine oo ?_
   refine AOps.nil (k _ ?_)
   refine AWp.ret ?_
   cases h; exact rt
end Go.Pv.Tryd

namespace Go.Pv.Tryd
open Go.Proofs Go.Pv
set_option maxHeartbeats 4000000 in
theorem wfU (r : Bool) (h : wbD = some r) : PureFn Tryd.prog G 19 [] (.d (.bool r)) := by
 unfold wbD at h
 refine pf Tryd.func19 Tryd.ntmps19 ?_
 refine sg fun K k => ?_
 refine oo ?_
 refine AOps.nil (k _ ?_)
 refine sg fun K k => ?_
 obtain ⟨r1, hx_1, h⟩ := bind_some h
 refine cl (wez _ hx_1) ?_
 obtain ⟨r2, hx_2, h⟩ := bind_some h
 refine cl (wl6 1 r1 _ hx_2) ?_
 iterate 5 refine oo ?_
 refine AOps.nil (k _ ?_)
 refine sg fun K k => ?_
 obtain ⟨r3, hx_3, h⟩ := bind_some h
 refine cl (wez _ hx_3) ?_
 obtain ⟨r4, hx_4, h⟩ := bind_some h
 refine cl (wm0 1 r3 _ hx_4) ?_
 iterate 5 refine oo ?_
 refine AOps.nil (k _ ?_)
 refine sg fun K k => ?_
 obtain ⟨r5, hx_5, h⟩ := bind_some h
 refine cl (wez _ hx_5) ?_
 obtain ⟨r6, hx_6, h⟩ := bind_some h
 refine cl (wkh 1 r5 _ hx_6) ?_
 iterate 5 refine oo ?_
 refine AOps.nil (k _ ?_)
 refine sg fun K k => ?_
 iterate 3 refine oo ?_
 obtain ⟨b1, hc_7, h⟩ := bind_some h
 refine ct 4 [3, 4, 5, 6] [] (fun  t => (28, .d (.bool b1)) :: t) ?_ ?_
 ·rcases bt (decide (r2.2 = 0)) with hg_9 | hg_9
  ·rw [hg_9]
   rw [hg_9, cond_true] at hc_7
   refine oo ?_
   refine ol ?_
   obtain ⟨r7, hx_8, hc_7⟩ := bind_some hc_7
   refine cl (weP r2.1 [2] _ hx_8) ?_
   refine oo ?_
   refine AOps.nil ?_
   cases hc_7
   exact sb
  ·rw [hg_9]
   rw [hg_9, cond_false] at hc_7
   iterate 4 refine oo ?_
   refine AOps.nil ?_
   cases hc_7
   exact sb
 refine oo ?_
 refine ct 3 [3, 5, 6] [] (fun  t => (32, .d (.bool (b1 && (decide (r4.2 = 0))))) :: t) ?_ ?_
 ·rcases bt b1 with hg_11 | hg_11
  ·rw [hg_11]
   iterate 3 refine oo ?_
   refine AOps.nil ?_
   exact sb
  ·rw [hg_11]
   iterate 3 refine oo ?_
   refine AOps.nil ?_
   exact sb
 refine oo ?_
 obtain ⟨b2, hc_12, h⟩ := bind_some h
 refine ct 4 [5, 6] [] (fun  t => (37, .d (.bool b2)) :: t) ?_ ?_
 ·rcases bt (b1 && (decide (r4.2 = 0))) with hg_14 | hg_14
  ·rw [hg_14]
   rw [hg_14, cond_true] at hc_12
   refine oo ?_
   refine ol ?_
   obtain ⟨r8, hx_13, hc_12⟩ := bind_some hc_12
   refine cl (weP r4.1 [20] _ hx_13) ?_
   refine oo ?_
   refine AOps.nil ?_
   cases hc_12
   exact sb
  ·rw [hg_14]
   rw [hg_14, cond_false] at hc_12
   iterate 4 refine oo ?_
   refine AOps.nil ?_
   cases hc_12
   exact sb
 refine oo ?_
 refine ct 3 [5] [] (fun  t => (41, .d (.bool (b2 && (decide (r6.2 = 0))))) :: t) ?_ ?_
 ·rcases bt b2 with hg_16 | hg_16
  ·rw [hg_16]
   iterate 3 refine oo ?_
   refine AOps.nil ?_
   exact sb
  ·rw [hg_16]
   iterate 3 refine oo ?_
   refine AOps.nil ?_
   exact sb
 refine oo ?_
 refine ct 4 [5] [] (fun  t => (46, .d (.bool ((b2 && (decide (r6.2 = 0))) && (decide ((r6.1.length : Int) = 1))))) :: t) ?_ ?_
 ·rcases bt (b2 && (decide (r6.2 = 0))) with hg_18 | hg_18
  ·rw [hg_18]
   iterate 4 refine oo ?_
   refine AOps.nil ?_
   exact sb
  ·rw [hg_18]
   iterate 4 refine oo ?_
   refine AOps.nil ?_
   exact sb
 refine oo ?_
 obtain ⟨b3, hc_19, h⟩ := bind_some h
 refine ct 7 [] [] (fun  t => (54, .d (.bool b3)) :: t) ?_ ?_
 ·rcases bt ((b2 && (decide (r6.2 = 0))) && (decide ((r6.1.length : Int) = 1))) with hg_25 | hg_25
  ·rw [hg_25]
   rw [hg_25, cond_true] at hc_19
   obtain ⟨e1, ⟨f_20, f_21, f_22, f_23⟩, hc_19⟩ := wak hc_19
   try simp only [Int.reduceToNat] at f_22 f_23
   iterate 3 refine oo ?_
   refine oo ?_ (by intro K k; simp (disch := omega) only [go_sem, f_22, ↓reduceIte]; exact k)
   refine ol ?_
   obtain ⟨r9, hx_24, hc_19⟩ := bind_some hc_19
   refine cl (weP e1.To [(-3), (-4), (-1)] _ hx_24) ?_
   refine oo ?_
   refine AOps.nil ?_
   cases hc_19
   exact sb
  ·rw [hg_25]
   rw [hg_25, cond_false] at hc_19
   iterate 7 refine oo ?_
   refine AOps.nil ?_
   cases hc_19
   exact sb
 refine oo ?_
 refine AOps.nil (k _ ?_)
 refine AWp.ret ?_
 cases h; exact rt
end Go.Pv.Tryd

namespace Go.Pv.Tryd
open Go.Proofs Go.Pv
theorem wqj {α : Type} {f : α → PD} {L : List α} {a b : Nat} : (dl (wab f L)).take a ++ dl (wab f (L.drop b)) ++ (dl (wab f L)).drop (a + (dl (wab f (L.drop b))).length) = dl (wab f (L.take a ++ L.drop b ++ L.drop (a + (L.length - b)))) := by
 simp [dl, wab, List.map_take, List.map_drop]
theorem wps : ∀ (l : List PD) {m n : List PD}, leDL m n → leDL (l ++ m) (l ++ n)
 | [], _, _, h => h
 | x :: l, _, _, h => by simp only [List.cons_append, leDL]; exact ⟨leD_refl x, wps l h⟩
theorem wqk {L : List Rule} {a b : Nat} (hab : a ≤ b) (hb : b ≤ L.length) : (dl (wab Rule.pd (L.take a ++ L.drop b ++ L.drop (a + (L.length - b))))).take (a + (L.length - b)) ++ List.replicate (L.length - (a + (L.length - b))) (PV.d (.agg [.nilslice, (.int .i64 0)])) ++ (dl (wab Rule.pd (L.take a ++ L.drop b ++ L.drop (a + (L.length - b))))).drop (a + (L.length - b) + (L.length - (a + (L.length - b)))) = dl (wab Rule.pd (L.take a ++ L.drop b) ++ List.replicate (b - a) (.agg [.nilslice, (.int .i64 0)])) := by
 have e1 : (L.take a ++ L.drop b ++ L.drop (a + (L.length - b))).take (a + (L.length - b)) = L.take a ++ L.drop b := by
  rw [List.take_append_of_le_length (by simp; omega), List.take_of_length_le (by simp; omega)]
 have e2 : (L.take a ++ L.drop b ++ L.drop (a + (L.length - b))).drop (a + (L.length - b) + (L.length - (a + (L.length - b)))) = [] := List.drop_eq_nil_of_le (by simp; omega)
 have e3 : L.length - (a + (L.length - b)) = b - a := by omega
 have t : ∀ (M : List Rule) k, (dl (wab Rule.pd M)).take k = dl (wab Rule.pd (M.take k)) := fun M k => by simp [dl, wab, List.map_take]
 have d : ∀ (M : List Rule) k, (dl (wab Rule.pd M)).drop k = dl (wab Rule.pd (M.drop k)) := fun M k => by simp [dl, wab, List.map_drop]
 rw [t, d, e1, e2, e3]
 simp [dl, wab]
theorem wrv {L : List Rule} {a b : Nat} : leVL (dl (wab Rule.pd (L.take a ++ L.drop b) ++ List.replicate (b - a) (.agg [.nilslice, (.int .i64 0)]))) (dl (wab Rule.pd (wf3 L (a : Int) (b : Int)))) := by
 have e : wab Rule.pd (wf3 L (a : Int) (b : Int)) = wab Rule.pd (L.take a ++ L.drop b) ++ wab Rule.pd (List.replicate (b - a) (⟨[], 0⟩ : Rule)) := by
  unfold wf3
  rw [Int.toNat_natCast, Int.toNat_natCast, show ((b : Int) - (a : Int)).toNat = b - a by omega]
  simp [wab]
 rw [e]
 refine wp3 (wps _ ?_)
 rw [← wd7]
 exact woU (by simp [leD, leDL, Rule.pd, wab, wda]) _
theorem wrw {L : List Rule} {a b : Nat} : (dl (wab Rule.pd (L.take a ++ L.drop b) ++ List.replicate (b - a) (.agg [.nilslice, (.int .i64 0)]))).all (fun p => !wa0 p) = true := by
 rw [List.all_eq_true]
 intro p hp
 unfold dl at hp
 obtain ⟨q, hq, rfl⟩ := List.mem_map.1 hp
 rcases List.mem_append.1 hq with h | h
 ·unfold wab at h
  obtain ⟨r, _, rfl⟩ := List.mem_map.1 h
  rfl
 ·rw [List.eq_of_mem_replicate h]; rfl
theorem wpV (L : List Rule) (i j : Int) (h : wmH L i j = true) : HandFn Tryd.prog G 74 [.slc 0 0 L.length, .d (.int .i64 i), .d (.int .i64 j)] 0 56 2 (wab Rule.pd L) (.slc 0 0 (wh4 L i j)) (wab Rule.pd (wf3 L i j)) := by
 unfold wmH at h
 rw [decide_eq_true_eq] at h
 obtain ⟨h1, h2, h3, h4⟩ := h
 obtain ⟨a, rfl⟩ : ∃ a : Nat, i = a := ⟨i.toNat, by omega⟩
 obtain ⟨b, rfl⟩ : ∃ b : Nat, j = b := ⟨j.toNat, by omega⟩
 have hab : a ≤ b := by omega
 have hbn : b ≤ L.length := by omega
 have hN : wh4 L (a : Int) (b : Int) = a + (L.length - b) := by unfold wh4; omega
 refine HandFn.pf Tryd.func74 Tryd.ntmps74 (by unfold wf3; simp [wab]; omega) ?_
 refine sg fun K k => ?_
 refine oo ?_
 refine AOps.nil (k _ ?_)
 refine sg fun K k => ?_
 iterate 5 refine oo ?_
 refine on (fun K' hK' => OpT.slice3 (by rfl) ty22 T22_desc ty56 (by rfl) (by rfl) (by rfl) (by rfl) (by omega) (by omega) (by omega) (by omega) (by simp only [go_sem, ↓reduceIte]) (hK' _ ?_))
 simp only [go_sem, ↓reduceIte]
 refine AOps.nil (k _ ?_)
 refine AWp.seq fun _ K_1 => ?_
 refine sg fun K k => ?_
 iterate 3 refine oo ?_
 refine AOps.nil (k _ ?_)
 refine AWp.cond (by rfl) (fun hb => ?_) (fun hb => ?_)
 ·have e : a = b := by simp at hb; omega
  subst e
  refine sg fun K k => ?_
  iterate 2 refine oo ?_
  refine AOps.nil (k _ ?_)
  refine AWp.ret ?_
  have e1 : wh4 L (a : Int) (a : Int) = L.length := by unfold wh4; omega
  have e2 : wf3 L (a : Int) (a : Int) = L := by unfold wf3; simp
  rw [e1, e2]
  exact woZ (hp := by simp only [go_sem, ↓reduceIte]) (hpr := rfl) (hh := rfl)
 ·have hlt : a < b := by simp at hb; omega
  refine AWp.skip ?_
  refine K_1 _ ?_
  refine sg fun K k => ?_
  iterate 3 refine oo ?_
  refine AOps.nil (k _ ?_)
  refine sd mo fun K k => ?_
  iterate 3 refine dd ?_
  iterate 2 refine dd ?_
  by_cases hjn : b = L.length
  ·subst hjn
   refine dn rfl (fun K' hK' => OpX.sliceEnd (by rfl) ty22 T22_desc ty56 (by rfl) (by rfl) (by simp only [go_sem]) 2 (by simp only [go_sem]) (hK' _ _ ?_))
   simp only [go_sem, ↓reduceIte, show ((a : Int) - 0).toNat = a by omega]
   refine dn rfl (fun K' hK' => OpX.solo (σ1 := ⟨_, [(0, ⟨56, 2, dl (wab Rule.pd (L.take a ++ L.drop L.length ++ L.drop (a + (L.length - L.length))))⟩)], [], none⟩) rfl rfl (OpT.appendIn (r := 0) (n := a) (row := ⟨56, 2, dl (wab Rule.pd L)⟩) (L := dl (wab Rule.pd (L.drop L.length))) (by rfl) ty22 T22_desc ty56 (by rw [T56_size]; decide) (by rfl) (by rfl) (by rfl) (by rw [T56_size]) (by show wfx T56.size _ (.d (.imm 2 [])) = _; simp only [wfx, ↓reduceIte, T56_size]; simp [dl, wab]) (by simp [dl, wab] <;> omega) (by simp only [go_sem]) (hK := by rw [wqj, show (dl (wab Rule.pd (L.drop L.length))).length = L.length - L.length by simp [dl, wab]]; simp only [St.put, wcK, waj, ↓reduceIte, Nat.reduceEqDiff]; rfl)) (hK' _ _ ?_))
   refine dd ?_
   refine DOps.nil (by kernel_rfl) (k _ ?_)
   refine sg fun K k => ?_
   iterate 4 refine oo ?_
   refine on (fun K' hK' => OpT.sliceIn (r := 0) (n := a + (L.length - L.length)) (row := ⟨56, 2, dl (wab Rule.pd (L.take a ++ L.drop L.length ++ L.drop (a + (L.length - L.length))))⟩) (a1 := a + (L.length - L.length)) (b1 := L.length) (by rfl) ty22 T22_desc ty56 (by rfl) (by rfl) (by rw [T56_size]) (by rfl) (by rfl) (by omega) (by simp [dl, wab] <;> omega) (by simp [dl, wab] <;> omega) (by simp only [go_sem]) (hK' _ ?_))
   simp only [go_sem, ↓reduceIte]
   obtain ⟨zv, z1, z2, z3, z4⟩ := wfh T56_zero
   refine on (fun K' hK' => OpT.clear (r := 0) (lo := a + (L.length - L.length)) (n := L.length - (a + (L.length - L.length))) (row := ⟨56, 2, dl (wab Rule.pd (L.take a ++ L.drop L.length ++ L.drop (a + (L.length - L.length))))⟩) (by rfl) ty22 T22_desc ty56 z1 z2 z3 z4 (by rfl) (by rfl) (by rw [T56_size]) (by rfl) (hK := hK' _ ?_))
   dsimp only
   rw [wqk hab hbn]
   simp only [waj, ↓reduceIte]
   refine AOps.nil (k _ ?_)
   refine AWp.sub (Sub.rows [(0, ⟨56, 2, dl (wab Rule.pd (wf3 L (a : Int) (L.length : Int)))⟩)] ⟨⟨_, rfl, rfl, rfl, wrv, .inr wrw⟩, trivial⟩) ?_
   simp only [wgv, waa, ↓reduceIte]
   refine sg fun K k => ?_
   iterate 2 refine oo ?_
   refine AOps.nil (k _ ?_)
   refine AWp.ret ?_
   exact woZ (p := .slc 0 0 (a + (L.length - L.length))) (hp := by simp only [go_sem, ↓reduceIte]) (hpr := by rw [hN]) (hh := rfl)
  ·refine dd ?_
   simp only [show ((a : Int) - 0).toNat = a by omega, Int.toNat_natCast, show ((L.length : Int) - (b : Int)).toNat = L.length - b by omega]
   refine dn rfl (fun K' hK' => OpX.solo (σ1 := ⟨_, [(0, ⟨56, 2, dl (wab Rule.pd (L.take a ++ L.drop b ++ L.drop (a + (L.length - b))))⟩)], [], none⟩) rfl rfl (OpT.appendIn (r := 0) (n := a) (row := ⟨56, 2, dl (wab Rule.pd L)⟩) (L := dl (wab Rule.pd (L.drop b))) (by rfl) ty22 T22_desc ty56 (by rw [T56_size]; decide) (by rfl) (by rfl) (by rfl) (by rw [T56_size]) (by show wfx T56.size _ (.slc 0 b (L.length - b)) = _; simp only [wfx, waa, ↓reduceIte, T56_size]; rw [List.take_of_length_le (by simp [dl, wab])]; simp [dl, wab, List.map_drop]) (by simp [dl, wab] <;> omega) (by simp only [go_sem]) (hK := by rw [wqj, show (dl (wab Rule.pd (L.drop b))).length = L.length - b by simp [dl, wab]]; simp only [St.put, wcK, waj, ↓reduceIte, Nat.reduceEqDiff]; rfl)) (hK' _ _ ?_))
   refine dd ?_
   refine DOps.nil (by kernel_rfl) (k _ ?_)
   refine sg fun K k => ?_
   iterate 4 refine oo ?_
   refine on (fun K' hK' => OpT.sliceIn (r := 0) (n := a + (L.length - b)) (row := ⟨56, 2, dl (wab Rule.pd (L.take a ++ L.drop b ++ L.drop (a + (L.length - b))))⟩) (a1 := a + (L.length - b)) (b1 := L.length) (by rfl) ty22 T22_desc ty56 (by rfl) (by rfl) (by rw [T56_size]) (by rfl) (by rfl) (by omega) (by simp [dl, wab] <;> omega) (by simp [dl, wab] <;> omega) (by simp only [go_sem]) (hK' _ ?_))
   simp only [go_sem, ↓reduceIte]
   obtain ⟨zv, z1, z2, z3, z4⟩ := wfh T56_zero
   refine on (fun K' hK' => OpT.clear (r := 0) (lo := a + (L.length - b)) (n := L.length - (a + (L.length - b))) (row := ⟨56, 2, dl (wab Rule.pd (L.take a ++ L.drop b ++ L.drop (a + (L.length - b))))⟩) (by rfl) ty22 T22_desc ty56 z1 z2 z3 z4 (by rfl) (by rfl) (by rw [T56_size]) (by rfl) (hK := hK' _ ?_))
   dsimp only
   rw [wqk hab hbn]
   simp only [waj, ↓reduceIte]
   refine AOps.nil (k _ ?_)
   refine AWp.sub (Sub.rows [(0, ⟨56, 2, dl (wab Rule.pd (wf3 L (a : Int) (b : Int)))⟩)] ⟨⟨_, rfl, rfl, rfl, wrv, .inr wrw⟩, trivial⟩) ?_
   simp only [wgv, waa, ↓reduceIte]
   refine sg fun K k => ?_
   iterate 2 refine oo ?_
   refine AOps.nil (k _ ?_)
   refine AWp.ret ?_
   exact woZ (p := .slc 0 0 (a + (L.length - b))) (hp := by simp only [go_sem, ↓reduceIte]) (hpr := by rw [hN]) (hh := rfl)
end Go.Pv.Tryd

namespace Go.Pv.Tryd
open Go.Proofs Go.Pv
theorem wgI (t1 : (List Rule)) (i1 : Int) (r : Int) (h : wdj t1 i1 = some r) : PureFn Tryd.prog G 94 [.d (.imm 2 (wab Rule.pd t1)), .d (.int .i64 i1)] (.d (.int .i64 r)) := by
 unfold wdj at h
 refine pf Tryd.func94 Tryd.ntmps94 ?_
 refine sg fun K k => ?_
 refine oo ?_
 refine AOps.nil (k _ ?_)
 refine AWp.seq fun _ K_1 => ?_
 refine sg fun K k => ?_
 iterate 2 refine oo ?_
 refine AOps.nil (k _ ?_)
 refine cd h (fun h => ?_) (fun h => ?_)
 ·refine sg fun K k => ?_
  refine oo ?_
  refine AOps.nil (k _ ?_)
  refine AWp.ret ?_
  cases h; exact rt
 ·refine AWp.skip ?_
  refine K_1 _ ?_
  refine sg fun K k => ?_
  obtain ⟨e1, ⟨f_3, f_4, f_5, f_6⟩, h⟩ := wak h
  iterate 4 refine oo ?_
  refine oo ?_ (by intro K k; simp (disch := omega) only [go_sem, f_5, ↓reduceIte]; exact k)
  refine oo ?_
  refine AOps.nil (k _ ?_)
  refine AWp.ret ?_
  cases h; exact rt
end Go.Pv.Tryd

namespace Go.Pv.Tryd
open Go.Proofs Go.Pv
theorem wie (i1 : Int) (j1 : Int) (k1 : (List Rule)) (k2 : (List Rule)) (r : Bool) (h : wdN i1 j1 k1 k2 = some r) : PureFn Tryd.prog G 95 [.d (.int .i64 i1), .d (.int .i64 j1), .dptr 1 [(.fn (.func 94))] 0 0, .dptr 1 [(.imm 2 (wab Rule.pd k1))] 0 0, .dptr 1 [(.imm 2 (wab Rule.pd k2))] 0 0] (.d (.bool r)) := by
 unfold wdN at h
 refine pf Tryd.func95 Tryd.ntmps95 ?_
 refine sg fun K k => ?_
 refine oo ?_
 refine AOps.nil (k _ ?_)
 refine sd mo fun K k => ?_
 iterate 3 refine dd ?_
 obtain ⟨r1, hx_1, h⟩ := bind_some h
 refine ws2 (wgI k1 i1 _ hx_1) ?_
 iterate 3 refine dd ?_
 refine DOps.stop (by kernel_rfl) ?_
 obtain ⟨r2, hx_2, h⟩ := bind_some h
 refine clV (wgI k2 j1 _ hx_2) ?_
 iterate 2 refine oo ?_
 refine AOps.nil (k _ ?_)
 refine AWp.ret ?_
 cases h; exact rt
end Go.Pv.Tryd

namespace Go.Pv.Tryd
open Go.Proofs Go.Pv
set_option maxHeartbeats 4000000 in
theorem wfJ (n : Nat) : ∀ (o1 : Walker) (o2 : (List Rule)) (o3 : (List Rule)) (m1 : (List (Arr3_Int × Bool))) (mark1 : Int) (a1 : Int) (b1 : Int) (r : ((List Int) × Bool × (List (Arr3_Int × Bool)))) (h : wat n o1 o2 o3 m1 mark1 a1 b1 = some r), ObjFn Tryd.prog G 79 [.d (.int .i64 mark1), .d (.int .u32 a1), .d (.int .u32 b1), .ptr 0 0 0, .ptr 1 0 0, .ptr 2 0 0, .ptr 3 0 0] [(0, ⟨72, 3, [.d (.agg [(.int .i64 o1.k), (.imm 2 (wab Rule.pd o1.s)), (.imm 2 (wab Rule.pd o1.t))])]⟩), (1, ⟨74, 1, [.func (.func 95) [.dptr 1 [(.fn (.func 94))] 0 0, .dptr 1 [(.imm 2 (wab Rule.pd o2))] 0 0, .dptr 1 [(.imm 2 (wab Rule.pd o3))] 0 0]]⟩), (2, ⟨117, 1, [.mp 4]⟩), (3, ⟨118, 1, [.func (.func 79) [.ptr 0 0 0, .ptr 1 0 0, .ptr 2 0 0, .ptr 3 0 0]]⟩), (4, ⟨117, 0, wap Arr3_Int.pd PD.bool m1⟩)] (.tuple [.d (.imm 1 (wab (PD.int .i64) r.1)), .d (.bool r.2.1)]) [(0, ⟨72, 3, [.d (.agg [(.int .i64 o1.k), (.imm 2 (wab Rule.pd o1.s)), (.imm 2 (wab Rule.pd o1.t))])]⟩), (1, ⟨74, 1, [.func (.func 95) [.dptr 1 [(.fn (.func 94))] 0 0, .dptr 1 [(.imm 2 (wab Rule.pd o2))] 0 0, .dptr 1 [(.imm 2 (wab Rule.pd o3))] 0 0]]⟩), (2, ⟨117, 1, [.mp 4]⟩), (3, ⟨118, 1, [.func (.func 79) [.ptr 0 0 0, .ptr 1 0 0, .ptr 2 0 0, .ptr 3 0 0]]⟩), (4, ⟨117, 0, wap Arr3_Int.pd PD.bool r.2.2⟩)] := by
 induction n with
 | zero => intro o1 o2 o3 m1 mark1 a1 b1 r h; cases h
 | succ n ih =>
  intro o1 o2 o3 m1 mark1 a1 b1 r h
  replace h : wbh (wat n) o1 o2 o3 m1 mark1 a1 b1 = some r := h
  unfold wbh at h
  refine ObjFn.pf Tryd.func79 Tryd.ntmps79 ?_
  refine sg fun K k => ?_
  iterate 2 refine oo ?_
  refine AOps.nil (k _ ?_)
  refine AWp.seq fun _ K_1 => ?_
  refine sg fun K k => ?_
  iterate 4 refine oo ?_
  refine AOps.nil (k _ ?_)
  refine cd h (fun h => ?_) (fun h => ?_)
  ·refine sd mo fun K k => ?_
   iterate 2 refine dd ?_
   obtain ⟨r1, hx_3, h⟩ := bind_some h
   refine dcl (wce a1 _ hx_3) ?_
   refine dd ?_
   obtain ⟨r2, hx_4, h⟩ := bind_some h
   refine dcl (wce b1 _ hx_4) ?_
   refine DOps.stop (by kernel_rfl) ?_
   obtain ⟨r3, hx_5, h⟩ := bind_some h
   refine clC (wie r1 r2 o2 o3 _ hx_5) ?_
   iterate 2 refine oo ?_
   refine AOps.nil (k _ ?_)
   refine AWp.sub (τ := ⟨[(10, .d (.imm 1 (wab (PD.int .i64) []))), (11, .d (.bool r3))], [(0, ⟨72, 3, [.d (.agg [(.int .i64 o1.k), (.imm 2 (wab Rule.pd o1.s)), (.imm 2 (wab Rule.pd o1.t))])]⟩), (1, ⟨74, 1, [.func (.func 95) [.dptr 1 [(.fn (.func 94))] 0 0, .dptr 1 [(.imm 2 (wab Rule.pd o2))] 0 0, .dptr 1 [(.imm 2 (wab Rule.pd o3))] 0 0]]⟩), (2, ⟨117, 1, [.mp 4]⟩), (3, ⟨118, 1, [.func (.func 79) [.ptr 0 0 0, .ptr 1 0 0, .ptr 2 0 0, .ptr 3 0 0]]⟩), (4, ⟨117, 0, wap Arr3_Int.pd PD.bool m1⟩)], [], none⟩) sc ?_
   refine AWp.ret ?_
   cases h; exact rtO
  ·refine AWp.skip ?_
   refine K_1 _ ?_
   refine sg fun K k => ?_
   iterate 8 refine oo ?_
   refine AOps.nil (k _ ?_)
   refine AWp.seq fun _ K_6 => ?_
   refine sg fun K k => ?_
   iterate 2 refine oo ?_
   refine oml (k := (⟨mark1, (IntKind.i64.wrap a1), (IntKind.i64.wrap b1)⟩ : Arr3_Int)) (L := m1) (v0 := false) (encV := PD.bool) wix wou ty4 MZ4 (fun _ _ => .bool _) ?_
   refine AOps.nil (k _ ?_)
   refine cd h (fun h => ?_) (fun h => ?_)
   ·refine sg fun K k => ?_
    iterate 2 refine oo ?_
    refine AOps.nil (k _ ?_)
    refine AWp.sub (τ := ⟨[(10, .d (.imm 1 (wab (PD.int .i64) []))), (11, .d (.bool false))], [(0, ⟨72, 3, [.d (.agg [(.int .i64 o1.k), (.imm 2 (wab Rule.pd o1.s)), (.imm 2 (wab Rule.pd o1.t))])]⟩), (1, ⟨74, 1, [.func (.func 95) [.dptr 1 [(.fn (.func 94))] 0 0, .dptr 1 [(.imm 2 (wab Rule.pd o2))] 0 0, .dptr 1 [(.imm 2 (wab Rule.pd o3))] 0 0]]⟩), (2, ⟨117, 1, [.mp 4]⟩), (3, ⟨118, 1, [.func (.func 79) [.ptr 0 0 0, .ptr 1 0 0, .ptr 2 0 0, .ptr 3 0 0]]⟩), (4, ⟨117, 0, wap Arr3_Int.pd PD.bool m1⟩)], [], none⟩) sc ?_
    refine AWp.ret ?_
    cases h; exact rtO
   ·refine AWp.skip ?_
    refine K_6 _ ?_
    refine sg fun K k => ?_
    refine oo ?_
    refine AOps.nil (k _ ?_)
    refine jm (ι := (List (Arr3_Int × Bool))) [5, 12] [0, 1, 3, 1000] (fun i t => t) (fun i t => (2, ⟨117, 1, [.mp 4]⟩) :: (4, ⟨117, 0, wap Arr3_Int.pd PD.bool i⟩) :: t) .inl h ?_ ?_
    ·intro _ hj_9 h
     refine sg fun K k => ?_
     iterate 5 refine oo ?_
     refine ol ?_
     obtain ⟨r4, hx_10, hj_9⟩ := bind_some hj_9
     refine cl (we9 mark1 [o1.s, o1.t] _ hx_10) ?_
     iterate 2 refine oo ?_
     refine AOps.nil (k _ ?_)
     refine AWp.block ?_
     obtain ⟨x_15, hl_12, h2_13⟩ := bind_some hj_9
     refine lp (S := (Int × Int × (List (Arr3_Int × Bool)))) [0, 1, 2, 3, 5, 6, 12, 43, 44] [0, 1, 3, 1000] (fun i t => (13, .d (.int .i64 i.1)) :: (45, .d (.int .i64 i.2.1)) :: t) (fun i t => (2, ⟨117, 1, [.mp 4]⟩) :: (4, ⟨117, 0, wap Arr3_Int.pd PD.bool i.2.2⟩) :: t) hl_12 ?_ ?_; exact sb; clear hl_12
     rintro ⟨from1, v1, M2⟩ _ hb_14; unfold wa8 at hb_14; try dsimp only at hb_14
     try dsimp only
     refine sg fun K k => ?_
     refine oo ?_
     refine AOps.nil (k _ ?_)
     refine AWp.seq fun _ K_17 => ?_
     refine cd hb_14 (fun hb_14 => ?_) (fun hb_14 => ?_)
     ·refine AWp.skip ?_
      refine K_17 _ ?_
      refine AWp.seq fun _ K_19 => ?_
      refine AWp.block ?_
      refine sg fun K k => ?_
      obtain ⟨e1, ⟨f_20, f_21, f_22, f_23⟩, hb_14⟩ := wak hb_14
      refine oo ?_
      refine oo ?_ (by intro K k; simp (disch := omega) only [go_sem, f_22, ↓reduceIte]; exact k)
      refine oo ?_
      refine AOps.nil (k _ ?_)
      refine AWp.seq fun _ K_24 => ?_
      refine sd mo fun K k => ?_
      iterate 8 refine dd ?_
      obtain ⟨r5, hx_25, hb_14⟩ := bind_some hb_14
      refine dcl (wdz o1.s mark1 from1 _ hx_25) ?_
      iterate 6 refine dd ?_
      obtain ⟨r6, hx_26, hb_14⟩ := bind_some hb_14
      refine dcl (wdz o1.t mark1 from1 _ hx_26) ?_
      refine dd ?_
      refine DOps.bar (by kernel_rfl) ?_
      refine BOps.hard (by kernel_rfl) ?_
      obtain ⟨r7, hx_27, hb_14⟩ := bind_some hb_14
      refine clU [(0, 0), (1, 1), (2, 2), (3, 3), (4, 4)] [] (ih o1 o2 o3 M2 (IntKind.i64.wrap (mark1 + 1)) (IntKind.u32.wrap ↑(BitVec.ofInt IntKind.u32.bits a1 &&& BitVec.ofInt IntKind.u32.bits r5).toNat) (IntKind.u32.wrap ↑(BitVec.ofInt IntKind.u32.bits b1 &&& BitVec.ofInt IntKind.u32.bits r6).toNat) _ hx_27) ?_
      refine AOps.nil ?_
      refine BOps.draw [] trivial (Nat.le_of_ble_eq_true rfl) ?_
      iterate 5 refine dd ?_
      refine DOps.nil (by kernel_rfl) (k _ ?_)
      refine sg fun K k => ?_
      refine oo ?_
      refine AOps.nil (k _ ?_)
      refine cd hb_14 (fun hb_14 => ?_) (fun hb_14 => ?_)
      ·refine sg fun K k => ?_
       obtain ⟨hg_29, hb_14⟩ := wae hb_14
       iterate 6 refine oo ?_
       refine AOps.nil (k _ ?_)
       refine AWp.sub (τ := ⟨[(10, .d (.imm 1 (wab (PD.int .i64) ([from1] ++ r7.1)))), (11, .d (.bool true))], [(0, ⟨72, 3, [.d (.agg [(.int .i64 o1.k), (.imm 2 (wab Rule.pd o1.s)), (.imm 2 (wab Rule.pd o1.t))])]⟩), (1, ⟨74, 1, [.func (.func 95) [.dptr 1 [(.fn (.func 94))] 0 0, .dptr 1 [(.imm 2 (wab Rule.pd o2))] 0 0, .dptr 1 [(.imm 2 (wab Rule.pd o3))] 0 0]]⟩), (2, ⟨117, 1, [.mp 4]⟩), (3, ⟨118, 1, [.func (.func 79) [.ptr 0 0 0, .ptr 1 0 0, .ptr 2 0 0, .ptr 3 0 0]]⟩), (4, ⟨117, 0, wap Arr3_Int.pd PD.bool r7.2.2⟩)], [], none⟩) sc ?_
       refine AWp.ret ?_
       refine lx hb_14 fun hx => ?_; cases hx; try dsimp only at h2_13
       cases h2_13; try dsimp only at h
       cases h; exact rtO
      ·refine AWp.skip ?_
       refine K_24 _ ?_
       refine AWp.reg ?_
       iterate 2 refine oo ?_
       refine AOps.nil ?_
       refine K_19 _ ?_
       refine AWp.reg ?_
       iterate 2 refine oo ?_
       refine AOps.nil ?_
       exact ln hb_14 sb
     ·refine AWp.exit ?_
      refine lx hb_14 fun hx => ?_; cases hx; try dsimp only at h2_13
      exact ln h2_13 sb
    ·rintro M1 h; dsimp only at h ⊢
     refine sg fun K k => ?_
     iterate 2 refine oo ?_
     refine oms (k := (⟨mark1, (IntKind.i64.wrap a1), (IntKind.i64.wrap b1)⟩ : Arr3_Int)) (L := M1) (v := true) (encV := PD.bool) wix wou ?_
     refine AOps.nil (k _ ?_)
     refine sg fun K k => ?_
     iterate 2 refine oo ?_
     refine AOps.nil (k _ ?_)
     refine AWp.sub (τ := ⟨[(10, .d (.imm 1 (wab (PD.int .i64) []))), (11, .d (.bool false))], [(0, ⟨72, 3, [.d (.agg [(.int .i64 o1.k), (.imm 2 (wab Rule.pd o1.s)), (.imm 2 (wab Rule.pd o1.t))])]⟩), (1, ⟨74, 1, [.func (.func 95) [.dptr 1 [(.fn (.func 94))] 0 0, .dptr 1 [(.imm 2 (wab Rule.pd o2))] 0 0, .dptr 1 [(.imm 2 (wab Rule.pd o3))] 0 0]]⟩), (2, ⟨117, 1, [.mp 4]⟩), (3, ⟨118, 1, [.func (.func 79) [.ptr 0 0 0, .ptr 1 0 0, .ptr 2 0 0, .ptr 3 0 0]]⟩), (4, ⟨117, 0, wap Arr3_Int.pd PD.bool (wdt (⟨mark1, (IntKind.i64.wrap a1), (IntKind.i64.wrap b1)⟩ : Arr3_Int) true M1)⟩)], [], none⟩) sc ?_
     refine AWp.ret ?_
     cases h; exact rtO
end Go.Pv.Tryd

namespace Go.Pv.Tryd
open Go.Proofs Go.Pv
theorem wgp (w1 : Walker) (wanted1 : (List Rule)) (wanted2 : (List Rule)) (r : ((List Int) × Bool)) (h : wct w1 wanted1 wanted2 = some r) : PureFn Tryd.prog G 49 [.d (.agg [(.int .i64 w1.k), (.imm 2 (wab Rule.pd w1.s)), (.imm 2 (wab Rule.pd w1.t))]), .func (.func 95) [.dptr 1 [(.fn (.func 94))] 0 0, .dptr 1 [(.imm 2 (wab Rule.pd wanted1))] 0 0, .dptr 1 [(.imm 2 (wab Rule.pd wanted2))] 0 0]] (.tuple [.d (.imm 1 (wab (PD.int .i64) r.1)), .d (.bool r.2)]) := by
 unfold wct at h
 refine pf Tryd.func49 Tryd.ntmps49 ?_
 refine sg fun K k => ?_
 iterate 4 refine oo ?_
 refine AOps.nil (k _ ?_)
 refine sg fun K k => ?_
 refine omk (α := Arr3_Int) (β := Bool) Arr3_Int.pd PD.bool 1002 ?_
 iterate 2 refine oo ?_
 refine AOps.nil (k _ ?_)
 refine sg fun K k => ?_
 refine oo ?_
 refine AOps.nil (k _ ?_)
 refine sg fun K k => ?_
 iterate 2 refine oo ?_
 refine AOps.nil (k _ ?_)
 refine sd mo fun K k => ?_
 iterate 3 refine dd ?_
 obtain ⟨r1, hx_1, h⟩ := bind_some h
 refine dcl (wdP w1.s _ hx_1) ?_
 iterate 2 refine dd ?_
 obtain ⟨r2, hx_2, h⟩ := bind_some h
 refine dcl (wdP w1.t _ hx_2) ?_
 refine DOps.bar (by kernel_rfl) ?_
 refine BOps.hard (by kernel_rfl) ?_
 obtain ⟨r3, hx_3, h⟩ := bind_some h
 refine clU [(0, 1000), (1, 1001), (2, 1003), (3, 1004), (4, 1002)] [] (wfJ 100 w1 wanted1 wanted2 [] 0 r1 r2 _ hx_3) ?_
 refine AOps.nil ?_
 refine BOps.draw [] trivial (Nat.le_of_ble_eq_true rfl) ?_
 iterate 4 refine dd ?_
 refine DOps.nil (by kernel_rfl) (k _ ?_)
 refine AWp.ret ?_
 cases h; exact rt
end Go.Pv.Tryd

namespace Go.Pv.Tryd
open Go.Proofs Go.Pv
theorem wk2 (k1 : Int) (s1 : (List Rule)) (t1 : (List Rule)) (r : ((List Int) × Bool)) (h : wdd k1 s1 t1 = some r) : PureFn Tryd.prog G 61 [.d (.int .i64 k1), .d (.imm 2 (wab Rule.pd s1)), .d (.imm 2 (wab Rule.pd t1))] (.tuple [.d (.imm 1 (wab (PD.int .i64) r.1)), .d (.bool r.2)]) := by
 unfold wdd at h
 refine pf Tryd.func61 Tryd.ntmps61 ?_
 refine sg fun K k => ?_
 iterate 4 refine oo ?_
 refine AOps.nil (k _ ?_)
 refine sg fun K k => ?_
 iterate 2 refine oo ?_
 refine AOps.nil (k _ ?_)
 refine sg fun K k => ?_
 iterate 5 refine oo ?_
 refine AOps.sub (τ := ⟨[(12, .d (.agg [(.int .i64 k1), (.imm 2 (wab Rule.pd s1)), (.imm 2 (wab Rule.pd t1))])), (13, .func (.func 95) [.dptr 1 [(.fn (.func 94))] 0 0, .dptr 1 [(.imm 2 (wab Rule.pd s1))] 0 0, .dptr 1 [(.imm 2 (wab Rule.pd t1))] 0 0])], [], [], none⟩) sc ?_
 obtain ⟨r1, hx_1, h⟩ := bind_some h
 refine clC (wgp (⟨k1, s1, t1⟩ : Walker) s1 t1 _ hx_1) ?_
 iterate 4 refine oo ?_
 refine AOps.nil (k _ ?_)
 refine AWp.ret ?_
 cases h; exact rt
end Go.Pv.Tryd

namespace Go.Pv
mutual
def noRef : PD → Bool
 | .imm _ [] => true
 | .imm _ (_ :: _) => false
 | .agg l => noRefL l
 | .iface _ v => noRef v
 | _ => true
def noRefL : List PD → Bool
 | [] => true
 | x :: l => noRef x && noRefL l
end
theorem wm1 : ∀ {l : List PD}, noRefL l = true → ∀ i (hi : i < l.length), noRef l[i] = true
 | [], _, i, hi => by simp at hi
 | x :: l, h, 0, _ => by simp only [noRefL, Bool.and_eq_true] at h; exact h.1
 | x :: l, h, i + 1, hi => by simp only [noRefL, Bool.and_eq_true] at h; simpa using wm1 h.2 i (by simpa using hi)
theorem RepD.noRef {w w' : World} {ok ok' : Nat → Prop} {v : Value} {p : PD} (h : RepD w ok v p) : noRef p = true → RepD w' ok' v p := by
 induction h with
 | bool b => intro _; exact .bool b
 | int k n => intro _; exact .int k n
 | str s => intro _; exact .str s
 | nilptr => intro _; exact .nilptr
 | nilslice => intro _; exact .nilslice
 | nilmap => intro _; exact .nilmap
 | nilfunc => intro _; exact .nilfunc
 | niliface => intro _; exact .niliface
 | fn f => intro _; exact .fn f
 | iface t _ ih => intro h; simp only [Pv.noRef] at h; exact .iface t (ih h)
 | agg hs _ hf ih => intro h; simp only [Pv.noRef] at h; exact .agg hs (fun i hi => ih i hi (wm1 h i hi)) hf
 | imm0 k => intro _; exact .imm0 k
 | @imm a n cap k els F ha hb hn hcap _ hk hf hc hz ih =>
  intro h
  cases els with
  | cons x l => simp [Pv.noRef] at h
  | nil => exact .imm F (fun h => absurd rfl h) (fun h => absurd rfl h) hn hcap (fun i hi => by simp at hi) (fun i hi => by simp at hi) (fun i hi => by simp at hi) (fun i hi => by simp at hi) (fun i hi => by simp at hi)
mutual
def shp : PD → PD → Prop
 | .int k _, y => ∃ n, y = .int k n
 | .imm k els, y => ∃ m, y = .imm k m ∧ shpL els m
 | .agg els, y => ∃ m, y = .agg m ∧ shpL els m
 | .iface t v, y => ∃ u, y = .iface t u ∧ shp v u
 | x, y => y = x
def shpL : List PD → List PD → Prop
 | [], m => m = []
 | x :: l, m => ∃ y t, m = y :: t ∧ shp x y ∧ shpL l t
end
theorem wlj : ∀ {l m : List PD}, l.length = m.length → (∀ i (hi : i < l.length) (hi' : i < m.length), shp l[i] m[i]) → shpL l m
 | [], [], _, _ => by simp only [shpL]
 | x :: l, y :: m, h1, h2 => by
  simp only [shpL]
  exact ⟨y, m, rfl, h2 0 (by simp) (by simp), wlj (by simpa using h1) fun i hi hi' => h2 (i + 1) (Nat.succ_lt_succ hi) (Nat.succ_lt_succ hi')⟩
 | [], _ :: _, h, _ => by simp at h
 | _ :: _, [], h, _ => by simp at h
mutual
theorem shp_refl : ∀ x : PD, shp x x
 | .int k n => by simp only [shp]; exact ⟨n, rfl⟩
 | .imm k els => by simp only [shp]; exact ⟨els, rfl, shpL_refl els⟩
 | .agg els => by simp only [shp]; exact ⟨els, rfl, shpL_refl els⟩
 | .iface t v => by simp only [shp]; exact ⟨v, rfl, shp_refl v⟩
 | .bool _ | .str _ | .nilptr | .nilslice | .nilmap | .nilfunc | .niliface | .fn _ => by simp only [shp]
theorem shpL_refl : ∀ l : List PD, shpL l l
 | [] => by simp only [shpL]
 | x :: l => by simp only [shpL]; exact ⟨x, l, rfl, shp_refl x, shpL_refl l⟩
end
mutual
theorem shp_trans : ∀ {x y z : PD}, shp x y → shp y z → shp x z
 | .int k n, y, z, h, h' => by
  simp only [shp] at h; obtain ⟨m, rfl⟩ := h; simp only [shp] at h'; obtain ⟨m', rfl⟩ := h'; simp only [shp]; exact ⟨m', rfl⟩
 | .imm k els, y, z, h, h' => by
  simp only [shp] at h; obtain ⟨m, rfl, h1⟩ := h; simp only [shp] at h'; obtain ⟨m', rfl, h2⟩ := h'; simp only [shp]; exact ⟨m', rfl, shpL_trans h1 h2⟩
 | .agg els, y, z, h, h' => by
  simp only [shp] at h; obtain ⟨m, rfl, h1⟩ := h; simp only [shp] at h'; obtain ⟨m', rfl, h2⟩ := h'; simp only [shp]; exact ⟨m', rfl, shpL_trans h1 h2⟩
 | .iface t v, y, z, h, h' => by
  simp only [shp] at h; obtain ⟨m, rfl, h1⟩ := h; simp only [shp] at h'; obtain ⟨m', rfl, h2⟩ := h'; simp only [shp]; exact ⟨m', rfl, shp_trans h1 h2⟩
 | .bool _, y, z, h, h' => by simp only [shp] at h; subst h; exact h'
 | .str _, y, z, h, h' => by simp only [shp] at h; subst h; exact h'
 | .nilptr, y, z, h, h' => by simp only [shp] at h; subst h; exact h'
 | .nilslice, y, z, h, h' => by simp only [shp] at h; subst h; exact h'
 | .nilmap, y, z, h, h' => by simp only [shp] at h; subst h; exact h'
 | .nilfunc, y, z, h, h' => by simp only [shp] at h; subst h; exact h'
 | .niliface, y, z, h, h' => by simp only [shp] at h; subst h; exact h'
 | .fn _, y, z, h, h' => by simp only [shp] at h; subst h; exact h'
theorem shpL_trans : ∀ {x y z : List PD}, shpL x y → shpL y z → shpL x z
 | [], y, z, h, h' => by simp only [shpL] at h; subst h; exact h'
 | x :: l, y, z, h, h' => by
  simp only [shpL] at h; obtain ⟨y1, t, rfl, h1, h2⟩ := h
  simp only [shpL] at h'; obtain ⟨z1, t', rfl, h3, h4⟩ := h'
  simp only [shpL]; exact ⟨z1, t', rfl, shp_trans h1 h3, shpL_trans h2 h4⟩
end
def setCellV (v : Value) (j : Nat) (u : Value) : Value :=
 match v with
 | .agg vs => .agg (vs.setIfInBounds j u)
 | _ => u
theorem wpt {v : Value} {j : Nat} {u : Value} (hj : j < v.cells.size) (hu : flat u = true) : (setCellV v j u).cells.size = v.cells.size ∧ ∀ i, i < v.cells.size → (setCellV v j u).cells.getD i undef = if i = j then u else v.cells.getD i undef := by
 by_cases ha : ∃ vs, v = .agg vs
 ·obtain ⟨vs, rfl⟩ := ha
  simp only [setCellV, Value.cells] at hj ⊢
  refine ⟨by simp, fun i hi => ?_⟩
  by_cases h : i = j
  ·subst h; simp [Array.getD, hi]
  ·rw [if_neg h]; simp [Array.getD, hi, Array.getElem_setIfInBounds, Ne.symm h]
 ·have hv : v.cells.size = 1 ∧ setCellV v j u = u := by
   cases v <;> first | exact absurd ⟨_, rfl⟩ ha | exact ⟨rfl, rfl⟩
  have hj0 : j = 0 := by omega
  subst hj0
  rw [hv.2, weS hu, hv.1]
  refine ⟨rfl, fun i hi => ?_⟩
  have : i = 0 := by omega
  subst this; rfl
theorem RepD.int_of {w : World} {ok : Nat → Prop} {k : IntKind} {n : Int} {p : PD} (h : RepD w ok (.int k n) p) : p = .int k n := by cases h; rfl
theorem RepD.setCellV {w : World} {ok : Nat → Prop} {v : Value} {p : PD} {j : Nat} {k : IntKind} {n m : Int} (h : RepD w ok v p) (hj : j < v.cells.size) (hc : v.cells.getD j undef = .int k n) : ∃ q, shp p q ∧ RepD w ok (Pv.setCellV v j (.int k m)) q := by
  by_cases ha : ∃ vs, v = .agg vs
  · obtain ⟨vs, rfl⟩ := ha
    simp only [Value.cells] at hj hc
    cases h with
    | @agg _ ps hs hr hf =>
      have hjl : j < ps.length := hs ▸ hj
      have h1 := hr j hjl
      rw [hc] at h1
      have h2 := h1.int_of
      refine ⟨.agg (ps.set j (.int k m)), ?_, ?_⟩
      · simp only [shp]
        refine ⟨_, rfl, wlj (by simp) fun i hi hi' => ?_⟩
        by_cases h : i = j
        · subst h; rw [h2]; simp only [List.getElem_set_self, shp]; exact ⟨_, rfl⟩
        · rw [List.getElem_set_ne (Ne.symm h)]; exact shp_refl _
      · simp only [Pv.setCellV]
        have hg : ∀ i, i < ps.length → (vs.setIfInBounds j (.int k m)).getD i undef = if i = j then .int k m else vs.getD i undef := fun i hi => by
          have hi' : i < vs.size := hs ▸ hi
          by_cases h : i = j
          · subst h; simp [Array.getD, hi']
          · rw [if_neg h]; simp [Array.getD, hi', Array.getElem_setIfInBounds, Ne.symm h]
        refine .agg (by simp [hs]) (fun i hi => ?_) (fun i hi => ?_)
        · have hi' : i < ps.length := by simpa using hi
          rw [hg i hi']
          by_cases h : i = j
          · subst h; rw [if_pos rfl]; simp only [List.getElem_set_self]; exact .int k m
          · rw [if_neg h, List.getElem_set_ne (Ne.symm h)]; exact hr i hi'
        · have hi' : i < ps.length := by simpa using hi
          rw [hg i hi']
          split
          · rfl
          · exact hf i hi'
  · have hv : v = .int k n := by
      cases v <;> first | exact absurd ⟨_, rfl⟩ ha | (simp only [Value.cells] at hj hc; have : j = 0 := by (simpa using hj)
                                                      subst this; exact hc)
    subst hv
    have := h.int_of
    subst this
    exact ⟨.int k m, by simp only [shp]; exact ⟨_, rfl⟩, .int k m⟩
structure Poked (w w' : World) (b p : Nat) (k : IntKind) (n m : Int) : Prop where
 was : w.cell? ⟨b, p, none⟩ = some (.int k n)
 cell : ∀ c o, w'.cell? ⟨c, o, none⟩ = if c = b ∧ o = p then some (.int k m) else w.cell? ⟨c, o, none⟩
 froz : ∀ a, w'.frozen? a = w.frozen? a
theorem RepD.poke {w w' : World} {b p : Nat} {k : IntKind} {n m : Int} (hp : Poked w w' b p k n m) {ok : Nat → Prop} {v : Value} {x : PD} (h : RepD w ok v x) : ∃ y, shp x y ∧ RepD w' ok v y := by
 induction h with
 | bool b => exact ⟨_, shp_refl _, .bool b⟩
 | int k n => exact ⟨_, shp_refl _, .int k n⟩
 | str s => exact ⟨_, shp_refl _, .str s⟩
 | nilptr => exact ⟨_, shp_refl _, .nilptr⟩
 | nilslice => exact ⟨_, shp_refl _, .nilslice⟩
 | nilmap => exact ⟨_, shp_refl _, .nilmap⟩
 | nilfunc => exact ⟨_, shp_refl _, .nilfunc⟩
 | niliface => exact ⟨_, shp_refl _, .niliface⟩
 | fn f => exact ⟨_, shp_refl _, .fn f⟩
 | iface t _ ih => obtain ⟨y, h1, h2⟩ := ih; exact ⟨.iface t y, by simp only [shp]; exact ⟨y, rfl, h1⟩, .iface t h2⟩
 | @agg vs ps hs _ hf ih =>
  classical
  let Y : Nat → PD := fun i => if h : i < ps.length then Classical.choose (ih i h) else default
  have hY : ∀ i (hi : i < ps.length), shp ps[i] (Y i) ∧ RepD w' ok (vs.getD i undef) (Y i) := fun i hi => by
   have := Classical.choose_spec (ih i hi)
   simpa only [Y, dif_pos hi] using this
  refine ⟨.agg ((List.range ps.length).map Y), ?_, .agg (by simp [hs]) (fun i hi => ?_) (fun i hi => hf i (by simpa using hi))⟩
  ·simp only [shp]
   exact ⟨_, rfl, wlj (by simp) fun i hi hi' => by simpa using (hY i hi).1⟩
  ·simpa using (hY i (by simpa using hi)).2
 | imm0 k => exact ⟨_, shp_refl _, .imm0 k⟩
 | @imm a l cap kk els F ha hb hn hcap _ hk hf hc hz ih =>
  classical
  -- the value of an element, with the cell that was written to
  let hit : Nat → Nat → Prop := fun i j => a.block = b ∧ a.off + i * kk + j = p ∧ j < kk
  let G : Nat → Value := fun i => if h : ∃ j, hit i j then Pv.setCellV (F i) (Classical.choose h) (.int k m) else F i
  have hG : ∀ i (hi : i < els.length), (∃ y, shp els[i] y ∧ RepD w' ok (G i) y) ∧ (G i).cells.size = kk ∧ ∀ j, j < kk → (G i).cells.getD j undef = if a.block = b ∧ a.off + i * kk + j = p then .int k m else (F i).cells.getD j undef := fun i hi => by
   obtain ⟨y, h1, h2⟩ := ih i hi
   by_cases h : ∃ j, hit i j
   ·obtain ⟨g1, g2, g3⟩ := Classical.choose_spec h
    have e : G i = Pv.setCellV (F i) (Classical.choose h) (.int k m) := dif_pos h
    rw [e]
    generalize Classical.choose h = j at g1 g2 g3
    have hcj := hc i hi j g3
    rw [g1, g2, hp.was] at hcj
    have hcj : (F i).cells.getD j undef = .int k n := by simpa using hcj.symm
    have hjs : j < (F i).cells.size := by rw [hk i hi]; exact g3
    obtain ⟨q, q1, q2⟩ := h2.setCellV (m := m) hjs hcj
    obtain ⟨s1, s2⟩ := wpt (u := .int k m) hjs rfl
    refine ⟨⟨q, shp_trans h1 q1, q2⟩, s1.trans (hk i hi), fun j' hj' => ?_⟩
    rw [s2 j' (by rw [hk i hi]; exact hj')]
    by_cases hjj : j' = j
    ·subst hjj; rw [if_pos rfl, if_pos ⟨g1, g2⟩]
    ·rw [if_neg hjj, if_neg (fun h => hjj (by omega))]
   ·have e : G i = F i := dif_neg h
    rw [e]
    refine ⟨⟨y, h1, h2⟩, hk i hi, fun j hj => ?_⟩
    rw [if_neg (fun h' => h ⟨j, h'.1, h'.2, hj⟩)]
  let Y : Nat → PD := fun i => if h : i < els.length then Classical.choose (hG i h).1 else default
  have hY : ∀ i (hi : i < els.length), shp els[i] (Y i) ∧ RepD w' ok (G i) (Y i) := fun i hi => by
   have := Classical.choose_spec (hG i hi).1
   simpa only [Y, dif_pos hi] using this
  have hlen : ((List.range els.length).map Y).length = els.length := by simp
  have hne : (List.range els.length).map Y ≠ [] → els ≠ [] := fun h e => by subst e; simp at h
  refine ⟨.imm kk ((List.range els.length).map Y), ?_, .imm G (fun h => ha (hne h)) (fun h => hb (hne h)) (by rw [hlen]; exact hn) hcap (fun i hi => ?_) (fun i hi => (hG i (hlen ▸ hi)).2.1) (fun i hi j hj => ?_) (fun i hi j hj => ?_) (fun i hi j hj hu => ?_)⟩
  ·simp only [shp]
   exact ⟨_, rfl, wlj (by simp) fun i hi hi' => by simpa using (hY i hi).1⟩
  ·simpa using (hY i (hlen ▸ hi)).2
  ·rw [(hG i (hlen ▸ hi)).2.2 j hj]
   split
   ·rfl
   ·exact hf i (hlen ▸ hi) j hj
  ·rw [(hG i (hlen ▸ hi)).2.2 j hj, hp.cell]
   split
   ·rfl
   ·exact hc i (hlen ▸ hi) j hj
  ·rw [hp.froz]
   refine hz i (hlen ▸ hi) j hj ?_
   rw [(hG i (hlen ▸ hi)).2.2 j hj] at hu
   split at hu
   ·rename_i hh
    have := hc i (hlen ▸ hi) j hj
    rw [hh.1, hh.2, hp.was] at this
    have : (F i).cells.getD j undef = .int k n := by simpa using this.symm
    rw [this]
    cases k <;> simp_all [wrz]
   ·exact hu
end Go.Pv

namespace Go.Pv
def wov : PD → Bool
 | .int .u64 _ => true
 | _ => false
def wk3 : PD → Bool
 | .agg [] => true
 | .agg (c :: _) => wov c
 | c => wov c
mutual
def avoidD : PD → Bool
 | .imm _ [] => true
 | .imm _ (x :: l) => !wk3 x && avoidD x && avoidL l
 | .agg l => avoidL l
 | .iface _ v => avoidD v
 | _ => true
def avoidL : List PD → Bool
 | [] => true
 | x :: l => avoidD x && avoidL l
end
theorem wjU : ∀ {l : List PD}, avoidL l = true → ∀ i (hi : i < l.length), avoidD l[i] = true
 | [], _, i, hi => by simp at hi
 | x :: l, h, 0, _ => by simp only [avoidL, Bool.and_eq_true] at h; exact h.1
 | x :: l, h, i + 1, hi => by simp only [avoidL, Bool.and_eq_true] at h; simpa using wjU h.2 i (by simpa using hi)
theorem wn7 {α : Type} {f : α → PD} (h : ∀ a, avoidD (f a) = true) : ∀ l : List α, avoidL (wab f l) = true
 | [] => rfl
 | a :: l => by
  have := wn7 h l
  simp only [wab, List.map_cons, avoidL, Bool.and_eq_true] at this ⊢
  exact ⟨h a, this⟩
theorem wn8 {α : Type} {f : α → PD} {k : Nat} (h : ∀ a, avoidD (f a) = true) (h0 : ∀ a, wk3 (f a) = false) (l : List α) : avoidD (.imm k (wab f l)) = true := by
 cases l with
 | nil => rfl
 | cons a l =>
  have := wn7 h l
  simp only [wab] at this
  simp only [wab, List.map_cons, avoidD, Bool.and_eq_true, h0 a, h a, this, Bool.not_false, and_self]
def wql (w : World) (g : Nat) : Prop := ∀ (c : Array Value) (e : TypeId) (f : Nat × Nat), w.heap[g]? = some (.cells c e f) → ∀ (j : Nat) (u : Value), c[j]? = some u → ∃ n, u = Value.int .u64 n
theorem RepD.avoid {w : World} {ok Z : Nat → Prop} (hZ : ∀ g, Z g → wql w g) {v : Value} {x : PD} (h : RepD w ok v x) : avoidD x = true → RepD w (fun b => ok b ∧ ¬ Z b) v x := by
 induction h with
 | bool b => intro _; exact .bool b
 | int k n => intro _; exact .int k n
 | str s => intro _; exact .str s
 | nilptr => intro _; exact .nilptr
 | nilslice => intro _; exact .nilslice
 | nilmap => intro _; exact .nilmap
 | nilfunc => intro _; exact .nilfunc
 | niliface => intro _; exact .niliface
 | fn f => intro _; exact .fn f
 | iface t _ ih => intro h; simp only [avoidD] at h; exact .iface t (ih h)
 | agg hs _ hf ih => intro h; simp only [avoidD] at h; exact .agg hs (fun i hi => ih i hi (wjU h i hi)) hf
 | imm0 k => intro _; exact .imm0 k
 | @imm a n cap k els F ha hb hn hcap hr hk hf hc hz ih =>
  intro h
  cases els with
  | nil => exact .imm F (fun h => absurd rfl h) (fun h => absurd rfl h) hn hcap (fun i hi => by simp at hi) (fun i hi => by simp at hi) (fun i hi => by simp at hi) (fun i hi => by simp at hi) (fun i hi => by simp at hi)
  | cons x l =>
   simp only [avoidD, Bool.and_eq_true, Bool.not_eq_true'] at h
   obtain ⟨⟨h1, h2⟩, h3⟩ := h
   have hall : avoidL (x :: l) = true := by simp only [avoidL, Bool.and_eq_true]; exact ⟨h2, h3⟩
   refine .imm F ha (fun hne => ⟨hb hne, fun hz => ?_⟩) hn hcap (fun i hi => ih i hi (wjU hall i hi)) hk hf hc hz
   have h0 : 0 < (x :: l).length := by simp
   have hr0 := hr 0 h0
   have hk0 := hk 0 h0
   have hc0 := hc 0 h0 0
   simp only [List.getElem_cons_zero] at hr0
   have cell : ∀ u, w.cell? ⟨a.block, a.off + 0 * k + 0, none⟩ = some u → ∃ n, u = .int .u64 n := fun u hu => by
    unfold World.cell? at hu
    dsimp only at hu
    cases ho : w.heap[a.block]? with
    | none => simp [ho] at hu
    | some o =>
     cases o with
     | cells c e f =>
      rw [ho] at hu
      simp only [Option.isSome_none, Bool.false_eq_true, if_false] at hu
      exact hZ _ hz c e f ho _ u hu
     | _ => simp [ho] at hu
   generalize hF : F 0 = u at hr0 hk0 hc0
   by_cases hag : ∃ vs, u = .agg vs
   ·obtain ⟨vs, rfl⟩ := hag
    cases hr0 with
    | @agg _ ps hs hr9 hf =>
     cases ps with
     | nil => simp [wk3] at h1
     | cons c ps =>
      simp only [wk3] at h1
      simp only [Value.cells] at hk0 hc0
      obtain ⟨n, hn⟩ := cell _ (hc0 (by rw [← hk0, hs]; simp))
      have := hr9 0 (by simp)
      rw [hn] at this
      have := this.int_of
      simp only [List.getElem_cons_zero] at this
      rw [this] at h1; simp [wov] at h1
   ·have hu : u.cells = #[u] := by cases u <;> first | exact absurd ⟨_, rfl⟩ hag | rfl
    rw [hu] at hk0 hc0
    obtain ⟨n, hn⟩ := cell _ (hc0 (by rw [← hk0]; simp))
    have hn : u = .int .u64 n := by simpa using hn
    rw [hn] at hr0
    have := hr0.int_of
    rw [this] at h1; simp [wk3, wov] at h1
theorem wht : ∀ l : List Int, noRefL (l.map (PD.int .u64)) = true
 | [] => rfl
 | a :: l => by simp only [List.map_cons, noRefL, noRef, wht l, Bool.and_self]
def wnu (G : List (Nat × PD)) : Prop := ∀ g x, (g, x) ∈ G → ∃ l : List Int, x = .agg (l.map (PD.int .u64))
def wow : PD → Bool
 | .nilslice => true
 | .imm _ _ => true
 | _ => false
theorem wsP {w : World} {ok : Nat → Prop} {v : Value} {x : PD} (h : RepD w ok v x) (hx : wow x = true) : ∃ l, hdr l = v := by
 cases h with
 | nilslice => exact ⟨[], rfl⟩
 | imm0 => exact ⟨[], rfl⟩
 | @imm a n cap k els F ha hb hn hcap _ hk hf hc =>
  obtain ⟨b, o, s⟩ := a
  cases s with
  | none => exact ⟨[.int .i64 b, .int .i64 o, .int .i64 n, .int .i64 cap, .int .i64 0], by simp [hdr]⟩
  | some s => exact ⟨[.int .i64 b, .int .i64 o, .int .i64 n, .int .i64 cap, .int .i64 (s + 1)], by simp [hdr]; omega⟩
 | _ => simp [wow] at hx
theorem wr9 (l : List PD) : flat (hdr l) = true := by
 unfold hdr; split <;> rfl
section
variable {P : Program} {G : List (Nat × PD)} {ro : Option Nat} {N : Nat} {σ : St} {B : Base P} {a : Act} {w : World} {φ : Nm}
theorem Rep.part (hr : Rep G B N σ a w φ) {l : Nat} {m : PD} {ys : List PD} {c : Bool} (hg : σ.gh = some (l, [], m :: ys, c)) : B.fr = true ∧ J0 ys (B.mine φ σ.heap) φ.T w := by
 have h := hr.inv
 rw [hg] at h
 rcases h with h | ⟨h1, _, m', ys', h2, h3⟩
 ·have := h.2.1 rfl; cases this
 ·simp only [List.cons.injEq] at h2; obtain ⟨rfl, rfl⟩ := h2; exact ⟨h1, h3⟩
theorem OpT.callCore {o : Oper} {c : Call} {f : FuncId} {args : List PV} {res : PV} {K : St → Prop} (ho : o.op = .call c) (hc : c.callee = .value (.func f)) (hcal : wa1 P f = true)
  (hf : PureFn P G f args res) (hlen : c.args.toList.length = args.length)
  (ha : ∀ (B : Base P) a w φ, Rep G B N σ a w φ → ∀ i (hi : i < args.length), RepV w (fun b => B.X b ∨ own φ σ.heap b) Nm.no [] ((c.args.toList.map a.eval).getD i undef) args[i])
  (hd : wan N o.dst) (hK : K (σ.put o.dst res)) (hres : dOnly res) : OpT P G ro N o σ K := by
 intro B hro a w φ hr next Q hn
 have hlt : ∀ b, own φ σ.heap b → b < w.heap.size := fun _ => hr.heap.own_lt
 have hsit : Sit G (B.callee w φ σ.heap hr.keeps.size hlt) w Nm.no [] none := by
  refine ⟨⟨fun r x b h => by simp [waa] at h, fun r x h => by simp [waa] at h, fun r s x y b h => by simp [waa] at h, fun b h => h.elim⟩, .refl _ _, fun r x b h => by simp [waa] at h, fun r x h => by simp [waa] at h, fun r x b h => by simp [waa] at h, fun g x hm => ?_, fun b h => h.elim, fun b h => h⟩
  obtain ⟨cs, e, f, v, h5, h6, h7, h8, h9⟩ := hr.glob g x hm
  refine ⟨cs, e, f, v, h5, whg g, h7.mono (fun b hb => ⟨hb.1, fun h => h.elim hb.2.1 hb.2.2, whg b⟩) (fun _ _ => rfl), h8, h9.1, fun h => h.elim h9.2 h6⟩
 have hcall := hf (B.callee w φ σ.heap hr.keeps.size hlt) Nm.no (c.args.toList.map a.eval) rfl (by simpa using hlen) (fun i hi => ha B a w φ hr i hi) hsit
 have hrun : (o.semAt ro a.eval).run P w = .ok (.enter f (c.args.toList.map a.eval).toArray) w := by
  rw [Oper.semAt_eq _ _ _ (fun c hc => by rw [ho] at hc; cases hc)]
  have e1 : (c.args.toList.map a.eval).toArray = c.args.map a.eval := by rw [← Array.toList_map]
  have e2 : (#[] ++ c.args.map a.eval ++ #[] : Array Value) = c.args.map a.eval := by simp
  simp only [execOp, ho, resolve, hc, Act.eval, Deferred.ofValue, Sem.run_bind, Sem.run_pure, Result.andThen_ok, invoke, e1, e2]
  exact wfy hcal _ w
 refine ⟨fun _ _ => trivial, ?_⟩
 show o.uponIn (Fw ro) 0 P a next Q ((o.semAt ro a.eval).run P w)
 rw [hrun]
 refine ⟨fun h => (by cases h), ?_⟩
 refine CallsIn.mono (R := fun e w' => ∃ v p H' g' φ', e = .returned v ∧ (p = res ∧ H' = []) ∧ RepV w' (B.callee w φ σ.heap hr.keeps.size hlt).X φ' H' v p ∧ Sit G (B.callee w φ σ.heap hr.keeps.size hlt) w' φ' H' g') hcall ?_
 rintro e w' ⟨v, p, H', g', φ', rfl, ⟨rfl, rfl⟩, h5, h6⟩
 have hrep := hr.after_pure h6
 refine hn _ _ _ φ hK (hrep.put hd ?_)
 have key : ∀ {v : Value} {p : PV}, RepV w' (B.callee w φ σ.heap hr.keeps.size hlt).X φ' [] v p → dOnly p → RepV w' B.X φ σ.heap v p := by
  intro v p hv
  induction hv with
  | any v => intro _; exact .any v
  | val hf => intro _; exact .val hf
  | d h => intro _; exact .d (h.mono (fun b hb => ⟨hb.1, fun h => hb.2.1 (.inl h), fun h => hb.2.1 (.inr h)⟩) (fun _ _ => rfl))
  | b h => intro h0; simp [dOnly] at h0
  | ptr h1 => simp [waa] at h1
  | mp h1 => simp [waa] at h1
  | dptr h hi => intro _; exact .dptr (h.mono (fun b hb => ⟨hb.1, fun h => hb.2.1 (.inl h), fun h => hb.2.1 (.inr h)⟩) (fun _ _ => rfl)) hi
  | bptr h hi => intro h0; simp [dOnly] at h0
  | glob g => intro _; exact .glob g
  | slc h1 => simp [waa] at h1
  | slc0 h1 => simp [waa] at h1
  | func hs _ ih => intro h0; simp only [dOnly] at h0; exact .func hs fun i hi => ih i hi (wdA h0 i hi)
  | agg hs _ hf ih => intro h0; simp only [dOnly] at h0; exact .agg hs (fun i hi => ih i hi (wdA h0 i hi)) hf
  | tuple hs _ ih => intro h0; simp only [dOnly] at h0; exact .tuple hs fun i hi => ih i hi (wdA h0 i hi)
 exact key h5 hres
theorem wl7 {X : Nat → Prop} {H : wac} {v u : Value} (h : RepV w X φ H v (.val u)) : v = u := by cases h; rfl
def wrx (σ : St) (p q : PV) : Prop := wmd σ.heap p q ∨ ∃ l m x h c y, σ.gh = some (l, [], m :: x :: h, c) ∧ p = .val (hdr h) ∧ q = .b y ∧ leD x y
def wlk (σ : St) : List PV → List PV → Prop
 | [], [] => True
 | p :: l, q :: m => wrx σ p q ∧ wlk σ l m
 | _, _ => False
theorem wlO {σ : St} : ∀ {l m : List PV}, wlk σ l m → l.length = m.length ∧ ∀ i (hi : i < l.length) (hi' : i < m.length), wrx σ l[i] m[i]
 | [], [], _ => ⟨rfl, fun i hi => by simp at hi⟩
 | p :: l, q :: m, h => by
  obtain ⟨h1, h2⟩ := wlO h.2
  refine ⟨by simp [h1], fun i hi hi' => ?_⟩
  cases i with
  | zero => exact h.1
  | succ i => simpa using h2 i (by simpa using hi) (by simpa using hi')
 | [], _ :: _, h => h.elim
 | _ :: _, [], h => h.elim
theorem OpT.callF {o : Oper} {c : Call} {f : FuncId} {args : List PV} {res : PV} {K : St → Prop} (ho : o.op = .call c) (hc : c.callee = .value (.func f)) (hcal : wa1 P f = true)
  (hf : PureFn P G f args res) (ha : wlk σ (war σ c.args.toList) args) (hd : wan N o.dst) (hK : K (σ.put o.dst res)) (hres : dOnly res) : OpT P G ro N o σ K := by
 obtain ⟨h1, h2⟩ := wlO ha
 have hll : ∀ l : List Operand, (war σ l).length = l.length := fun l => by induction l with
  | nil => rfl
  | cons x l ih => simp only [war, List.length_cons, ih]
 refine OpT.callCore ho hc hcal hf ((hll _).symm.trans h1) (fun B a w φ hr i hi => ?_) hd hK hres
 obtain ⟨h3, h4⟩ := weT hr c.args.toList
 have hv := h4 i (h1 ▸ hi)
 rcases h2 i (h1 ▸ hi) hi with h | ⟨l, m, x, h, c', y, hg, hp, hq, hle⟩
 ·exact wlV hr hv h
 ·rw [hp] at hv
  rw [hq]
  have hj := (hr.part hg).2
  have hd := hj.2 x h rfl
  rw [wl7 hv]
  exact .b ((hd.le hle).mono (fun b hb => ⟨(hj.1 b hb).1, whg b⟩) (fun _ _ => rfl))
def wm2 : PV → Bool
 | .any => true
 | .b _ => true
 | .d x => noRef x
 | _ => false
theorem RepV.rebase {X X' : Nat → Prop} {v : Value} {q : PV} (h : RepV w X Nm.no [] v q) (hq : wm2 q = true) : RepV w X' Nm.no [] v q := by
 cases h with
 | any v => exact .any v
 | b h => exact .b h
 | d h => simp only [wm2] at hq; exact .d (h.noRef hq)
 | _ => simp [wm2] at hq
def Base.fresh (P : Program) (G : List (Nat × PD)) (w : World) : Base P :=
  { w0 := w, X := fun b => b < w.heap.size ∧ ∀ x, (b, x) ∉ G, hX := fun _ h => h.1, o0 := fun _ => False, φ0 := fun _ => none, z0 := csz w, ro := none, held := [], hheld := fun _ => rfl, J := fun _ _ _ _ => True, stab := fun _ _ _ _ _ _ _ _ _ _ _ _ _ => trivial, y := none, yok := fun _ _ h => by cases h }
theorem OpT.fresh {o : Oper} {c : Call} {f : FuncId} {args : List PV} {x y : PD} {l0 : Nat} {m : PD} {ys : List PD} {d0 : Bool} {K : St → Prop} (hG : wnu G) (hgh : σ.gh = some (l0, [], m :: ys, d0))
  (ho : o.op = .call c) (hc : c.callee = .value (.func f)) (hcal : wa1 P f = true) (hf : PureFn P G f args (.tuple [.d x, .d y])) (ha : wdF σ.heap (war σ c.args.toList) args) (hb : args.all wm2 = true)
  (hx : wow x = true) (hav : avoidD x = true) (hy : noRef y = true) (hd : wan N o.dst) (hK : ∀ h, K (({ σ with gh := some (l0, [], m :: x :: h, d0) } : St).put o.dst (.tuple [.val (hdr h), .d y]))) : OpT P G ro N o σ K := by
 intro B hro a w φ hr next Q hn
 obtain ⟨h1, h2⟩ := wjq ha
 obtain ⟨h3, h4⟩ := weT hr c.args.toList
 have hgl : ∀ g z, (g, z) ∈ G → wql w g ∧ g < w.heap.size := fun g z hm => by
  obtain ⟨cs, e, f, v, h5, h6, h7, h8, h9⟩ := hr.glob g z hm
  refine ⟨fun c' e' f' hc' j u hu => ?_, (Array.getElem?_eq_some_iff.1 h5).1⟩
  rw [h5] at hc'
  simp only [Option.some.injEq, Obj.cells.injEq] at hc'
  rw [← hc'.1] at hu
  obtain ⟨l, rfl⟩ := hG g z hm
  have hj : j < cs.size := (Array.getElem?_eq_some_iff.1 hu).1
  have h10 := (h9.1 j (h8 ▸ hj)).1
  rw [hu] at h10
  have h10 : u = v.cells.getD j undef := by simpa using h10
  cases h7 with
  | @agg vs ps hs hr' hfl =>
   have hjl : j < (l.map (PD.int .u64)).length := by rw [← hs]; simpa [Value.cells] using h8 ▸ hj
   have h11 := hr' j hjl
   simp only [Value.cells] at h10
   rw [← h10] at h11
   simp only [List.getElem_map] at h11
   generalize l[j]'(by simpa using hjl) = n at h11
   cases h11
   exact ⟨_, rfl⟩
 have hsit : Sit G (Base.fresh P G w) w Nm.no [] none := by
  refine ⟨⟨fun r x b h => by simp [waa] at h, fun r x h => by simp [waa] at h, fun r s x y b h => by simp [waa] at h, fun b h => h.elim⟩, .refl _ _, fun r x b h => by simp [waa] at h, fun r x h => by simp [waa] at h, fun r x b h => by simp [waa] at h, fun g x hm => ?_, fun b h => h.elim, fun b h => h⟩
  obtain ⟨cs, e, f, v, h5, h6, h7, h8, h9⟩ := hr.glob g x hm
  obtain ⟨l, rfl⟩ := hG g x hm
  exact ⟨cs, e, f, v, h5, whg g, h7.noRef (by simp only [noRef]; exact wht l), h8, h9.1, fun h => h.2 _ hm⟩
 have hcall := hf (Base.fresh P G w) Nm.no (c.args.toList.map a.eval) rfl (h3.trans h1) (fun i hi => (wlV hr (h4 i (h1 ▸ hi)) (h2 i (h1 ▸ hi) hi)).rebase (List.all_eq_true.1 hb _ (List.getElem_mem hi))) hsit
 have hrun : (o.semAt ro a.eval).run P w = .ok (.enter f (c.args.toList.map a.eval).toArray) w := by
  rw [Oper.semAt_eq _ _ _ (fun c hc => by rw [ho] at hc; cases hc)]
  have e1 : (c.args.toList.map a.eval).toArray = c.args.map a.eval := by rw [← Array.toList_map]
  have e2 : (#[] ++ c.args.map a.eval ++ #[] : Array Value) = c.args.map a.eval := by simp
  simp only [execOp, ho, resolve, hc, Act.eval, Deferred.ofValue, Sem.run_bind, Sem.run_pure, Result.andThen_ok, invoke, e1, e2]
  exact wfy hcal _ w
 refine ⟨fun _ _ => trivial, ?_⟩
 show o.uponIn (Fw ro) 0 P a next Q ((o.semAt ro a.eval).run P w)
 rw [hrun]
 refine ⟨fun h => (by cases h), ?_⟩
 refine CallsIn.mono (R := fun e w' => ∃ v p H' g' φ', e = .returned v ∧ (p = PV.tuple [PV.d x, PV.d y] ∧ H' = []) ∧ RepV w' (Base.fresh P G w).X φ' H' v p ∧ Sit G (Base.fresh P G w) w' φ' H' g') hcall ?_
 rintro e w' ⟨v, p, H', g', φ', rfl, ⟨rfl, rfl⟩, h5, h6⟩
 have hk := h6.keeps
 have hblk : ∀ b, b < w.heap.size → w'.heap[b]? = w.heap[b]? := fun b h => hk.block b h (fun h => h)
 have hsz : w.heap.size ≤ w'.heap.size := hk.size
 cases h5 with
 | @tuple vs _ hs hr2 =>
  have hx0 : RepD w' (okd w' (Base.fresh P G w).X φ' []) (vs.getD 0 undef) x := waL (hr2 0 (by simp))
  have hy0 : RepD w' (okd w' (Base.fresh P G w).X φ' []) (vs.getD 1 undef) y := waL (hr2 1 (by simp))
  have hx1 : RepD w' (fun b => w.heap.size ≤ b ∧ b < w'.heap.size) (vs.getD 0 undef) x := by
   refine (hx0.avoid (Z := fun g => ∃ z, (g, z) ∈ G) (fun g hg c e f hcs j u hu => ?_) hav).mono (fun b hb => ⟨?_, hb.1.1⟩) (fun _ _ => rfl)
   ·obtain ⟨z, hz⟩ := hg
    obtain ⟨g1, g2⟩ := hgl g z hz
    rw [hblk g g2] at hcs
    exact g1 c e f hcs j u hu
   ·by_cases h : w.heap.size ≤ b
    ·exact h
    ·exact absurd ⟨Nat.lt_of_not_le h, fun z hz => hb.2 ⟨z, hz⟩⟩ hb.1.2.1
  obtain ⟨hh, hhv⟩ := wsP hx1 hx
  let φ2 : Nm := ⟨φ.f, fun b => φ.T b ∨ (w.heap.size ≤ b ∧ b < w'.heap.size)⟩
  have hrowlt : ∀ b, waC φ2 σ.heap b → b < w.heap.size := fun b ⟨r, x, g1, g2⟩ => hr.heap.lt g1 g2
  have hown : ∀ b, b < w.heap.size → own φ2 σ.heap b → own φ σ.heap b := fun b hb h => h.elim .inl (fun h => h.elim .inr (fun h => by omega))
  have hrb : ∀ r x b, waa σ.heap r = some x → φ r = some b → w'.heap[b]? = w.heap[b]? := fun r x b g1 g2 => hblk b (hr.heap.lt g1 g2)
  have hext : Ext w B.X φ σ.heap w' φ2 σ.heap := ⟨fun r x h => ⟨x, h, rfl, fun _ => rfl, rfl⟩, fun b h => ⟨Nat.lt_of_lt_of_le h.1 hsz, h.2.1, fun ho => h.2.2 (hown b h.1 ho)⟩, fun b h => ⟨Nat.lt_of_lt_of_le h.1 hsz, fun ho => h.2 (hown b h.1 ho)⟩,
   fun b h => hblk b h.1, fun r x b g1 g2 c e f hh => ⟨c, e, f, (hrb r x b g1 g2) ▸ hh, rfl⟩⟩
  have hfar : ∀ b, φ2.T b → b < w'.heap.size ∧ ¬ B.X b ∧ ¬ waC φ2 σ.heap b := fun b hb => by
   rcases hb with hb | hb
   ·obtain ⟨g1, g2, g3⟩ := hr.heap.far b hb
    exact ⟨Nat.lt_of_lt_of_le g1 hsz, g2, g3⟩
   ·exact ⟨hb.2, fun hX => by have := B.hX b hX; have := hr.keeps.size; omega, fun h => by have := hrowlt b h; omega⟩
  have hrep : Rep G B N { σ with gh := some (l0, [], m :: x :: hh, d0) } a w' φ2 := by
   refine ⟨hr.size, fun t => (hr.env t).ext hext, ⟨fun r x b g1 g2 => (hr.heap.rows r x b g1 g2).ext hext (hrb r x b g1 g2), hr.heap.void, hr.heap.inj, hfar⟩,
    hr.keeps.trans ⟨hk.os, hk.tape, hk.output, hk.size, fun b hb _ => hblk b hb⟩, hr.new, hr.pins, fun r x b g1 g2 g3 => (wem (hrb r x b g1 g3)).trans (hr.psz r x b g1 g2 g3), hr.glob.ext hext (fun n z hm => ?_), fun b hb => ?_, ?_, ?_⟩
   ·obtain ⟨c, e, f, v, g1, g2, _⟩ := hr.glob n z hm
    exact fun ho => g2 (hown n (Array.getElem?_eq_some_iff.1 g1).1 ho)
   ·rcases hb with hb | hb
    ·exact hr.tnew b hb
    ·exact .inr (Nat.le_trans hr.keeps.size hb.1)
   ·obtain ⟨q1, _⟩ := hr.part hgh
    refine .inr ⟨q1, rfl, m, x :: hh, rfl, fun b hb => ⟨(hfar b hb).1, fun hm => hm.elim (hfar b hb).2.1 (hfar b hb).2.2⟩, fun x' h' e => ?_⟩
    simp only [List.cons.injEq] at e
    obtain ⟨rfl, rfl⟩ := e
    rw [hhv]
    exact hx1.mono (fun b hb => .inr hb) (fun _ _ => rfl)
   ·exact (hr.dfr.ext hext).wide fun D hD => absurd hD.1 (by rw [hgh]; simp)
  refine hn _ _ _ φ2 (hK hh) (hrep.put hd (.tuple (by simpa using hs) (fun i hi => ?_)))
  match i, hi with
  | 0, _ => simp only [List.getElem_cons_zero]; rw [← hhv]; exact .val (wr9 hh)
  | 1, _ => simp only [List.getElem_cons_succ, List.getElem_cons_zero]; exact .d (hy0.noRef hy)
def Base.part (B : Base P) : Base P := { B with fr := true }
theorem PureFn.introF {f : FuncId} {fn : Func} {c : Code} {args : List PV} {x : PD} (hx : noRef x = true) (hf : P.funcs[f]? = some fn) (hb : fn.body = some c) (hN : args.length ≤ fn.ntmps)
  (h : AWp P G none fn.ntmps c ⟨wb8 0 args, [], [], some (0, [], [.nilptr], true)⟩ (Fin P G fn fun p H => ∃ u, frzT H p = some u ∧ leV u (.d x))) : PureFn P G f args (.d x) := by
 intro B φ vs h0 h1 h2 h3
 have hT : ∀ b, ¬ φ.T b := h3.inv
 have h3' : Sit G B.part B.w0 φ [] (some (0, [], [.nilptr], true)) :=
  ⟨h3.heap, h3.keeps, h3.new, h3.pins, h3.psz, h3.glob, h3.tnew, .inr ⟨rfl, rfl, .nilptr, [], rfl, fun b hb => absurd hb (hT b), fun x h e => by cases e⟩⟩
 refine (FnG.intro hf hb hN h B.part φ vs h0 h1 h2 h3').mono ?_
 rintro e w' ⟨v, p, H', g', φ', he, ⟨u, hu, hle⟩, hv, hs⟩
 have hd := (wk5 hs.heap hv hu).le hle
 have hs := hs.drop
 have hno : ∀ b, ¬ own (⟨φ'.f, fun _ => False⟩ : Nm) [] b := fun b h => h.elim (wiZ b) id
 refine ⟨v, .d x, [], none, ⟨φ'.f, fun _ => False⟩, he, ⟨rfl, rfl⟩, .d ((waL hd).noRef hx), ⟨⟨fun r x b h => by simp [waa] at h, fun r x h => by simp [waa] at h, fun r s x y b h => by simp [waa] at h, fun b h => h.elim⟩, hs.keeps, fun r x b h => by simp [waa] at h, fun r x h => by simp [waa] at h, fun r x b h => by simp [waa] at h, fun g x hm => ?_, fun b h => h.elim, fun b h => h⟩⟩
 obtain ⟨cs, e, f, v, h5, h6, h7, h8, h9⟩ := hs.glob g x hm
 exact ⟨cs, e, f, v, h5, hno g, h7.mono (fun b hb => ⟨hb.1, hb.2.1, hno b⟩) (fun _ _ => rfl), h8, h9⟩
def wqV : List PV → List PV → Prop
 | [], [] => True
 | p :: l, q :: m => (q = p ∨ ∃ x, p = .d x ∧ q = .b x) ∧ wqV l m
 | _, _ => False
theorem wl8 : ∀ {l m : List PV}, wqV l m → l.length = m.length ∧ ∀ i (hi : i < l.length) (hi' : i < m.length), m[i] = l[i] ∨ ∃ x, l[i] = .d x ∧ m[i] = .b x
 | [], [], _ => ⟨rfl, fun i hi => by simp at hi⟩
 | p :: l, q :: m, h => by
  obtain ⟨h1, h2⟩ := wl8 h.2
  refine ⟨by simp [h1], fun i hi hi' => ?_⟩
  cases i with
  | zero => exact h.1
  | succ i => simpa using h2 i (by simpa using hi) (by simpa using hi')
 | [], _ :: _, h => h.elim
 | _ :: _, [], h => h.elim
def wpu : List PV → Bool
 | [] => true
 | .d _ :: l => wpu l
 | _ => false
theorem wl9 : ∀ {l : List PV}, wpu l = true → ∀ i (hi : i < l.length), ∃ x, l[i] = .d x
 | [], _, i, hi => by simp at hi
 | p :: l, h, i, hi => by
  cases p <;> simp only [wpu, Bool.false_eq_true] at h
  cases i with
  | zero => exact ⟨_, rfl⟩
  | succ i => simpa using wl9 h i (by simpa using hi)
def Base.bare (B : Base P) : Base P := { B with X := fun _ => False, hX := fun _ h => h.elim, J := fun _ _ _ _ => True, stab := fun _ _ _ _ _ _ _ _ _ _ _ _ _ => trivial, fr := false, y := none, yok := fun _ _ h => by cases h }
theorem Sit.bare {H : wac} (hs : Sit G B w φ [] none) : Sit G B.bare w φ [] none := by
 refine ⟨⟨fun r x b h => by simp [waa] at h, fun r x h => by simp [waa] at h, fun r s x y b h => by simp [waa] at h, fun b h => ⟨(hs.heap.far b h).1, fun h => h, (hs.heap.far b h).2.2⟩⟩, hs.keeps, fun r x b h => by simp [waa] at h, fun r x h => by simp [waa] at h, fun r x b h => by simp [waa] at h, fun g x hm => ?_, hs.tnew, hs.inv⟩
 obtain ⟨cs, e, f, v, h5, h6, h7, h8, h9⟩ := hs.glob g x hm
 exact ⟨cs, e, f, v, h5, h6, h7.mono (fun b hb => ⟨hb.1, fun h => h, hb.2.2⟩) (fun _ _ => rfl), h8, h9.1, fun h => h⟩
theorem PureFn.bor (hG : wnu G) {f : FuncId} {args args' : List PV} {x : PD} (h : PureFn P G f args (.d x)) (hx : noRef x = true) (hd : wpu args = true) (hb : wqV args args') : PureFn P G f args' (.d x) := by
 intro B φ vs h0 h1 h2 h3
 obtain ⟨hl, hg⟩ := wl8 hb
 have hT : ∀ b, ¬ φ.T b := h3.inv
 refine (h B.bare φ vs h0 (h1.trans hl.symm) (fun i hi => ?_) (Sit.bare (H := []) h3)).mono ?_
 ·have h4 := h2 i (hl ▸ hi)
  obtain ⟨z, hz⟩ := wl9 hd i hi
  rw [hz]
  rcases hg i hi (hl ▸ hi) with e | ⟨y, e1, e2⟩
  ·rw [e, hz] at h4
   exact .d ((waL h4).mono (fun b hb => ⟨hb.1, fun h => h, hb.2.2⟩) (fun _ _ => rfl))
  ·rw [hz] at e1
   simp only [PV.d.injEq] at e1; subst e1
   rw [e2] at h4
   exact .d ((whR h4).mono (fun b hb => ⟨hb.1, fun h => h, hb.2⟩) (fun _ _ => rfl))
 ·rintro e w' ⟨v, p, H', g', φ', he, ⟨rfl, rfl⟩, hv, hs⟩
  have hno : ∀ b, ¬ own (⟨φ'.f, fun _ => False⟩ : Nm) [] b := fun b h => h.elim (wiZ b) id
  refine ⟨v, .d x, [], none, ⟨φ'.f, fun _ => False⟩, he, ⟨rfl, rfl⟩, .d ((waL hv).noRef hx), ⟨⟨fun r x b h => by simp [waa] at h, fun r x h => by simp [waa] at h, fun r s x y b h => by simp [waa] at h, fun b h => h.elim⟩, hs.keeps, fun r x b h => by simp [waa] at h, fun r x h => by simp [waa] at h, fun r x b h => by simp [waa] at h, fun g x hm => ?_, fun b h => h.elim, fun b h => h⟩⟩
  obtain ⟨cs, e, f, v, h5, h6, h7, h8, h9⟩ := hs.glob g x hm
  obtain ⟨cs', e', f', v', k5, k6, k7, k8, k9⟩ := h3.glob g x hm
  obtain ⟨l, rfl⟩ := hG g x hm
  exact ⟨cs, e, f, v, h5, hno g, h7.noRef (by simp only [noRef]; exact wht l), h8, h9.1, k9.2⟩
end
end Go.Pv

namespace Go.Pv
def AWpB {P : Program} (B : Base P) (G : List (Nat × PD)) (N : Nat) (c : Code) (σ : St) (Q : Post) : Prop :=
 ∀ a w φ, Rep G B N σ a w φ → ∀ (Q' : Exit → Act → World → Prop), (∀ e σ' a' w' φ', Q e σ' → Rep G B N σ' a' w' φ' → Q' e a' w') → c.wpIn (Fw B.ro) 0 P Q' a w
def AOpsB {P : Program} (B : Base P) (G : List (Nat × PD)) (N : Nat) (ops : Array Oper) (l : List Oper) (σ : St) (Q : St → Prop) : Prop :=
 ∀ a w φ, Rep G B N σ a w φ → ∀ (Q' : Exit → Act → World → Prop), (∀ σ' a' w' φ', Q σ' → Rep G B N σ' a' w' φ' → Q' .normal a' w') → wpL (Fw B.ro) 0 P ops Q' l a w
def wsQ {P : Program} (B : Base P) (G : List (Nat × PD)) (N : Nat) (o : Oper) (σ : St) (K : St → Prop) : Prop :=
 ∀ a w φ, Rep G B N σ a w φ → ∀ (next : Act → World → Prop) (Q : Exit → Act → World → Prop),
  (∀ σ' a' w' φ', K σ' → Rep G B N σ' a' w' φ' → next a' w') → o.wpIn (Fw B.ro) 0 P a w next Q
section
variable {P : Program} {B : Base P} {G : List (Nat × PD)} {N : Nat} {σ τ : St} {ops : Array Oper}
theorem AWpB.of {c : Code} {Q : Post} (h : AWp P G B.ro N c σ Q) : AWpB B G N c σ Q := fun a w φ hr Q' hq => h B rfl a w φ hr Q' hq
theorem AWpB.sub {c : Code} {Q : Post} (hs : Sub G N σ τ) (h : AWpB B G N c τ Q) : AWpB B G N c σ Q :=
 fun a w φ hr Q' hq => let ⟨φ', h1⟩ := hs P B a w φ hr; h a w φ' h1 Q' hq
theorem AWpB.mono {c : Code} {Q Q' : Post} (h : AWpB B G N c σ Q) (hq : ∀ e σ, Q e σ → Q' e σ) : AWpB B G N c σ Q' :=
 fun a w φ hr R hR => h a w φ hr R fun e σ' a' w' φ' h1 h2 => hR e σ' a' w' φ' (hq _ _ h1) h2
theorem AWpB.seq {x y : Code} {Q : Post} (K : St → Prop) (h : AWpB B G N x σ (Post.then K Q)) (h2 : ∀ σ, K σ → AWpB B G N y σ Q) : AWpB B G N (.seq x y) σ Q := by
 intro a w φ hr Q' hq
 refine wpIn_seq (h a w φ hr _ fun e σ' a' w' φ' h1 hr' => ?_)
 cases e with
 | normal => exact h2 _ h1 a' w' φ' hr' Q' hq
 | _ => exact hq _ _ _ _ _ h1 hr'
theorem AWpB.cond {c : Operand} {x y : Code} {Q : Post} {b : Bool} (hc : σ.eval c = .d (.bool b)) (h1 : b = true → AWpB B G N x σ Q) (h2 : b = false → AWpB B G N y σ Q) : AWpB B G N (.cond c x y) σ Q := by
 intro a w φ hr Q' hq
 have hv := hr.eval c
 rw [hc] at hv
 exact wpIn_cond_split (wen hv) (fun h => h1 h a w φ hr Q' hq) (fun h => h2 h a w φ hr Q' hq)
theorem AWpB.block {id : Nat} {c : Code} {Q : Post} (h : AWpB B G N c σ (Post.inBlock id Q)) : AWpB B G N (.block id c) σ Q := by
 intro a w φ hr Q' hq
 refine wpIn_block (h a w φ hr _ fun e σ' a' w' φ' h1 h2 => ?_)
 cases e with
 | exit j =>
  simp only [Post.inBlock] at h1
  simp only [Exit.inBlock]
  split
  ·rename_i h; rw [if_pos h] at h1; exact hq _ _ _ _ _ h1 h2
  ·rename_i h; rw [if_neg h] at h1; exact hq _ _ _ _ _ h1 h2
 | _ => exact hq _ _ _ _ _ h1 h2
theorem AWpB.loopI {ι : Type} {c : Code} {Q : Post} (T : ι → St) (p : ι → Prop) (μ : ι → Nat) (i0 : ι) (h0 : p i0) (hs : Sub G N σ (T i0))
  (h : ∀ i, p i → AWpB B G N c (T i) (Post.then (fun σ' => ∃ i', p i' ∧ μ i' < μ i ∧ Sub G N σ' (T i')) Q)) : AWpB B G N (.loop c) σ Q := by
 intro a w φ hr Q' hq
 classical
 let ex : Act → World → Nat → Prop := fun a w m => ∃ i φ, p i ∧ μ i = m ∧ Rep G B N (T i) a w φ
 let J : Act → World → Prop := fun a w => ∃ m, ex a w m
 let ν : Act → World → Nat := fun a w => if h : ∃ m, ex a w m then Classical.choose (wcC h) else 0
 obtain ⟨φ0, hr0⟩ := hs P B a w φ hr
 refine wpIn_loop J ν ⟨_, i0, φ0, h0, rfl, hr0⟩ fun a w hJ => ?_
 have hν : ν a w = Classical.choose (wcC hJ) := dif_pos hJ
 obtain ⟨⟨i, φ1, h1, hm, h2⟩, hmin⟩ := Classical.choose_spec (wcC hJ)
 refine h i h1 a w φ1 h2 _ fun e σ' a' w' φ' h3 h4 => ?_
 cases e with
 | normal =>
  obtain ⟨i', g1, g2, g3⟩ := h3
  obtain ⟨φ2, h5⟩ := g3 P B a' w' φ' h4
  have hex' : ∃ m, ex a' w' m := ⟨_, i', φ2, g1, rfl, h5⟩
  refine ⟨hex', ?_⟩
  show ν a' w' < ν a w
  rw [hν, show ν a' w' = Classical.choose (wcC hex') from dif_pos hex', ← hm]
  exact Nat.lt_of_le_of_lt ((Classical.choose_spec (wcC hex')).2 _ ⟨i', φ2, g1, rfl, h5⟩) g2
 | _ => exact hq _ _ _ _ _ h3 h4
theorem AWpB.reg {id : Nat} {l : List Oper} {Q : Post} (h : AOpsB B G N l.toArray l σ (Q .normal)) : AWpB B G N (.region id l.toArray false) σ Q :=
 fun a w φ hr Q' hq => wpIn_region (wjo (by simpa using h a w φ hr Q' (fun σ' a' w' φ' h1 h2 => hq .normal σ' a' w' φ' h1 h2)))
theorem AOpsB.of {l : List Oper} {Q : St → Prop} (h : AOps P G B.ro N ops l σ Q) : AOpsB B G N ops l σ Q := fun a w φ hr Q' hq => h B rfl a w φ hr Q' hq
theorem AOpsB.pre {l : List Oper} {Q : St → Prop} (n : Nat) (K : St → Prop) (h1 : AOps P G B.ro N ops (l.take n) σ K) (h2 : ∀ τ, K τ → AOpsB B G N ops (l.drop n) τ Q) : AOpsB B G N ops l σ Q := by
 have key : ∀ (l m : List Oper) (Q' : Exit → Act → World → Prop) (a : Act) (w : World), wpL (Fw B.ro) 0 P ops (fun e a w => match e with | .normal => wpL (Fw B.ro) 0 P ops Q' m a w | e => Q' e a w) l a w → wpL (Fw B.ro) 0 P ops Q' (l ++ m) a w := by
  intro l
  induction l with
  | nil => intro m Q' a w h; exact h
  | cons o l ih =>
   intro m Q' a w h
   simp only [List.cons_append, wpL] at h ⊢
   split at h
   ·rename_i hw
    rw [if_pos hw]
    exact Oper.wpIn_off (fun a w h => ih m Q' a w h) (fun e a w hne h => by
     cases e <;> first | exact absurd rfl hne | exact h) h
   ·rename_i hw
    rw [if_neg hw]
    exact ⟨h.1, ih m Q' _ w h.2⟩
 intro a w φ hr Q' hq
 rw [← List.take_append_drop n l]
 exact key _ _ _ _ _ (h1 B rfl a w φ hr _ fun σ' a' w' φ' hs hr' => h2 σ' hs a' w' φ' hr' Q' hq)
theorem AOpsB.last {o : Oper} {Q : St → Prop} (hg : o.guard = none) (h : wsQ B G N o σ Q) : AOpsB B G N ops [o] σ Q := by
 intro a w φ hr Q' hq
 simp only [wpL, Region.wanted, hg, if_true]
 exact h a w φ hr _ _ fun σ' a' w' φ' h1 h2 => hq σ' a' w' φ' h1 h2
def wipe : PV → PV
 | .d y => if noRef y = true then .d y else .any
 | .val v => .val v
 | _ => .any
def wm3 : List (Nat × PV) → List (Nat × PV)
 | [] => []
 | (t, p) :: l => (t, wipe p) :: wm3 l
theorem wm4 : ∀ (l : List (Nat × PV)) (t : Nat), wam (wm3 l) t = wipe (wam l t)
 | [], t => rfl
 | (s, p) :: l, t => by
  simp only [wm3, wam]
  split
  ·rfl
  ·exact wm4 l t
theorem RepV.wipe {w w' : World} {X X' : Nat → Prop} {φ φ' : Nm} {H H' : wac} {v : Value} {p : PV} (h : RepV w X φ H v p) : RepV w' X' φ' H' v (Pv.wipe p) := by
 cases h <;> simp only [Pv.wipe] <;> first | exact .any _ | skip
 ·split
  ·rename_i hd hn; exact .d (hd.noRef hn)
  ·exact .any _
 ·rename_i hf; exact .val hf
def wox (els : List PD) (i off : Nat) : Option PD :=
 match els[i]? with
 | some (.agg cs) => cs[off]?
 | some c => if off = 0 then some c else none
 | none => none
theorem Dfr.empty {m : Nat → Prop} {w : World} {X : Nat → Prop} {φ : Nm} {H : wac} {ds : List Deferred} (h : Dfr m w X φ H ds []) (hm : ∀ D, ¬ m D) : ds = [] := by
 cases h with
 | nil => rfl
 | mark h => exact absurd h (hm _)
theorem RepD.cell_int {w : World} {ok : Nat → Prop} {F : Nat → Value} {els : List PD} {k i off : Nat} {kd : IntKind} {n : Int} (hi : i < els.length) (hr : RepD w ok (F i) els[i]) (hk : (F i).cells.size = k) (he : wox els i off = some (.int kd n)) :
  off < k ∧ (F i).cells.getD off undef = .int kd n := by
 unfold wox at he
 rw [List.getElem?_eq_getElem hi] at he
 generalize els[i] = x at he hr
 generalize F i = v at hr hk ⊢
 split at he
 ·rename_i cs hx
  simp only [Option.some.injEq] at hx; subst hx
  cases hr with
  | @agg vs ps hs hr' hf =>
   obtain ⟨ho, he⟩ := List.getElem?_eq_some_iff.1 he
   simp only [Value.cells] at hk ⊢
   have h1 := hr' off ho
   rw [he] at h1
   refine ⟨by omega, ?_⟩
   generalize vs.getD off undef = u at h1
   cases h1; rfl
 ·rename_i c hc hx
  simp only [Option.some.injEq] at hx; subst hx
  split at he <;> simp only [Option.some.injEq, reduceCtorEq] at he
  rename_i h0; subst h0; subst he
  cases hr
  exact ⟨by rw [← hk]; simp [Value.cells], rfl⟩
 ·cases he
theorem wsR {o : Oper} {t : TypeId} {ad u : Operand} {y : Ty} {k i off : Nat} {els : List PD} {kd : IntKind} {n n0 : Int} {r : Nat} {x : PD} {rest : List (Nat × PV)} {l0 : Nat} {m : PD} {d0 : Bool} {K : St → Prop}
  (hB : ∀ b, b < B.w0.heap.size → ¬ B.X b → B.o0 b) (ho : o.op = .store t ad u) (ht : wad P t = some y) (hy : y.size = 1) (ha : σ.eval ad = .dptr k els i off) (hu : σ.eval u = .d (.int kd n)) (he : wox els i off = some (.int kd n0)) (h8 : kd ≠ .u8)
  (henv : σ.env = (r, .d x) :: rest) (hh : σ.heap = []) (hdf : σ.dfr = []) (hgh : σ.gh = some (l0, [], [m], d0)) (hd : wan N o.dst)
  (hK : ∀ x', shp x x' → K (({ σ with env := (r, .d x') :: wm3 rest } : St).put o.dst .any)) : wsQ B [] N o σ K := by
 intro a w φ hr next Q hn
 have hav := hr.eval ad
 rw [ha] at hav
 have huv := hr.eval u
 rw [hu] at huv
 have huv : a.eval u = .int kd n := by
  have h0 := waL huv
  generalize a.eval u = v at h0 ⊢
  cases h0; rfl
 generalize hadv : a.eval ad = av at hav
 cases hav with
 | @dptr c n' cap _ _ _ _ hd' hi =>
 cases hd' with
 | imm F ha' hok hn' hcap hr' hk hf hc hz =>
  obtain ⟨h1, h2⟩ := RepD.cell_int hi (hr' i hi) (hk i hi) he
  have hne : els ≠ [] := fun e => by subst e; simp at hi
  have hcell := hc i hi off h1
  rw [h2] at hcell
  have hfz := hz i hi off h1 (by rw [h2]; cases kd <;> first | rfl | exact absurd rfl h8)
  have hb := hok hne
  generalize hp : c.off + i * k + off = p at hcell hfz
  generalize hbk : c.block = b at hcell hfz hb
  -- the block
  obtain ⟨cs, e, f, hcs⟩ : ∃ cs e f, w.heap[b]? = some (.cells cs e f) := by
   unfold World.cell? at hcell
   dsimp only at hcell
   cases hob : w.heap[b]? with
   | none => simp [hob] at hcell
   | some ob =>
    cases ob with
    | cells cs e f => exact ⟨cs, e, f, rfl⟩
    | _ => simp [hob] at hcell
  have hlt : b < w.heap.size := (Array.getElem?_eq_some_iff.1 hcs).1
  have hcp : cs[p]? = some (.int kd n0) := by
   unfold World.cell? at hcell
   simpa [hcs] using hcell
  have hpl : p < cs.size := (Array.getElem?_eq_some_iff.1 hcp).1
  let w' := w.setCell ⟨b, p, none⟩ (.int kd n)
  have hcs' : w'.heap[b]? = some (.cells (cs.setIfInBounds p (.int kd n)) e f) := wko w b cs e f hcs _ _
  have hoth : ∀ b', b' ≠ b → w'.heap[b']? = w.heap[b']? := fun b' h => whe w ⟨b, p, none⟩ _ h
  have hsize : w'.heap.size = w.heap.size := by simp [w']
  have hpk : Poked w w' b p kd n0 n := by
   refine ⟨hcell, fun c' o' => ?_, fun a' => ?_⟩
   ·by_cases hcb : c' = b
    ·subst hcb
     simp only [World.cell?, hcs', hcs, Option.isSome_none, Bool.false_eq_true, if_false, true_and]
     by_cases hop : o' = p
     ·subst hop; simp [hpl]
     ·rw [if_neg hop]; simp [Array.getElem?_setIfInBounds, Ne.symm hop]
    ·simp only [World.cell?, hoth _ hcb, hcb, false_and, if_false]
   ·unfold World.frozen?
    by_cases hcb : a'.block = b
    ·rw [hcb, hcs', hcs]
    ·rw [hoth _ hcb]
  have hkeep : Keeps (· = b) w w' := ⟨rfl, rfl, rfl, Nat.le_of_eq hsize.symm, fun b' _ hne => hoth b' hne⟩
  have hokd : ∀ b', okd w B.X φ σ.heap b' → okd w' B.X φ σ.heap b' := fun b' h => ⟨hsize.symm ▸ h.1, h.2⟩
  have hx0 := hr.env r
  have er : wam σ.env r = .d x := by rw [henv]; simp [wam]
  rw [er] at hx0
  obtain ⟨x', hx1, hx2⟩ := (waL hx0).poke hpk
  obtain ⟨q1, q2⟩ := hr.part hgh
  have hnil : ∀ r', waa σ.heap r' = none := fun r' => by rw [hh]; rfl
  have hdf0 : a.defers ++ B.held = [] := by
   have := hr.dfr
   rw [hdf] at this
   exact this.empty fun D hD => by have := hD.1; rw [hgh] at this; cases this
  have hrep : Rep [] B N { σ with env := (r, .d x') :: wm3 rest } a w' φ := by
   refine ⟨hr.size, fun s => ?_, ⟨fun r' z b' g => (by rw [hnil] at g; cases g), fun r' z g => (by rw [hnil] at g; cases g), fun r' s' z z' b' g => (by rw [hnil] at g; cases g), fun b' hb' => ?_⟩,
    ?_, fun r' z b' g => (by rw [hnil] at g; cases g), fun r' z g => (by rw [hnil] at g; cases g), fun r' z b' g => (by rw [hnil] at g; cases g), fun g z hm => by simp at hm, hr.tnew, ?_, ?_⟩
   ·simp only [wam]
    split
    ·rename_i hs; subst hs; exact .d (hx2.mono hokd (fun _ _ => rfl))
    ·rename_i hs
     have := hr.env s
     rw [henv] at this
     simp only [wam, hs, if_false] at this
     rw [wm4]
     exact this.wipe
   ·obtain ⟨g1, g2, g3⟩ := hr.heap.far b' hb'
    exact ⟨hsize.symm ▸ g1, g2, g3⟩
   ·refine ⟨hkeep.os.trans hr.keeps.os, hkeep.tape.trans hr.keeps.tape, hkeep.output.trans hr.keeps.output, Nat.le_trans hr.keeps.size hkeep.size, fun b' hb' ho' => ?_⟩
    refine (hkeep.block b' (Nat.lt_of_lt_of_le hb' hr.keeps.size) (fun e => ?_)).trans (hr.keeps.block b' hb' ho')
    subst e
    exact ho' (hB _ hb' hb.2.1)
   ·show B.inv σ.gh _ _ _
    rw [hgh]
    exact .inr ⟨q1, rfl, m, [], rfl, fun b' hb' => ⟨hsize.symm ▸ (q2.1 b' hb').1, (q2.1 b' hb').2⟩, fun z h e => by cases e⟩
   ·show Dfr _ _ _ _ _ _ σ.dfr
    rw [hdf0, hdf]; exact .nil
  refine wjn (w' := w') ?_ (hn _ _ _ φ (hK x' hx1) (hrep.put hd (.any _)))
  rw [Oper.semAt_eq _ _ _ (fun c hc => by rw [ho] at hc; cases hc)]
  unfold execOp
  simp only [ho]
  have hrun : (Instr.storeAt t (a.eval ad) (a.eval u)).run P w = .ok () w' := by
   rw [hadv, huv]
   simp only [Instr.storeAt, Instr.sureAddr, storeVar, Sem.run_bind, Sem.run_pure, wcH ht, Result.andThen]
   rw [if_neg (by simp [Value.cells, hy])]
   simp only [Value.cells, storeCells, Sem.run_bind, wbX, hp, hbk, Nat.add_zero, run_store P w _ _ .plain (show flat (.int kd n) = true from rfl), hcell, hfz, Bool.false_eq_true, if_false, Result.andThen]
   rfl
  rw [Sem.run_bind, hrun]; rfl
def wry : PV → Bool
 | .any | .d (.agg _) | .b (.agg _) | .agg _ | .tuple _ => false
 | _ => true
theorem wnv {w : World} {X : Nat → Prop} {φ : Nm} {H : wac} {v : Value} {p : PV} (h : RepV w X φ H v p) (hp : wry p = true) : flat v = true :=
 whO h (fun e => by subst e; cases hp) (fun _ e => by subst e; cases hp) (fun _ e => by subst e; cases hp) (fun _ e => by subst e; cases hp) (fun _ e => by subst e; cases hp)
theorem wn9 (val : Nat → Value) : ∀ (ks : List Nat) (t : Nat), wam (ks.map fun k => (k, PV.val (val k))) t = if t ∈ ks then .val (val t) else .any
 | [], t => rfl
 | k :: ks, t => by
  simp only [List.map_cons, wam, List.mem_cons]
  by_cases h : k = t
  ·subst h; simp
  ·rw [if_neg h, wn9 val ks t]; simp [Ne.symm h]
theorem woa (e : List (Nat × PV)) : ∀ (ks : List Nat) (t : Nat), wam (whv ks e) t = if t ∈ ks then wam e t else .any
 | [], t => rfl
 | k :: ks, t => by
  simp only [whv, wam, List.mem_cons]
  by_cases h : k = t
  ·subst h; simp
  ·rw [if_neg h, woa e ks t]; simp [Ne.symm h]
theorem AWp.apart {ro : Option Nat} {c : Code} {Q : Post} {r l0 : Nat} {x m : PD} {h : List PD} {d0 : Bool} (ks : List Nat) (E : Exit → Prop) (hg : σ.gh = some (l0, [], m :: x :: h, d0)) (hdf : σ.dfr = []) (hr0 : wam σ.env r = .val (hdr h)) (hrk : r ∉ ks)
  (hks : ks.all (fun k => wry (wam σ.env k)) = true)
  (hL : ∀ (B : Base P) (val : Nat → Value), B.ro = ro → (∀ b, b < B.w0.heap.size → ¬ B.X b → B.o0 b) →
   AWpB B [] N c ⟨(r, .d x) :: ks.map (fun k => (k, .val (val k))), [], [], some (0, [], [.nilptr], true)⟩ (fun e τ => E e ∧ τ.dfr = [] ∧ τ.gh = some (0, [], [.nilptr], true) ∧ ∀ k ∈ ks, wam τ.env k = .val (val k)))
  (hQ : ∀ e, E e → Q e ⟨whv ks σ.env, σ.heap, [], some (l0, [], [m], d0)⟩) : AWp P G ro N c σ Q := by
 intro B hro a w φ hr Q' hq
 obtain ⟨hfr, hj⟩ := hr.part hg
 have hd0 : a.defers ++ B.held = [] := by
  have := hr.dfr
  rw [hdf] at this
  exact this.empty fun D hD => by have := hD.1; rw [hg] at this; cases this
 let B' : Base P := { w0 := w, X := fun b => b < w.heap.size ∧ ¬ φ.T b, hX := fun _ h => h.1, o0 := φ.T, φ0 := fun _ => none, z0 := fun _ => 0, ro := ro, held := B.held, hheld := fun h => B.hheld (hro.trans h), J := fun _ _ _ _ => True, stab := fun _ _ _ _ _ _ _ _ _ _ _ _ _ => trivial, fr := true, y := none, yok := fun _ _ h => by cases h }
 let val : Nat → Value := fun k => a.tmps.getD k undef
 have hrep : Rep [] B' N ⟨(r, .d x) :: ks.map (fun k => (k, .val (val k))), [], [], some (0, [], [.nilptr], true)⟩ a w Nm.no := by
  refine ⟨hr.size, fun t => ?_, ⟨fun r x b h => by simp [waa] at h, fun r x h => by simp [waa] at h, fun r s x y b h => by simp [waa] at h, fun b h => h.elim⟩, .refl _ _, fun r x b h => by simp [waa] at h, fun r x h => by simp [waa] at h, fun r x b h => by simp [waa] at h, fun g x hm => by simp at hm, fun b h => h.elim,
   .inr ⟨rfl, rfl, .nilptr, [], rfl, fun b h => h.elim, fun x h e => by cases e⟩, ?_⟩
  ·simp only [wam]
   split
   ·rename_i ht; subst ht
    have hv := hr.env r
    rw [hr0] at hv
    rw [wl7 hv]
    exact .d ((hj.2 x h rfl).mono (fun b hb => ⟨(hj.1 b hb).1, fun hX => hX.2 hb, whg b⟩) (fun _ _ => rfl))
   ·rw [wn9]
    split
    ·rename_i ht
     exact .val (wnv (hr.env t) (List.all_eq_true.1 hks t ht))
    ·exact .any _
  ·show Dfr _ _ _ _ _ (a.defers ++ B.held) []
   rw [hd0]; exact .nil
 have hrun := hL B' val rfl (fun b hb hX => Classical.byContradiction fun hn => hX ⟨hb, hn⟩) a w Nm.no hrep Q' (fun e τ a' w' φ' ⟨hE, hτd, hτg, hval⟩ hr' => ?_)
 ·have : B'.ro = ro := rfl
  rw [this] at hrun
  exact hrun
 have hk : Keeps φ.T w w' := hr'.keeps
 have hsz := hk.size
 have hown : ∀ b, own φ σ.heap b → b < w.heap.size := fun _ => hr.heap.own_lt
 have hrb : ∀ r x b, waa σ.heap r = some x → φ r = some b → w'.heap[b]? = w.heap[b]? := fun r x b g1 g2 => hk.block b (hr.heap.lt g1 g2) (fun hT => (hr.heap.far b hT).2.2 ⟨r, x, g1, g2⟩)
 have hext : Ext w B.X φ σ.heap w' φ σ.heap := ⟨fun r x h => ⟨x, h, rfl, fun _ => rfl, rfl⟩, fun b h => ⟨Nat.lt_of_lt_of_le h.1 hsz, h.2⟩, fun b h => ⟨Nat.lt_of_lt_of_le h.1 hsz, h.2⟩,
  fun b h => hk.block b h.1 (fun hT => h.2 (.inr hT)), fun r x b g1 g2 c e f hh => ⟨c, e, f, (hrb r x b g1 g2) ▸ hh, rfl⟩⟩
 refine hq e _ a' w' φ (hQ e hE) ?_
 refine ⟨hr'.size, fun t => ?_, ⟨fun r x b g1 g2 => (hr.heap.rows r x b g1 g2).ext hext (hrb r x b g1 g2), hr.heap.void, hr.heap.inj, fun b hb => ⟨Nat.lt_of_lt_of_le (hr.heap.far b hb).1 hsz, (hr.heap.far b hb).2⟩⟩,
  ⟨hk.os.trans hr.keeps.os, hk.tape.trans hr.keeps.tape, hk.output.trans hr.keeps.output, Nat.le_trans hr.keeps.size hsz, fun b hb ho => ?_⟩, hr.new, hr.pins, fun r x b g1 g2 g3 => (wem (hrb r x b g1 g3)).trans (hr.psz r x b g1 g2 g3), hr.glob.ext hext (fun n z hm => ?_), hr.tnew, ?_, ?_⟩
 ·rw [woa]
  split
  ·rename_i ht
   have hv := hr'.env t
   rw [hval t ht] at hv
   rw [wl7 hv]
   exact (hr.env t).ext hext
  ·exact .any _
 ·refine (hk.block b (Nat.lt_of_lt_of_le hb hr.keeps.size) (fun hT => ?_)).trans (hr.keeps.block b hb ho)
  rcases hr.tnew b hT with h | h
  ·exact ho h
  ·omega
 ·obtain ⟨c, e, f, v, g1, g2, _⟩ := hr.glob n z hm
  exact g2
 ·exact .inr ⟨hfr, rfl, m, [], rfl, fun b hb => ⟨Nat.lt_of_lt_of_le (hj.1 b hb).1 hsz, (hj.1 b hb).2⟩, fun z h e => by cases e⟩
 ·have : a'.defers ++ B.held = [] := by
   have := hr'.dfr
   rw [hτd] at this
   exact this.empty fun D hD => by have := hD.1; rw [hτg] at this; cases this
  show Dfr _ _ _ _ _ (a'.defers ++ B.held) []
  rw [this]; exact .nil
end
end Go.Pv

namespace Go.Pv
section
variable {P : Program} {B : Base P} {G : List (Nat × PD)} {ro : Option Nat} {N : Nat} {σ τ : St} {ops : Array Oper} {w : World} {φ : Nm}
def dOk (q : PV) : PV → Prop
 | .any => True
 | .d x => q = .d x ∨ q = .b x
 | _ => False
def wsa (e : List (Nat × PV)) : List (Nat × PV) → Prop
 | [] => True
 | (t, p) :: l => dOk (wam e t) p ∧ wsa e l
def bOk (q : PV) : PV → Prop
 | .any => True
 | .b x => q = .d x
 | .d x => q = .d x ∧ noRef x = true
 | _ => False
def wsb (e : List (Nat × PV)) : List (Nat × PV) → Prop
 | [] => True
 | (t, p) :: l => bOk (wam e t) p ∧ wsb e l
theorem wpv {e : List (Nat × PV)} : ∀ {l : List (Nat × PV)}, wsa e l → ∀ t, dOk (wam e t) (wam l t)
 | [], _, t => trivial
 | (s, p) :: l, h, t => by
  simp only [wam]
  split
  ·rename_i hs; subst hs; exact h.1
  ·exact wpv h.2 t
theorem wpw {e : List (Nat × PV)} : ∀ {l : List (Nat × PV)}, wsb e l → ∀ t, bOk (wam e t) (wam l t)
 | [], _, t => trivial
 | (s, p) :: l, h, t => by
  simp only [wam]
  split
  ·rename_i hs; subst hs; exact h.1
  ·exact wpw h.2 t
theorem AOps.bare {l : List Oper} {Q : St → Prop} (hG : wnu G) (env1 env2 : List (Nat × PV)) (hh : σ.heap = []) (hd : σ.dfr = []) (hg : σ.gh = none) (he : wsa σ.env env1)
  (h : AOps P G ro N ops l ⟨env1, [], [], none⟩ (fun τ => τ.dfr = [] ∧ τ.gh = none ∧ wsb τ.env env2)) (hQ : Q ⟨env2, [], [], none⟩) : AOps P G ro N ops l σ Q := by
 intro B hro a w φ hr Q' hq
 have hT : ∀ b, ¬ φ.T b := by have := hr.inv; rw [hg] at this; exact this
 have hno : ∀ b, ¬ own φ [] b := fun b h => h.elim (wiZ b) (hT b)
 have hrep : Rep G B.bare N ⟨env1, [], [], none⟩ a w φ := by
  refine ⟨hr.size, fun t => ?_, ⟨fun r x b h => by simp [waa] at h, fun r x h => by simp [waa] at h, fun r s x y b h => by simp [waa] at h, fun b h => absurd h (hT b)⟩, hr.keeps, fun r x b h => by simp [waa] at h, fun r x h => by simp [waa] at h, fun r x b h => by simp [waa] at h, fun g x hm => ?_, hr.tnew, hT, ?_⟩
  ·have h1 := wpv he t
   have h2 := hr.env t
   generalize wam env1 t = p at h1 ⊢
   cases p <;> simp only [dOk] at h1
   ·exact .any _
   ·rcases h1 with h1 | h1
    ·rw [h1] at h2; exact .d ((waL h2).mono (fun b hb => ⟨hb.1, fun h => h, hno b⟩) (fun _ _ => rfl))
    ·rw [h1] at h2; exact .d ((whR h2).mono (fun b hb => ⟨hb.1, fun h => h, hno b⟩) (fun _ _ => rfl))
  ·obtain ⟨cs, e, f, v, h5, h6, h7, h8, h9⟩ := hr.glob g x hm
   exact ⟨cs, e, f, v, h5, hno g, h7.mono (fun b hb => ⟨hb.1, fun h => h, hno b⟩) (fun _ _ => rfl), h8, h9.1, fun h => h⟩
  ·have := hr.dfr
   rw [hd] at this
   exact this.marks (fun D hD => ⟨rfl, hD.2⟩) (fun D hD _ => ⟨⟨hD.1, fun h => h, hno D⟩, rfl⟩)
 refine h B.bare hro a w φ hrep Q' fun τ a' w' φ' ⟨h1, h2, h3⟩ hr' => ?_
 have hT' : ∀ b, ¬ φ'.T b := by have := hr'.inv; rw [h2] at this; exact this
 have hno' : ∀ b, ¬ own φ' [] b := fun b h => h.elim (wiZ b) (hT' b)
 refine hq _ _ _ φ' hQ ⟨hr'.size, fun t => ?_, ⟨fun r x b h => by simp [waa] at h, fun r x h => by simp [waa] at h, fun r s x y b h => by simp [waa] at h, fun b h => absurd h (hT' b)⟩, hr'.keeps, fun r x b h => by simp [waa] at h, fun r x h => by simp [waa] at h, fun r x b h => by simp [waa] at h, fun g x hm => ?_, fun b h => absurd h (hT' b), hT', ?_⟩
 ·have h1 := wpw h3 t
  have h2 := hr'.env t
  generalize wam env2 t = p at h1 ⊢
  cases p <;> simp only [bOk] at h1
  ·exact .any _
  ·rw [h1.1] at h2; exact .d ((waL h2).noRef h1.2)
  ·rw [h1] at h2; exact .b ((waL h2).mono (fun b hb => ⟨hb.1, hno' b⟩) (fun _ _ => rfl))
 ·obtain ⟨cs, e, f, v, h5, h6, h7, h8, h9⟩ := hr'.glob g x hm
  obtain ⟨cs', e', f', v', k5, k6, k7, k8, k9⟩ := hr.glob g x hm
  obtain ⟨l, rfl⟩ := hG g x hm
  exact ⟨cs, e, f, v, h5, hno' g, h7.noRef (by simp only [noRef]; exact wht l), h8, h9.1, k9.2⟩
 ·have := hr'.dfr
  rw [h1] at this
  have h4 : ∀ D, B.w0.heap.size ≤ D → ¬ B.X D := fun D hD hX => absurd (B.hX D hX) (Nat.not_lt.2 hD)
  show Dfr _ w' B.X φ' [] (a'.defers ++ B.held) []
  have key : ∀ {ds : List Deferred} {ps : List PV}, Dfr (fun D => τ.gh = none ∧ B.bare.ro = none ∧ B.bare.w0.heap.size ≤ D) w' B.bare.X φ' τ.heap ds ps → ps = [] → Dfr (fun D => (none : Gh) = none ∧ B.ro = none ∧ B.w0.heap.size ≤ D) w' B.X φ' [] ds [] := by
   intro ds ps hd
   induction hd with
   | nil => intro _; exact .nil
   | fn => intro h; cases h
   | mark g0 g1 g2 g3 _ ih => intro h; exact .mark ⟨rfl, g0.2⟩ ⟨g1.1, h4 _ g0.2.2, hno' _⟩ g2 g3 (ih h)
  exact key this rfl
def Base.bare0 (B : Base P) : Base P := { B.bare with o0 := fun _ => False }
theorem RowFn.bor (hG : wnu G) {f : FuncId} {args args' : List PV} {e k : Nat} {l : List PD} (h : RowFn P G f args e k l) (hn : ∀ x ∈ l, noRef x = true) (hk : 1 ≤ k) (hd : wpu args = true) (hb : wqV args args') : RowFn P G f args' e k l := by
 intro B φ vs h0 h1 h2 h3
 obtain ⟨hl, hg⟩ := wl8 hb
 have hT : ∀ b, ¬ φ.T b := h3.inv
 have h3' : Sit G B.bare0 B.w0 φ [] none := by
  have hs := Sit.bare (H := []) h3
  exact ⟨hs.heap, .refl _ _, fun r x b h => by simp [waa] at h, hs.pins, hs.psz, hs.glob, fun b h => absurd h (hT b), hs.inv⟩
 refine (h B.bare0 φ vs h0 (h1.trans hl.symm) (fun i hi => ?_) h3').mono ?_
 ·have h4 := h2 i (hl ▸ hi)
  obtain ⟨z, hz⟩ := wl9 hd i hi
  rw [hz]
  rcases hg i hi (hl ▸ hi) with e | ⟨y, e1, e2⟩
  ·rw [e, hz] at h4
   exact .d ((waL h4).mono (fun b hb => ⟨hb.1, fun h => h, hb.2.2⟩) (fun _ _ => rfl))
  ·rw [hz] at e1
   simp only [PV.d.injEq] at e1; subst e1
   rw [e2] at h4
   exact .d ((whR h4).mono (fun b hb => ⟨hb.1, fun h => h, hb.2⟩) (fun _ _ => rfl))
 ·rintro e' w' ⟨v, p, H', g', φ', he, ⟨rfl, rfl⟩, hv, hs⟩
  -- the row is new
  have hnew : ∀ b, φ' 1000 = some b → B.w0.heap.size ≤ b := fun b hb => (hs.new 1000 { e, k, els := dl l } b (by simp [waa]) hb).resolve_left fun h => h
  have hX : ∀ b, φ' 1000 = some b → ¬ B.X b := fun b hb h => absurd (B.hX b h) (Nat.not_lt.2 (hnew b hb))
  let φ2 : Nm := ⟨φ'.f, fun _ => False⟩
  have hrow : ∀ r x b, waa [(1000, ({ e, k, els := dl l } : Row))] r = some x → φ' r = some b → r = 1000 ∧ x = { e, k, els := dl l } := fun r x b h1 h2 => by
   simp only [waa] at h1
   split at h1
   ·rename_i hr; subst hr; exact ⟨rfl, by simpa using h1.symm⟩
   ·cases h1
  have helt : ∀ {X X' : Nat → Prop} {φ1 φ3 : Nm} {H H' : wac} {v : Value} (i : Nat) (hi : i < (dl l).length), RepV w' X φ1 H v (dl l)[i] → RepV w' X' φ3 H' v (dl l)[i] := by
   intro X X' φ1 φ3 H H' v i hi hv
   have hil : i < l.length := by simpa [dl] using hi
   have e1 : (dl l)[i] = .d l[i] := by simp [dl]
   rw [e1] at hv ⊢
   exact .d ((waL hv).noRef (hn _ (List.getElem_mem hil)))
  refine ⟨v, _, _, none, φ2, he, ⟨rfl, rfl⟩, ?_, ⟨⟨fun r x b h1 h2 => ?_, hs.heap.void, hs.heap.inj, fun b h => h.elim⟩, ?_, fun r x b h1 h2 => .inr ?_, fun r x h1 h2 => ?_, fun r x b h1 h2 h3 => ?_, fun g x hm => ?_, fun b h => h.elim, fun b h => h⟩⟩
  ·have key : ∀ n, RepV w' B.bare0.X φ' [(1000, { e, k, els := dl l })] v (.slc 1000 0 n) → RepV w' B.X φ2 [(1000, { e, k, els := dl l })] v (.slc 1000 0 n) := fun n hv => by
    cases hv with
    | slc g1 g2 g3 g4 g5 g6 g7 => exact .slc g1 g2 g3 g4 g5 g6 g7
    | slc0 g1 g2 g3 g4 => exact .slc0 g1 g2 g3 g4
   exact key _ hv
  ·obtain ⟨rfl, rfl⟩ := hrow r x b h1 h2
   exact (hs.heap.rows 1000 _ b h1 h2).turn rfl rfl rfl (fun _ _ h => h) (hX b h2) (fun i hi _ v hv => helt i hi hv) fun _ h => h
  ·exact ⟨hs.keeps.os, hs.keeps.tape, hs.keeps.output, hs.keeps.size, fun b hb _ => hs.keeps.block b hb fun h => h⟩
  ·obtain ⟨rfl, rfl⟩ := hrow r x b h1 h2; exact hnew b h2
  ·simp only [waa] at h1
   split at h1
   ·rename_i hr; subst hr; simp [pinned] at h2
   ·cases h1
  ·simp only [waa] at h1
   split at h1
   ·rename_i hr; subst hr; simp [pinned] at h2
   ·cases h1
  ·obtain ⟨cs, e', f', v, h5, h6, h7, h8, h9⟩ := hs.glob g x hm
   obtain ⟨cs', e'', f'', v', k5, k6, k7, k8, k9⟩ := h3.glob g x hm
   obtain ⟨l', rfl⟩ := hG g x hm
   refine ⟨cs, e', f', v, h5, fun ho => h6 (ho.elim .inl fun h => h.elim), h7.noRef (by simp only [noRef]; exact wht l'), h8, h9.1, k9.2⟩
end
end Go.Pv

namespace Go.Pv.Tryd
open Go.Proofs Go.Pv
theorem woy : wnu G := by
 intro g x h
 simp only [G, List.mem_singleton, Prod.mk.injEq] at h
 exact ⟨_, h.2⟩
theorem wpW {l : List Band} : ∀ x ∈ wab Band.pd l, noRef x = true := by
 intro x hx
 obtain ⟨b, _, rfl⟩ := List.mem_map.1 hx
 rfl
set_option maxHeartbeats 4000000 in
theorem wlr (k1 : Int) (t1 : (List Rule)) (r : ((List Rule) × Int)) (h : wcn k1 t1 = some r) : PureFn Tryd.prog G 41 [.d (.int .i64 k1), .b (.imm 2 (wab Rule.pd t1))] (.tuple [.d (.imm 2 (wab Rule.pd r.1)), .d (.int .i64 r.2)]) := by
 unfold wcn at h
 refine pf Tryd.func41 Tryd.ntmps41 ?_
 refine sg fun K k => ?_
 iterate 2 refine oo ?_
 refine AOps.nil (k _ ?_)
 refine AWp.seq fun _ K_1 => ?_
 refine sg fun K k => ?_
 obtain ⟨r1, hx_2, h⟩ := bind_some h
 refine AOps.bare woy [(0, .d (.int .i64 k1)), (1, .d (.imm 2 (wab Rule.pd t1)))] [(0, .d (.int .i64 k1)), (1, .b (.imm 2 (wab Rule.pd t1))), (6, .d (.int .i64 r1))] rfl rfl rfl ⟨.inl rfl, .inr rfl, trivial⟩ ?_ ?_
 ·iterate 2 refine oo ?_
  refine ol ?_
  refine cl (wee k1 [t1] _ hx_2) ?_
  refine oo ?_
  exact AOps.nil ⟨rfl, rfl, ⟨rfl, rfl⟩, rfl, ⟨rfl, rfl⟩, trivial⟩
 refine k _ ?_
 refine sg fun K k => ?_
 iterate 2 refine oo ?_
 refine AOps.nil (k _ ?_)
 refine cd h (fun h => ?_) (fun h => ?_)
 ·refine sg fun K k => ?_
  iterate 3 refine oo ?_
  refine AOps.nil (k _ ?_)
  refine AWp.ret ?_
  cases h; exact rt
 ·refine AWp.skip ?_
  refine K_1 _ ?_
  refine sg fun K k => ?_
  refine oo ?_
  refine AOps.nil (k _ ?_)
  refine AWp.sub (Sub.void 7 56 2 1000 (by rfl) (by rfl) (by decide) (by decide)) ?_
  simp only [wcK, waj, reduceCtorEq, ↓reduceIte, Nat.reduceAdd, Nat.reduceMul, Nat.reduceLT, Nat.reduceLeDiff, Nat.reduceEqDiff, Nat.reduceBEq, Int.reduceToNat]
  refine jn (α := (List Rule)) [0] [] (fun i t => (7, .slc 1000 0 i.length) :: t) (fun i t => (1000, ⟨56, 2, dl (wab Rule.pd i)⟩) :: t) h ?_ ?_
  ·intro _ hj_5
   refine sg fun K k => ?_
   iterate 3 refine oo ?_
   refine AOps.nil (k _ ?_)
   refine AWp.block ?_
   obtain ⟨x_10, hl_7, h2_8⟩ := bind_some hj_5
   refine lp (S := (Int × (List Rule))) [0, 21, 22] [] (fun i t => (7, .slc 1000 0 i.2.length) :: (23, .d (.int .i64 i.1)) :: t) (fun i t => (1000, ⟨56, 2, dl (wab Rule.pd i.2)⟩) :: t) hl_7 ?_ ?_; exact sb; clear hl_7
   rintro ⟨v1, L2⟩ _ hb_9; unfold wcR at hb_9; try dsimp only at hb_9
   try dsimp only
   refine sg fun K k => ?_
   refine oo ?_
   refine AOps.nil (k _ ?_)
   refine AWp.seq fun _ K_12 => ?_
   refine cd hb_9 (fun hb_9 => ?_) (fun hb_9 => ?_)
   ·refine AWp.skip ?_
    refine K_12 _ ?_
    refine AWp.seq fun _ K_14 => ?_
    refine AWp.block ?_
    refine sg fun K k => ?_
    obtain ⟨e1, ⟨f_15, f_16, f_17, f_18⟩, hb_9⟩ := wak hb_9
    refine oo ?_
    refine oo ?_ (by intro K k; simp (disch := omega) only [go_sem, f_17, ↓reduceIte]; exact k)
    iterate 2 refine oo ?_
    refine AOps.nil (k _ ?_)
    refine AWp.draw mo [] trivial ?_
    iterate 3 refine dd ?_
    obtain ⟨r2, hx_19, hb_9⟩ := bind_some hb_9
    refine dcl (RowFn.pure (RowFn.bor woy (wr7 e1.Bands _ hx_19) wpW (by decide) rfl (args' := [.b (.imm 2 (wab Band.pd e1.Bands))]) ⟨.inr ⟨_, rfl, rfl⟩, trivial⟩)) ?_ (ha := by (constructor; exact Or.inl rfl; exact trivial))
    iterate 3 refine dd ?_
    refine ddl ?_
    refine DOps.stop (by kernel_rfl) ?_
    obtain ⟨hg_20, hb_9⟩ := wae hb_9
    iterate 2 refine oo ?_
    refine AOps.nil ?_
    refine K_14 _ ?_
    refine AWp.reg ?_
    iterate 2 refine oo ?_
    refine AOps.nil ?_
    exact ln hb_9 sb
   ·refine AWp.exit ?_
    refine lx hb_9 fun hx => ?_; cases hx; try dsimp only at h2_8
    cases h2_8; exact sb
  ·rintro L1 h; dsimp only at h ⊢
   refine jn (α := (List Rule)) [] [] (fun i t => (7, .d (.imm 2 (wab Rule.pd i))) :: t) (fun i t => t) h ?_ ?_
   ·intro _ hj_22
    refine sg fun K k => ?_
    iterate 4 refine oo ?_
    refine AOps.nil (k _ ?_)
    refine AWp.block ?_
    obtain ⟨x_27, hl_24, h2_25⟩ := bind_some hj_22
    refine lp (S := ((List Rule) × Int)) [0] [] (fun i t => (7, .d (.imm 2 (wab Rule.pd i.1))) :: (10, .d (.int .i64 i.2)) :: t) (fun i t => t) hl_24 ?_ ?_; exact sc; clear hl_24
    rintro ⟨out2, i1⟩ _ hb_26; unfold wbf at hb_26; try dsimp only at hb_26
    try dsimp only
    refine AWp.seq fun _ K_29 => ?_
    refine sg fun K k => ?_
    iterate 2 refine oo ?_
    refine AOps.nil (k _ ?_)
    refine cd hb_26 (fun hb_26 => ?_) (fun hb_26 => ?_)
    ·refine AWp.skip ?_
     refine K_29 _ ?_
     refine jn (α := (List Rule)) [0, 10] [] (fun i t => (7, .d (.imm 2 (wab Rule.pd i))) :: t) (fun i t => t) hb_26 ?_ ?_
     ·intro _ hj_32
      refine AWp.block ?_
      refine sg fun K k => ?_
      refine oo ?_
      obtain ⟨r3, hx_33, hj_32⟩ := bind_some hj_32
      refine wqF 1000 (wr8 out2 _ hx_33) ?_
      obtain ⟨hg_34, hj_32⟩ := wae hj_32
      iterate 3 refine oo ?_
      refine clH 1000 (wpV r3 i1 (IntKind.i64.wrap (i1 + 1)) hg_34) ?_
      refine AOps.sub (τ := ⟨[(0, .d (.int .i64 k1)), (7, .d (.imm 2 (wab Rule.pd out2))), (10, .d (.int .i64 i1)), (49, .d (.imm 2 (wab Rule.pd (List.take (wh4 r3 i1 (IntKind.i64.wrap (i1 + 1))) (wf3 r3 i1 (IntKind.i64.wrap (i1 + 1)))))))], [], [], none⟩) sct ?_
      refine oo ?_
      refine AOps.nil (k _ ?_)
      refine sg fun K k => ?_
      iterate 3 refine oo ?_
      obtain ⟨r4, hx_35, hj_32⟩ := bind_some hj_32
      refine cl (wk2 k1 out2 (List.take (wh4 r3 i1 (IntKind.i64.wrap (i1 + 1))) (wf3 r3 i1 (IntKind.i64.wrap (i1 + 1)))) _ hx_35) ?_
      iterate 5 refine oo ?_
      refine AOps.nil (k _ ?_)
      refine sg fun K k => ?_
      iterate 2 refine oo ?_
      refine AOps.nil (k _ ?_)
      refine cd hj_32 (fun hj_32 => ?_) (fun hj_32 => ?_)
      ·refine AWp.reg ?_
       iterate 2 refine oo ?_
       refine AOps.nil ?_
       cases hj_32; exact sb
      ·refine AWp.skip ?_
       cases hj_32; exact sb
     ·rintro out3 hb_26; dsimp only at hb_26 ⊢
      refine AWp.reg ?_
      iterate 3 refine oo ?_
      refine AOps.nil ?_
      exact ln hb_26 sb
    ·refine AWp.exit ?_
     refine lx hb_26 fun hx => ?_; cases hx; try dsimp only at h2_25
     cases h2_25; exact sb
   ·rintro out1 h; dsimp only at h ⊢
    refine sg fun K k => ?_
    iterate 3 refine oo ?_
    refine AOps.nil (k _ ?_)
    refine AWp.ret ?_
    cases h; exact rt
end Go.Pv.Tryd

namespace Go.Pv.Tryd
open Go.Proofs Go.Pv
theorem wiT (set1 : Int) (r : Int) (h : wdp set1 = some r) : PureFn Tryd.prog G 83 [.d (.int .i64 set1)] (.d (.int .i64 r)) := by
 unfold wdp at h
 refine pf Tryd.func83 Tryd.ntmps83 ?_
 refine sg fun K k => ?_
 refine oo ?_
 refine AOps.nil (k _ ?_)
 refine AWp.seq fun _ K_1 => ?_
 refine sg fun K k => ?_
 iterate 2 refine oo ?_
 refine AOps.nil (k _ ?_)
 refine cd h (fun h => ?_) (fun h => ?_)
 ·refine sg fun K k => ?_
  refine oo ?_
  refine AOps.nil (k _ ?_)
  refine AWp.ret ?_
  cases h; exact rt
 ·refine AWp.skip ?_
  refine K_1 _ ?_
  refine sg fun K k => ?_
  refine oo ?_
  refine AOps.nil (k _ ?_)
  refine jn (α := Int) [] [] (fun i t => (3, .d (.int .i64 i)) :: t) (fun i t => t) h ?_ ?_
  ·intro _ hj_4
   refine AWp.block ?_
   obtain ⟨x_9, hl_6, h2_7⟩ := bind_some hj_4
   refine lp (S := Int) [0] [] (fun i t => (3, .d (.int .i64 i)) :: t) (fun i t => t) hl_6 ?_ ?_; exact sb; clear hl_6
   rintro i2 _ hb_8; unfold wcE at hb_8; try dsimp only at hb_8
   try dsimp only
   refine AWp.seq fun _ K_11 => ?_
   refine sg fun K k => ?_
   obtain ⟨hg_12, hb_8⟩ := wae hb_8
   iterate 5 refine oo ?_
   refine AOps.nil (k _ ?_)
   refine cd hb_8 (fun hb_8 => ?_) (fun hb_8 => ?_)
   ·refine AWp.skip ?_
    refine K_11 _ ?_
    refine AWp.block ?_
    refine AWp.reg ?_
    iterate 3 refine oo ?_
    refine AOps.nil ?_
    exact ln hb_8 sb
   ·refine AWp.exit ?_
    refine lx hb_8 fun hx => ?_; cases hx; try dsimp only at h2_7
    cases h2_7; exact sb
  ·rintro i1 h; dsimp only at h ⊢
   refine sg fun K k => ?_
   iterate 2 refine oo ?_
   refine AOps.nil (k _ ?_)
   refine AWp.ret ?_
   cases h; exact rt
end Go.Pv.Tryd

namespace Go.Pv.Tryd
open Go.Proofs Go.Pv
theorem wgf (t1 : (List Rule)) (set1 : Int) (r : Int) (h : wc0 t1 set1 = some r) : PureFn Tryd.prog G 96 [.d (.imm 2 (wab Rule.pd t1)), .d (.int .i64 set1)] (.d (.int .i64 r)) := by
 unfold wc0 at h
 refine pf Tryd.func96 Tryd.ntmps96 ?_
 refine sg fun K k => ?_
 refine oo ?_
 refine AOps.nil (k _ ?_)
 refine sg fun K k => ?_
 refine oo ?_
 obtain ⟨r1, hx_1, h⟩ := bind_some h
 refine cl (wiT set1 _ hx_1) ?_
 refine oo ?_
 refine AOps.nil (k _ ?_)
 refine AWp.seq fun _ K_2 => ?_
 refine sg fun K k => ?_
 iterate 2 refine oo ?_
 refine AOps.nil (k _ ?_)
 refine cd h (fun h => ?_) (fun h => ?_)
 ·refine sg fun K k => ?_
  refine oo ?_
  refine AOps.nil (k _ ?_)
  refine AWp.ret ?_
  cases h; exact rt
 ·refine AWp.skip ?_
  refine K_2 _ ?_
  refine sg fun K k => ?_
  obtain ⟨e1, ⟨f_4, f_5, f_6, f_7⟩, h⟩ := wak h
  iterate 4 refine oo ?_
  refine oo ?_ (by intro K k; simp (disch := omega) only [go_sem, f_6, ↓reduceIte]; exact k)
  refine oo ?_
  refine AOps.nil (k _ ?_)
  refine AWp.ret ?_
  cases h; exact rt
end Go.Pv.Tryd

namespace Go.Pv.Tryd
open Go.Proofs Go.Pv
theorem wgg (k1 : Arr3_Int) (r : Int) (h : wcY k1 = some r) : PureFn Tryd.prog G 107 [.d (.agg [(.int .i64 k1.c0), (.int .i64 k1.c1), (.int .i64 k1.c2)])] (.d (.int .i64 r)) := by
 unfold wcY at h
 refine pf Tryd.func107 Tryd.ntmps107 ?_
 refine sg fun K k => ?_
 iterate 2 refine oo ?_
 refine AOps.nil (k _ ?_)
 refine sg fun K k => ?_
 iterate 15 refine oo ?_
 refine AOps.nil (k _ ?_)
 refine AWp.ret ?_
 cases h; exact rt
end Go.Pv.Tryd

namespace Go.Pv.Tryd
open Go.Proofs Go.Pv
theorem wgq (o1 : Compare) (k1 : Arr3_Int) (r : (Int × Compare)) (h : wbN o1 k1 = some r) : ObjFn Tryd.prog G 84 [.ptr 0 0 3, .d (.agg [(.int .i64 k1.c0), (.int .i64 k1.c1), (.int .i64 k1.c2)])] [(0, ⟨102, 6, [.agg [.d (.int .i64 o1.k), .d (.imm 2 (wab Rule.pd o1.s)), .d (.imm 2 (wab Rule.pd o1.t)), .slc 1001 0 o1.alike.heads.length, .slc 1002 0 o1.alike.next.length, .slc 1003 0 o1.alike.keys.length]]⟩), (1001, ⟨3, 1, dl (wab (PD.int .i64) o1.alike.heads)⟩), (1002, ⟨3, 1, dl (wab (PD.int .i64) o1.alike.next)⟩), (1003, ⟨120, 3, dl (wab Arr3_Int.pd o1.alike.keys)⟩)] (.d (.int .i64 r.1)) [(0, ⟨102, 6, [.agg [.d (.int .i64 r.2.k), .d (.imm 2 (wab Rule.pd r.2.s)), .d (.imm 2 (wab Rule.pd r.2.t)), .slc 1001 0 r.2.alike.heads.length, .slc 1002 0 r.2.alike.next.length, .slc 1003 0 r.2.alike.keys.length]]⟩), (1001, ⟨3, 1, dl (wab (PD.int .i64) r.2.alike.heads)⟩), (1002, ⟨3, 1, dl (wab (PD.int .i64) r.2.alike.next)⟩), (1003, ⟨120, 3, dl (wab Arr3_Int.pd r.2.alike.keys)⟩)] := by
 unfold wbN at h
 refine ObjFn.pf Tryd.func84 Tryd.ntmps84 ?_
 refine sg fun K k => ?_
 iterate 2 refine oo ?_
 refine AOps.nil (k _ ?_)
 refine AWp.seq fun _ K_1 => ?_
 refine sg fun K k => ?_
 iterate 6 refine oo ?_
 refine AOps.nil (k _ ?_)
 refine cd h (fun h => ?_) (fun h => ?_)
 ·refine sg fun K k => ?_
  refine oo ?_
  refine AOps.nil (k _ ?_)
  refine AWp.ret ?_
  cases h; exact rtO
 ·refine AWp.skip ?_
  refine K_1 _ ?_
  refine sd mo fun K k => ?_
  iterate 5 refine dd ?_
  obtain ⟨r1, hx_3, h⟩ := bind_some h
  refine dcl (wgg k1 _ hx_3) ?_
  obtain ⟨e1, ⟨f_4, f_5, f_6, f_7⟩, h⟩ := wak h
  refine dd ?_
  refine dd ?_ (by intro K k; simp (disch := omega) only [go_sem, f_6, ↓reduceIte]; exact k)
  refine dd ?_
  refine DOps.nil (by kernel_rfl) (k _ ?_)
  refine jn (α := Int) [] [0, 1001, 1002, 1003] (fun i t => (5, .d (.int .i64 i)) :: t) (fun i t => t) h ?_ ?_
  ·intro _ hj_9
   refine AWp.block ?_
   obtain ⟨x_14, hl_11, h2_12⟩ := bind_some hj_9
   refine lp (S := Int) [0, 3] [0, 1001, 1002, 1003, 1004] (fun i t => (5, .d (.int .i64 i)) :: t) (fun i t => t) hl_11 ?_ ?_; exact sb; clear hl_11
   rintro i2 _ hb_13; unfold wa5 at hb_13; try dsimp only at hb_13
   try dsimp only
   refine AWp.seq fun _ K_16 => ?_
   refine sd mo fun K k => ?_
   iterate 3 refine dd ?_
   rcases bt (decide (0 ≤ i2)) with hg_17 | hg_17
   ·rw [hg_17]
    rw [hg_17, cond_true] at hb_13
    obtain ⟨e2, ⟨f_18, f_19, f_20, f_21⟩, hb_13⟩ := wak hb_13
    iterate 6 refine dd ?_
    refine dd ?_ (by intro K k; simp (disch := omega) only [go_sem, f_20, ↓reduceIte]; exact k)
    refine dd ?_
    refine ddx ?_
    refine dd ?_
    refine DOps.nil (by kernel_rfl) (k _ ?_)
    refine cd hb_13 (fun hb_13 => ?_) (fun hb_13 => ?_)
    ·refine AWp.skip ?_
     refine K_16 _ ?_
     refine AWp.block ?_
     refine AWp.reg ?_
     obtain ⟨e3, ⟨f_23, f_24, f_25, f_26⟩, hb_13⟩ := wak hb_13
     iterate 6 refine oo ?_
     refine oo ?_ (by intro K k; simp (disch := omega) only [go_sem, f_25, ↓reduceIte]; exact k)
     refine oo ?_
     refine AOps.nil ?_
     exact ln hb_13 sb
    ·refine AWp.exit ?_
     refine lx hb_13 fun hx => ?_; cases hx; try dsimp only at h2_12
     cases h2_12; exact sb
   ·rw [hg_17]
    rw [hg_17, cond_false] at hb_13
    iterate 10 refine dd ?_
    refine DOps.nil (by kernel_rfl) (k _ ?_)
    refine cdf ?_
    refine AWp.exit ?_
    refine lx hb_13 fun hx => ?_; cases hx; try dsimp only at h2_12
    cases h2_12; exact sb
  ·rintro i1 h; dsimp only at h ⊢
   refine sg fun K k => ?_
   iterate 2 refine oo ?_
   refine AOps.nil (k _ ?_)
   refine AWp.ret ?_
   cases h; exact rtO
end Go.Pv.Tryd

namespace Go.Pv.Tryd
open Go.Proofs Go.Pv
theorem wgh (t1 : (List Rule)) (mark1 : Int) (set1 : Int) (value1 : Int) (r : Int) (h : waV t1 mark1 set1 value1 = some r) : PureFn Tryd.prog G 54 [.d (.imm 2 (wab Rule.pd t1)), .d (.int .i64 mark1), .d (.int .i64 set1), .d (.int .i64 value1)] (.d (.int .i64 r)) := by
 unfold waV at h
 refine pf Tryd.func54 Tryd.ntmps54 ?_
 refine sg fun K k => ?_
 refine oo ?_
 refine AOps.nil (k _ ?_)
 refine sg fun K k => ?_
 refine oo ?_
 refine AOps.nil (k _ ?_)
 refine jn (α := Int) [] [] (fun i t => (9, .d (.int .i64 i)) :: t) (fun i t => t) h ?_ ?_
 ·intro _ hj_2
  refine sg fun K k => ?_
  refine oo ?_
  refine AOps.nil (k _ ?_)
  refine AWp.block ?_
  obtain ⟨x_7, hl_4, h2_5⟩ := bind_some hj_2
  refine lp (S := (Int × Int)) [0, 1, 2, 3] [] (fun i t => (9, .d (.int .i64 i.1)) :: (10, .d (.int .i64 i.2)) :: t) (fun i t => t) hl_4 ?_ ?_; exact sb; clear hl_4
  rintro ⟨out2, i1⟩ _ hb_6; unfold wcZ at hb_6; try dsimp only at hb_6
  try dsimp only
  refine AWp.seq fun _ K_9 => ?_
  refine sg fun K k => ?_
  iterate 4 refine oo ?_
  refine AOps.nil (k _ ?_)
  refine cd hb_6 (fun hb_6 => ?_) (fun hb_6 => ?_)
  ·refine AWp.skip ?_
   refine K_9 _ ?_
   refine jn (α := Int) [0, 1, 2, 3, 10] [] (fun i t => (9, .d (.int .i64 i)) :: t) (fun i t => t) hb_6 ?_ ?_
   ·intro _ hj_12
    refine AWp.block ?_
    refine sg fun K k => ?_
    obtain ⟨hg_13, hj_12⟩ := wae hj_12
    iterate 6 refine oo ?_
    obtain ⟨b1, hc_14, hj_12⟩ := bind_some hj_12
    refine ct 12 [0, 1, 2, 3, 9, 10] [] (fun  t => (34, .d (.bool b1)) :: t) ?_ ?_
    ·rcases bt (decide (((set1.fdiv (2 ^ (min (i1).toNat 64))).tmod 2) = 1)) with hg_23 | hg_23
     ·rw [hg_23]
      rw [hg_23, cond_true] at hc_14
      obtain ⟨e1, ⟨f_15, f_16, f_17, f_18⟩, hc_14⟩ := wak hc_14
      iterate 5 refine oo ?_
      refine oo ?_ (by intro K k; simp (disch := omega) only [go_sem, f_17, ↓reduceIte]; exact k)
      obtain ⟨e2, ⟨f_19, f_20, f_21, f_22⟩, hc_14⟩ := wak hc_14
      iterate 3 refine oo ?_
      refine oo ?_ (by intro K k; simp (disch := omega) only [go_sem, f_21, ↓reduceIte]; exact k)
      iterate 2 refine oo ?_
      refine AOps.nil ?_
      cases hc_14
      exact sb
     ·rw [hg_23]
      rw [hg_23, cond_false] at hc_14
      iterate 12 refine oo ?_
      refine AOps.nil ?_
      cases hc_14
      exact sb
    refine oo ?_
    obtain ⟨b2, hc_24, hj_12⟩ := bind_some hj_12
    refine ct 12 [0, 1, 2, 3, 9, 10] [] (fun  t => (47, .d (.bool b2)) :: t) ?_ ?_
    ·rcases bt b1 with hg_33 | hg_33
     ·rw [hg_33]
      rw [hg_33, cond_true] at hc_24
      obtain ⟨e3, ⟨f_25, f_26, f_27, f_28⟩, hc_24⟩ := wak hc_24
      iterate 5 refine oo ?_
      refine oo ?_ (by intro K k; simp (disch := omega) only [go_sem, f_27, ↓reduceIte]; exact k)
      obtain ⟨e4, ⟨f_29, f_30, f_31, f_32⟩, hc_24⟩ := wak hc_24
      iterate 3 refine oo ?_
      refine oo ?_ (by intro K k; simp (disch := omega) only [go_sem, f_31, ↓reduceIte]; exact k)
      iterate 2 refine oo ?_
      refine AOps.nil ?_
      cases hc_24
      exact sb
     ·rw [hg_33]
      rw [hg_33, cond_false] at hc_24
      iterate 12 refine oo ?_
      refine AOps.nil ?_
      cases hc_24
      exact sb
    refine AOps.nil (k _ ?_)
    refine cd hj_12 (fun hj_12 => ?_) (fun hj_12 => ?_)
    ·refine AWp.reg ?_
     obtain ⟨hg_35, hj_12⟩ := wae hj_12
     iterate 5 refine oo ?_
     refine AOps.nil ?_
     cases hj_12; exact sb
    ·refine AWp.skip ?_
     cases hj_12; exact sb
   ·rintro out3 hb_6; dsimp only at hb_6 ⊢
    refine AWp.reg ?_
    iterate 3 refine oo ?_
    refine AOps.nil ?_
    exact ln hb_6 sb
  ·refine AWp.exit ?_
   refine lx hb_6 fun hx => ?_; cases hx; try dsimp only at h2_5
   cases h2_5; exact sb
 ·rintro out1 h; dsimp only at h ⊢
  refine sg fun K k => ?_
  iterate 2 refine oo ?_
  refine AOps.nil (k _ ?_)
  refine AWp.ret ?_
  cases h; exact rt
end Go.Pv.Tryd

namespace Go.Pv.Tryd
open Go.Proofs Go.Pv
theorem wgJ (o1 : Compare) (k1 : Arr3_Int) (r : Compare) (h : wbo o1 k1 = some r) : ObjFn Tryd.prog G 85 [.ptr 0 0 3, .d (.agg [(.int .i64 k1.c0), (.int .i64 k1.c1), (.int .i64 k1.c2)])] [(0, ⟨102, 6, [.agg [.d (.int .i64 o1.k), .d (.imm 2 (wab Rule.pd o1.s)), .d (.imm 2 (wab Rule.pd o1.t)), .slc 1001 0 o1.alike.heads.length, .slc 1002 0 o1.alike.next.length, .slc 1003 0 o1.alike.keys.length]]⟩), (1001, ⟨3, 1, dl (wab (PD.int .i64) o1.alike.heads)⟩), (1002, ⟨3, 1, dl (wab (PD.int .i64) o1.alike.next)⟩), (1003, ⟨120, 3, dl (wab Arr3_Int.pd o1.alike.keys)⟩)] (.tuple []) [(0, ⟨102, 6, [.agg [.d (.int .i64 r.k), .d (.imm 2 (wab Rule.pd r.s)), .d (.imm 2 (wab Rule.pd r.t)), .slc 1001 0 r.alike.heads.length, .slc 1002 0 r.alike.next.length, .slc 1003 0 r.alike.keys.length]]⟩), (1001, ⟨3, 1, dl (wab (PD.int .i64) r.alike.heads)⟩), (1002, ⟨3, 1, dl (wab (PD.int .i64) r.alike.next)⟩), (1003, ⟨120, 3, dl (wab Arr3_Int.pd r.alike.keys)⟩)] := by
 unfold wbo at h
 refine ObjFn.pf Tryd.func85 Tryd.ntmps85 ?_
 refine sg fun K k => ?_
 refine oo ?_
 refine AOps.nil (k _ ?_)
 refine jn (α := (List Int)) [0, 3] [1002, 1003, 1004] (fun i t => t) (fun i t => (0, ⟨102, 6, [.agg [.d (.int .i64 o1.k), .d (.imm 2 (wab Rule.pd o1.s)), .d (.imm 2 (wab Rule.pd o1.t)), .slc 1001 0 i.length, .slc 1002 0 o1.alike.next.length, .slc 1003 0 o1.alike.keys.length]]⟩) :: (1001, ⟨3, 1, dl (wab (PD.int .i64) i)⟩) :: t) h ?_ ?_
 ·intro _ hj_2
  refine AWp.block ?_
  obtain ⟨x_7, hl_4, h2_5⟩ := bind_some hj_2
  refine lp (S := (List Int)) [0, 3] [1002, 1003, 1004] (fun i t => t) (fun i t => (0, ⟨102, 6, [.agg [.d (.int .i64 o1.k), .d (.imm 2 (wab Rule.pd o1.s)), .d (.imm 2 (wab Rule.pd o1.t)), .slc 1001 0 i.length, .slc 1002 0 o1.alike.next.length, .slc 1003 0 o1.alike.keys.length]]⟩) :: (1001, ⟨3, 1, dl (wab (PD.int .i64) i)⟩) :: t) hl_4 ?_ ?_; exact sb; clear hl_4
  rintro L2 _ hb_6; unfold wa9 at hb_6; try dsimp only at hb_6
  try dsimp only
  refine AWp.seq fun _ K_9 => ?_
  refine sg fun K k => ?_
  iterate 6 refine oo ?_
  refine AOps.nil (k _ ?_)
  refine cd hb_6 (fun hb_6 => ?_) (fun hb_6 => ?_)
  ·refine AWp.skip ?_
   refine K_9 _ ?_
   refine AWp.block ?_
   refine AWp.reg ?_
   iterate 5 refine oo ?_
   refine ol ?_
   obtain ⟨hg_11, hb_6⟩ := wae hb_6
   iterate 4 refine oo ?_
   refine AOps.nil ?_
   exact ln hb_6 sb
  ·refine AWp.exit ?_
   refine lx hb_6 fun hx => ?_; cases hx; try dsimp only at h2_5
   cases h2_5; exact sb
 ·rintro L1 h; dsimp only at h ⊢
  refine sg fun K k => ?_
  refine oo ?_
  obtain ⟨r1, hx_12, h⟩ := bind_some h
  refine cl (wgg k1 _ hx_12) ?_
  refine oo ?_
  refine AOps.nil (k _ ?_)
  refine sdX mo [(1003, [26, 29, 1000000])] fun K k => ?_
  iterate 6 (refine dd ?_ (by intro K k; simp (disch := omega) only [go_sem, true_or, or_true, and_self, true_and, and_true, ↓reduceIte]; exact k))
  refine ddl ?_ (by intro K k; simp (disch := omega) only [go_sem, true_or, or_true, and_self, true_and, and_true, ↓reduceIte]; exact k)
  obtain ⟨hg_13, h⟩ := wae h
  refine wnl [26, 29, 1000000] [(0, ⟨102, 6, [.agg [.d (.int .i64 o1.k), .d (.imm 2 (wab Rule.pd o1.s)), .d (.imm 2 (wab Rule.pd o1.t)), .slc 1001 0 L1.length, .slc 1002 0 o1.alike.next.length, .slc 1003 0 o1.alike.keys.length]]⟩)] (dl (wab Arr3_Int.pd [k1])) se76 ?_
  iterate 3 (refine dd ?_ (by intro K k; simp (disch := omega) only [go_sem, true_or, or_true, and_self, true_and, and_true, ↓reduceIte]; exact k))
  refine DOps.nil (by kernel_rfl) (k _ ?_)
  refine sdX mo [(1002, [36, 45, 1000000])] fun K k => ?_
  obtain ⟨e1, ⟨f_14, f_15, f_16, f_17⟩, h⟩ := wak h
  iterate 11 (refine dd ?_ (by intro K k; simp (disch := omega) only [go_sem, true_or, or_true, and_self, true_and, and_true, ↓reduceIte]; exact k))
  refine dd ?_ (by intro K k; simp (disch := omega) only [go_sem, f_16, true_or, or_true, and_self, true_and, and_true, ↓reduceIte]; exact k)
  refine ddl ?_ (by intro K k; simp (disch := omega) only [go_sem, true_or, or_true, and_self, true_and, and_true, ↓reduceIte]; exact k)
  obtain ⟨hg_18, h⟩ := wae h
  refine wnl [36, 45, 1000000] [(0, ⟨102, 6, [.agg [.d (.int .i64 o1.k), .d (.imm 2 (wab Rule.pd o1.s)), .d (.imm 2 (wab Rule.pd o1.t)), .slc 1001 0 L1.length, .slc 1002 0 o1.alike.next.length, .slc 1003 0 (o1.alike.keys.length + [k1].length)]]⟩)] (dl (wab (PD.int .i64) [e1])) se26 ?_
  iterate 3 (refine dd ?_ (by intro K k; simp (disch := omega) only [go_sem, true_or, or_true, and_self, true_and, and_true, ↓reduceIte]; exact k))
  refine DOps.nil (by kernel_rfl) (k _ ?_)
  refine AWp.draw mo [] trivial ?_
  obtain ⟨e2, ⟨f_19, f_20, f_21, f_22⟩, h⟩ := wak h
  iterate 12 refine dd ?_
  refine dd ?_ (by intro K k; simp (disch := omega) only [go_sem, f_21, ↓reduceIte]; exact k)
  refine DOps.nil (by kernel_rfl) ?_
  cases h; exact rtO
end Go.Pv.Tryd

namespace Go.Pv.Tryd
open Go.Proofs Go.Pv
set_option maxHeartbeats 4000000 in
theorem wfV (n : Nat) : ∀ (o1 : Compare) (mark1 : Int) (a1 : Int) (b1 : Int) (r : ((List Int) × Bool × Compare)) (h : waw n o1 mark1 a1 b1 = some r), ObjFn Tryd.prog G 62 [.ptr 0 0 0, .d (.int .i64 mark1), .d (.int .i64 a1), .d (.int .i64 b1)] [(0, ⟨102, 6, [.agg [.d (.int .i64 o1.k), .d (.imm 2 (wab Rule.pd o1.s)), .d (.imm 2 (wab Rule.pd o1.t)), .slc 1001 0 o1.alike.heads.length, .slc 1002 0 o1.alike.next.length, .slc 1003 0 o1.alike.keys.length]]⟩), (1001, ⟨3, 1, dl (wab (PD.int .i64) o1.alike.heads)⟩), (1002, ⟨3, 1, dl (wab (PD.int .i64) o1.alike.next)⟩), (1003, ⟨120, 3, dl (wab Arr3_Int.pd o1.alike.keys)⟩)] (.tuple [.d (.imm 1 (wab (PD.int .i64) r.1)), .d (.bool r.2.1)]) [(0, ⟨102, 6, [.agg [.d (.int .i64 r.2.2.k), .d (.imm 2 (wab Rule.pd r.2.2.s)), .d (.imm 2 (wab Rule.pd r.2.2.t)), .slc 1001 0 r.2.2.alike.heads.length, .slc 1002 0 r.2.2.alike.next.length, .slc 1003 0 r.2.2.alike.keys.length]]⟩), (1001, ⟨3, 1, dl (wab (PD.int .i64) r.2.2.alike.heads)⟩), (1002, ⟨3, 1, dl (wab (PD.int .i64) r.2.2.alike.next)⟩), (1003, ⟨120, 3, dl (wab Arr3_Int.pd r.2.2.alike.keys)⟩)] := by
 induction n with
 | zero => intro o1 mark1 a1 b1 r h; cases h
 | succ n ih =>
  intro o1 mark1 a1 b1 r h
  replace h : waM (waw n) o1 mark1 a1 b1 = some r := h
  unfold waM at h
  refine ObjFn.pf Tryd.func62 Tryd.ntmps62 ?_
  refine sg fun K k => ?_
  iterate 2 refine oo ?_
  refine AOps.nil (k _ ?_)
  refine AWp.seq fun _ K_1 => ?_
  refine sg fun K k => ?_
  iterate 6 refine oo ?_
  refine AOps.nil (k _ ?_)
  refine cd h (fun h => ?_) (fun h => ?_)
  ·refine sd mo fun K k => ?_
   iterate 5 refine dd ?_
   obtain ⟨r1, hx_3, h⟩ := bind_some h
   refine dcl (wgf o1.s a1 _ hx_3) ?_
   iterate 5 refine dd ?_
   obtain ⟨r2, hx_4, h⟩ := bind_some h
   refine dcl (wgf o1.t b1 _ hx_4) ?_
   iterate 3 refine dd ?_
   refine DOps.nil (by kernel_rfl) (k _ ?_)
   refine AWp.sub (τ := ⟨[(8, .d (.imm 1 (wab (PD.int .i64) []))), (9, .d (.bool (decide (¬r1 = r2))))], [(0, ⟨102, 6, [.agg [.d (.int .i64 o1.k), .d (.imm 2 (wab Rule.pd o1.s)), .d (.imm 2 (wab Rule.pd o1.t)), .slc 1001 0 o1.alike.heads.length, .slc 1002 0 o1.alike.next.length, .slc 1003 0 o1.alike.keys.length]]⟩), (1001, ⟨3, 1, dl (wab (PD.int .i64) o1.alike.heads)⟩), (1002, ⟨3, 1, dl (wab (PD.int .i64) o1.alike.next)⟩), (1003, ⟨120, 3, dl (wab Arr3_Int.pd o1.alike.keys)⟩)], [], none⟩) sc ?_
   refine AWp.ret ?_
   cases h; exact rtO
  ·refine AWp.skip ?_
   refine K_1 _ ?_
   refine AWp.seq fun _ K_5 => ?_
   refine sg fun K k => ?_
   iterate 7 refine oo ?_
   refine AOps.sub (τ := ⟨[(0, .ptr 0 0 0), (1, .d (.int .i64 mark1)), (2, .d (.int .i64 a1)), (3, .d (.int .i64 b1)), (38, .ptr 0 0 3), (42, .d (.agg [(.int .i64 mark1), (.int .i64 a1), (.int .i64 b1)]))], [(0, ⟨102, 6, [.agg [.d (.int .i64 o1.k), .d (.imm 2 (wab Rule.pd o1.s)), .d (.imm 2 (wab Rule.pd o1.t)), .slc 1001 0 o1.alike.heads.length, .slc 1002 0 o1.alike.next.length, .slc 1003 0 o1.alike.keys.length]]⟩), (1001, ⟨3, 1, dl (wab (PD.int .i64) o1.alike.heads)⟩), (1002, ⟨3, 1, dl (wab (PD.int .i64) o1.alike.next)⟩), (1003, ⟨120, 3, dl (wab Arr3_Int.pd o1.alike.keys)⟩)], [], none⟩) sb ?_
   obtain ⟨r3, hx_6, h⟩ := bind_some h
   refine clU [(0, 0), (1001, 1001), (1002, 1002), (1003, 1003)] [1001, 1002, 1003] (wgq o1 (⟨mark1, a1, b1⟩ : Arr3_Int) _ hx_6) ?_
   refine oo ?_
   refine AOps.nil (k _ ?_)
   refine cd h (fun h => ?_) (fun h => ?_)
   ·refine sg fun K k => ?_
    iterate 2 refine oo ?_
    refine AOps.nil (k _ ?_)
    refine AWp.sub (τ := ⟨[(8, .d (.imm 1 (wab (PD.int .i64) []))), (9, .d (.bool false))], [(0, ⟨102, 6, [.agg [.d (.int .i64 r3.2.k), .d (.imm 2 (wab Rule.pd r3.2.s)), .d (.imm 2 (wab Rule.pd r3.2.t)), .slc 1001 0 r3.2.alike.heads.length, .slc 1002 0 r3.2.alike.next.length, .slc 1003 0 r3.2.alike.keys.length]]⟩), (1001, ⟨3, 1, dl (wab (PD.int .i64) r3.2.alike.heads)⟩), (1002, ⟨3, 1, dl (wab (PD.int .i64) r3.2.alike.next)⟩), (1003, ⟨120, 3, dl (wab Arr3_Int.pd r3.2.alike.keys)⟩)], [], none⟩) sc ?_
    refine AWp.ret ?_
    cases h; exact rtO
   ·refine AWp.skip ?_
    refine K_5 _ ?_
    refine sd mo fun K k => ?_
    iterate 6 refine dd ?_
    obtain ⟨r4, hx_8, h⟩ := bind_some h
    refine dcl (weO r3.2.s mark1 a1 _ hx_8) ?_
    iterate 6 refine dd ?_
    obtain ⟨r5, hx_9, h⟩ := bind_some h
    refine dcl (weO r3.2.t mark1 b1 _ hx_9) ?_
    iterate 2 refine dd ?_
    refine DOps.nil (by kernel_rfl) (k _ ?_)
    refine jn (α := (List Int)) [0, 1, 2, 3] [0, 1001, 1002, 1003] (fun i t => (10, .d (.imm 1 (wab (PD.int .i64) i))) :: t) (fun i t => t) h ?_ ?_
    ·intro _ hj_11
     refine sg fun K k => ?_
     refine oo ?_
     refine AOps.nil (k _ ?_)
     refine AWp.block ?_
     obtain ⟨x_16, hl_13, h2_14⟩ := bind_some hj_11
     refine lp (S := ((List Int) × Int)) [0, 1, 2, 3, 11] [0, 1001, 1002, 1003] (fun i t => (10, .d (.imm 1 (wab (PD.int .i64) i.1))) :: (12, .d (.int .i64 i.2)) :: t) (fun i t => t) hl_13 ?_ ?_; exact sb; clear hl_13
     rintro ⟨l2, i1⟩ _ hb_15; unfold wbk at hb_15; try dsimp only at hb_15
     try dsimp only
     refine AWp.seq fun _ K_18 => ?_
     refine sg fun K k => ?_
     iterate 4 refine oo ?_
     refine AOps.nil (k _ ?_)
     refine cd hb_15 (fun hb_15 => ?_) (fun hb_15 => ?_)
     ·refine AWp.skip ?_
      refine K_18 _ ?_
      refine AWp.seq fun _ K_20 => ?_
      refine AWp.block ?_
      refine AWp.reg ?_
      obtain ⟨e1, ⟨f_21, f_22, f_23, f_24⟩, hb_15⟩ := wak hb_15
      iterate 4 refine oo ?_
      refine oo ?_ (by intro K k; simp (disch := omega) only [go_sem, f_23, ↓reduceIte]; exact k)
      obtain ⟨r6, hx_25, hb_15⟩ := bind_some hb_15
      refine cl (we8 l2 e1 _ hx_25) ?_
      refine oo ?_
      refine AOps.nil ?_
      refine K_20 _ ?_
      refine AWp.reg ?_
      iterate 3 refine oo ?_
      refine AOps.nil ?_
      exact ln hb_15 sb
     ·refine AWp.exit ?_
      refine lx hb_15 fun hx => ?_; cases hx; try dsimp only at h2_14
      cases h2_14; exact sb
    ·rintro l1 h; dsimp only at h ⊢
     refine sg fun K k => ?_
     refine oo ?_
     refine AOps.nil (k _ ?_)
     refine jm (ι := (Int × (List Rule) × (List Rule) × (List Int) × (List Int) × (List Arr3_Int))) [1, 2, 3] [] (fun i t => (0, .ptr 0 0 0) :: t) (fun i t => (0, ⟨102, 6, [.agg [.d (.int .i64 i.1), .d (.imm 2 (wab Rule.pd i.2.1)), .d (.imm 2 (wab Rule.pd i.2.2.1)), .slc 1001 0 i.2.2.2.1.length, .slc 1002 0 i.2.2.2.2.1.length, .slc 1003 0 i.2.2.2.2.2.length]]⟩) :: (1001, ⟨3, 1, dl (wab (PD.int .i64) i.2.2.2.1)⟩) :: (1002, ⟨3, 1, dl (wab (PD.int .i64) i.2.2.2.2.1)⟩) :: (1003, ⟨120, 3, dl (wab Arr3_Int.pd i.2.2.2.2.2)⟩) :: t) .inl h ?_ ?_
     ·intro _ hj_27 h
      refine sg fun K k => ?_
      refine oo ?_
      refine AOps.nil (k _ ?_)
      refine AWp.block ?_
      obtain ⟨x_32, hl_29, h2_30⟩ := bind_some hj_27
      refine lp (S := (Int × Int × Int × (List Rule) × (List Rule) × (List Int) × (List Int) × (List Arr3_Int))) [1, 2, 3, 10] [] (fun i t => (0, .ptr 0 0 0) :: (13, .d (.int .i64 i.1)) :: (14, .d (.int .i64 i.2.1)) :: t) (fun i t => (0, ⟨102, 6, [.agg [.d (.int .i64 i.2.2.1), .d (.imm 2 (wab Rule.pd i.2.2.2.1)), .d (.imm 2 (wab Rule.pd i.2.2.2.2.1)), .slc 1001 0 i.2.2.2.2.2.1.length, .slc 1002 0 i.2.2.2.2.2.2.1.length, .slc 1003 0 i.2.2.2.2.2.2.2.length]]⟩) :: (1001, ⟨3, 1, dl (wab (PD.int .i64) i.2.2.2.2.2.1)⟩) :: (1002, ⟨3, 1, dl (wab (PD.int .i64) i.2.2.2.2.2.2.1)⟩) :: (1003, ⟨120, 3, dl (wab Arr3_Int.pd i.2.2.2.2.2.2.2)⟩) :: t) hl_29 ?_ ?_; exact sb; clear hl_29
      rintro ⟨lo1, i2, c4, c5, c6, L4, L5, L6⟩ _ hb_31; unfold waY at hb_31; try dsimp only at hb_31
      try dsimp only
      refine AWp.seq fun _ K_34 => ?_
      refine sg fun K k => ?_
      iterate 4 refine oo ?_
      refine AOps.nil (k _ ?_)
      refine cd hb_31 (fun hb_31 => ?_) (fun hb_31 => ?_)
      ·refine AWp.skip ?_
       refine K_34 _ ?_
       refine AWp.seq fun _ K_36 => ?_
       refine AWp.block ?_
       refine sd mo fun K k => ?_
       iterate 10 refine dd ?_
       obtain ⟨r7, hx_37, hb_31⟩ := bind_some hb_31
       refine dcl (wgh c5 mark1 a1 lo1 _ hx_37) ?_
       iterate 7 refine dd ?_
       obtain ⟨r8, hx_38, hb_31⟩ := bind_some hb_31
       refine dcl (wgh c6 mark1 b1 lo1 _ hx_38) ?_
       refine DOps.bar (by kernel_rfl) ?_
       refine BOps.hard (by kernel_rfl) ?_
       obtain ⟨r9, hx_39, hb_31⟩ := bind_some hb_31
       refine clU [(0, 0), (1001, 1001), (1002, 1002), (1003, 1003)] [1001, 1002, 1003] (ih (⟨c4, c5, c6, (⟨L4, L5, L6⟩ : Table)⟩ : Compare) (IntKind.i64.wrap (mark1 + 1)) r7 r8 _ hx_39) ?_
       refine AOps.nil ?_
       refine BOps.draw [] trivial (Nat.le_of_ble_eq_true rfl) ?_
       iterate 5 refine dd ?_
       refine DOps.nil (by kernel_rfl) (k _ ?_)
       refine AWp.seq fun _ K_40 => ?_
       refine sg fun K k => ?_
       refine oo ?_
       refine AOps.nil (k _ ?_)
       refine cd hb_31 (fun hb_31 => ?_) (fun hb_31 => ?_)
       ·refine sg fun K k => ?_
        obtain ⟨hg_42, hb_31⟩ := wae hb_31
        iterate 6 refine oo ?_
        refine AOps.nil (k _ ?_)
        refine AWp.sub (τ := ⟨[(8, .d (.imm 1 (wab (PD.int .i64) ([lo1] ++ r9.1)))), (9, .d (.bool true))], [(0, ⟨102, 6, [.agg [.d (.int .i64 r9.2.2.k), .d (.imm 2 (wab Rule.pd r9.2.2.s)), .d (.imm 2 (wab Rule.pd r9.2.2.t)), .slc 1001 0 r9.2.2.alike.heads.length, .slc 1002 0 r9.2.2.alike.next.length, .slc 1003 0 r9.2.2.alike.keys.length]]⟩), (1001, ⟨3, 1, dl (wab (PD.int .i64) r9.2.2.alike.heads)⟩), (1002, ⟨3, 1, dl (wab (PD.int .i64) r9.2.2.alike.next)⟩), (1003, ⟨120, 3, dl (wab Arr3_Int.pd r9.2.2.alike.keys)⟩)], [], none⟩) sc ?_
        refine AWp.ret ?_
        refine lx hb_31 fun hx => ?_; cases hx; try dsimp only at h2_30
        cases h2_30; try dsimp only at h
        cases h; exact rtO
       ·refine AWp.skip ?_
        refine K_40 _ ?_
        refine AWp.reg ?_
        obtain ⟨e2, ⟨f_43, f_44, f_45, f_46⟩, hb_31⟩ := wak hb_31
        iterate 3 refine oo ?_
        refine oo ?_ (by intro K k; simp (disch := omega) only [go_sem, f_45, ↓reduceIte]; exact k)
        refine oo ?_
        refine AOps.nil ?_
        refine K_36 _ ?_
        refine AWp.reg ?_
        iterate 3 refine oo ?_
        refine AOps.nil ?_
        exact ln hb_31 sb
      ·refine AWp.exit ?_
       refine lx hb_31 fun hx => ?_; cases hx; try dsimp only at h2_30
       exact ln h2_30 sb
     ·rintro ⟨c1, c2, c3, L1, L2, L3⟩ h; dsimp only at h ⊢
      refine sg fun K k => ?_
      iterate 7 refine oo ?_
      refine AOps.sub (τ := ⟨[(111, .ptr 0 0 3), (115, .d (.agg [(.int .i64 mark1), (.int .i64 a1), (.int .i64 b1)]))], [(0, ⟨102, 6, [.agg [.d (.int .i64 c1), .d (.imm 2 (wab Rule.pd c2)), .d (.imm 2 (wab Rule.pd c3)), .slc 1001 0 L1.length, .slc 1002 0 L2.length, .slc 1003 0 L3.length]]⟩), (1001, ⟨3, 1, dl (wab (PD.int .i64) L1)⟩), (1002, ⟨3, 1, dl (wab (PD.int .i64) L2)⟩), (1003, ⟨120, 3, dl (wab Arr3_Int.pd L3)⟩)], [], none⟩) sb ?_
      obtain ⟨r10, hx_47, h⟩ := bind_some h
      refine clU [(0, 0), (1001, 1001), (1002, 1002), (1003, 1003)] [1001, 1002, 1003] (wgJ (⟨c1, c2, c3, (⟨L1, L2, L3⟩ : Table)⟩ : Compare) (⟨mark1, a1, b1⟩ : Arr3_Int) _ hx_47) ?_
      refine AOps.nil (k _ ?_)
      refine sg fun K k => ?_
      iterate 2 refine oo ?_
      refine AOps.nil (k _ ?_)
      refine AWp.sub (τ := ⟨[(8, .d (.imm 1 (wab (PD.int .i64) []))), (9, .d (.bool false))], [(0, ⟨102, 6, [.agg [.d (.int .i64 r10.k), .d (.imm 2 (wab Rule.pd r10.s)), .d (.imm 2 (wab Rule.pd r10.t)), .slc 1001 0 r10.alike.heads.length, .slc 1002 0 r10.alike.next.length, .slc 1003 0 r10.alike.keys.length]]⟩), (1001, ⟨3, 1, dl (wab (PD.int .i64) r10.alike.heads)⟩), (1002, ⟨3, 1, dl (wab (PD.int .i64) r10.alike.next)⟩), (1003, ⟨120, 3, dl (wab Arr3_Int.pd r10.alike.keys)⟩)], [], none⟩) sc ?_
      refine AWp.ret ?_
      cases h; exact rtO
end Go.Pv.Tryd

namespace Go.Pv.Tryd
open Go.Proofs Go.Pv
theorem wii (k1 : Int) (s1 : (List Rule)) (t1 : (List Rule)) (r : ((List Int) × Int)) (h : wde k1 s1 t1 = some r) : PureFn Tryd.prog G 33 [.d (.int .i64 k1), .d (.imm 2 (wab Rule.pd s1)), .d (.imm 2 (wab Rule.pd t1))] (.tuple [.d (.imm 1 (wab (PD.int .i64) r.1)), .d (.int .i64 r.2)]) := by
 unfold wde at h
 refine pf Tryd.func33 Tryd.ntmps33 ?_
 refine sg fun K k => ?_
 iterate 2 refine oo ?_
 refine AOps.nil (k _ ?_)
 refine sg fun K k => ?_
 iterate 2 refine oo ?_
 obtain ⟨r1, hx_1, h⟩ := bind_some h
 refine cl (wdO k1 s1 _ hx_1) ?_
 refine oo ?_
 refine AOps.nil (k _ ?_)
 refine jn (α := Int) [0, 1, 2] [] (fun i t => (8, .d (.int .i64 i)) :: t) (fun i t => t) h ?_ ?_
 ·intro _ hj_3
  refine sg fun K k => ?_
  iterate 2 refine oo ?_
  refine AOps.nil (k _ ?_)
  refine cd hj_3 (fun hj_3 => ?_) (fun hj_3 => ?_)
  ·refine AWp.reg ?_
   iterate 2 refine oo ?_
   obtain ⟨r2, hx_5, hj_3⟩ := bind_some hj_3
   refine cl (wdO k1 t1 _ hx_5) ?_
   refine oo ?_
   refine AOps.nil ?_
   cases hj_3; exact sb
  ·refine AWp.skip ?_
   cases hj_3; exact sb
 ·rintro e1 h; dsimp only at h ⊢
  refine AWp.seq fun _ K_6 => ?_
  refine sg fun K k => ?_
  iterate 2 refine oo ?_
  refine AOps.nil (k _ ?_)
  refine cd h (fun h => ?_) (fun h => ?_)
  ·refine sg fun K k => ?_
   iterate 3 refine oo ?_
   refine AOps.nil (k _ ?_)
   refine AWp.ret ?_
   cases h; exact rt
  ·refine AWp.skip ?_
   refine K_6 _ ?_
   refine sg fun K k => ?_
   iterate 6 refine oo ?_
   refine AOps.sub (Sub.voidCell 1000 3 3 1 1001 (x := ⟨102, 6, [.d (.agg [(.int .i64 k1), (.imm 2 (wab Rule.pd s1)), (.imm 2 (wab Rule.pd t1)), .nilslice, .nilslice, .nilslice])]⟩) (p := .d (.agg [(.int .i64 k1), (.imm 2 (wab Rule.pd s1)), (.imm 2 (wab Rule.pd t1)), .nilslice, .nilslice, .nilslice])) (cs := [.d (.int .i64 k1), .d (.imm 2 (wab Rule.pd s1)), .d (.imm 2 (wab Rule.pd t1)), .d .nilslice, .d .nilslice, .d .nilslice]) rfl (Nat.le_of_ble_eq_true rfl) rfl rfl rfl rfl rfl (by decide) (by decide)) ?_
   simp only [waj, List.set_cons_succ, List.set_cons_zero, reduceCtorEq, ↓reduceIte, Nat.reduceAdd, Nat.reduceMul, Nat.reduceLT, Nat.reduceLeDiff, Nat.reduceEqDiff, Nat.reduceBEq, Int.reduceToNat]
   refine AOps.sub (Sub.voidCell 1000 4 3 1 1002 (x := ⟨102, 6, [.agg [.d (.int .i64 k1), .d (.imm 2 (wab Rule.pd s1)), .d (.imm 2 (wab Rule.pd t1)), .slc 1001 0 0, .d .nilslice, .d .nilslice]]⟩) (p := .agg [.d (.int .i64 k1), .d (.imm 2 (wab Rule.pd s1)), .d (.imm 2 (wab Rule.pd t1)), .slc 1001 0 0, .d .nilslice, .d .nilslice]) (cs := [.d (.int .i64 k1), .d (.imm 2 (wab Rule.pd s1)), .d (.imm 2 (wab Rule.pd t1)), .slc 1001 0 0, .d .nilslice, .d .nilslice]) rfl (Nat.le_of_ble_eq_true rfl) rfl rfl rfl rfl rfl (by decide) (by decide)) ?_
   simp only [waj, List.set_cons_succ, List.set_cons_zero, reduceCtorEq, ↓reduceIte, Nat.reduceAdd, Nat.reduceMul, Nat.reduceLT, Nat.reduceLeDiff, Nat.reduceEqDiff, Nat.reduceBEq, Int.reduceToNat]
   refine AOps.sub (Sub.voidCell 1000 5 120 3 1003 (x := ⟨102, 6, [.agg [.d (.int .i64 k1), .d (.imm 2 (wab Rule.pd s1)), .d (.imm 2 (wab Rule.pd t1)), .slc 1001 0 0, .slc 1002 0 0, .d .nilslice]]⟩) (p := .agg [.d (.int .i64 k1), .d (.imm 2 (wab Rule.pd s1)), .d (.imm 2 (wab Rule.pd t1)), .slc 1001 0 0, .slc 1002 0 0, .d .nilslice]) (cs := [.d (.int .i64 k1), .d (.imm 2 (wab Rule.pd s1)), .d (.imm 2 (wab Rule.pd t1)), .slc 1001 0 0, .slc 1002 0 0, .d .nilslice]) rfl (Nat.le_of_ble_eq_true rfl) rfl rfl rfl rfl rfl (by decide) (by decide)) ?_
   simp only [waj, List.set_cons_succ, List.set_cons_zero, reduceCtorEq, ↓reduceIte, Nat.reduceAdd, Nat.reduceMul, Nat.reduceLT, Nat.reduceLeDiff, Nat.reduceEqDiff, Nat.reduceBEq, Int.reduceToNat]
   refine AOps.nil (k _ ?_)
   refine sg fun K k => ?_
   iterate 2 refine oo ?_
   obtain ⟨r3, hx_8, h⟩ := bind_some h
   refine cl (we7 s1 _ hx_8) ?_
   refine oo ?_
   obtain ⟨r4, hx_9, h⟩ := bind_some h
   refine cl (we7 t1 _ hx_9) ?_
   obtain ⟨r5, hx_10, h⟩ := bind_some h
   refine clU [(0, 1000), (1001, 1001), (1002, 1002), (1003, 1003)] [1001, 1002, 1003] (wfV 100 (⟨k1, s1, t1, (⟨[], [], []⟩ : Table)⟩ : Compare) 0 r3 r4 _ hx_10) ?_
   iterate 5 refine oo ?_
   refine AOps.nil (k _ ?_)
   refine AWp.seq fun _ K_11 => ?_
   refine sg fun K k => ?_
   iterate 2 refine oo ?_
   refine AOps.nil (k _ ?_)
   refine cd h (fun h => ?_) (fun h => ?_)
   ·refine sg fun K k => ?_
    iterate 2 refine oo ?_
    refine AOps.nil (k _ ?_)
    refine AWp.ret ?_
    cases h; exact rt
   ·refine AWp.skip ?_
    refine K_11 _ ?_
    refine sg fun K k => ?_
    iterate 3 refine oo ?_
    refine AOps.nil (k _ ?_)
    refine AWp.ret ?_
    cases h; exact rt
end Go.Pv.Tryd

namespace Go.Pv.Tryd
open Go.Proofs Go.Pv
theorem wjf (k1 : Int) (t1 : (List Rule)) (r : ((List Rule) × Int)) (h : wcm k1 t1 = some r) : PureFn Tryd.prog G 42 [.d (.int .i64 k1), .d (.imm 2 (wab Rule.pd t1))] (.tuple [.d (.imm 2 (wab Rule.pd r.1)), .d (.int .i64 r.2)]) := by
 unfold wcm at h
 refine pf Tryd.func42 Tryd.ntmps42 ?_
 refine sg fun K k => ?_
 iterate 2 refine oo ?_
 refine AOps.nil (k _ ?_)
 refine sg fun K k => ?_
 iterate 2 refine oo ?_
 obtain ⟨r1, hx_1, h⟩ := bind_some h
 refine cl (wdO k1 t1 _ hx_1) ?_
 refine oo ?_
 refine AOps.nil (k _ ?_)
 refine AWp.seq fun _ K_2 => ?_
 refine sg fun K k => ?_
 iterate 2 refine oo ?_
 refine AOps.nil (k _ ?_)
 refine cd h (fun h => ?_) (fun h => ?_)
 ·refine sg fun K k => ?_
  iterate 3 refine oo ?_
  refine AOps.nil (k _ ?_)
  refine AWp.ret ?_
  cases h; exact rt
 ·refine AWp.skip ?_
  refine K_2 _ ?_
  refine sg fun K k => ?_
  iterate 2 refine oo ?_
  refine AOps.nil (k _ ?_)
  refine jn (α := (List Rule)) [] [] (fun i t => (7, .d (.imm 2 (wab Rule.pd i))) :: t) (fun i t => t) h ?_ ?_
  ·intro _ hj_5
   refine sg fun K k => ?_
   iterate 4 refine oo ?_
   refine AOps.nil (k _ ?_)
   refine AWp.block ?_
   obtain ⟨x_10, hl_7, h2_8⟩ := bind_some hj_5
   refine lp (S := ((List Rule) × Int)) [0] [] (fun i t => (7, .d (.imm 2 (wab Rule.pd i.1))) :: (8, .d (.int .i64 i.2)) :: t) (fun i t => t) hl_7 ?_ ?_; exact sb; clear hl_7
   rintro ⟨now2, i1⟩ _ hb_9; unfold wba at hb_9; try dsimp only at hb_9
   try dsimp only
   refine AWp.seq fun _ K_12 => ?_
   refine sg fun K k => ?_
   iterate 2 refine oo ?_
   refine AOps.nil (k _ ?_)
   refine cd hb_9 (fun hb_9 => ?_) (fun hb_9 => ?_)
   ·refine AWp.skip ?_
    refine K_12 _ ?_
    refine jn (α := (List Rule)) [0, 8] [] (fun i t => (7, .d (.imm 2 (wab Rule.pd i))) :: t) (fun i t => t) hb_9 ?_ ?_
    ·intro _ hj_15
     refine AWp.block ?_
     refine sg fun K k => ?_
     refine oo ?_
     refine AOps.nil (k _ ?_)
     refine AWp.sub (Sub.void 9 56 2 1000 (by rfl) (by rfl) (by decide) (by decide)) ?_
     simp only [wcK, waj, reduceCtorEq, ↓reduceIte, Nat.reduceAdd, Nat.reduceMul, Nat.reduceLT, Nat.reduceLeDiff, Nat.reduceEqDiff, Nat.reduceBEq, Int.reduceToNat]
     refine sg fun K k => ?_
     obtain ⟨hg_16, hj_15⟩ := wae hj_15
     obtain ⟨hg_17, hj_15⟩ := wae hj_15
     iterate 6 refine oo ?_
     refine AOps.nil (k _ ?_)
     refine sg fun K k => ?_
     obtain ⟨hg_18, hj_15⟩ := wae hj_15
     obtain ⟨hg_19, hj_15⟩ := wae hj_15
     iterate 7 refine oo ?_
     refine AOps.nil (k _ ?_)
     refine sg fun K k => ?_
     iterate 3 refine oo ?_
     refine AOps.sub (τ := ⟨[(0, .d (.int .i64 k1)), (7, .d (.imm 2 (wab Rule.pd now2))), (8, .d (.int .i64 i1)), (9, .d (.imm 2 (wab Rule.pd ((now2.take ((i1 : Int) - 0).toNat) ++ ((now2.drop ((IntKind.i64.wrap (i1 + 1))).toNat).take (((now2.length : Int) : Int) - (IntKind.i64.wrap (i1 + 1))).toNat))))), (38, .d (.int .i64 k1)), (39, .d (.imm 2 (wab Rule.pd now2))), (40, .d (.imm 2 (wab Rule.pd ((now2.take ((i1 : Int) - 0).toNat) ++ ((now2.drop ((IntKind.i64.wrap (i1 + 1))).toNat).take (((now2.length : Int) : Int) - (IntKind.i64.wrap (i1 + 1))).toNat)))))], [], [], none⟩) sc ?_
     obtain ⟨r2, hx_20, hj_15⟩ := bind_some hj_15
     refine cl (wii k1 now2 ((now2.take ((i1 : Int) - 0).toNat) ++ ((now2.drop ((IntKind.i64.wrap (i1 + 1))).toNat).take (((now2.length : Int) : Int) - (IntKind.i64.wrap (i1 + 1))).toNat)) _ hx_20) ?_
     iterate 5 refine oo ?_
     refine AOps.nil (k _ ?_)
     refine sg fun K k => ?_
     iterate 2 refine oo ?_
     refine AOps.nil (k _ ?_)
     refine cd hj_15 (fun hj_15 => ?_) (fun hj_15 => ?_)
     ·refine AWp.reg ?_
      iterate 2 refine oo ?_
      refine AOps.nil ?_
      cases hj_15; exact sb
     ·refine AWp.skip ?_
      cases hj_15; exact sb
    ·rintro now3 hb_9; dsimp only at hb_9 ⊢
     refine AWp.reg ?_
     iterate 3 refine oo ?_
     refine AOps.nil ?_
     exact ln hb_9 sb
   ·refine AWp.exit ?_
    refine lx hb_9 fun hx => ?_; cases hx; try dsimp only at h2_8
    cases h2_8; exact sb
  ·rintro now1 h; dsimp only at h ⊢
   refine sg fun K k => ?_
   iterate 3 refine oo ?_
   refine AOps.nil (k _ ?_)
   refine AWp.ret ?_
   cases h; exact rt
end Go.Pv.Tryd

namespace Go.Pv.Tryd
open Go.Proofs Go.Pv
set_option maxHeartbeats 4000000 in
theorem wfW (a1 : (List Rule)) (b1 : (List Rule)) (r : Bool) (h : wbE a1 b1 = some r) : PureFn Tryd.prog G 24 [.d (.imm 2 (wab Rule.pd a1)), .d (.imm 2 (wab Rule.pd b1))] (.d (.bool r)) := by
 unfold wbE at h
 refine pf Tryd.func24 Tryd.ntmps24 ?_
 refine sg fun K k => ?_
 refine oo ?_
 refine AOps.nil (k _ ?_)
 refine AWp.seq fun _ K_1 => ?_
 refine sg fun K k => ?_
 iterate 5 refine oo ?_
 refine AOps.nil (k _ ?_)
 refine cd h (fun h => ?_) (fun h => ?_)
 ·refine sg fun K k => ?_
  refine oo ?_
  refine AOps.nil (k _ ?_)
  refine AWp.ret ?_
  cases h; exact rt
 ·refine AWp.skip ?_
  refine K_1 _ ?_
  refine jm (ι := Unit) [] [] (fun i t => t) (fun i t => t) .inl h ?_ ?_
  ·intro _ hj_4 h
   refine sg fun K k => ?_
   refine oo ?_
   refine AOps.nil (k _ ?_)
   refine AWp.block ?_
   obtain ⟨x_9, hl_6, h2_7⟩ := bind_some hj_4
   refine lp (S := Int) [0, 1] [] (fun i t => (5, .d (.int .i64 i)) :: t) (fun i t => t) hl_6 ?_ ?_; exact sb; clear hl_6
   rintro i1 _ hb_8; unfold wcG at hb_8; try dsimp only at hb_8
   try dsimp only
   refine AWp.seq fun _ K_11 => ?_
   refine sg fun K k => ?_
   iterate 4 refine oo ?_
   refine AOps.nil (k _ ?_)
   refine cd hb_8 (fun hb_8 => ?_) (fun hb_8 => ?_)
   ·refine AWp.skip ?_
    refine K_11 _ ?_
    refine jm (ι := Unit) [0, 1, 5] [] (fun i t => t) (fun i t => t) .inl hb_8 ?_ ?_
    ·intro _ hj_14 hb_8
     refine AWp.block ?_
     refine AWp.seq fun _ K_15 => ?_
     refine sd mo fun K k => ?_
     obtain ⟨e1, ⟨f_16, f_17, f_18, f_19⟩, hj_14⟩ := wak hj_14
     iterate 4 refine dd ?_
     refine dd ?_ (by intro K k; simp (disch := omega) only [go_sem, f_18, ↓reduceIte]; exact k)
     obtain ⟨e2, ⟨f_20, f_21, f_22, f_23⟩, hj_14⟩ := wak hj_14
     iterate 4 refine dd ?_
     refine dd ?_ (by intro K k; simp (disch := omega) only [go_sem, f_22, ↓reduceIte]; exact k)
     iterate 2 refine dd ?_
     rcases bt (decide (¬e1.Code = e2.Code)) with hg_24 | hg_24
     ·rw [hg_24]
      rw [hg_24, cond_true] at hj_14
      iterate 14 refine dd ?_
      refine DOps.nil (by kernel_rfl) (k _ ?_)
      refine cdt ?_
      refine sg fun K k => ?_
      refine oo ?_
      refine AOps.nil (k _ ?_)
      refine AWp.ret ?_
      cases hj_14; try dsimp only at hb_8
      refine lx hb_8 fun hx => ?_; cases hx; try dsimp only at h2_7
      cases h2_7; try dsimp only at h
      cases h; exact rt
     ·rw [hg_24]
      rw [hg_24, cond_false] at hj_14
      iterate 4 refine dd ?_
      refine dd ?_ (by intro K k; simp (disch := omega) only [go_sem, f_18, ↓reduceIte]; exact k)
      iterate 5 refine dd ?_
      refine dd ?_ (by intro K k; simp (disch := omega) only [go_sem, f_22, ↓reduceIte]; exact k)
      iterate 3 refine dd ?_
      refine DOps.nil (by kernel_rfl) (k _ ?_)
      refine cd hj_14 (fun hj_14 => ?_) (fun hj_14 => ?_)
      ·refine sg fun K k => ?_
       refine oo ?_
       refine AOps.nil (k _ ?_)
       refine AWp.ret ?_
       cases hj_14; try dsimp only at hb_8
       refine lx hb_8 fun hx => ?_; cases hx; try dsimp only at h2_7
       cases h2_7; try dsimp only at h
       cases h; exact rt
      ·refine AWp.skip ?_
       refine K_15 _ ?_
       refine sg fun K k => ?_
       refine oo ?_
       refine AOps.nil (k _ ?_)
       refine AWp.block ?_
       obtain ⟨x_61, hl_58, h2_59⟩ := bind_some hj_14
       refine lp (S := Int) [0, 1, 5, 30, 31, 32, 33, 34, 35, 36, 37, 38, 39, 40, 41, 42] [] (fun i t => (6, .d (.int .i64 i)) :: t) (fun i t => t) hl_58 ?_ ?_; exact sb; clear hl_58
       rintro k2 _ hb_60; unfold wcF at hb_60; try dsimp only at hb_60
       try dsimp only
       refine AWp.seq fun _ K_63 => ?_
       refine sg fun K k => ?_
       obtain ⟨e8, ⟨f_64, f_65, f_66, f_67⟩, hb_60⟩ := wak hb_60
       iterate 5 refine oo ?_
       refine oo ?_ (by intro K k; simp (disch := omega) only [go_sem, f_66, ↓reduceIte]; exact k)
       iterate 2 refine oo ?_
       refine AOps.nil (k _ ?_)
       refine cd hb_60 (fun hb_60 => ?_) (fun hb_60 => ?_)
       ·refine AWp.skip ?_
        refine K_63 _ ?_
        refine AWp.seq fun _ K_69 => ?_
        refine AWp.block ?_
        refine sd mo fun K k => ?_
        obtain ⟨e9, ⟨f_70, f_71, f_72, f_73⟩, hb_60⟩ := wak hb_60
        iterate 4 refine dd ?_
        refine dd ?_ (by intro K k; simp (disch := omega) only [go_sem, f_72, ↓reduceIte]; exact k)
        obtain ⟨e10, ⟨f_74, f_75, f_76, f_77⟩, hb_60⟩ := wak hb_60
        iterate 2 refine dd ?_
        refine dd ?_ (by intro K k; simp (disch := omega) only [go_sem, f_76, ↓reduceIte]; exact k)
        obtain ⟨e11, ⟨f_78, f_79, f_80, f_81⟩, hb_60⟩ := wak hb_60
        iterate 4 refine dd ?_
        refine dd ?_ (by intro K k; simp (disch := omega) only [go_sem, f_80, ↓reduceIte]; exact k)
        obtain ⟨e12, ⟨f_82, f_83, f_84, f_85⟩, hb_60⟩ := wak hb_60
        iterate 2 refine dd ?_
        refine dd ?_ (by intro K k; simp (disch := omega) only [go_sem, f_84, ↓reduceIte]; exact k)
        refine ddx ?_ (by intro K k; simp (disch := omega) only [go_sem, wsY, ↓reduceIte]; exact k)
        refine DOps.nil (by kernel_rfl) (k _ ?_)
        refine cd hb_60 (fun hb_60 => ?_) (fun hb_60 => ?_)
        ·refine sg fun K k => ?_
         refine oo ?_
         refine AOps.nil (k _ ?_)
         refine AWp.ret ?_
         refine lx hb_60 fun hx => ?_; cases hx; try dsimp only at h2_59
         cases h2_59; try dsimp only at hb_8
         refine lx hb_8 fun hx => ?_; cases hx; try dsimp only at h2_7
         cases h2_7; try dsimp only at h
         cases h; exact rt
        ·refine AWp.skip ?_
         refine K_69 _ ?_
         refine AWp.reg ?_
         iterate 3 refine oo ?_
         refine AOps.nil ?_
         exact ln hb_60 sb
       ·refine AWp.exit ?_
        refine lx hb_60 fun hx => ?_; cases hx; try dsimp only at h2_59
        exact ln h2_59 sb
    ·rintro _ hb_8; dsimp only at hb_8 ⊢
     refine AWp.reg ?_
     iterate 3 refine oo ?_
     refine AOps.nil ?_
     exact ln hb_8 sb
   ·refine AWp.exit ?_
    refine lx hb_8 fun hx => ?_; cases hx; try dsimp only at h2_7
    exact ln h2_7 sb
  ·rintro _ h; dsimp only at h ⊢
   refine sg fun K k => ?_
   refine oo ?_
   refine AOps.nil (k _ ?_)
   refine AWp.ret ?_
   cases h; exact rt
end Go.Pv.Tryd

namespace Go.Pv.Tryd
open Go.Proofs Go.Pv
theorem wij (t1 : (List Rule)) (r : (List Rule)) (h : wcs t1 = some r) : RowFn Tryd.prog G 20 [.d (.imm 2 (wab Rule.pd t1))] 56 2 (wab Rule.pd r) := by
 unfold wcs at h
 refine Fn.pf Tryd.func20 Tryd.ntmps20 ?_
 refine sg fun K k => ?_
 refine oo ?_
 refine AOps.nil (k _ ?_)
 refine sg fun K k => ?_
 refine oo ?_
 refine AOps.nil (k _ ?_)
 refine AWp.sub (Sub.void 3 56 2 1000 (by rfl) (by rfl) (by decide) (by decide)) ?_
 simp only [wcK, waj, reduceCtorEq, ↓reduceIte, Nat.reduceAdd, Nat.reduceMul, Nat.reduceLT, Nat.reduceLeDiff, Nat.reduceEqDiff, Nat.reduceBEq, Int.reduceToNat]
 refine jn (α := (List Rule)) [] [] (fun i t => (3, .slc 1000 0 i.length) :: t) (fun i t => (1000, ⟨56, 2, dl (wab Rule.pd i)⟩) :: t) h ?_ ?_
 ·intro _ hj_2
  refine sg fun K k => ?_
  refine oo ?_
  refine AOps.nil (k _ ?_)
  refine AWp.block ?_
  obtain ⟨x_7, hl_4, h2_5⟩ := bind_some hj_2
  refine lp (S := (Int × (List Rule))) [0] [] (fun i t => (3, .slc 1000 0 i.2.length) :: (4, .d (.int .i64 i.1)) :: t) (fun i t => (1000, ⟨56, 2, dl (wab Rule.pd i.2)⟩) :: t) hl_4 ?_ ?_; exact sb; clear hl_4
  rintro ⟨i1, L2⟩ _ hb_6; unfold wbU at hb_6; try dsimp only at hb_6
  try dsimp only
  refine AWp.seq fun _ K_9 => ?_
  refine sg fun K k => ?_
  iterate 4 refine oo ?_
  refine AOps.nil (k _ ?_)
  refine cd hb_6 (fun hb_6 => ?_) (fun hb_6 => ?_)
  ·refine AWp.skip ?_
   refine K_9 _ ?_
   refine AWp.seq fun _ K_11 => ?_
   refine AWp.block ?_
   refine sg fun K k => ?_
   obtain ⟨e1, ⟨f_12, f_13, f_14, f_15⟩, hb_6⟩ := wak hb_6
   iterate 4 refine oo ?_
   refine oo ?_ (by intro K k; simp (disch := omega) only [go_sem, f_14, ↓reduceIte]; exact k)
   iterate 3 refine oo ?_
   refine AOps.sub (Sub.voidCell 1001 0 61 2 1002 (x := ⟨56, 2, [.d (.agg [.nilslice, (.int .i64 e1.Code)])]⟩) (p := .d (.agg [.nilslice, (.int .i64 e1.Code)])) (cs := [.d .nilslice, .d (.int .i64 e1.Code)]) rfl (Nat.le_of_ble_eq_true rfl) rfl rfl rfl rfl rfl (by decide) (by decide)) ?_
   simp only [waj, List.set_cons_succ, List.set_cons_zero, reduceCtorEq, ↓reduceIte, Nat.reduceAdd, Nat.reduceMul, Nat.reduceLT, Nat.reduceLeDiff, Nat.reduceEqDiff, Nat.reduceBEq, Int.reduceToNat]
   refine AOps.nil (k _ ?_)
   refine sdX mo [(1002, [19, 25, 1001001])] fun K k => ?_
   obtain ⟨e2, ⟨f_16, f_17, f_18, f_19⟩, hb_6⟩ := wak hb_6
   iterate 6 (refine dd ?_ (by intro K k; simp (disch := omega) only [go_sem, true_or, or_true, and_self, true_and, and_true, ↓reduceIte]; exact k))
   refine dd ?_ (by intro K k; simp (disch := omega) only [go_sem, f_18, true_or, or_true, and_self, true_and, and_true, ↓reduceIte]; exact k)
   obtain ⟨hg_20, hb_6⟩ := wae hb_6
   refine wnl [19, 25, 1001001] [(1001, ⟨56, 2, [.agg [.slc 1002 0 0, .d (.int .i64 e1.Code)]]⟩)] (dl (wab Band.pd e2.Bands)) se54 ?_
   iterate 2 (refine dd ?_ (by intro K k; simp (disch := omega) only [go_sem, true_or, or_true, and_self, true_and, and_true, ↓reduceIte]; exact k))
   refine DOps.nil (by kernel_rfl) (k _ ?_)
   refine AWp.reg ?_
   iterate 2 refine oo ?_
   refine AOps.sub (τ := ⟨[(0, .d (.imm 2 (wab Rule.pd t1))), (4, .d (.int .i64 i1)), (27, .slc 1000 0 L2.length), (28, .d (.agg [(.imm 2 (wab Band.pd e2.Bands)), (.int .i64 e1.Code)]))], [(1000, ⟨56, 2, dl (wab Rule.pd L2)⟩)], [], none⟩) sc ?_
   refine ol ?_
   obtain ⟨hg_21, hb_6⟩ := wae hb_6
   iterate 2 refine oo ?_
   refine AOps.nil ?_
   refine K_11 _ ?_
   refine AWp.reg ?_
   iterate 3 refine oo ?_
   refine AOps.nil ?_
   exact ln hb_6 sb
  ·refine AWp.exit ?_
   refine lx hb_6 fun hx => ?_; cases hx; try dsimp only at h2_5
   cases h2_5; exact sb
 ·rintro L1 h; dsimp only at h ⊢
  refine sg fun K k => ?_
  iterate 2 refine oo ?_
  refine AOps.nil (k _ ?_)
  refine AWp.ret ?_
  cases h; exact wjJ (hn := by rw [lenc_length] <;> rfl)
end Go.Pv.Tryd

namespace Go.Pv
section
variable {P : Program} {B : Base P} {G : List (Nat × PD)} {ro : Option Nat} {N : Nat} {ops : Array Oper} {σ τ σ' : St} {o : Oper} {rest : List Oper}
theorem pfF {f : FuncId} {fn : Func} {c : Code} {args : List PV} {x : PD} {n : Nat} {e0 : List (Nat × PV)} (hx : noRef x = true) (hf : P.funcs[f]? = some fn) (hn : fn.ntmps = n)
  (h : AWp P G none n c ⟨e0, [], [], some (0, [], [.nilptr], true)⟩ (Fin P G fn fun p H => ∃ u, frzT H p = some u ∧ leV u (.d x))) (hb : fn.body = some c := by rfl) (hN : args.length ≤ n := by simp)
  (he : wb8 0 args = e0 := by (simp only [wb8, Nat.reduceAdd, Nat.zero_add]; rfl)) : PureFn P G f args (.d x) := by
 subst hn he; exact PureFn.introF hx hf hb hN h
theorem ws6 {f : FuncId} {c : Call} {args : List PV} {x y : PD} {l0 : Nat} {m : PD} {ys : List PD} {d0 : Bool} {S : List PD → St} {Q : St → Prop} (hG : wnu G) (hf : PureFn P G f args (.tuple [.d x, .d y])) (hav : avoidD x = true) (h2 : ∀ h, AOps P G ro N ops rest (S h) Q)
  (hgh : σ.gh = some (l0, [], m :: ys, d0) := by rfl) (ho : o.op = .call c := by rfl) (hc : c.callee = .value (.func f) := by rfl) (hcal : wa1 P f = true := by kernel_rfl) (hg : o.guard = none := by rfl)
  (ha : wdF σ.heap (war σ c.args.toList) args := by (repeat' (first | exact trivial | exact rfl | exact .inl rfl | exact .inr rfl | apply And.intro))) (hb : args.all wm2 = true := by rfl)
  (hx : wow x = true := by rfl) (hy : noRef y = true := by rfl) (hd : wan N o.dst := by (simp only [go_sem, ↓reduceIte]; done))
  (hp : ∀ h, ({ σ with gh := some (l0, [], m :: x :: h, d0) } : St).put o.dst (.tuple [.val (hdr h), .d y]) = S h := by (intro h; simp only [go_sem, ↓reduceIte]; rfl)) : AOps P G ro N ops (o :: rest) σ Q :=
 AOps.step hg (OpT.fresh hG hgh ho hc hcal hf ha hb hx hav hy hd fun h => by rw [hp h]; exact h2 h)
theorem clF {f : FuncId} {c : Call} {args : List PV} {res : PV} {Q : St → Prop} (hf : PureFn P G f args res) (ha : wlk σ (war σ c.args.toList) args) (h2 : AOps P G ro N ops rest σ' Q)
  (ho : o.op = .call c := by rfl) (hc : c.callee = .value (.func f) := by rfl) (hcal : wa1 P f = true := by kernel_rfl) (hg : o.guard = none := by rfl) (hd : wan N o.dst := by (simp only [go_sem, ↓reduceIte]; done))
  (hp : σ.put o.dst res = σ' := by (simp only [go_sem, ↓reduceIte]; rfl)) (hr : dOnly res := by (simp only [go_sem]; done)) : AOps P G ro N ops (o :: rest) σ Q :=
 AOps.step hg (OpT.callF ho hc hcal hf ha hd (by rw [hp]; exact h2) hr)
theorem AOpsB.pre1 {l : List Oper} {Q : St → Prop} (n : Nat) (h1 : AOps P G B.ro N ops (l.take n) σ (fun τ => AOpsB B G N ops (l.drop n) τ Q)) : AOpsB B G N ops l σ Q := AOpsB.pre n _ h1 fun _ h => h
end
inductive All2 {α β : Type} (p : α → β → Prop) : List α → List β → Prop
 | nil : All2 p [] []
 | cons {a : α} {b : β} {l : List α} {m : List β} (h : p a b) (t : All2 p l m) : All2 p (a :: l) (b :: m)
theorem wpx {α : Type} {f : α → PD} {k : Nat} {p : α → α → Prop} (h : ∀ a y, shp (f a) y → ∃ b, y = f b ∧ p a b) {l : List α} {x : PD} (hx : shp (.imm k (wab f l)) x) : ∃ m, x = .imm k (wab f m) ∧ All2 p l m := by
 simp only [shp] at hx
 obtain ⟨els, rfl, hs⟩ := hx
 have key : ∀ (l : List α) (els : List PD), shpL (wab f l) els → ∃ m, els = wab f m ∧ All2 p l m := by
  intro l
  induction l with
  | nil => intro els h; simp only [wab, List.map_nil, shpL] at h; subst h; exact ⟨[], rfl, .nil⟩
  | cons a l ih =>
   intro els hs
   simp only [wab, List.map_cons, shpL] at hs
   obtain ⟨y, t, rfl, h1, h2⟩ := hs
   obtain ⟨b, rfl, hb⟩ := h a y h1
   obtain ⟨m, rfl, hm⟩ := ih t h2
   exact ⟨b :: m, rfl, .cons hb hm⟩
 obtain ⟨m, rfl, hm⟩ := key l els hs
 exact ⟨m, rfl, hm⟩
end Go.Pv

namespace Go.Pv
noncomputable def wm5 (k1 : Int) (t1 : List Rule) : Option Bool :=
 (wcz k1 t1).bind fun r1 =>
 cond (!r1) ((wbD).bind fun r2 => some r2)
 ((wcn k1 t1).bind fun r3 =>
 (wcm k1 t1).bind fun r4 =>
 (wbE r3.1 r4.1).bind fun r5 =>
 cond ((!r5) || (decide (¬r3.2 = r4.2))) (some false)
 ((wcs t1).bind fun r6 =>
 wah (r3.1.length ≤ 1000000 ∧ ∀ x ∈ r3.1, x.Bands.length ≤ 1000000) <|
 (wbE r6 t1).bind fun r7 =>
 ((cond r7 ((wbD).bind fun r8 => some r8) (some false)) : Option Bool).bind fun b1 => some b1))
end Go.Pv
namespace Go.Pv.Tryd
open Go.Proofs Go.Pv
theorem wsc (a : Band) (y : PD) (h : shp (Band.pd a) y) : ∃ b, y = Band.pd b ∧ True := by
 simp only [Band.pd, shp, shpL] at h
 obtain ⟨m, rfl, _, _, rfl, ⟨n1, rfl⟩, _, _, rfl, ⟨n2, rfl⟩, rfl⟩ := h
 exact ⟨⟨n1, n2⟩, rfl, trivial⟩
theorem wpy {α β : Type} {p : α → β → Prop} {l : List α} {m : List β} (h : All2 p l m) : l.length = m.length := by induction h <;> simp_all
theorem wsd (a : Rule) (y : PD) (h : shp (Rule.pd a) y) : ∃ b, y = Rule.pd b ∧ a.Bands.length = b.Bands.length := by
 simp only [Rule.pd] at h
 unfold shp at h
 obtain ⟨m, rfl, hm⟩ := h
 unfold shpL at hm
 obtain ⟨y, t, rfl, h1, h2⟩ := hm
 obtain ⟨bs, rfl, h3⟩ := wpx wsc h1
 simp only [shpL, shp] at h2
 obtain ⟨_, _, rfl, ⟨n, rfl⟩, rfl⟩ := h2
 exact ⟨⟨bs, n⟩, rfl, wpy h3⟩
def wnw (l : List Rule) : Prop := l.length ≤ 1000000 ∧ ∀ x ∈ l, x.Bands.length ≤ 1000000
theorem wsw {l : List Rule} {x : PD} (hl : wnw l) (h : shp (.imm 2 (wab Rule.pd l)) x) : ∃ m, x = .imm 2 (wab Rule.pd m) ∧ wnw m ∧ All2 (fun a b : Rule => a.Bands.length = b.Bands.length) l m := by
 obtain ⟨m, rfl, hm⟩ := wpx wsd h
 refine ⟨m, rfl, ⟨by rw [← wpy hm]; exact hl.1, ?_⟩, hm⟩
 have h2 := hl.2
 clear hl h
 induction hm with
 | nil => intro x hx; cases hx
 | cons h _ ih =>
  intro x hx
  rcases List.mem_cons.1 hx with rfl | hx
  ·rw [← h]; exact h2 _ (by simp)
  ·exact ih (fun y hy => h2 y (by simp [hy])) x hx
theorem wsS {α β : Type} {p : α → β → Prop} {l : List α} {m : List β} (h : All2 p l m) : ∀ {i : Nat} {a : α}, l[i]? = some a → ∃ b, m[i]? = some b ∧ p a b := by
 induction h with
 | nil => intro i a h; simp at h
 | cons h _ ih =>
  intro i a ha
  cases i with
  | zero => simp at ha; subst ha; exact ⟨_, rfl, h⟩
  | succ i => simpa using ih (by simpa using ha)
theorem wqW (a : Rule) : avoidD (Rule.pd a) = true := by
 have := wn8 (k := 2) (f := Band.pd) (fun a => rfl) (fun a => rfl) a.Bands
 simp only [Rule.pd, avoidD, avoidL, this, Bool.and_self]
set_option maxHeartbeats 8000000 in
theorem wse (k1 : Int) (t1 : (List Rule)) (r : Bool) (h : wm5 k1 t1 = some r) : PureFn Tryd.prog G 13 [.d (.int .i64 k1), .d (.imm 2 (wab Rule.pd t1))] (.d (.bool r)) := by
 unfold wm5 at h
 refine pfF rfl Tryd.func13 Tryd.ntmps13 ?_
 refine sg fun K k => ?_
 refine oo ?_
 refine AOps.nil (k _ ?_)
 refine AWp.seq fun _ K_1 => ?_
 refine sg fun K k => ?_
 iterate 2 refine oo ?_
 obtain ⟨r1, hx_2, h⟩ := bind_some h
 refine cl (wjT k1 t1 _ hx_2) ?_
 refine oo ?_
 refine AOps.nil (k _ ?_)
 refine cd h (fun h => ?_) (fun h => ?_)
 ·refine sg fun K k => ?_
  obtain ⟨r2, hx_4, h⟩ := bind_some h
  refine cl (wfU _ hx_4) ?_
  refine oo ?_
  refine AOps.nil (k _ ?_)
  refine AWp.ret ?_
  cases h; exact rt
 ·refine AWp.skip ?_
  refine K_1 _ ?_
  refine sg fun K k => ?_
  iterate 2 refine oo ?_
  obtain ⟨r3, hx_5, h⟩ := bind_some h
  refine ws6 woy (wlr k1 t1 _ hx_5) (wn8 wqW (fun a => rfl) _) (fun hh => ?_)
  iterate 5 refine oo ?_
  refine AOps.nil (k _ ?_)
  refine sg fun K k => ?_
  iterate 2 refine oo ?_
  obtain ⟨r4, hx_6, h⟩ := bind_some h
  refine cl (wjf k1 t1 _ hx_6) ?_
  iterate 5 refine oo ?_
  refine AOps.nil (k _ ?_)
  refine AWp.seq fun _ K_7 => ?_
  refine sg fun K k => ?_
  iterate 2 refine oo ?_
  obtain ⟨r5, hx_8, h⟩ := bind_some h
  refine clF (PureFn.bor woy (wfW r3.1 r4.1 _ hx_8) rfl rfl (args' := [.b (.imm 2 (wab Rule.pd r3.1)), .d (.imm 2 (wab Rule.pd r4.1))]) ⟨.inr ⟨_, rfl, rfl⟩, .inl rfl, trivial⟩) ?_ ?_
  ·constructor
   ·exact .inr ⟨_, _, _, _, _, _, rfl, rfl, rfl, leD_refl _⟩
   ·constructor
    ·exact .inl rfl
    ·exact trivial
  iterate 2 refine oo ?_
  refine ct 4 [1, 5] [] (fun  t => (37, .d (.bool ((!r5) || (decide (¬r3.2 = r4.2))))) :: t) ?_ ?_
  ·rcases bt (!r5) with hg_10 | hg_10
   ·rw [hg_10]
    iterate 4 refine oo ?_
    refine AOps.nil ?_
    exact sb
   ·rw [hg_10]
    iterate 4 refine oo ?_
    refine AOps.nil ?_
    exact sb
  refine AOps.nil (k _ ?_)
  refine cd h (fun h => ?_) (fun h => ?_)
  ·refine sg fun K k => ?_
   refine oo ?_
   refine AOps.nil (k _ ?_)
   refine AWp.ret ?_
   cases h; exact rt
  ·refine AWp.skip ?_
   refine K_7 _ ?_
   refine sg fun K k => ?_
   refine oo ?_
   obtain ⟨r6, hx_12, h⟩ := bind_some h
   refine wqF 1000 (wij t1 _ hx_12) ?_
   refine oo ?_
   refine AOps.nil (k _ ?_)
   obtain ⟨hfew, h⟩ := wae h
   refine AWp.seqT ⟨[(1, .d (.imm 2 (wab Rule.pd t1))), (9, .slc 1000 0 r6.length)], [(1000, ⟨56, 2, dl (wab Rule.pd r6)⟩)], [], some (0, [], [.nilptr], true)⟩ ?_ ?_
   ·refine AWp.apart (r := 5) [1, 9] (fun e => e = .normal) rfl rfl rfl (by decide) rfl (fun B val hro hB => ?_) (fun e he => by subst he; exact Sub.refl)
    clear h k K_1 K_7
    refine AWpB.seq (fun σ => σ = ⟨[(5, .d (.imm 2 (wab Rule.pd r3.1))), (1, .val (val 1)), (9, .val (val 9)), (10, .d (.int .i64 0))], [], [], some (0, [], [.nilptr], true)⟩) (AWpB.of (AWp.reg ?_)) ?_
    ·refine oo ?_
     exact AOps.nil rfl
    rintro _ rfl
    refine AWpB.block ?_
    refine AWpB.loopI (ι := Int × List Rule) (fun i => ⟨[(5, .d (.imm 2 (wab Rule.pd i.2))), (1, .val (val 1)), (9, .val (val 9)), (10, .d (.int .i64 i.1))], [], [], some (0, [], [.nilptr], true)⟩) (fun i => 0 ≤ i.1 ∧ i.1 ≤ i.2.length ∧ wnw i.2) (fun i => (2000000 - i.1).toNat) (0, r3.1) ⟨Int.le_refl 0, by simp, hfew⟩ Sub.refl ?_
    rintro ⟨i, l⟩ ⟨hi0, hi1, hl⟩
    dsimp only at hi0 hi1 hl ⊢
    have hl1 := hl.1
    refine AWpB.seq (fun σ => i < l.length ∧ Sub [] 70 σ ⟨[(5, .d (.imm 2 (wab Rule.pd l))), (1, .val (val 1)), (9, .val (val 9)), (10, .d (.int .i64 i))], [], [], some (0, [], [.nilptr], true)⟩) (AWpB.of ?_) ?_
    ·refine sg fun K k => ?_
     iterate 4 refine oo ?_
     refine AOps.nil (k _ ?_)
     refine AWp.cond (b := decide (i < l.length)) rfl (fun hb => ?_) (fun hb => ?_)
     ·exact AWp.skip ⟨by simpa using hb, sb⟩
     ·refine AWp.exit ?_
      simp only [Post.then, Post.inBlock, ↓reduceIte]
      refine ⟨trivial, trivial, trivial, fun k hk => ?_⟩
      simp only [List.mem_cons, List.not_mem_nil, or_false] at hk
      rcases hk with rfl | rfl <;> rfl
    rintro _ ⟨hlt, hs⟩
    refine AWpB.sub hs ?_
    refine AWpB.seq (fun σ => ∃ m, wnw m ∧ m.length = l.length ∧ Sub [] 70 σ ⟨[(5, .d (.imm 2 (wab Rule.pd m))), (1, .val (val 1)), (9, .val (val 9)), (10, .d (.int .i64 i))], [], [], some (0, [], [.nilptr], true)⟩) ?_ ?_
    rotate_left
    ·rintro _ ⟨m, hm, hml, hs⟩
     refine AWpB.sub hs (AWpB.of (AWp.reg ?_))
     iterate 3 refine oo ?_
     have hw : IntKind.i64.wrap (i + 1) = i + 1 := wal ⟨by omega, by omega⟩
     refine AOps.nil ⟨(i + 1, m), ⟨by dsimp only; omega, by dsimp only; omega, hm⟩, by dsimp only; omega, ?_⟩
     rw [hw]
     exact sb
    refine AWpB.block ?_
    refine AWpB.seq (fun σ => σ = ⟨[(5, .d (.imm 2 (wab Rule.pd l))), (1, .val (val 1)), (9, .val (val 9)), (10, .d (.int .i64 i)), (11, .d (.int .i64 0))], [], [], some (0, [], [.nilptr], true)⟩) (AWpB.of (AWp.reg ?_)) ?_
    ·refine oo ?_
     exact AOps.nil rfl
    rintro _ rfl
    refine AWpB.block ?_
    obtain ⟨e0, he0⟩ : ∃ e, l[i.toNat]? = some e := ⟨_, List.getElem?_eq_getElem (by omega)⟩
    refine AWpB.loopI (ι := Int × List Rule) (fun j => ⟨[(5, .d (.imm 2 (wab Rule.pd j.2))), (1, .val (val 1)), (9, .val (val 9)), (10, .d (.int .i64 i)), (11, .d (.int .i64 j.1))], [], [], some (0, [], [.nilptr], true)⟩) (fun j => 0 ≤ j.1 ∧ wnw j.2 ∧ j.2.length = l.length ∧ ∃ e, j.2[i.toNat]? = some e ∧ j.1 ≤ e.Bands.length) (fun j => (2000000 - j.1).toNat) (0, l) ⟨Int.le_refl 0, hl, rfl, e0, he0, by simp⟩ Sub.refl ?_
    rintro ⟨j, l2⟩ ⟨hj0, hl2, hlen2, e, he, hje⟩
    dsimp only at hj0 hl2 hlen2 he hje ⊢
    have hmem := hl2.2 e (List.mem_of_getElem? he)
    refine AWpB.seq (fun σ => j < e.Bands.length ∧ Sub [] 70 σ ⟨[(5, .d (.imm 2 (wab Rule.pd l2))), (1, .val (val 1)), (9, .val (val 9)), (10, .d (.int .i64 i)), (11, .d (.int .i64 j))], [], [], some (0, [], [.nilptr], true)⟩) (AWpB.of ?_) ?_
    ·refine sg fun K k => ?_
     iterate 5 refine oo ?_
     refine oo ?_ (by intro K k; simp (disch := omega) only [go_sem, he, ↓reduceIte]; exact k)
     iterate 2 refine oo ?_
     refine AOps.nil (k _ ?_)
     refine AWp.cond (b := decide (j < e.Bands.length)) rfl (fun hb => ?_) (fun hb => ?_)
     ·exact AWp.skip ⟨by simpa using hb, sb⟩
     ·refine AWp.exit ?_
      simp only [Post.then, Post.inBlock, ↓reduceIte]
      exact ⟨l2, hl2, hlen2, sb⟩
    rintro _ ⟨hjlt, hs⟩
    refine AWpB.sub hs ?_
    refine AWpB.seq (fun σ => ∃ l3, wnw l3 ∧ l3.length = l.length ∧ (∃ e, l3[i.toNat]? = some e ∧ j + 1 ≤ e.Bands.length) ∧ Sub [] 70 σ ⟨[(5, .d (.imm 2 (wab Rule.pd l3))), (1, .val (val 1)), (9, .val (val 9)), (10, .d (.int .i64 i)), (11, .d (.int .i64 j))], [], [], some (0, [], [.nilptr], true)⟩) ?_ ?_
    rotate_left
    ·rintro _ ⟨l3, hl3, hlen3, ⟨e3, he3, hj3⟩, hs⟩
     refine AWpB.sub hs (AWpB.of (AWp.reg ?_))
     iterate 3 refine oo ?_
     have hw : IntKind.i64.wrap (j + 1) = j + 1 := wal ⟨by omega, by omega⟩
     refine AOps.nil ⟨(j + 1, l3), ⟨by dsimp only; omega, hl3, hlen3, e3, he3, hj3⟩, by dsimp only; omega, ?_⟩
     rw [hw]
     exact sb
    refine AWpB.block ?_
    refine AWpB.reg ?_
    refine AOpsB.pre1 8 ?_
    iterate 4 refine oo ?_
    refine oo ?_ (by intro K k; simp (disch := omega) only [go_sem, he, ↓reduceIte]; exact k)
    iterate 3 refine oo ?_
    refine AOps.nil ?_
    obtain ⟨b, hb⟩ : ∃ b, e.Bands[j.toNat]? = some b := ⟨_, List.getElem?_eq_getElem (by omega)⟩
    refine AOpsB.last rfl (wsR (n0 := b.Lo) hB rfl ty3 (by kernel_rfl) rfl rfl (by simp only [wox, wab, List.getElem?_map, hb, Option.map_some, Band.pd]; rfl) (by decide) rfl rfl rfl rfl trivial fun x' hx' => ?_)
    obtain ⟨m, rfl, hm, hall⟩ := wsw hl2 hx'
    obtain ⟨e3, he3, hee⟩ := wsS hall he
    exact ⟨m, hm, by rw [← wpy hall]; exact hlen2, ⟨e3, he3, by omega⟩, sb⟩
   ·refine sg fun K k => ?_
    iterate 2 refine oo ?_
    refine AOps.sub (τ := ⟨[(64, .d (.imm 2 (wab Rule.pd r6))), (65, .d (.imm 2 (wab Rule.pd t1)))], [], [], some (0, [], [.nilptr], true)⟩) sc ?_
    obtain ⟨r7, hx_46, h⟩ := bind_some h
    refine cl (wfW r6 t1 _ hx_46) ?_
    refine oo ?_
    obtain ⟨b1, hc_47, h⟩ := bind_some h
    refine ct 2 [] [] (fun  t => (69, .d (.bool b1)) :: t) ?_ ?_
    ·rcases bt r7 with hg_49 | hg_49
     ·rw [hg_49]
      rw [hg_49, cond_true] at hc_47
      obtain ⟨r8, hx_48, hc_47⟩ := bind_some hc_47
      refine cl (wfU _ hx_48) ?_
      refine oo ?_
      refine AOps.nil ?_
      cases hc_47
      exact sb
     ·rw [hg_49]
      rw [hg_49, cond_false] at hc_47
      iterate 2 refine oo ?_
      refine AOps.nil ?_
      cases hc_47
      exact sb
    refine oo ?_
    refine AOps.nil (k _ ?_)
    refine AWp.ret ?_
    cases h; exact rt
end Go.Pv.Tryd

namespace Go.Pv
theorem wsf {l : List Rule} {i : Nat} (hi : i < l.length) : (l.take ((i : Int) - 0).toNat) ++ ((l.drop (((i + 1 : Nat) : Int)).toNat).take (((l.length : Int) : Int) - ((i + 1 : Nat) : Int)).toNat) = l.eraseIdx i := by
 have e : List.take ((l.length : Int) - ((i + 1 : Nat) : Int)).toNat (l.drop (i + 1)) = l.drop (i + 1) := List.take_of_length_le (by rw [List.length_drop]; omega)
 rw [show ((i : Int) - 0).toNat = i by omega, Int.toNat_natCast, e, List.eraseIdx_eq_take_drop_succ]
theorem won {k : Nat} (hk1 : 1 ≤ k) (hk : k ≤ 4) {l : List Rule} (hl : whd k l) {i : Nat} (hi : i < l.length) : ∃ l', wbf (k : Int) (l, (i : Int)) = some (.inl (l', (i : Int) - 1)) ∧ wba (k : Int) (l, (i : Int)) = some (.inl (l', (i : Int) - 1)) ∧ whd k l' ∧ (l' = l ∨ l' = l.eraseIdx i) := by
 obtain ⟨l', h1, h2⟩ := wn4 hk hl hi
 have he := wjS hl i
 have h24 := hl.1
 have c1 := wrp (k := (k : Int)) (by omega) (by omega) hl.1 hl.2
 have c2 := wrp (k := (k : Int)) (by omega) (by omega) he.1 he.2
 obtain ⟨xs, f, d1, d2, _⟩ := wqP c1 c2
 obtain ⟨r, e1, e2, _⟩ := wro (k : Int) l (l.eraseIdx i)
 rw [d1] at e1
 have e1 : cond f (xs, (0 : Int)) ([], 10) = r := Option.some.inj e1
 have hw : IntKind.i64.wrap ((i : Int) + 1) = ((i + 1 : Nat) : Int) := by rw [wal (by omega)]; rfl
 have hlen := (List.eraseIdx_sublist l i).length_le
 have hlr : 0 + (l.take ((i : Int) - 0).toNat).length + ((l.drop (((i + 1 : Nat) : Int)).toNat).take (((l.length : Int) : Int) - ((i + 1 : Nat) : Int)).toNat).length ≤ 4294967296 := by
  simp only [List.length_take, List.length_drop]; omega
 have hstep : wba (k : Int) (l, (i : Int)) = some (.inl (cond (decide (r.2 = 10)) (l.eraseIdx i) l, (i : Int) - 1)) := by
  unfold wba
  dsimp only
  rw [decide_eq_true (by omega), cond_true, hw]
  unfold wah
  rw [if_pos ⟨by omega, by omega, by omega⟩, if_pos (by simp only [List.length_take]; omega), if_pos ⟨by omega, by omega, by omega⟩, if_pos hlr, wsf hi, e2, Option.bind_some, wal (by omega)]
  cases decide (r.2 = 10) <;> rfl
 have hl' : cond (decide (r.2 = 10)) (l.eraseIdx i) l = l' := by
  rw [← e1]
  cases f with
  | false =>
   rcases h2 with ⟨_, h2⟩ | ⟨h2, _⟩
   ·exact absurd (d2.1 rfl) h2
   ·rw [h2]; rfl
  | true =>
   rcases h2 with ⟨h2, _⟩ | ⟨_, h2⟩
   ·rw [h2]; rfl
   ·have := d2.2 h2; cases this
 rw [hl'] at hstep
 refine ⟨l', h1, hstep, ?_, ?_⟩
 ·rcases h2 with ⟨rfl, _⟩ | ⟨rfl, _⟩
  ·exact hl
  ·exact he
 ·rcases h2 with ⟨rfl, _⟩ | ⟨rfl, _⟩
  ·exact .inl rfl
  ·exact .inr rfl
theorem wka {k : Nat} (hk1 : 1 ≤ k) (hk : k ≤ 4) : ∀ (n : Nat) (l : List Rule), n ≤ l.length → whd k l → iter (wba (k : Int)) (l, (n : Int) - 1) = iter (wbf (k : Int)) (l, (n : Int) - 1)
 | 0, l, _, _ => by
  have h1 : iter (wba (k : Int)) (l, ((0 : Nat) : Int) - 1) = some l := wbu (by
   unfold wba
   dsimp only
   rw [decide_eq_false (by omega)]; rfl)
  have h2 : iter (wbf (k : Int)) (l, ((0 : Nat) : Int) - 1) = some l := wbu (by
   unfold wbf
   dsimp only
   rw [decide_eq_false (by omega)]; rfl)
  rw [h1, h2]
 | n + 1, l, hn, hl => by
  obtain ⟨l', h1, h2, h3, h4⟩ := won hk1 hk hl (show n < l.length by omega)
  have e : ((n + 1 : Nat) : Int) - 1 = (n : Int) := by omega
  have hlen : n ≤ l'.length := by
   rcases h4 with rfl | rfl
   ·omega
   ·rw [List.length_eraseIdx_of_lt (by omega)]; omega
  have ih := wka hk1 hk n l' hlen h3
  rw [e, wbB (f := wba (k : Int)), wbB (f := wbf (k : Int)), h1, h2]
  exact ih
theorem wm6 (k : Int) (t : List Rule) : wm5 k t = some true := by
 unfold wm5
 obtain ⟨b, hb⟩ := wrl k t
 rw [hb, Option.bind_some]
 cases b with
 | false => rw [Bool.not_false, cond_true, wmO]; rfl
 | true =>
  have hs := wrq hb
  have done : ∀ out e, wcn k t = some (out, e) → wcm k t = some (out, e) → wli out → ((wcn k t).bind fun r3 => (wcm k t).bind fun r4 => (wbE r3.1 r4.1).bind fun r5 =>
    cond ((!r5) || (decide (¬r3.2 = r4.2))) (some false) ((wcs t).bind fun r6 => wah (r3.1.length ≤ 1000000 ∧ ∀ x ∈ r3.1, x.Bands.length ≤ 1000000) <|
     (wbE r6 t).bind fun r7 => ((cond r7 ((wbD).bind fun r8 => some r8) (some false)) : Option Bool).bind fun b1 => some b1)) = some true := by
   intro out e h1 h2 h3
   rw [h1, h2]
   simp only [Option.bind_some, wmZ h3, not_true_eq_false, decide_false, Bool.not_true, Bool.or_self, cond_false, wrr hs]
   unfold wah
   rw [if_pos ⟨by have := h3.1; omega, fun x hx => by have := h3.2 x hx; omega⟩, wmZ hs]
   simp only [Option.bind_some, cond_true, wmO]
  rw [Bool.not_true, cond_false]
  by_cases hc : chk k [t] = 0
  ·obtain ⟨h1, h2, h3, h4⟩ := wew hc
   obtain ⟨kn, rfl⟩ : ∃ n : Nat, k = (n : Int) := ⟨k.toNat, by omega⟩
   obtain ⟨out, g1, g2, g3, _⟩ := wr5 hc
   have hk : kn ≤ 4 := by omega
   have hcopy := wkY t hk ⟨h3, h4⟩ t.length 0 [] (by omega) (by simp)
   have hcopy : iter (wcR t) (0, []) = some ([] ++ t.drop 0) := hcopy
   rw [List.nil_append, List.drop_zero] at hcopy
   have hl := wka (k := kn) (by omega) hk t.length t (Nat.le_refl _) ⟨h3, h4⟩
   refine done out 0 g1 ?_ ⟨by have := g3.length_le; omega, fun r hr => hs.2 r (g3.subset hr)⟩
   have g1' := g1
   unfold wcn at g1'
   rw [wgz (kn : Int) [t] (by simp), hc] at g1'
   simp only [Option.bind_some, decide_not, decide_true, Bool.not_true, cond_false, hcopy] at g1'
   unfold wcm
   rw [wi7, hc]
   simp only [Option.bind_some, decide_not, decide_true, Bool.not_true, cond_false]
   rw [wal (by omega)] at g1' ⊢
   rw [hl]; exact g1'
  ·refine done [] (chk k [t]) (wr6 hc) ?_ ⟨by simp, fun r hr => by cases hr⟩
   unfold wcm
   rw [wi7, Option.bind_some]
   have hz : decide (¬ chk k [t] = 0) = true := decide_eq_true hc
   rw [hz]; rfl
end Go.Pv

