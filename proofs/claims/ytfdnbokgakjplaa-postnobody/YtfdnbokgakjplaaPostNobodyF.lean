/- PostNobody answers true for every input, and its arguments read as they did: as its row says (Rows), under the conditions of the row, no more. Part 6 of 7: by one AI agent and its programs; no person has read it. -/
import Derived.Test.YtfdnbokgakjplaaPostNobodyA
import Derived.Test.YtfdnbokgakjplaaPostNobodyB
import Derived.Test.YtfdnbokgakjplaaPostNobodyC
import Derived.Test.YtfdnbokgakjplaaPostNobodyD
import Derived.Test.YtfdnbokgakjplaaPostNobodyE
set_option linter.unusedSimpArgs false
set_option linter.unusedVariables false
set_option linter.all false

namespace Go.Pv.Try
open Go.Proofs Go.Pv
theorem m_post_Net_Messages_h_ok (o1 : Net) (r : ((List Msg) × Net)) (h : m_post_Net_Messages_h o1 = some r) : ObjFn Try.prog G 22 [.ptr 0 0 0] (dynBH (blks Pst.bs o1.posts) ([(0, ⟨67, 4, [.agg [.slc 1001 0 o1.posts.length, .slc 1002 0 o1.messages.length, .slc 1003 0 o1.calls.length, .d (.int .i64 o1.clock)]]⟩), (1001, ⟨84, 7, nelB Pst.bs o1.posts⟩), (1002, ⟨88, 8, dl (lenc Msg.pd o1.messages)⟩), (1003, ⟨51, 5, dl (lenc Cal.pd o1.calls)⟩)])) (.slc 1004 0 r.1.length) (dynBH (blks Pst.bs r.2.posts) ([(0, ⟨67, 4, [.agg [.slc 1001 0 r.2.posts.length, .slc 1002 0 r.2.messages.length, .slc 1003 0 r.2.calls.length, .d (.int .i64 r.2.clock)]]⟩), (1001, ⟨84, 7, nelB Pst.bs r.2.posts⟩), (1002, ⟨88, 8, dl (lenc Msg.pd r.2.messages)⟩), (1003, ⟨51, 5, dl (lenc Cal.pd r.2.calls)⟩), (1004, ⟨88, 8, dl (lenc Msg.pd r.1)⟩)])) := by
 unfold m_post_Net_Messages_h at h
 refine ObjFn.pf Try.func22 Try.ntmps22 ?_
 refine sg fun K k => ?_
 refine oo ?_
 refine AOps.nil (k _ ?_)
 refine AWp.seq fun _ K_1 => ?_
 refine sg fun K k => ?_
 refine oo ?_
 obtain ⟨r1, hx_2, h⟩ := bind_some h
 refine clB (S := Pst.bs) [(0, 0), (1001, 1001), (1002, 1002), (1003, 1003)] [1001, 1002, 1003] [] (m_post_Net_ok_h_ok o1 _ hx_2) ?_
 refine oo ?_
 refine AOps.nil (k _ ?_)
 refine cd h (fun h => ?_) (fun h => ?_)
 ·refine sg fun K k => ?_
  refine oo ?_
  refine AOps.nil (k _ ?_)
  refine AWp.sub (Sub.void 2 88 8 1004 (by rfl) (dyBR rfl) (by decide) (by decide)) ?_
  simp (disch := decide) only [eput, hput, hput_dynBH, reduceCtorEq, ↓reduceIte, Nat.reduceAdd, Nat.reduceMul, Nat.reduceLT, Nat.reduceLeDiff, Nat.reduceEqDiff, Nat.reduceBEq, Int.reduceToNat]
  refine AWp.ret ?_
  cases h; exact rtO
 ·refine AWp.skip ?_
  refine K_1 _ ?_
  refine sg fun K k => ?_
  obtain ⟨hg_4, h⟩ := guardO_some h
  iterate 4 refine oo ?_
  refine clL 1002 1004 (lend_52 r1.2.messages hg_4) ?_
  refine oo ?_
  refine AOps.nil (k _ ?_)
  refine AWp.ret ?_
  cases h; exact rtO
end Go.Pv.Try

namespace Go.Pv.Try
open Go.Proofs Go.Pv
set_option maxHeartbeats 4000000 in
theorem m_post_Net_message_h_ok (o1 : Net) (i1 : Int) (r : (Int × Net)) (h : m_post_Net_message_h o1 i1 = some r) : ObjFn Try.prog G 51 [.ptr 0 0 0, .d (.int .i64 i1)] (dynBH (blks Pst.bs o1.posts) ([(0, ⟨67, 4, [.agg [.slc 1001 0 o1.posts.length, .slc 1002 0 o1.messages.length, .slc 1003 0 o1.calls.length, .d (.int .i64 o1.clock)]]⟩), (1001, ⟨84, 7, nelB Pst.bs o1.posts⟩), (1002, ⟨88, 8, dl (lenc Msg.pd o1.messages)⟩), (1003, ⟨51, 5, dl (lenc Cal.pd o1.calls)⟩)])) (.d (.int .i64 r.1)) (dynBH (blks Pst.bs r.2.posts) ([(0, ⟨67, 4, [.agg [.slc 1001 0 r.2.posts.length, .slc 1002 0 r.2.messages.length, .slc 1003 0 r.2.calls.length, .d (.int .i64 r.2.clock)]]⟩), (1001, ⟨84, 7, nelB Pst.bs r.2.posts⟩), (1002, ⟨88, 8, dl (lenc Msg.pd r.2.messages)⟩), (1003, ⟨51, 5, dl (lenc Cal.pd r.2.calls)⟩)])) := by
 unfold m_post_Net_message_h at h
 refine ObjFn.pf Try.func51 Try.ntmps51 ?_
 refine sg fun K k => ?_
 refine oo ?_
 refine AOps.nil (k _ ?_)
 refine AWp.seq fun _ K_1 => ?_
 refine AWp.block ?_
 refine sg fun K k => ?_
 refine oo ?_
 obtain ⟨r1, hx_2, h⟩ := bind_some h
 refine clB (S := Pst.bs) [(0, 0), (1001, 1001), (1002, 1002), (1003, 1003)] [1001, 1002, 1003] [] (m_post_Net_ok_h_ok o1 _ hx_2) ?_
 iterate 2 refine oo ?_
 refine AOps.nil (k _ ?_)
 refine cd h (fun h => ?_) (fun h => ?_)
 ·refine sg fun K k => ?_
  refine oo ?_
  refine AOps.nil (k _ ?_)
  refine AWp.ret ?_
  cases h; exact rtO
 ·refine sg fun K k => ?_
  iterate 3 refine oo ?_
  refine ctH 8 [] [0, 1001, 1002, 1003] (fun  t => (20, .d (.bool ((decide (i1 < 0)) || (decide ((r1.2.messages.length : Int) ≤ i1))))) :: t) (fun  t => dynBH (blks Pst.bs r1.2.posts) (t)) ?_ ?_
  ·rcases bt (decide (i1 < 0)) with hg_5 | hg_5
   ·rw [hg_5]
    iterate 8 refine oo ?_
    refine AOps.nil ?_
    exact sbB
   ·rw [hg_5]
    iterate 8 refine oo ?_
    refine AOps.nil ?_
    exact sbB
  refine oo ?_
  refine AOps.nil (k _ ?_)
  refine cd h (fun h => ?_) (fun h => ?_)
  ·refine sg fun K k => ?_
   refine oo ?_
   refine AOps.nil (k _ ?_)
   refine AWp.ret ?_
   cases h; exact rtO
  ·refine AWp.skip ?_
   refine K_1 _ ?_
   refine sg fun K k => ?_
   refine oo ?_
   refine AOps.nil (k _ ?_)
   refine AWp.ret ?_
   cases h; exact rtO
end Go.Pv.Try

namespace Go.Pv.Try
open Go.Proofs Go.Pv
theorem m_cmp_isNaN_131_ok (x1 : Int) (r : Bool) (h : m_cmp_isNaN_131 x1 = some r) : PureFn Try.prog G 131 [.d (.int .i64 x1)] (.d (.bool r)) := by
 unfold m_cmp_isNaN_131 at h
 refine pf Try.func131 Try.ntmps131 ?_
 refine sg fun K k => ?_
 refine oo ?_
 refine AOps.nil (k _ ?_)
 refine sg fun K k => ?_
 iterate 4 refine oo ?_
 refine AOps.nil (k _ ?_)
 refine AWp.ret ?_
 cases h; exact rt
end Go.Pv.Try

namespace Go.Pv.Try
open Go.Proofs Go.Pv
set_option maxHeartbeats 4000000 in
theorem m_cmp_Compare_108_ok (x1 : Int) (y1 : Int) (r : Int) (h : m_cmp_Compare_108 x1 y1 = some r) : PureFn Try.prog G 108 [.d (.int .i64 x1), .d (.int .i64 y1)] (.d (.int .i64 r)) := by
 unfold m_cmp_Compare_108 at h
 refine pf Try.func108 Try.ntmps108 ?_
 refine sg fun K k => ?_
 refine oo ?_
 refine AOps.nil (k _ ?_)
 refine sg fun K k => ?_
 refine oo ?_
 obtain ⟨r1, hx_1, h⟩ := bind_some h
 refine cl (m_cmp_isNaN_131_ok x1 _ hx_1) ?_
 refine oo ?_
 refine AOps.nil (k _ ?_)
 refine sg fun K k => ?_
 refine oo ?_
 obtain ⟨r2, hx_2, h⟩ := bind_some h
 refine cl (m_cmp_isNaN_131_ok y1 _ hx_2) ?_
 refine oo ?_
 refine AOps.nil (k _ ?_)
 refine AWp.seq fun _ K_3 => ?_
 refine sg fun K k => ?_
 refine oo ?_
 refine AOps.nil (k _ ?_)
 refine cd h (fun h => ?_) (fun h => ?_)
 ·refine AWp.seq fun _ K_5 => ?_
  refine sg fun K k => ?_
  refine oo ?_
  refine AOps.nil (k _ ?_)
  refine cd h (fun h => ?_) (fun h => ?_)
  ·refine sg fun K k => ?_
   refine oo ?_
   refine AOps.nil (k _ ?_)
   refine AWp.ret ?_
   cases h; exact rt
  ·refine AWp.skip ?_
   refine K_5 _ ?_
   refine sg fun K k => ?_
   refine oo ?_
   refine AOps.nil (k _ ?_)
   refine AWp.ret ?_
   cases h; exact rt
 ·refine AWp.skip ?_
  refine K_3 _ ?_
  refine AWp.seq fun _ K_7 => ?_
  refine sg fun K k => ?_
  refine oo ?_
  refine AOps.nil (k _ ?_)
  refine cd h (fun h => ?_) (fun h => ?_)
  ·refine sg fun K k => ?_
   refine oo ?_
   refine AOps.nil (k _ ?_)
   refine AWp.ret ?_
   cases h; exact rt
  ·refine AWp.skip ?_
   refine K_7 _ ?_
   refine AWp.seq fun _ K_9 => ?_
   refine sg fun K k => ?_
   iterate 3 refine oo ?_
   refine AOps.nil (k _ ?_)
   refine cd h (fun h => ?_) (fun h => ?_)
   ·refine sg fun K k => ?_
    refine oo ?_
    refine AOps.nil (k _ ?_)
    refine AWp.ret ?_
    cases h; exact rt
   ·refine AWp.skip ?_
    refine K_9 _ ?_
    refine AWp.seq fun _ K_11 => ?_
    refine sg fun K k => ?_
    iterate 3 refine oo ?_
    refine AOps.nil (k _ ?_)
    refine cd h (fun h => ?_) (fun h => ?_)
    ·refine sg fun K k => ?_
     refine oo ?_
     refine AOps.nil (k _ ?_)
     refine AWp.ret ?_
     cases h; exact rt
    ·refine AWp.skip ?_
     refine K_11 _ ?_
     refine sg fun K k => ?_
     refine oo ?_
     refine AOps.nil (k _ ?_)
     refine AWp.ret ?_
     cases h; exact rt
end Go.Pv.Try

namespace Go.Pv.Try
open Go.Proofs Go.Pv
set_option maxHeartbeats 4000000 in
theorem m_cmp_Or_107_ok (vals1 : (List Int)) (r : Int) (h : m_cmp_Or_107 vals1 = some r) : PureFn Try.prog G 107 [.d (.imm 1 (lenc (PD.int .i64) vals1))] (.d (.int .i64 r)) := by
 unfold m_cmp_Or_107 at h
 refine pf Try.func107 Try.ntmps107 ?_
 refine sg fun K k => ?_
 refine oo ?_
 refine AOps.nil (k _ ?_)
 refine sg fun K k => ?_
 refine oo ?_
 refine AOps.nil (k _ ?_)
 refine jm (ι := Unit) [3] [] (fun i t => t) (fun i t => t) .inl h ?_ ?_
 ·intro _ hj_2 h
  refine sg fun K k => ?_
  iterate 3 refine oo ?_
  refine AOps.nil (k _ ?_)
  refine AWp.block ?_
  obtain ⟨x_7, hl_4, h2_5⟩ := bind_some hj_2
  refine lp (S := Int) [3, 6, 7] [] (fun i t => (8, .d (.int .i64 i)) :: t) (fun i t => t) hl_4 ?_ ?_; exact sb; clear hl_4
  rintro v1 _ hb_6; unfold m_cmp_Or_107_l1 at hb_6; try dsimp only at hb_6
  try dsimp only
  refine sg fun K k => ?_
  refine oo ?_
  refine AOps.nil (k _ ?_)
  refine AWp.seq fun _ K_9 => ?_
  refine cd hb_6 (fun hb_6 => ?_) (fun hb_6 => ?_)
  ·refine AWp.skip ?_
   refine K_9 _ ?_
   refine AWp.seq fun _ K_11 => ?_
   refine AWp.block ?_
   refine sg fun K k => ?_
   obtain ⟨e1, ⟨f_12, f_13, f_14, f_15⟩, hb_6⟩ := idx_bind hb_6
   refine oo ?_
   refine oo ?_ (by intro K k; simp (disch := omega) only [go_sem, f_14, ↓reduceIte]; exact k)
   refine oo ?_
   refine AOps.nil (k _ ?_)
   refine sg fun K k => ?_
   iterate 3 refine oo ?_
   refine AOps.nil (k _ ?_)
   refine cd hb_6 (fun hb_6 => ?_) (fun hb_6 => ?_)
   ·refine sg fun K k => ?_
    iterate 2 refine oo ?_
    refine AOps.nil (k _ ?_)
    refine AWp.ret ?_
    refine lx hb_6 fun hx => ?_; cases hx; try dsimp only at h2_5
    cases h2_5; try dsimp only at h
    cases h; exact rt
   ·refine AWp.skip ?_
    refine K_11 _ ?_
    refine AWp.reg ?_
    iterate 2 refine oo ?_
    refine AOps.nil ?_
    exact ln hb_6 sb
  ·refine AWp.exit ?_
   refine lx hb_6 fun hx => ?_; cases hx; try dsimp only at h2_5
   exact ln h2_5 sb
 ·rintro _ h; dsimp only at h ⊢
  refine sg fun K k => ?_
  iterate 2 refine oo ?_
  refine AOps.nil (k _ ?_)
  refine AWp.ret ?_
  cases h; exact rt
end Go.Pv.Try

namespace Go.Pv.Try
open Go.Proofs Go.Pv
theorem m_post_greater_ok (a1 : Stamp) (b1 : Stamp) (r : Bool) (h : m_post_greater a1 b1 = some r) : PureFn Try.prog G 87 [.d (.agg [(.int .i64 a1.No), (.int .i64 a1.Post), (.int .i64 a1.Turn)]), .d (.agg [(.int .i64 b1.No), (.int .i64 b1.Post), (.int .i64 b1.Turn)])] (.d (.bool r)) := by
 unfold m_post_greater at h
 refine pf Try.func87 Try.ntmps87 ?_
 refine sg fun K k => ?_
 iterate 3 refine oo ?_
 refine AOps.nil (k _ ?_)
 refine sd mo fun K k => ?_
 iterate 4 refine dd ?_
 obtain ⟨r1, hx_1, h⟩ := bind_some h
 refine dcl (m_cmp_Compare_108_ok a1.No b1.No _ hx_1) ?_
 iterate 4 refine dd ?_
 obtain ⟨r2, hx_2, h⟩ := bind_some h
 refine dcl (m_cmp_Compare_108_ok a1.Post b1.Post _ hx_2) ?_
 iterate 4 refine dd ?_
 obtain ⟨r3, hx_3, h⟩ := bind_some h
 refine dcl (m_cmp_Compare_108_ok a1.Turn b1.Turn _ hx_3) ?_
 refine ddl ?_
 obtain ⟨r4, hx_4, h⟩ := bind_some h
 refine dcl (m_cmp_Or_107_ok [r1, r2, r3] _ hx_4) ?_
 iterate 2 refine dd ?_
 refine DOps.nil (by kernel_rfl) (k _ ?_)
 refine AWp.ret ?_
 cases h; exact rt
end Go.Pv.Try

namespace Go.Pv.Try
open Go.Proofs Go.Pv
set_option maxHeartbeats 4000000 in
theorem m_post_work_majority_h_ok (o1 : Work) (r : (Bool × Work)) (h : m_post_work_majority_h o1 = some r) : ObjFn Try.prog G 88 [.ptr 0 0 0] [(0, ⟨103, 9, [.agg [.d (.int .i64 o1.turn), .d (.int .i64 o1.call), .d (.bool o1.write), .d (.bool o1.puts), .d (.int .i64 o1.stamp.No), .d (.int .i64 o1.stamp.Post), .d (.int .i64 o1.stamp.Turn), .d (.int .i64 o1.value), .slc 1001 0 o1.answered.length]]⟩), (1001, ⟨4, 1, dl (lenc PD.bool o1.answered)⟩)] (.d (.bool r.1)) [(0, ⟨103, 9, [.agg [.d (.int .i64 r.2.turn), .d (.int .i64 r.2.call), .d (.bool r.2.write), .d (.bool r.2.puts), .d (.int .i64 r.2.stamp.No), .d (.int .i64 r.2.stamp.Post), .d (.int .i64 r.2.stamp.Turn), .d (.int .i64 r.2.value), .slc 1001 0 r.2.answered.length]]⟩), (1001, ⟨4, 1, dl (lenc PD.bool r.2.answered)⟩)] := by
 unfold m_post_work_majority_h at h
 refine ObjFn.pf Try.func88 Try.ntmps88 ?_
 refine sg fun K k => ?_
 refine oo ?_
 refine AOps.nil (k _ ?_)
 refine sg fun K k => ?_
 refine oo ?_
 refine AOps.nil (k _ ?_)
 refine jn (α := Int) [0] [0, 1001] (fun i t => (3, .d (.int .i64 i)) :: t) (fun i t => t) h ?_ ?_
 ·intro _ hj_2
  refine sg fun K k => ?_
  iterate 6 refine oo ?_
  refine AOps.nil (k _ ?_)
  refine AWp.block ?_
  obtain ⟨x_7, hl_4, h2_5⟩ := bind_some hj_2
  refine lp (S := (Int × Int)) [0, 9, 10] [0, 1001] (fun i t => (3, .d (.int .i64 i.1)) :: (11, .d (.int .i64 i.2)) :: t) (fun i t => t) hl_4 ?_ ?_; exact sb; clear hl_4
  rintro ⟨n2, v1⟩ _ hb_6; unfold m_post_work_majority_h_l1 at hb_6; try dsimp only at hb_6
  try dsimp only
  refine sg fun K k => ?_
  refine oo ?_
  refine AOps.nil (k _ ?_)
  refine AWp.seq fun _ K_9 => ?_
  refine cd hb_6 (fun hb_6 => ?_) (fun hb_6 => ?_)
  ·refine AWp.skip ?_
   refine K_9 _ ?_
   refine jn (α := Int) [0, 9, 10, 11] [0, 1001] (fun i t => (3, .d (.int .i64 i)) :: t) (fun i t => t) hb_6 ?_ ?_
   ·intro _ hj_12
    refine AWp.block ?_
    refine sg fun K k => ?_
    obtain ⟨e1, ⟨f_13, f_14, f_15, f_16⟩, hj_12⟩ := idx_bind hj_12
    refine oo ?_
    refine oo ?_ (by intro K k; simp (disch := omega) only [go_sem, f_15, ↓reduceIte]; exact k)
    refine oo ?_
    refine AOps.nil (k _ ?_)
    refine sg fun K k => ?_
    refine oo ?_
    refine AOps.nil (k _ ?_)
    refine cd hj_12 (fun hj_12 => ?_) (fun hj_12 => ?_)
    ·refine AWp.reg ?_
     iterate 3 refine oo ?_
     refine AOps.nil ?_
     cases hj_12; exact sb
    ·refine AWp.skip ?_
     cases hj_12; exact sb
   ·rintro n3 hb_6; dsimp only at hb_6 ⊢
    refine AWp.reg ?_
    iterate 2 refine oo ?_
    refine AOps.nil ?_
    exact ln hb_6 sb
  ·refine AWp.exit ?_
   refine lx hb_6 fun hx => ?_; cases hx; try dsimp only at h2_5
   cases h2_5; exact sb
 ·rintro n1 h; dsimp only at h ⊢
  refine sg fun K k => ?_
  iterate 9 refine oo ?_
  refine AOps.nil (k _ ?_)
  refine AWp.ret ?_
  cases h; exact rtO
end Go.Pv.Try

namespace Go.Pv.Try
open Go.Proofs Go.Pv
set_option maxHeartbeats 4000000 in
theorem m_post_Net_told_h_ok (o1 : Net) (k1 : Int) (m1 : Msg) (r : Net) (h : m_post_Net_told_h o1 k1 m1 = some r) : ObjFn Try.prog G 86 [.ptr 0 0 0, .ptr 1001 ((k1).toNat) 0, .d (.agg [(.int .i64 m1.Kind), (.int .i64 m1.From), (.int .i64 m1.To), (.int .i64 m1.Turn), (.int .i64 m1.Stamp.No), (.int .i64 m1.Stamp.Post), (.int .i64 m1.Stamp.Turn), (.int .i64 m1.Value)])] (dynBH (blks Pst.bs o1.posts) ([(0, ⟨67, 4, [.agg [.slc 1001 0 o1.posts.length, .slc 1002 0 o1.messages.length, .slc 1003 0 o1.calls.length, .d (.int .i64 o1.clock)]]⟩), (1001, ⟨84, 7, nelB Pst.bs o1.posts⟩), (1002, ⟨88, 8, dl (lenc Msg.pd o1.messages)⟩), (1003, ⟨51, 5, dl (lenc Cal.pd o1.calls)⟩)])) (.tuple []) (dynBH (blks Pst.bs r.posts) ([(0, ⟨67, 4, [.agg [.slc 1001 0 r.posts.length, .slc 1002 0 r.messages.length, .slc 1003 0 r.calls.length, .d (.int .i64 r.clock)]]⟩), (1001, ⟨84, 7, nelB Pst.bs r.posts⟩), (1002, ⟨88, 8, dl (lenc Msg.pd r.messages)⟩), (1003, ⟨51, 5, dl (lenc Cal.pd r.calls)⟩)])) := by
 unfold m_post_Net_told_h at h
 refine ObjFn.pf Try.func86 Try.ntmps86 ?_
 refine sg fun K k => ?_
 refine oo ?_
 refine AOps.nil (k _ ?_)
 obtain ⟨e1, ⟨f_1, f_2, f_3, f_4⟩, h⟩ := idx_bind h
 rcases optB_case h with ⟨hw_5, h⟩ | ⟨w1, hw_5, h⟩
 ·have hF_6 := fun p => nelB_hole (S := Pst.bs) f_3 p
  have hwS_7 : Pst.bs.wk e1 = none := hw_5
  refine AWp.sub (opN (S := Pst.bs) ((k1).toNat) f_3 hwS_7 (hl := by rw [nelB_open f_3 hwS_7, Pst_F])) ?_
  refine sg fun K k => ?_
  iterate 3 refine oo ?_
  refine oo ?_ (by intro K k; simp (disch := omega) only [go_sem, hF_6, List.set_set, ↓reduceIte]; exact k)
  refine oo ?_
  refine AOps.nil (k _ ?_)
  refine AWp.seq fun _ K_8 => ?_
  refine sd mo fun K k => ?_
  iterate 27 refine dd ?_
  refine DOps.nil (by kernel_rfl) (k _ ?_)
  refine cdt ?_
  refine AWp.sub (τ := ⟨[(0, .ptr 0 0 0), (1, .ptr 1001 ((k1).toNat) 0), (2, .d (.agg [(.int .i64 m1.Kind), (.int .i64 m1.From), (.int .i64 m1.To), (.int .i64 m1.Turn), (.int .i64 m1.Stamp.No), (.int .i64 m1.Stamp.Post), (.int .i64 m1.Stamp.Turn), (.int .i64 m1.Value)])), (5, .ptr 1004 0 0), (6, .d .nilptr), (7, .ptr 1001 ((k1).toNat) 0), (8, .ptr 1001 ((k1).toNat) 0), (9, .ptr 1001 ((k1).toNat) 6), (10, .d .nilptr), (11, .d .nilptr), (12, .d (.bool true)), (13, .d (.bool true)), (14, .tuple []), (15, .tuple []), (16, .tuple []), (17, .tuple []), (18, .tuple []), (19, .tuple []), (20, .tuple []), (21, .d (.bool true)), (22, .d (.bool true)), (23, .tuple []), (24, .tuple []), (25, .tuple []), (26, .tuple []), (27, .d (.bool true)), (28, .d (.bool true)), (29, .tuple []), (30, .tuple []), (31, .tuple []), (32, .tuple []), (33, .tuple []), (34, .tuple []), (35, .tuple []), (36, .tuple []), (37, .d (.bool true))], (dynBH ((blks Pst.bs o1.posts).set ((k1).toNat) []) ([(0, ⟨67, 4, [.agg [.slc 1001 0 o1.posts.length, .slc 1002 0 o1.messages.length, .slc 1003 0 o1.calls.length, .d (.int .i64 o1.clock)]]⟩), (1001, ⟨84, 7, (nelB Pst.bs o1.posts).set ((k1).toNat) (.agg [.d (.bool e1.up), .d (.int .i64 e1.stamp.No), .d (.int .i64 e1.stamp.Post), .d (.int .i64 e1.stamp.Turn), .d (.int .i64 e1.value), .d (.int .i64 e1.turns), .d .nilptr])⟩), (1002, ⟨88, 8, dl (lenc Msg.pd o1.messages)⟩), (1003, ⟨51, 5, dl (lenc Cal.pd o1.calls)⟩), (1004, ⟨88, 8, [.d (.agg [(.int .i64 m1.Kind), (.int .i64 m1.From), (.int .i64 m1.To), (.int .i64 m1.Turn), (.int .i64 m1.Stamp.No), (.int .i64 m1.Stamp.Post), (.int .i64 m1.Stamp.Turn), (.int .i64 m1.Value)])]⟩)])), [], none⟩) sbB ?_
  refine AWp.sub (shN (S := Pst.bs) ((k1).toNat) (L := o1.posts) (⟨e1.up, e1.stamp, e1.value, e1.turns, none⟩ : Pst) [(0, ⟨67, 4, [.agg [.slc 1001 0 o1.posts.length, .slc 1002 0 o1.messages.length, .slc 1003 0 o1.calls.length, .d (.int .i64 o1.clock)]]⟩), (1001, ⟨84, 7, nelB Pst.bs (o1.posts.set ((k1).toNat) (⟨e1.up, e1.stamp, e1.value, e1.turns, none⟩ : Pst))⟩), (1002, ⟨88, 8, dl (lenc Msg.pd o1.messages)⟩), (1003, ⟨51, 5, dl (lenc Cal.pd o1.calls)⟩), (1004, ⟨88, 8, [.d (.agg [(.int .i64 m1.Kind), (.int .i64 m1.From), (.int .i64 m1.To), (.int .i64 m1.Turn), (.int .i64 m1.Stamp.No), (.int .i64 m1.Stamp.Post), (.int .i64 m1.Stamp.Turn), (.int .i64 m1.Value)])]⟩)] rfl (hl := by rw [← nelB_set (S := Pst.bs) (L := o1.posts) (i := ((k1).toNat)) (x := (⟨e1.up, e1.stamp, e1.value, e1.turns, none⟩ : Pst)) _ rfl]; rfl)) ?_
  refine AWp.ret ?_
  cases h; exact rtO
 ·have hF_9 := fun p => nelB_hole (S := Pst.bs) f_3 p
  have hwS_10 : Pst.bs.wk e1 = some w1 := hw_5
  refine AWp.sub (opS (S := Pst.bs) ((k1).toNat) 1005 1006 (⟨103, 9, [.agg [.d (.int .i64 w1.turn), .d (.int .i64 w1.call), .d (.bool w1.write), .d (.bool w1.puts), .d (.int .i64 w1.stamp.No), .d (.int .i64 w1.stamp.Post), .d (.int .i64 w1.stamp.Turn), .d (.int .i64 w1.value), .slc 1006 0 w1.answered.length]]⟩ : Row) (⟨4, 1, dl (lenc PD.bool w1.answered)⟩ : Row) f_3 hwS_10 (hl := by (simp only [renHeap, Row.ren, renL, PV.ren, dl_ren, focB_low, nelB_focus f_3 hwS_10, Nat.reduceLT, Pst_F]; rfl))) ?_
  refine sg fun K k => ?_
  iterate 3 refine oo ?_
  refine oo ?_ (by intro K k; simp (disch := omega) only [go_sem, hF_9, List.set_set, ↓reduceIte]; exact k)
  refine oo ?_
  refine AOps.nil (k _ ?_)
  refine AWp.seq fun _ K_11 => ?_
  refine sd mo fun K k => ?_
  iterate 12 refine dd ?_
  rcases bt (decide (¬w1.turn = m1.Turn)) with hg_12 | hg_12
  ·rw [hg_12]
   rw [hg_12, cond_true] at h
   iterate 15 refine dd ?_
   refine DOps.nil (by kernel_rfl) (k _ ?_)
   refine cdt ?_
   refine AWp.sub (drp [(0, .ptr 0 0 0), (1, .ptr 1001 ((k1).toNat) 0), (2, .d (.agg [(.int .i64 m1.Kind), (.int .i64 m1.From), (.int .i64 m1.To), (.int .i64 m1.Turn), (.int .i64 m1.Stamp.No), (.int .i64 m1.Stamp.Post), (.int .i64 m1.Stamp.Turn), (.int .i64 m1.Value)])), (5, .ptr 1004 0 0), (7, .ptr 1001 ((k1).toNat) 0), (8, .ptr 1001 ((k1).toNat) 0), (9, .ptr 1001 ((k1).toNat) 6), (12, .d (.bool false)), (13, .d (.bool false)), (17, .d (.int .i64 w1.turn)), (18, .ptr 1004 0 3), (19, .d (.int .i64 m1.Turn)), (20, .d (.bool true)), (21, .d (.bool true)), (22, .d (.bool true)), (23, .tuple []), (24, .tuple []), (25, .tuple []), (26, .tuple []), (27, .d (.bool true)), (28, .d (.bool true)), (29, .tuple []), (30, .tuple []), (31, .tuple []), (32, .tuple []), (33, .tuple []), (34, .tuple []), (35, .tuple []), (36, .tuple []), (37, .d (.bool true))]) ?_
   refine AWp.sub (shS (S := Pst.bs) ((k1).toNat) 1005 1006 (⟨e1.up, e1.stamp, e1.value, e1.turns, (some w1)⟩ : Pst) [(0, ⟨67, 4, [.agg [.slc 1001 0 o1.posts.length, .slc 1002 0 o1.messages.length, .slc 1003 0 o1.calls.length, .d (.int .i64 o1.clock)]]⟩), (1001, ⟨84, 7, nelB Pst.bs (o1.posts.set ((k1).toNat) (⟨e1.up, e1.stamp, e1.value, e1.turns, (some w1)⟩ : Pst))⟩), (1002, ⟨88, 8, dl (lenc Msg.pd o1.messages)⟩), (1003, ⟨51, 5, dl (lenc Cal.pd o1.calls)⟩), (1004, ⟨88, 8, [.d (.agg [(.int .i64 m1.Kind), (.int .i64 m1.From), (.int .i64 m1.To), (.int .i64 m1.Turn), (.int .i64 m1.Stamp.No), (.int .i64 m1.Stamp.Post), (.int .i64 m1.Stamp.Turn), (.int .i64 m1.Value)])]⟩)] f_3 rfl (hl := by (repeat' (first | exact trivial | exact rfl | exact dl_ren _ _ | exact nelB_unfocus (S := Pst.bs) (q0 := 1005) (q1 := 1006) (x := (⟨e1.up, e1.stamp, e1.value, e1.turns, (some w1)⟩ : Pst)) f_3 rfl (by decide) (by decide) | (simp only [renL, PV.ren, List.length_append, List.length_set, List.length_replicate, List.length_cons, List.length_nil, Nat.zero_add] <;> exact rfl) | apply And.intro)))) ?_
   refine AWp.ret ?_
   cases h; exact rtO
  ·rw [hg_12]
   rw [hg_12, cond_false] at h
   iterate 6 refine dd ?_
   rcases bt w1.puts with hg_13 | hg_13
   ·rw [hg_13]
    rw [hg_13, cond_true] at h
    iterate 9 refine dd ?_
    refine DOps.nil (by kernel_rfl) (k _ ?_)
    refine cdt ?_
    refine AWp.sub (drp [(0, .ptr 0 0 0), (1, .ptr 1001 ((k1).toNat) 0), (2, .d (.agg [(.int .i64 m1.Kind), (.int .i64 m1.From), (.int .i64 m1.To), (.int .i64 m1.Turn), (.int .i64 m1.Stamp.No), (.int .i64 m1.Stamp.Post), (.int .i64 m1.Stamp.Turn), (.int .i64 m1.Value)])), (5, .ptr 1004 0 0), (7, .ptr 1001 ((k1).toNat) 0), (8, .ptr 1001 ((k1).toNat) 0), (9, .ptr 1001 ((k1).toNat) 6), (12, .d (.bool false)), (13, .d (.bool false)), (17, .d (.int .i64 w1.turn)), (18, .ptr 1004 0 3), (19, .d (.int .i64 m1.Turn)), (20, .d (.bool false)), (21, .d (.bool false)), (22, .d (.bool false)), (26, .d (.bool true)), (27, .d (.bool true)), (28, .d (.bool true)), (29, .tuple []), (30, .tuple []), (31, .tuple []), (32, .tuple []), (33, .tuple []), (34, .tuple []), (35, .tuple []), (36, .tuple []), (37, .d (.bool true))]) ?_
    refine AWp.sub (shS (S := Pst.bs) ((k1).toNat) 1005 1006 (⟨e1.up, e1.stamp, e1.value, e1.turns, (some (⟨w1.turn, w1.call, w1.write, true, w1.stamp, w1.value, w1.answered⟩ : Work))⟩ : Pst) [(0, ⟨67, 4, [.agg [.slc 1001 0 o1.posts.length, .slc 1002 0 o1.messages.length, .slc 1003 0 o1.calls.length, .d (.int .i64 o1.clock)]]⟩), (1001, ⟨84, 7, nelB Pst.bs (o1.posts.set ((k1).toNat) (⟨e1.up, e1.stamp, e1.value, e1.turns, (some (⟨w1.turn, w1.call, w1.write, true, w1.stamp, w1.value, w1.answered⟩ : Work))⟩ : Pst))⟩), (1002, ⟨88, 8, dl (lenc Msg.pd o1.messages)⟩), (1003, ⟨51, 5, dl (lenc Cal.pd o1.calls)⟩), (1004, ⟨88, 8, [.d (.agg [(.int .i64 m1.Kind), (.int .i64 m1.From), (.int .i64 m1.To), (.int .i64 m1.Turn), (.int .i64 m1.Stamp.No), (.int .i64 m1.Stamp.Post), (.int .i64 m1.Stamp.Turn), (.int .i64 m1.Value)])]⟩)] f_3 rfl (hl := by (repeat' (first | exact trivial | exact rfl | exact dl_ren _ _ | exact nelB_unfocus (S := Pst.bs) (q0 := 1005) (q1 := 1006) (x := (⟨e1.up, e1.stamp, e1.value, e1.turns, (some (⟨w1.turn, w1.call, w1.write, true, w1.stamp, w1.value, w1.answered⟩ : Work))⟩ : Pst)) f_3 rfl (by decide) (by decide) | (simp only [renL, PV.ren, List.length_append, List.length_set, List.length_replicate, List.length_cons, List.length_nil, Nat.zero_add] <;> exact rfl) | apply And.intro)))) ?_
    refine AWp.ret ?_
    cases h; exact rtO
   ·rw [hg_13]
    rw [hg_13, cond_false] at h
    obtain ⟨e2, ⟨f_14, f_15, f_16, f_17⟩, h⟩ := idx_bind h
    iterate 7 refine dd ?_
    refine dd ?_ (by intro K k; simp (disch := omega) only [go_sem, f_16, ↓reduceIte]; exact k)
    refine dd ?_
    refine DOps.nil (by kernel_rfl) (k _ ?_)
    refine cd h (fun h => ?_) (fun h => ?_)
    ·refine AWp.sub (drp [(0, .ptr 0 0 0), (1, .ptr 1001 ((k1).toNat) 0), (2, .d (.agg [(.int .i64 m1.Kind), (.int .i64 m1.From), (.int .i64 m1.To), (.int .i64 m1.Turn), (.int .i64 m1.Stamp.No), (.int .i64 m1.Stamp.Post), (.int .i64 m1.Stamp.Turn), (.int .i64 m1.Value)])), (5, .ptr 1004 0 0), (7, .ptr 1001 ((k1).toNat) 0), (8, .ptr 1001 ((k1).toNat) 0), (9, .ptr 1001 ((k1).toNat) 6), (12, .d (.bool false)), (13, .d (.bool false)), (17, .d (.int .i64 w1.turn)), (18, .ptr 1004 0 3), (19, .d (.int .i64 m1.Turn)), (20, .d (.bool false)), (21, .d (.bool false)), (22, .d (.bool false)), (26, .d (.bool false)), (27, .d (.bool false)), (28, .d (.bool false)), (33, .ptr 1004 0 1), (34, .d (.int .i64 m1.From)), (36, .d (.bool e2)), (37, .d (.bool e2))]) ?_
     refine AWp.sub (shS (S := Pst.bs) ((k1).toNat) 1005 1006 (⟨e1.up, e1.stamp, e1.value, e1.turns, (some (⟨w1.turn, w1.call, w1.write, false, w1.stamp, w1.value, w1.answered⟩ : Work))⟩ : Pst) [(0, ⟨67, 4, [.agg [.slc 1001 0 o1.posts.length, .slc 1002 0 o1.messages.length, .slc 1003 0 o1.calls.length, .d (.int .i64 o1.clock)]]⟩), (1001, ⟨84, 7, nelB Pst.bs (o1.posts.set ((k1).toNat) (⟨e1.up, e1.stamp, e1.value, e1.turns, (some (⟨w1.turn, w1.call, w1.write, false, w1.stamp, w1.value, w1.answered⟩ : Work))⟩ : Pst))⟩), (1002, ⟨88, 8, dl (lenc Msg.pd o1.messages)⟩), (1003, ⟨51, 5, dl (lenc Cal.pd o1.calls)⟩), (1004, ⟨88, 8, [.d (.agg [(.int .i64 m1.Kind), (.int .i64 m1.From), (.int .i64 m1.To), (.int .i64 m1.Turn), (.int .i64 m1.Stamp.No), (.int .i64 m1.Stamp.Post), (.int .i64 m1.Stamp.Turn), (.int .i64 m1.Value)])]⟩)] f_3 rfl (hl := by (repeat' (first | exact trivial | exact rfl | exact dl_ren _ _ | exact nelB_unfocus (S := Pst.bs) (q0 := 1005) (q1 := 1006) (x := (⟨e1.up, e1.stamp, e1.value, e1.turns, (some (⟨w1.turn, w1.call, w1.write, false, w1.stamp, w1.value, w1.answered⟩ : Work))⟩ : Pst)) f_3 rfl (by decide) (by decide) | (simp only [renL, PV.ren, List.length_append, List.length_set, List.length_replicate, List.length_cons, List.length_nil, Nat.zero_add] <;> exact rfl) | apply And.intro)))) ?_
     refine AWp.ret ?_
     cases h; exact rtO
    ·refine AWp.skip ?_
     refine K_11 _ ?_
     refine sd mo fun K k => ?_
     obtain ⟨e3, ⟨f_19, f_20, f_21, f_22⟩, h⟩ := idx_bind h
     iterate 7 refine dd ?_
     refine dd ?_ (by intro K k; simp (disch := omega) only [go_sem, f_21, ↓reduceIte]; exact k)
     refine DOps.nil (by kernel_rfl) (k _ ?_)
     refine jn (α := (Int × Int × Int × Int)) [0, 5] [0, 1001, 1002, 1003, 1004, 1006] (fun i t => (6, .ptr 1005 0 0) :: t) (fun i t => dynBH ((blks Pst.bs o1.posts).set ((k1).toNat) []) ((1005, ⟨103, 9, [.agg [.d (.int .i64 w1.turn), .d (.int .i64 w1.call), .d (.bool w1.write), .d (.bool false), .d (.int .i64 i.1), .d (.int .i64 i.2.1), .d (.int .i64 i.2.2.1), .d (.int .i64 i.2.2.2), .slc 1006 0 w1.answered.length]]⟩) :: t)) h ?_ ?_
     ·intro _ hj_24
      refine sd mo fun K k => ?_
      iterate 6 refine dd ?_
      obtain ⟨r1, hx_25, hj_24⟩ := bind_some hj_24
      refine dcl (m_post_greater_ok m1.Stamp w1.stamp _ hx_25) ?_
      refine DOps.nil (by kernel_rfl) (k _ ?_)
      refine cd hj_24 (fun hj_24 => ?_) (fun hj_24 => ?_)
      ·refine sg fun K k => ?_
       iterate 6 refine oo ?_
       refine AOps.nil (k _ ?_)
       refine sg fun K k => ?_
       iterate 5 refine oo ?_
       refine AOps.nil (k _ ?_)
       refine cd hj_24 (fun hj_24 => ?_) (fun hj_24 => ?_)
       ·refine AWp.reg ?_
        iterate 6 refine oo ?_
        refine AOps.nil ?_
        cases hj_24; exact sbB
       ·refine AWp.skip ?_
        cases hj_24; exact sbB
      ·refine AWp.skip ?_
       cases hj_24; exact sbB
     ·rintro ⟨c1, c2, c3, c4⟩ h; dsimp only at h ⊢
      refine AWp.seq fun _ K_28 => ?_
      refine sg fun K k => ?_
      refine oo ?_
      obtain ⟨r2, hx_29, h⟩ := bind_some h
      refine clW [(0, 1005), (1001, 1006)] [1006] [] (m_post_work_majority_h_ok (⟨w1.turn, w1.call, w1.write, false, (⟨c1, c2, c3⟩ : Stamp), c4, (w1.answered.set (m1.From).toNat true)⟩ : Work) _ hx_29) ?_
      refine oo ?_
      refine AOps.nil (k _ ?_)
      refine cd h (fun h => ?_) (fun h => ?_)
      ·refine AWp.sub (drp [(0, .ptr 0 0 0), (5, .ptr 1004 0 0), (68, .d (.bool r2.1)), (69, .d (.bool (!r2.1)))]) ?_
       refine AWp.sub (shS (S := Pst.bs) ((k1).toNat) 1005 1006 (⟨e1.up, e1.stamp, e1.value, e1.turns, (some r2.2)⟩ : Pst) [(0, ⟨67, 4, [.agg [.slc 1001 0 o1.posts.length, .slc 1002 0 o1.messages.length, .slc 1003 0 o1.calls.length, .d (.int .i64 o1.clock)]]⟩), (1001, ⟨84, 7, nelB Pst.bs (o1.posts.set ((k1).toNat) (⟨e1.up, e1.stamp, e1.value, e1.turns, (some r2.2)⟩ : Pst))⟩), (1002, ⟨88, 8, dl (lenc Msg.pd o1.messages)⟩), (1003, ⟨51, 5, dl (lenc Cal.pd o1.calls)⟩), (1004, ⟨88, 8, [.d (.agg [(.int .i64 m1.Kind), (.int .i64 m1.From), (.int .i64 m1.To), (.int .i64 m1.Turn), (.int .i64 m1.Stamp.No), (.int .i64 m1.Stamp.Post), (.int .i64 m1.Stamp.Turn), (.int .i64 m1.Value)])]⟩)] f_3 rfl (hl := by (repeat' (first | exact trivial | exact rfl | exact dl_ren _ _ | exact nelB_unfocus (S := Pst.bs) (q0 := 1005) (q1 := 1006) (x := (⟨e1.up, e1.stamp, e1.value, e1.turns, (some r2.2)⟩ : Pst)) f_3 rfl (by decide) (by decide) | (simp only [renL, PV.ren, List.length_append, List.length_set, List.length_replicate, List.length_cons, List.length_nil, Nat.zero_add] <;> exact rfl) | apply And.intro)))) ?_
       refine AWp.ret ?_
       cases h; exact rtO
      ·refine AWp.skip ?_
       refine K_28 _ ?_
       refine jn (α := (Int × Int × Int)) [0, 5] [0, 1001, 1002, 1003, 1004, 1006] (fun i t => (6, .ptr 1005 0 0) :: t) (fun i t => dynBH ((blks Pst.bs o1.posts).set ((k1).toNat) []) ((1005, ⟨103, 9, [.agg [.d (.int .i64 r2.2.turn), .d (.int .i64 r2.2.call), .d (.bool r2.2.write), .d (.bool r2.2.puts), .d (.int .i64 i.1), .d (.int .i64 i.2.1), .d (.int .i64 i.2.2), .d (.int .i64 r2.2.value), .slc 1006 0 r2.2.answered.length]]⟩) :: t)) h ?_ ?_
       ·intro _ hj_32
        refine sg fun K k => ?_
        iterate 4 refine oo ?_
        refine AOps.nil (k _ ?_)
        refine cd hj_32 (fun hj_32 => ?_) (fun hj_32 => ?_)
        ·refine AWp.draw mo [] trivial ?_
         iterate 17 refine dd ?_
         refine DOps.nil (by kernel_rfl) ?_
         cases hj_32; exact sbB
        ·refine AWp.skip ?_
         cases hj_32; exact sbB
       ·rintro ⟨c5, c6, c7⟩ h; dsimp only at h ⊢
        refine sd mo fun K k => ?_
        obtain ⟨hg_34, h⟩ := guardO_some h
        iterate 14 refine dd ?_
        refine DOps.nil (by kernel_rfl) (k _ ?_)
        refine AWp.draw mo [] trivial ?_
        iterate 16 refine dd ?_
        refine DOps.stop (by kernel_rfl) ?_
        refine AOps.sub (τ := ⟨[(102, .ptr 0 0 0), (117, .d (.agg [(.int .i64 3), (.int .i64 m1.To), (.int .i64 0), (.int .i64 r2.2.turn), (.int .i64 c5), (.int .i64 c6), (.int .i64 c7), (.int .i64 r2.2.value)]))], (dynBH ((blks Pst.bs o1.posts).set ((k1).toNat) []) ([(0, ⟨67, 4, [.agg [.slc 1001 0 o1.posts.length, .slc 1002 0 o1.messages.length, .slc 1003 0 o1.calls.length, .d (.int .i64 o1.clock)]]⟩), (1001, ⟨84, 7, (nelB Pst.bs o1.posts).set ((k1).toNat) (.agg [.d (.bool e1.up), .d (.int .i64 e1.stamp.No), .d (.int .i64 e1.stamp.Post), .d (.int .i64 e1.stamp.Turn), .d (.int .i64 e1.value), .d (.int .i64 e1.turns), .ptr 1005 0 0])⟩), (1002, ⟨88, 8, dl (lenc Msg.pd o1.messages)⟩), (1003, ⟨51, 5, dl (lenc Cal.pd o1.calls)⟩), (1005, ⟨103, 9, [.agg [.d (.int .i64 r2.2.turn), .d (.int .i64 r2.2.call), .d (.bool r2.2.write), .d (.bool true), .d (.int .i64 c5), .d (.int .i64 c6), .d (.int .i64 c7), .d (.int .i64 r2.2.value), .slc 1007 0 (((o1.posts.length : Int)).toNat)]]⟩), (1007, ⟨4, 1, dl (lenc PD.bool (List.replicate ((o1.posts.length : Int)).toNat (false : Bool)))⟩)])), [], none⟩) sbB ?_
        refine AOps.sub (shS (S := Pst.bs) ((k1).toNat) 1005 1007 (⟨e1.up, e1.stamp, e1.value, e1.turns, (some (⟨r2.2.turn, r2.2.call, r2.2.write, true, (⟨c5, c6, c7⟩ : Stamp), r2.2.value, (List.replicate ((o1.posts.length : Int)).toNat (false : Bool))⟩ : Work))⟩ : Pst) [(0, ⟨67, 4, [.agg [.slc 1001 0 o1.posts.length, .slc 1002 0 o1.messages.length, .slc 1003 0 o1.calls.length, .d (.int .i64 o1.clock)]]⟩), (1001, ⟨84, 7, nelB Pst.bs (o1.posts.set ((k1).toNat) (⟨e1.up, e1.stamp, e1.value, e1.turns, (some (⟨r2.2.turn, r2.2.call, r2.2.write, true, (⟨c5, c6, c7⟩ : Stamp), r2.2.value, (List.replicate ((o1.posts.length : Int)).toNat (false : Bool))⟩ : Work))⟩ : Pst))⟩), (1002, ⟨88, 8, dl (lenc Msg.pd o1.messages)⟩), (1003, ⟨51, 5, dl (lenc Cal.pd o1.calls)⟩)] f_3 rfl (hl := by (repeat' (first | exact trivial | exact rfl | exact dl_ren _ _ | exact nelB_unfocus (S := Pst.bs) (q0 := 1005) (q1 := 1007) (x := (⟨e1.up, e1.stamp, e1.value, e1.turns, (some (⟨r2.2.turn, r2.2.call, r2.2.write, true, (⟨c5, c6, c7⟩ : Stamp), r2.2.value, (List.replicate ((o1.posts.length : Int)).toNat (false : Bool))⟩ : Work))⟩ : Pst)) f_3 rfl (by decide) (by decide) | (simp only [renL, PV.ren, List.length_append, List.length_set, List.length_replicate, List.length_cons, List.length_nil, Nat.zero_add] <;> exact rfl) | apply And.intro)))) ?_
        obtain ⟨r3, hx_35, h⟩ := bind_some h
        refine clB (S := Pst.bs) [(0, 0), (1001, 1001), (1002, 1002), (1003, 1003)] [1001, 1002, 1003] [] (m_post_Net_all_h_ok (⟨(o1.posts.set ((k1).toNat) (⟨e1.up, e1.stamp, e1.value, e1.turns, (some (⟨r2.2.turn, r2.2.call, r2.2.write, true, (⟨c5, c6, c7⟩ : Stamp), r2.2.value, (List.replicate ((o1.posts.length : Int)).toNat (false : Bool))⟩ : Work))⟩ : Pst)), o1.messages, o1.calls, o1.clock⟩ : Net) (⟨3, m1.To, 0, r2.2.turn, (⟨c5, c6, c7⟩ : Stamp), r2.2.value⟩ : Msg) _ hx_35) ?_
        refine AOps.nil ?_
        cases h; exact rtO
end Go.Pv.Try

namespace Go.Pv.Try
open Go.Proofs Go.Pv
set_option maxHeartbeats 4000000 in
theorem m_post_Net_take_h_ok (o1 : Net) (k1 : Int) (m1 : Msg) (r : Net) (h : m_post_Net_take_h o1 k1 m1 = some r) : ObjFn Try.prog G 54 [.ptr 0 0 0, .ptr 1001 ((k1).toNat) 0, .d (.agg [(.int .i64 m1.Kind), (.int .i64 m1.From), (.int .i64 m1.To), (.int .i64 m1.Turn), (.int .i64 m1.Stamp.No), (.int .i64 m1.Stamp.Post), (.int .i64 m1.Stamp.Turn), (.int .i64 m1.Value)])] (dynBH (blks Pst.bs o1.posts) ([(0, ⟨67, 4, [.agg [.slc 1001 0 o1.posts.length, .slc 1002 0 o1.messages.length, .slc 1003 0 o1.calls.length, .d (.int .i64 o1.clock)]]⟩), (1001, ⟨84, 7, nelB Pst.bs o1.posts⟩), (1002, ⟨88, 8, dl (lenc Msg.pd o1.messages)⟩), (1003, ⟨51, 5, dl (lenc Cal.pd o1.calls)⟩)])) (.tuple []) (dynBH (blks Pst.bs r.posts) ([(0, ⟨67, 4, [.agg [.slc 1001 0 r.posts.length, .slc 1002 0 r.messages.length, .slc 1003 0 r.calls.length, .d (.int .i64 r.clock)]]⟩), (1001, ⟨84, 7, nelB Pst.bs r.posts⟩), (1002, ⟨88, 8, dl (lenc Msg.pd r.messages)⟩), (1003, ⟨51, 5, dl (lenc Cal.pd r.calls)⟩)])) := by
 unfold m_post_Net_take_h at h
 refine ObjFn.pfS Try.func54 Try.ntmps54 ?_
 refine sg fun K k => ?_
 refine oo ?_
 refine AOps.nil (k _ ?_)
 refine sg fun K k => ?_
 iterate 2 refine oo ?_
 refine AOps.nil (k _ ?_)
 refine AWp.block ?_
 refine sg fun K k => ?_
 iterate 2 refine oo ?_
 refine AOps.nil (k _ ?_)
 refine cd h (fun h => ?_) (fun h => ?_)
 ·refine AWp.draw mo [] trivial ?_
  obtain ⟨e1, ⟨f_2, f_3, f_4, f_5⟩, h⟩ := idx_bind h
  iterate 10 refine dd ?_
  refine dd ?_ (by intro K k; simp (disch := omega) only [go_sem, nelB_at (S := Pst.bs) f_4, ↓reduceIte]; exact k)
  iterate 3 refine dd ?_
  refine dd ?_ (by intro K k; simp (disch := omega) only [go_sem, nelB_at (S := Pst.bs) f_4, ↓reduceIte]; exact k)
  refine dd ?_
  refine DOps.stop (by kernel_rfl) ?_
  refine AOps.sub (τ := ⟨[(12, .ptr 0 0 0), (27, .d (.agg [(.int .i64 2), (.int .i64 m1.To), (.int .i64 m1.From), (.int .i64 m1.Turn), (.int .i64 e1.stamp.No), (.int .i64 e1.stamp.Post), (.int .i64 e1.stamp.Turn), (.int .i64 e1.value)]))], (dynBH (blks Pst.bs o1.posts) ([(0, ⟨67, 4, [.agg [.slc 1001 0 o1.posts.length, .slc 1002 0 o1.messages.length, .slc 1003 0 o1.calls.length, .d (.int .i64 o1.clock)]]⟩), (1001, ⟨84, 7, nelB Pst.bs o1.posts⟩), (1002, ⟨88, 8, dl (lenc Msg.pd o1.messages)⟩), (1003, ⟨51, 5, dl (lenc Cal.pd o1.calls)⟩)])), [], none⟩) sbB ?_
  obtain ⟨r1, hx_6, h⟩ := bind_some h
  refine clB (S := Pst.bs) [(0, 0), (1001, 1001), (1002, 1002), (1003, 1003)] [1001, 1002, 1003] [] (m_post_Net_send_h_ok o1 (⟨2, m1.To, m1.From, m1.Turn, e1.stamp, e1.value⟩ : Msg) _ hx_6) ?_
  refine AOps.nil ?_
  cases h; exact ⟨_, Sub.refl, rtO⟩
 ·refine sg fun K k => ?_
  iterate 2 refine oo ?_
  refine AOps.nil (k _ ?_)
  refine cd h (fun h => ?_) (fun h => ?_)
  ·refine AWp.reg ?_
   iterate 3 refine oo ?_
   refine AOps.sub (τ := ⟨[(31, .ptr 0 0 0), (32, .ptr 1001 ((k1).toNat) 0), (33, .d (.agg [(.int .i64 m1.Kind), (.int .i64 m1.From), (.int .i64 m1.To), (.int .i64 m1.Turn), (.int .i64 m1.Stamp.No), (.int .i64 m1.Stamp.Post), (.int .i64 m1.Stamp.Turn), (.int .i64 m1.Value)]))], (dynBH (blks Pst.bs o1.posts) ([(0, ⟨67, 4, [.agg [.slc 1001 0 o1.posts.length, .slc 1002 0 o1.messages.length, .slc 1003 0 o1.calls.length, .d (.int .i64 o1.clock)]]⟩), (1001, ⟨84, 7, nelB Pst.bs o1.posts⟩), (1002, ⟨88, 8, dl (lenc Msg.pd o1.messages)⟩), (1003, ⟨51, 5, dl (lenc Cal.pd o1.calls)⟩)])), [], none⟩) sbB ?_
   obtain ⟨r2, hx_8, h⟩ := bind_some h
   refine clB (S := Pst.bs) [(0, 0), (1001, 1001), (1002, 1002), (1003, 1003)] [1001, 1002, 1003] [32] (m_post_Net_told_h_ok o1 k1 m1 _ hx_8) ?_
   refine AOps.nil ?_
   cases h; exact ⟨_, Sub.refl, rtO⟩
  ·refine sg fun K k => ?_
   iterate 2 refine oo ?_
   refine AOps.nil (k _ ?_)
   refine cd h (fun h => ?_) (fun h => ?_)
   ·refine jn (α := (List Pst)) [0, 5] [1002, 1003, 1004] (fun i t => t) (fun i t => dynBH (blks Pst.bs i) ((0, ⟨67, 4, [.agg [.slc 1001 0 i.length, .slc 1002 0 o1.messages.length, .slc 1003 0 o1.calls.length, .d (.int .i64 o1.clock)]]⟩) :: (1001, ⟨84, 7, nelB Pst.bs i⟩) :: t)) h ?_ ?_
    ·intro _ hj_11
     refine sd mo fun K k => ?_
     obtain ⟨e2, ⟨f_12, f_13, f_14, f_15⟩, hj_11⟩ := idx_bind hj_11
     iterate 5 refine dd ?_
     refine dd ?_ (by intro K k; simp (disch := omega) only [go_sem, nelB_at (S := Pst.bs) f_14, ↓reduceIte]; exact k)
     obtain ⟨r3, hx_16, hj_11⟩ := bind_some hj_11
     refine dcl (m_post_greater_ok m1.Stamp e2.stamp _ hx_16) ?_
     refine DOps.nil (by kernel_rfl) (k _ ?_)
     refine cd hj_11 (fun hj_11 => ?_) (fun hj_11 => ?_)
     ·obtain ⟨e3, ⟨f_18, f_19, f_20, f_21⟩, hj_11⟩ := idx_bind hj_11
      rcases optB_case hj_11 with ⟨hw_22, hj_11⟩ | ⟨w1, hw_22, hj_11⟩
      ·have hF_23 := fun p => nelB_hole (S := Pst.bs) f_20 p
       have hwS_24 : Pst.bs.wk e3 = none := hw_22
       refine AWp.sub (opN (S := Pst.bs) ((k1).toNat) f_20 hwS_24 (hl := by rw [nelB_open f_20 hwS_24, Pst_F])) ?_
       refine AWp.draw mo [] trivial ?_
       iterate 8 refine dd ?_
       refine dd ?_ (by intro K k; simp (disch := omega) only [go_sem, hF_23, List.set_set, ↓reduceIte]; exact k)
       iterate 2 refine dd ?_
       refine dd ?_ (by intro K k; simp (disch := omega) only [go_sem, hF_23, List.set_set, ↓reduceIte]; exact k)
       refine DOps.nil (by kernel_rfl) ?_
       cases hj_11; exact (Sub.trans (sbB (τ := ⟨[(0, .ptr 0 0 0), (1, .ptr 1001 ((k1).toNat) 0), (2, .d (.agg [(.int .i64 m1.Kind), (.int .i64 m1.From), (.int .i64 m1.To), (.int .i64 m1.Turn), (.int .i64 m1.Stamp.No), (.int .i64 m1.Stamp.Post), (.int .i64 m1.Stamp.Turn), (.int .i64 m1.Value)])), (5, .ptr 1004 0 0), (8, .ptr 1004 0 0), (9, .d (.int .i64 m1.Kind)), (10, .d (.bool (decide (m1.Kind = 1)))), (11, .d (.bool (decide (m1.Kind = 1)))), (29, .d (.bool (decide (m1.Kind = 2)))), (30, .d (.bool (decide (m1.Kind = 2)))), (35, .d (.bool (decide (m1.Kind = 3)))), (36, .d (.bool (decide (m1.Kind = 3)))), (37, .ptr 1004 0 4), (38, .d (.agg [(.int .i64 m1.Stamp.No), (.int .i64 m1.Stamp.Post), (.int .i64 m1.Stamp.Turn)])), (39, .ptr 1001 ((k1).toNat) 0), (40, .ptr 1001 ((k1).toNat) 0), (41, .ptr 1001 ((k1).toNat) 1), (42, .d (.agg [(.int .i64 e2.stamp.No), (.int .i64 e2.stamp.Post), (.int .i64 e2.stamp.Turn)])), (43, .d (.bool r3)), (44, .ptr 1001 ((k1).toNat) 0), (45, .ptr 1001 ((k1).toNat) 0), (46, .ptr 1004 0 4), (47, .d (.agg [(.int .i64 m1.Stamp.No), (.int .i64 m1.Stamp.Post), (.int .i64 m1.Stamp.Turn)])), (48, .ptr 1004 0 7), (49, .d (.int .i64 m1.Value)), (50, .ptr 1001 ((k1).toNat) 0), (51, .ptr 1001 ((k1).toNat) 1), (52, .ptr 1001 ((k1).toNat) 0), (53, .ptr 1001 ((k1).toNat) 4)], (dynBH ((blks Pst.bs o1.posts).set ((k1).toNat) []) ([(0, ⟨67, 4, [.agg [.slc 1001 0 o1.posts.length, .slc 1002 0 o1.messages.length, .slc 1003 0 o1.calls.length, .d (.int .i64 o1.clock)]]⟩), (1001, ⟨84, 7, (nelB Pst.bs o1.posts).set ((k1).toNat) (.d (.agg [(.bool e3.up), (.int .i64 m1.Stamp.No), (.int .i64 m1.Stamp.Post), (.int .i64 m1.Stamp.Turn), (.int .i64 m1.Value), (.int .i64 e3.turns), .nilptr]))⟩), (1002, ⟨88, 8, dl (lenc Msg.pd o1.messages)⟩), (1003, ⟨51, 5, dl (lenc Cal.pd o1.calls)⟩), (1004, ⟨88, 8, [.d (.agg [(.int .i64 m1.Kind), (.int .i64 m1.From), (.int .i64 m1.To), (.int .i64 m1.Turn), (.int .i64 m1.Stamp.No), (.int .i64 m1.Stamp.Post), (.int .i64 m1.Stamp.Turn), (.int .i64 m1.Value)])]⟩)])), [], none⟩)) (Sub.trans (shND (S := Pst.bs) 1001 ((k1).toNat) (L := o1.posts) (⟨e3.up, m1.Stamp, m1.Value, e3.turns, none⟩ : Pst) [(0, ⟨67, 4, [.agg [.slc 1001 0 o1.posts.length, .slc 1002 0 o1.messages.length, .slc 1003 0 o1.calls.length, .d (.int .i64 o1.clock)]]⟩), (1001, ⟨84, 7, nelB Pst.bs (o1.posts.set ((k1).toNat) (⟨e3.up, m1.Stamp, m1.Value, e3.turns, none⟩ : Pst))⟩), (1002, ⟨88, 8, dl (lenc Msg.pd o1.messages)⟩), (1003, ⟨51, 5, dl (lenc Cal.pd o1.calls)⟩), (1004, ⟨88, 8, [.d (.agg [(.int .i64 m1.Kind), (.int .i64 m1.From), (.int .i64 m1.To), (.int .i64 m1.Turn), (.int .i64 m1.Stamp.No), (.int .i64 m1.Stamp.Post), (.int .i64 m1.Stamp.Turn), (.int .i64 m1.Value)])]⟩)] f_20) sbB))
      ·have hF_25 := fun p => nelB_hole (S := Pst.bs) f_20 p
       have hwS_26 : Pst.bs.wk e3 = some w1 := hw_22
       refine AWp.sub (opS (S := Pst.bs) ((k1).toNat) 1005 1006 (⟨103, 9, [.agg [.d (.int .i64 w1.turn), .d (.int .i64 w1.call), .d (.bool w1.write), .d (.bool w1.puts), .d (.int .i64 w1.stamp.No), .d (.int .i64 w1.stamp.Post), .d (.int .i64 w1.stamp.Turn), .d (.int .i64 w1.value), .slc 1006 0 w1.answered.length]]⟩ : Row) (⟨4, 1, dl (lenc PD.bool w1.answered)⟩ : Row) f_20 hwS_26 (hl := by (simp only [renHeap, Row.ren, renL, PV.ren, dl_ren, focB_low, nelB_focus f_20 hwS_26, Nat.reduceLT, Pst_F]; rfl))) ?_
       refine AWp.draw mo [] trivial ?_
       iterate 8 refine dd ?_
       refine dd ?_ (by intro K k; simp (disch := omega) only [go_sem, hF_25, List.set_set, ↓reduceIte]; exact k)
       iterate 2 refine dd ?_
       refine dd ?_ (by intro K k; simp (disch := omega) only [go_sem, hF_25, List.set_set, ↓reduceIte]; exact k)
       refine DOps.nil (by kernel_rfl) ?_
       cases hj_11; exact (Sub.trans (shS (S := Pst.bs) ((k1).toNat) 1005 1006 (⟨e3.up, m1.Stamp, m1.Value, e3.turns, (some w1)⟩ : Pst) [(0, ⟨67, 4, [.agg [.slc 1001 0 o1.posts.length, .slc 1002 0 o1.messages.length, .slc 1003 0 o1.calls.length, .d (.int .i64 o1.clock)]]⟩), (1001, ⟨84, 7, nelB Pst.bs (o1.posts.set ((k1).toNat) (⟨e3.up, m1.Stamp, m1.Value, e3.turns, (some w1)⟩ : Pst))⟩), (1002, ⟨88, 8, dl (lenc Msg.pd o1.messages)⟩), (1003, ⟨51, 5, dl (lenc Cal.pd o1.calls)⟩), (1004, ⟨88, 8, [.d (.agg [(.int .i64 m1.Kind), (.int .i64 m1.From), (.int .i64 m1.To), (.int .i64 m1.Turn), (.int .i64 m1.Stamp.No), (.int .i64 m1.Stamp.Post), (.int .i64 m1.Stamp.Turn), (.int .i64 m1.Value)])]⟩)] f_20 rfl (hl := by (repeat' (first | exact trivial | exact rfl | exact dl_ren _ _ | exact nelB_unfocus (S := Pst.bs) (q0 := 1005) (q1 := 1006) (x := (⟨e3.up, m1.Stamp, m1.Value, e3.turns, (some w1)⟩ : Pst)) f_20 rfl (by decide) (by decide) | (simp only [renL, PV.ren, List.length_append, List.length_set, List.length_replicate, List.length_cons, List.length_nil, Nat.zero_add] <;> exact rfl) | apply And.intro)))) sbB)
     ·refine AWp.skip ?_
      cases hj_11; exact sbB
    ·rintro L1 h; dsimp only at h ⊢
     refine AWp.reg ?_
     iterate 8 refine oo ?_
     refine AOps.sub (τ := ⟨[(54, .ptr 0 0 0), (61, .d (.agg [(.int .i64 4), (.int .i64 m1.To), (.int .i64 m1.From), (.int .i64 m1.Turn), (.int .i64 0), (.int .i64 0), (.int .i64 0), (.int .i64 0)]))], (dynBH (blks Pst.bs L1) ([(0, ⟨67, 4, [.agg [.slc 1001 0 L1.length, .slc 1002 0 o1.messages.length, .slc 1003 0 o1.calls.length, .d (.int .i64 o1.clock)]]⟩), (1001, ⟨84, 7, nelB Pst.bs L1⟩), (1002, ⟨88, 8, dl (lenc Msg.pd o1.messages)⟩), (1003, ⟨51, 5, dl (lenc Cal.pd o1.calls)⟩)])), [], none⟩) sbB ?_
     obtain ⟨r4, hx_27, h⟩ := bind_some h
     refine clB (S := Pst.bs) [(0, 0), (1001, 1001), (1002, 1002), (1003, 1003)] [1001, 1002, 1003] [] (m_post_Net_send_h_ok (⟨L1, o1.messages, o1.calls, o1.clock⟩ : Net) (⟨4, m1.To, m1.From, m1.Turn, (⟨0, 0, 0⟩ : Stamp), 0⟩ : Msg) _ hx_27) ?_
     refine AOps.nil ?_
     cases h; exact ⟨_, Sub.refl, rtO⟩
   ·refine sg fun K k => ?_
    iterate 2 refine oo ?_
    refine AOps.nil (k _ ?_)
    refine cd h (fun h => ?_) (fun h => ?_)
    ·obtain ⟨e4, ⟨f_29, f_30, f_31, f_32⟩, h⟩ := idx_bind h
     rcases optB_case h with ⟨hw_33, h⟩ | ⟨w2, hw_33, h⟩
     ·have hF_34 := fun p => nelB_hole (S := Pst.bs) f_31 p
      have hwS_35 : Pst.bs.wk e4 = none := hw_33
      refine AWp.sub (opN (S := Pst.bs) ((k1).toNat) f_31 hwS_35 (hl := by rw [nelB_open f_31 hwS_35, Pst_F])) ?_
      refine sg fun K k => ?_
      iterate 3 refine oo ?_
      refine oo ?_ (by intro K k; simp (disch := omega) only [go_sem, hF_34, List.set_set, ↓reduceIte]; exact k)
      refine oo ?_
      refine AOps.nil (k _ ?_)
      refine AWp.seq fun _ K_36 => ?_
      refine sd mo fun K k => ?_
      iterate 28 refine dd ?_
      refine DOps.nil (by kernel_rfl) (k _ ?_)
      refine cdt ?_
      refine AWp.sub (τ := ⟨[(0, .ptr 0 0 0), (1, .ptr 1001 ((k1).toNat) 0), (2, .d (.agg [(.int .i64 m1.Kind), (.int .i64 m1.From), (.int .i64 m1.To), (.int .i64 m1.Turn), (.int .i64 m1.Stamp.No), (.int .i64 m1.Stamp.Post), (.int .i64 m1.Stamp.Turn), (.int .i64 m1.Value)])), (5, .ptr 1004 0 0), (6, .d .nilptr), (8, .ptr 1004 0 0), (9, .d (.int .i64 m1.Kind)), (10, .d (.bool (decide (m1.Kind = 1)))), (11, .d (.bool (decide (m1.Kind = 1)))), (29, .d (.bool (decide (m1.Kind = 2)))), (30, .d (.bool (decide (m1.Kind = 2)))), (35, .d (.bool (decide (m1.Kind = 3)))), (36, .d (.bool (decide (m1.Kind = 3)))), (63, .d (.bool (decide (m1.Kind = 4)))), (64, .d (.bool (decide (m1.Kind = 4)))), (65, .ptr 1001 ((k1).toNat) 0), (66, .ptr 1001 ((k1).toNat) 0), (67, .ptr 1001 ((k1).toNat) 6), (68, .d .nilptr), (69, .d .nilptr), (70, .d (.bool true)), (71, .d (.bool true)), (72, .tuple []), (73, .tuple []), (74, .tuple []), (75, .tuple []), (76, .tuple []), (77, .tuple []), (78, .tuple []), (79, .d (.bool true)), (80, .d (.bool true)), (81, .tuple []), (82, .tuple []), (83, .tuple []), (84, .tuple []), (85, .tuple []), (86, .d (.bool true)), (87, .d (.bool true)), (88, .tuple []), (89, .tuple []), (90, .tuple []), (91, .tuple []), (92, .tuple []), (93, .tuple []), (94, .tuple []), (95, .tuple []), (96, .d (.bool true))], (dynBH ((blks Pst.bs o1.posts).set ((k1).toNat) []) ([(0, ⟨67, 4, [.agg [.slc 1001 0 o1.posts.length, .slc 1002 0 o1.messages.length, .slc 1003 0 o1.calls.length, .d (.int .i64 o1.clock)]]⟩), (1001, ⟨84, 7, (nelB Pst.bs o1.posts).set ((k1).toNat) (.agg [.d (.bool e4.up), .d (.int .i64 e4.stamp.No), .d (.int .i64 e4.stamp.Post), .d (.int .i64 e4.stamp.Turn), .d (.int .i64 e4.value), .d (.int .i64 e4.turns), .d .nilptr])⟩), (1002, ⟨88, 8, dl (lenc Msg.pd o1.messages)⟩), (1003, ⟨51, 5, dl (lenc Cal.pd o1.calls)⟩), (1004, ⟨88, 8, [.d (.agg [(.int .i64 m1.Kind), (.int .i64 m1.From), (.int .i64 m1.To), (.int .i64 m1.Turn), (.int .i64 m1.Stamp.No), (.int .i64 m1.Stamp.Post), (.int .i64 m1.Stamp.Turn), (.int .i64 m1.Value)])]⟩)])), [], none⟩) sbB ?_
      refine AWp.sub (shN (S := Pst.bs) ((k1).toNat) (L := o1.posts) (⟨e4.up, e4.stamp, e4.value, e4.turns, none⟩ : Pst) [(0, ⟨67, 4, [.agg [.slc 1001 0 o1.posts.length, .slc 1002 0 o1.messages.length, .slc 1003 0 o1.calls.length, .d (.int .i64 o1.clock)]]⟩), (1001, ⟨84, 7, nelB Pst.bs (o1.posts.set ((k1).toNat) (⟨e4.up, e4.stamp, e4.value, e4.turns, none⟩ : Pst))⟩), (1002, ⟨88, 8, dl (lenc Msg.pd o1.messages)⟩), (1003, ⟨51, 5, dl (lenc Cal.pd o1.calls)⟩), (1004, ⟨88, 8, [.d (.agg [(.int .i64 m1.Kind), (.int .i64 m1.From), (.int .i64 m1.To), (.int .i64 m1.Turn), (.int .i64 m1.Stamp.No), (.int .i64 m1.Stamp.Post), (.int .i64 m1.Stamp.Turn), (.int .i64 m1.Value)])]⟩)] rfl (hl := by rw [← nelB_set (S := Pst.bs) (L := o1.posts) (i := ((k1).toNat)) (x := (⟨e4.up, e4.stamp, e4.value, e4.turns, none⟩ : Pst)) _ rfl]; rfl)) ?_
      refine AWp.ret ?_
      cases h; exact ⟨_, Sub.refl, rtO⟩
     ·have hF_37 := fun p => nelB_hole (S := Pst.bs) f_31 p
      have hwS_38 : Pst.bs.wk e4 = some w2 := hw_33
      refine AWp.sub (opS (S := Pst.bs) ((k1).toNat) 1005 1006 (⟨103, 9, [.agg [.d (.int .i64 w2.turn), .d (.int .i64 w2.call), .d (.bool w2.write), .d (.bool w2.puts), .d (.int .i64 w2.stamp.No), .d (.int .i64 w2.stamp.Post), .d (.int .i64 w2.stamp.Turn), .d (.int .i64 w2.value), .slc 1006 0 w2.answered.length]]⟩ : Row) (⟨4, 1, dl (lenc PD.bool w2.answered)⟩ : Row) f_31 hwS_38 (hl := by (simp only [renHeap, Row.ren, renL, PV.ren, dl_ren, focB_low, nelB_focus f_31 hwS_38, Nat.reduceLT, Pst_F]; rfl))) ?_
      refine sg fun K k => ?_
      iterate 3 refine oo ?_
      refine oo ?_ (by intro K k; simp (disch := omega) only [go_sem, hF_37, List.set_set, ↓reduceIte]; exact k)
      refine oo ?_
      refine AOps.nil (k _ ?_)
      refine AWp.seq fun _ K_39 => ?_
      refine sd mo fun K k => ?_
      iterate 12 refine dd ?_
      rcases bt (decide (¬w2.turn = m1.Turn)) with hg_40 | hg_40
      ·rw [hg_40]
       rw [hg_40, cond_true] at h
       iterate 16 refine dd ?_
       refine DOps.nil (by kernel_rfl) (k _ ?_)
       refine cdt ?_
       refine AWp.sub (drp [(0, .ptr 0 0 0), (1, .ptr 1001 ((k1).toNat) 0), (2, .d (.agg [(.int .i64 m1.Kind), (.int .i64 m1.From), (.int .i64 m1.To), (.int .i64 m1.Turn), (.int .i64 m1.Stamp.No), (.int .i64 m1.Stamp.Post), (.int .i64 m1.Stamp.Turn), (.int .i64 m1.Value)])), (5, .ptr 1004 0 0), (8, .ptr 1004 0 0), (9, .d (.int .i64 m1.Kind)), (10, .d (.bool (decide (m1.Kind = 1)))), (11, .d (.bool (decide (m1.Kind = 1)))), (29, .d (.bool (decide (m1.Kind = 2)))), (30, .d (.bool (decide (m1.Kind = 2)))), (35, .d (.bool (decide (m1.Kind = 3)))), (36, .d (.bool (decide (m1.Kind = 3)))), (63, .d (.bool (decide (m1.Kind = 4)))), (64, .d (.bool (decide (m1.Kind = 4)))), (65, .ptr 1001 ((k1).toNat) 0), (66, .ptr 1001 ((k1).toNat) 0), (67, .ptr 1001 ((k1).toNat) 6), (70, .d (.bool false)), (71, .d (.bool false)), (75, .d (.int .i64 w2.turn)), (76, .ptr 1004 0 3), (77, .d (.int .i64 m1.Turn)), (78, .d (.bool true)), (79, .d (.bool true)), (80, .d (.bool true)), (81, .tuple []), (82, .tuple []), (83, .tuple []), (84, .tuple []), (85, .tuple []), (86, .d (.bool true)), (87, .d (.bool true)), (88, .tuple []), (89, .tuple []), (90, .tuple []), (91, .tuple []), (92, .tuple []), (93, .tuple []), (94, .tuple []), (95, .tuple []), (96, .d (.bool true))]) ?_
       refine AWp.sub (shS (S := Pst.bs) ((k1).toNat) 1005 1006 (⟨e4.up, e4.stamp, e4.value, e4.turns, (some w2)⟩ : Pst) [(0, ⟨67, 4, [.agg [.slc 1001 0 o1.posts.length, .slc 1002 0 o1.messages.length, .slc 1003 0 o1.calls.length, .d (.int .i64 o1.clock)]]⟩), (1001, ⟨84, 7, nelB Pst.bs (o1.posts.set ((k1).toNat) (⟨e4.up, e4.stamp, e4.value, e4.turns, (some w2)⟩ : Pst))⟩), (1002, ⟨88, 8, dl (lenc Msg.pd o1.messages)⟩), (1003, ⟨51, 5, dl (lenc Cal.pd o1.calls)⟩), (1004, ⟨88, 8, [.d (.agg [(.int .i64 m1.Kind), (.int .i64 m1.From), (.int .i64 m1.To), (.int .i64 m1.Turn), (.int .i64 m1.Stamp.No), (.int .i64 m1.Stamp.Post), (.int .i64 m1.Stamp.Turn), (.int .i64 m1.Value)])]⟩)] f_31 rfl (hl := by (repeat' (first | exact trivial | exact rfl | exact dl_ren _ _ | exact nelB_unfocus (S := Pst.bs) (q0 := 1005) (q1 := 1006) (x := (⟨e4.up, e4.stamp, e4.value, e4.turns, (some w2)⟩ : Pst)) f_31 rfl (by decide) (by decide) | (simp only [renL, PV.ren, List.length_append, List.length_set, List.length_replicate, List.length_cons, List.length_nil, Nat.zero_add] <;> exact rfl) | apply And.intro)))) ?_
       refine AWp.ret ?_
       cases h; exact ⟨_, Sub.refl, rtO⟩
      ·rw [hg_40]
       rw [hg_40, cond_false] at h
       iterate 7 refine dd ?_
       rcases bt (!w2.puts) with hg_41 | hg_41
       ·rw [hg_41]
        rw [hg_41, cond_true] at h
        iterate 9 refine dd ?_
        refine DOps.nil (by kernel_rfl) (k _ ?_)
        refine cdt ?_
        refine AWp.sub (drp [(0, .ptr 0 0 0), (1, .ptr 1001 ((k1).toNat) 0), (2, .d (.agg [(.int .i64 m1.Kind), (.int .i64 m1.From), (.int .i64 m1.To), (.int .i64 m1.Turn), (.int .i64 m1.Stamp.No), (.int .i64 m1.Stamp.Post), (.int .i64 m1.Stamp.Turn), (.int .i64 m1.Value)])), (5, .ptr 1004 0 0), (8, .ptr 1004 0 0), (9, .d (.int .i64 m1.Kind)), (10, .d (.bool (decide (m1.Kind = 1)))), (11, .d (.bool (decide (m1.Kind = 1)))), (29, .d (.bool (decide (m1.Kind = 2)))), (30, .d (.bool (decide (m1.Kind = 2)))), (35, .d (.bool (decide (m1.Kind = 3)))), (36, .d (.bool (decide (m1.Kind = 3)))), (63, .d (.bool (decide (m1.Kind = 4)))), (64, .d (.bool (decide (m1.Kind = 4)))), (65, .ptr 1001 ((k1).toNat) 0), (66, .ptr 1001 ((k1).toNat) 0), (67, .ptr 1001 ((k1).toNat) 6), (70, .d (.bool false)), (71, .d (.bool false)), (75, .d (.int .i64 w2.turn)), (76, .ptr 1004 0 3), (77, .d (.int .i64 m1.Turn)), (78, .d (.bool false)), (79, .d (.bool false)), (80, .d (.bool false)), (84, .d (.bool w2.puts)), (85, .d (.bool true)), (86, .d (.bool true)), (87, .d (.bool true)), (88, .tuple []), (89, .tuple []), (90, .tuple []), (91, .tuple []), (92, .tuple []), (93, .tuple []), (94, .tuple []), (95, .tuple []), (96, .d (.bool true))]) ?_
        refine AWp.sub (shS (S := Pst.bs) ((k1).toNat) 1005 1006 (⟨e4.up, e4.stamp, e4.value, e4.turns, (some w2)⟩ : Pst) [(0, ⟨67, 4, [.agg [.slc 1001 0 o1.posts.length, .slc 1002 0 o1.messages.length, .slc 1003 0 o1.calls.length, .d (.int .i64 o1.clock)]]⟩), (1001, ⟨84, 7, nelB Pst.bs (o1.posts.set ((k1).toNat) (⟨e4.up, e4.stamp, e4.value, e4.turns, (some w2)⟩ : Pst))⟩), (1002, ⟨88, 8, dl (lenc Msg.pd o1.messages)⟩), (1003, ⟨51, 5, dl (lenc Cal.pd o1.calls)⟩), (1004, ⟨88, 8, [.d (.agg [(.int .i64 m1.Kind), (.int .i64 m1.From), (.int .i64 m1.To), (.int .i64 m1.Turn), (.int .i64 m1.Stamp.No), (.int .i64 m1.Stamp.Post), (.int .i64 m1.Stamp.Turn), (.int .i64 m1.Value)])]⟩)] f_31 rfl (hl := by (repeat' (first | exact trivial | exact rfl | exact dl_ren _ _ | exact nelB_unfocus (S := Pst.bs) (q0 := 1005) (q1 := 1006) (x := (⟨e4.up, e4.stamp, e4.value, e4.turns, (some w2)⟩ : Pst)) f_31 rfl (by decide) (by decide) | (simp only [renL, PV.ren, List.length_append, List.length_set, List.length_replicate, List.length_cons, List.length_nil, Nat.zero_add] <;> exact rfl) | apply And.intro)))) ?_
        refine AWp.ret ?_
        cases h; exact ⟨_, Sub.refl, rtO⟩
       ·rw [hg_41]
        rw [hg_41, cond_false] at h
        obtain ⟨e5, ⟨f_42, f_43, f_44, f_45⟩, h⟩ := idx_bind h
        iterate 7 refine dd ?_
        refine dd ?_ (by intro K k; simp (disch := omega) only [go_sem, f_44, ↓reduceIte]; exact k)
        refine dd ?_
        refine DOps.nil (by kernel_rfl) (k _ ?_)
        refine cd h (fun h => ?_) (fun h => ?_)
        ·refine AWp.sub (drp [(0, .ptr 0 0 0), (1, .ptr 1001 ((k1).toNat) 0), (2, .d (.agg [(.int .i64 m1.Kind), (.int .i64 m1.From), (.int .i64 m1.To), (.int .i64 m1.Turn), (.int .i64 m1.Stamp.No), (.int .i64 m1.Stamp.Post), (.int .i64 m1.Stamp.Turn), (.int .i64 m1.Value)])), (5, .ptr 1004 0 0), (8, .ptr 1004 0 0), (9, .d (.int .i64 m1.Kind)), (10, .d (.bool (decide (m1.Kind = 1)))), (11, .d (.bool (decide (m1.Kind = 1)))), (29, .d (.bool (decide (m1.Kind = 2)))), (30, .d (.bool (decide (m1.Kind = 2)))), (35, .d (.bool (decide (m1.Kind = 3)))), (36, .d (.bool (decide (m1.Kind = 3)))), (63, .d (.bool (decide (m1.Kind = 4)))), (64, .d (.bool (decide (m1.Kind = 4)))), (65, .ptr 1001 ((k1).toNat) 0), (66, .ptr 1001 ((k1).toNat) 0), (67, .ptr 1001 ((k1).toNat) 6), (70, .d (.bool false)), (71, .d (.bool false)), (75, .d (.int .i64 w2.turn)), (76, .ptr 1004 0 3), (77, .d (.int .i64 m1.Turn)), (78, .d (.bool false)), (79, .d (.bool false)), (80, .d (.bool false)), (84, .d (.bool w2.puts)), (85, .d (.bool false)), (86, .d (.bool false)), (87, .d (.bool false)), (92, .ptr 1004 0 1), (93, .d (.int .i64 m1.From)), (95, .d (.bool e5)), (96, .d (.bool e5))]) ?_
         refine AWp.sub (shS (S := Pst.bs) ((k1).toNat) 1005 1006 (⟨e4.up, e4.stamp, e4.value, e4.turns, (some w2)⟩ : Pst) [(0, ⟨67, 4, [.agg [.slc 1001 0 o1.posts.length, .slc 1002 0 o1.messages.length, .slc 1003 0 o1.calls.length, .d (.int .i64 o1.clock)]]⟩), (1001, ⟨84, 7, nelB Pst.bs (o1.posts.set ((k1).toNat) (⟨e4.up, e4.stamp, e4.value, e4.turns, (some w2)⟩ : Pst))⟩), (1002, ⟨88, 8, dl (lenc Msg.pd o1.messages)⟩), (1003, ⟨51, 5, dl (lenc Cal.pd o1.calls)⟩), (1004, ⟨88, 8, [.d (.agg [(.int .i64 m1.Kind), (.int .i64 m1.From), (.int .i64 m1.To), (.int .i64 m1.Turn), (.int .i64 m1.Stamp.No), (.int .i64 m1.Stamp.Post), (.int .i64 m1.Stamp.Turn), (.int .i64 m1.Value)])]⟩)] f_31 rfl (hl := by (repeat' (first | exact trivial | exact rfl | exact dl_ren _ _ | exact nelB_unfocus (S := Pst.bs) (q0 := 1005) (q1 := 1006) (x := (⟨e4.up, e4.stamp, e4.value, e4.turns, (some w2)⟩ : Pst)) f_31 rfl (by decide) (by decide) | (simp only [renL, PV.ren, List.length_append, List.length_set, List.length_replicate, List.length_cons, List.length_nil, Nat.zero_add] <;> exact rfl) | apply And.intro)))) ?_
         refine AWp.ret ?_
         cases h; exact ⟨_, Sub.refl, rtO⟩
        ·refine AWp.skip ?_
         refine K_39 _ ?_
         refine sd mo fun K k => ?_
         obtain ⟨e6, ⟨f_47, f_48, f_49, f_50⟩, h⟩ := idx_bind h
         iterate 7 refine dd ?_
         refine dd ?_ (by intro K k; simp (disch := omega) only [go_sem, f_49, ↓reduceIte]; exact k)
         refine DOps.nil (by kernel_rfl) (k _ ?_)
         refine sg fun K k => ?_
         refine oo ?_
         obtain ⟨r5, hx_51, h⟩ := bind_some h
         refine clW [(0, 1005), (1001, 1006)] [1006] [91, 94, 100, 103] (m_post_work_majority_h_ok (⟨w2.turn, w2.call, w2.write, w2.puts, w2.stamp, w2.value, (w2.answered.set (m1.From).toNat true)⟩ : Work) _ hx_51) ?_
         refine AOps.nil (k _ ?_)
         refine cd h (fun h => ?_) (fun h => ?_)
         ·refine sd mo fun K k => ?_
          obtain ⟨e7, ⟨f_53, f_54, f_55, f_56⟩, h⟩ := idx_bind h
          iterate 10 refine dd ?_
          refine DOps.nil (by kernel_rfl) (k _ ?_)
          refine sd mo fun K k => ?_
          iterate 12 refine dd ?_
          refine dd ?_ (by intro K k; simp (disch := omega) only [go_sem, f_55, ↓reduceIte]; exact k)
          obtain ⟨e8, ⟨f_57, f_58, f_59, f_60⟩, h⟩ := idx_bind h
          try simp only [List.length_append, List.length_set, List.length_replicate, List.length_cons, List.length_nil] at f_58 f_60
          iterate 2 refine dd ?_
          refine dd ?_ (by intro K k; simp (disch := omega) only [go_sem, f_59, List.set_set, ↓reduceIte]; exact k)
          refine DOps.nil (by kernel_rfl) (k _ ?_)
          refine AWp.reg ?_
          iterate 3 refine oo ?_
          refine oo ?_ (by intro K k; simp (disch := omega) only [go_sem, hF_37, List.set_set, ↓reduceIte]; exact k)
          refine AOps.nil ?_
          cases h; exact ⟨_, (Sub.trans (sbB (τ := ⟨[(0, .ptr 0 0 0), (1, .ptr 1001 ((k1).toNat) 0), (2, .d (.agg [(.int .i64 m1.Kind), (.int .i64 m1.From), (.int .i64 m1.To), (.int .i64 m1.Turn), (.int .i64 m1.Stamp.No), (.int .i64 m1.Stamp.Post), (.int .i64 m1.Stamp.Turn), (.int .i64 m1.Value)])), (5, .ptr 1004 0 0), (7, .ptr 1003 ((r5.2.call).toNat) 0), (8, .ptr 1004 0 0), (9, .d (.int .i64 m1.Kind)), (10, .d (.bool (decide (m1.Kind = 1)))), (11, .d (.bool (decide (m1.Kind = 1)))), (29, .d (.bool (decide (m1.Kind = 2)))), (30, .d (.bool (decide (m1.Kind = 2)))), (35, .d (.bool (decide (m1.Kind = 3)))), (36, .d (.bool (decide (m1.Kind = 3)))), (63, .d (.bool (decide (m1.Kind = 4)))), (64, .d (.bool (decide (m1.Kind = 4)))), (65, .ptr 1001 ((k1).toNat) 0), (66, .ptr 1001 ((k1).toNat) 0), (67, .ptr 1001 ((k1).toNat) 6), (70, .d (.bool false)), (71, .d (.bool false)), (75, .d (.int .i64 w2.turn)), (76, .ptr 1004 0 3), (77, .d (.int .i64 m1.Turn)), (78, .d (.bool false)), (79, .d (.bool false)), (80, .d (.bool false)), (84, .d (.bool w2.puts)), (85, .d (.bool false)), (86, .d (.bool false)), (87, .d (.bool false)), (92, .ptr 1004 0 1), (93, .d (.int .i64 m1.From)), (95, .d (.bool e5)), (96, .d (.bool e5)), (101, .ptr 1004 0 1), (102, .d (.int .i64 m1.From)), (105, .d (.bool r5.1)), (106, .ptr 0 0 0), (107, .ptr 0 0 0), (108, .ptr 0 0 2), (109, .slc 1003 0 o1.calls.length), (113, .d (.int .i64 r5.2.call)), (114, .ptr 1003 ((r5.2.call).toNat) 0), (115, .ptr 1003 ((r5.2.call).toNat) 0), (116, .ptr 1003 ((r5.2.call).toNat) 0), (120, .d (.int .i64 r5.2.value)), (121, .ptr 0 0 0), (122, .ptr 0 0 0), (123, .ptr 0 0 3), (124, .d (.int .i64 o1.clock)), (125, .ptr 1003 ((r5.2.call).toNat) 0), (126, .ptr 1003 ((r5.2.call).toNat) 2), (127, .ptr 1003 ((r5.2.call).toNat) 0), (128, .ptr 1003 ((r5.2.call).toNat) 4), (129, .ptr 1001 ((k1).toNat) 0), (130, .ptr 1001 ((k1).toNat) 0), (131, .ptr 1001 ((k1).toNat) 6)], (dynBH ((blks Pst.bs o1.posts).set ((k1).toNat) []) ([(0, ⟨67, 4, [.agg [.slc 1001 0 o1.posts.length, .slc 1002 0 o1.messages.length, .slc 1003 0 o1.calls.length, .d (.int .i64 o1.clock)]]⟩), (1001, ⟨84, 7, (nelB Pst.bs o1.posts).set ((k1).toNat) (.d (.agg [(.bool e4.up), (.int .i64 e4.stamp.No), (.int .i64 e4.stamp.Post), (.int .i64 e4.stamp.Turn), (.int .i64 e4.value), (.int .i64 e4.turns), .nilptr]))⟩), (1002, ⟨88, 8, dl (lenc Msg.pd o1.messages)⟩), (1003, ⟨51, 5, dl (lenc Cal.pd (o1.calls.set (r5.2.call).toNat (⟨e8.Post, e8.Write, e8.Value, e8.Start, o1.clock⟩ : Cal)))⟩), (1004, ⟨88, 8, [.d (.agg [(.int .i64 m1.Kind), (.int .i64 m1.From), (.int .i64 m1.To), (.int .i64 m1.Turn), (.int .i64 m1.Stamp.No), (.int .i64 m1.Stamp.Post), (.int .i64 m1.Stamp.Turn), (.int .i64 m1.Value)])]⟩)])), [], none⟩)) (Sub.trans (sbB (τ := ⟨[(0, .ptr 0 0 0), (1, .ptr 1001 ((k1).toNat) 0), (2, .d (.agg [(.int .i64 m1.Kind), (.int .i64 m1.From), (.int .i64 m1.To), (.int .i64 m1.Turn), (.int .i64 m1.Stamp.No), (.int .i64 m1.Stamp.Post), (.int .i64 m1.Stamp.Turn), (.int .i64 m1.Value)])), (5, .ptr 1004 0 0), (7, .ptr 1003 ((r5.2.call).toNat) 0), (8, .ptr 1004 0 0), (9, .d (.int .i64 m1.Kind)), (10, .d (.bool (decide (m1.Kind = 1)))), (11, .d (.bool (decide (m1.Kind = 1)))), (29, .d (.bool (decide (m1.Kind = 2)))), (30, .d (.bool (decide (m1.Kind = 2)))), (35, .d (.bool (decide (m1.Kind = 3)))), (36, .d (.bool (decide (m1.Kind = 3)))), (63, .d (.bool (decide (m1.Kind = 4)))), (64, .d (.bool (decide (m1.Kind = 4)))), (65, .ptr 1001 ((k1).toNat) 0), (66, .ptr 1001 ((k1).toNat) 0), (67, .ptr 1001 ((k1).toNat) 6), (70, .d (.bool false)), (71, .d (.bool false)), (75, .d (.int .i64 w2.turn)), (76, .ptr 1004 0 3), (77, .d (.int .i64 m1.Turn)), (78, .d (.bool false)), (79, .d (.bool false)), (80, .d (.bool false)), (84, .d (.bool w2.puts)), (85, .d (.bool false)), (86, .d (.bool false)), (87, .d (.bool false)), (92, .ptr 1004 0 1), (93, .d (.int .i64 m1.From)), (95, .d (.bool e5)), (96, .d (.bool e5)), (101, .ptr 1004 0 1), (102, .d (.int .i64 m1.From)), (105, .d (.bool r5.1)), (106, .ptr 0 0 0), (107, .ptr 0 0 0), (108, .ptr 0 0 2), (109, .slc 1003 0 o1.calls.length), (113, .d (.int .i64 r5.2.call)), (114, .ptr 1003 ((r5.2.call).toNat) 0), (115, .ptr 1003 ((r5.2.call).toNat) 0), (116, .ptr 1003 ((r5.2.call).toNat) 0), (120, .d (.int .i64 r5.2.value)), (121, .ptr 0 0 0), (122, .ptr 0 0 0), (123, .ptr 0 0 3), (124, .d (.int .i64 o1.clock)), (125, .ptr 1003 ((r5.2.call).toNat) 0), (126, .ptr 1003 ((r5.2.call).toNat) 2), (127, .ptr 1003 ((r5.2.call).toNat) 0), (128, .ptr 1003 ((r5.2.call).toNat) 4), (129, .ptr 1001 ((k1).toNat) 0), (130, .ptr 1001 ((k1).toNat) 0), (131, .ptr 1001 ((k1).toNat) 6)], (dynBH ((blks Pst.bs o1.posts).set ((k1).toNat) []) ([(0, ⟨67, 4, [.agg [.slc 1001 0 o1.posts.length, .slc 1002 0 o1.messages.length, .slc 1003 0 o1.calls.length, .d (.int .i64 o1.clock)]]⟩), (1001, ⟨84, 7, (nelB Pst.bs o1.posts).set ((k1).toNat) (.d (.agg [(.bool e4.up), (.int .i64 e4.stamp.No), (.int .i64 e4.stamp.Post), (.int .i64 e4.stamp.Turn), (.int .i64 e4.value), (.int .i64 e4.turns), .nilptr]))⟩), (1002, ⟨88, 8, dl (lenc Msg.pd o1.messages)⟩), (1003, ⟨51, 5, dl (lenc Cal.pd (o1.calls.set (r5.2.call).toNat (⟨e8.Post, e8.Write, e8.Value, e8.Start, o1.clock⟩ : Cal)))⟩), (1004, ⟨88, 8, [.d (.agg [(.int .i64 m1.Kind), (.int .i64 m1.From), (.int .i64 m1.To), (.int .i64 m1.Turn), (.int .i64 m1.Stamp.No), (.int .i64 m1.Stamp.Post), (.int .i64 m1.Stamp.Turn), (.int .i64 m1.Value)])]⟩)])), [], none⟩)) (shND (S := Pst.bs) 1001 ((k1).toNat) (L := o1.posts) (⟨e4.up, e4.stamp, e4.value, e4.turns, none⟩ : Pst) [(0, ⟨67, 4, [.agg [.slc 1001 0 o1.posts.length, .slc 1002 0 o1.messages.length, .slc 1003 0 o1.calls.length, .d (.int .i64 o1.clock)]]⟩), (1001, ⟨84, 7, nelB Pst.bs (o1.posts.set ((k1).toNat) (⟨e4.up, e4.stamp, e4.value, e4.turns, none⟩ : Pst))⟩), (1002, ⟨88, 8, dl (lenc Msg.pd o1.messages)⟩), (1003, ⟨51, 5, dl (lenc Cal.pd (o1.calls.set (r5.2.call).toNat (⟨e8.Post, e8.Write, e8.Value, e8.Start, o1.clock⟩ : Cal)))⟩), (1004, ⟨88, 8, [.d (.agg [(.int .i64 m1.Kind), (.int .i64 m1.From), (.int .i64 m1.To), (.int .i64 m1.Turn), (.int .i64 m1.Stamp.No), (.int .i64 m1.Stamp.Post), (.int .i64 m1.Stamp.Turn), (.int .i64 m1.Value)])]⟩)] f_31))), rtO⟩
         ·refine AWp.skip ?_
          cases h; exact ⟨_, (Sub.trans (drp [(0, .ptr 0 0 0), (1, .ptr 1001 ((k1).toNat) 0), (2, .d (.agg [(.int .i64 m1.Kind), (.int .i64 m1.From), (.int .i64 m1.To), (.int .i64 m1.Turn), (.int .i64 m1.Stamp.No), (.int .i64 m1.Stamp.Post), (.int .i64 m1.Stamp.Turn), (.int .i64 m1.Value)])), (5, .ptr 1004 0 0), (8, .ptr 1004 0 0), (9, .d (.int .i64 m1.Kind)), (10, .d (.bool (decide (m1.Kind = 1)))), (11, .d (.bool (decide (m1.Kind = 1)))), (29, .d (.bool (decide (m1.Kind = 2)))), (30, .d (.bool (decide (m1.Kind = 2)))), (35, .d (.bool (decide (m1.Kind = 3)))), (36, .d (.bool (decide (m1.Kind = 3)))), (63, .d (.bool (decide (m1.Kind = 4)))), (64, .d (.bool (decide (m1.Kind = 4)))), (65, .ptr 1001 ((k1).toNat) 0), (66, .ptr 1001 ((k1).toNat) 0), (67, .ptr 1001 ((k1).toNat) 6), (70, .d (.bool false)), (71, .d (.bool false)), (75, .d (.int .i64 w2.turn)), (76, .ptr 1004 0 3), (77, .d (.int .i64 m1.Turn)), (78, .d (.bool false)), (79, .d (.bool false)), (80, .d (.bool false)), (84, .d (.bool w2.puts)), (85, .d (.bool false)), (86, .d (.bool false)), (87, .d (.bool false)), (92, .ptr 1004 0 1), (93, .d (.int .i64 m1.From)), (95, .d (.bool e5)), (96, .d (.bool e5)), (101, .ptr 1004 0 1), (102, .d (.int .i64 m1.From)), (105, .d (.bool r5.1))]) (shS (S := Pst.bs) ((k1).toNat) 1005 1006 (⟨e4.up, e4.stamp, e4.value, e4.turns, (some r5.2)⟩ : Pst) [(0, ⟨67, 4, [.agg [.slc 1001 0 o1.posts.length, .slc 1002 0 o1.messages.length, .slc 1003 0 o1.calls.length, .d (.int .i64 o1.clock)]]⟩), (1001, ⟨84, 7, nelB Pst.bs (o1.posts.set ((k1).toNat) (⟨e4.up, e4.stamp, e4.value, e4.turns, (some r5.2)⟩ : Pst))⟩), (1002, ⟨88, 8, dl (lenc Msg.pd o1.messages)⟩), (1003, ⟨51, 5, dl (lenc Cal.pd o1.calls)⟩), (1004, ⟨88, 8, [.d (.agg [(.int .i64 m1.Kind), (.int .i64 m1.From), (.int .i64 m1.To), (.int .i64 m1.Turn), (.int .i64 m1.Stamp.No), (.int .i64 m1.Stamp.Post), (.int .i64 m1.Stamp.Turn), (.int .i64 m1.Value)])]⟩)] f_31 rfl (hl := by (repeat' (first | exact trivial | exact rfl | exact dl_ren _ _ | exact nelB_unfocus (S := Pst.bs) (q0 := 1005) (q1 := 1006) (x := (⟨e4.up, e4.stamp, e4.value, e4.turns, (some r5.2)⟩ : Pst)) f_31 rfl (by decide) (by decide) | (simp only [renL, PV.ren, List.length_append, List.length_set, List.length_replicate, List.length_cons, List.length_nil, Nat.zero_add] <;> exact rfl) | apply And.intro))))), rtO⟩
    ·refine AWp.skip ?_
     cases h; exact ⟨_, Sub.refl, rtO⟩
end Go.Pv.Try

namespace Go.Pv.Try
open Go.Proofs Go.Pv
set_option maxHeartbeats 4000000 in
theorem m_post_Net_Deliver_h_ok (o1 : Net) (i1 : Int) (r : (Int × Net)) (h : m_post_Net_Deliver_h o1 i1 = some r) : ObjFn Try.prog G 23 [.ptr 0 0 0, .d (.int .i64 i1)] (dynBH (blks Pst.bs o1.posts) ([(0, ⟨67, 4, [.agg [.slc 1001 0 o1.posts.length, .slc 1002 0 o1.messages.length, .slc 1003 0 o1.calls.length, .d (.int .i64 o1.clock)]]⟩), (1001, ⟨84, 7, nelB Pst.bs o1.posts⟩), (1002, ⟨88, 8, dl (lenc Msg.pd o1.messages)⟩), (1003, ⟨51, 5, dl (lenc Cal.pd o1.calls)⟩)])) (.d (.int .i64 r.1)) (dynBH (blks Pst.bs r.2.posts) ([(0, ⟨67, 4, [.agg [.slc 1001 0 r.2.posts.length, .slc 1002 0 r.2.messages.length, .slc 1003 0 r.2.calls.length, .d (.int .i64 r.2.clock)]]⟩), (1001, ⟨84, 7, nelB Pst.bs r.2.posts⟩), (1002, ⟨88, 8, dl (lenc Msg.pd r.2.messages)⟩), (1003, ⟨51, 5, dl (lenc Cal.pd r.2.calls)⟩)])) := by
 unfold m_post_Net_Deliver_h at h
 refine ObjFn.pf Try.func23 Try.ntmps23 ?_
 refine sg fun K k => ?_
 refine oo ?_
 refine AOps.nil (k _ ?_)
 refine AWp.seq fun _ K_1 => ?_
 refine sg fun K k => ?_
 iterate 2 refine oo ?_
 obtain ⟨r1, hx_2, h⟩ := bind_some h
 refine clB (S := Pst.bs) [(0, 0), (1001, 1001), (1002, 1002), (1003, 1003)] [1001, 1002, 1003] [] (m_post_Net_message_h_ok o1 i1 _ hx_2) ?_
 refine oo ?_
 refine AOps.nil (k _ ?_)
 refine sg fun K k => ?_
 iterate 2 refine oo ?_
 refine AOps.nil (k _ ?_)
 refine cd h (fun h => ?_) (fun h => ?_)
 ·refine sg fun K k => ?_
  iterate 2 refine oo ?_
  refine AOps.nil (k _ ?_)
  refine AWp.ret ?_
  cases h; exact rtO
 ·refine AWp.skip ?_
  refine K_1 _ ?_
  refine sg fun K k => ?_
  obtain ⟨e1, ⟨f_4, f_5, f_6, f_7⟩, h⟩ := idx_bind h
  iterate 6 refine oo ?_
  refine oo ?_ (by intro K k; simp (disch := omega) only [go_sem, f_6, ↓reduceIte]; exact k)
  iterate 2 refine oo ?_
  refine AOps.nil (k _ ?_)
  refine sg fun K k => ?_
  obtain ⟨hg_8, h⟩ := guardO_some h
  iterate 8 refine oo ?_
  refine clH 1002 (delete_hand r1.2.messages i1 (IntKind.i64.wrap (i1 + 1)) hg_8) (hrow := dyBR rfl) (hp := by (simp (disch := decide) only [go_sem, hput_dynBH, ↓reduceIte]; rfl)) (h2 := ?_)
  iterate 3 refine oo ?_
  refine AOps.sub (drp [(0, .ptr 0 0 0), (1, .d (.int .i64 i1)), (4, .d (.int .i64 0)), (5, .d (.int .i64 r1.1)), (6, .ptr 1004 0 0), (8, .ptr 0 0 0), (9, .d (.int .i64 i1)), (10, .d (.int .i64 r1.1)), (11, .d (.int .i64 r1.1)), (12, .d (.bool (decide (¬r1.1 = 0)))), (14, .ptr 0 0 0), (15, .ptr 0 0 0), (16, .ptr 0 0 1), (18, .d (.int .i64 i1)), (20, .d (.agg [(.int .i64 e1.Kind), (.int .i64 e1.From), (.int .i64 e1.To), (.int .i64 e1.Turn), (.int .i64 e1.Stamp.No), (.int .i64 e1.Stamp.Post), (.int .i64 e1.Stamp.Turn), (.int .i64 e1.Value)])), (21, .ptr 0 0 0), (22, .ptr 0 0 0), (23, .ptr 0 0 0), (24, .ptr 0 0 1), (26, .d (.int .i64 i1)), (27, .d (.int .i64 i1)), (28, .d (.int .i64 (IntKind.i64.wrap (i1 + 1)))), (30, .ptr 0 0 0), (31, .ptr 0 0 1)]) ?_
  refine AOps.sub (shr 1002 (delT r1.2.messages i1 (IntKind.i64.wrap (i1 + 1))) delP_take (hnb := dl_noByte fun _ => rfl) (hm := by rw [delP_len hg_8, delT_le hg_8]; omega)) ?_
  refine AOps.nil (k _ ?_)
  refine sg fun K k => ?_
  iterate 8 refine oo ?_
  refine AOps.nil (k _ ?_)
  refine jn (α := (Int × (List Pst) × (List Msg) × (List Cal))) [] [] (fun i t => t) (fun i t => dynBH (blks Pst.bs i.2.1) ((0, ⟨67, 4, [.agg [.slc 1001 0 i.2.1.length, .slc 1002 0 i.2.2.1.length, .slc 1003 0 i.2.2.2.length, .d (.int .i64 i.1)]]⟩) :: (1001, ⟨84, 7, nelB Pst.bs i.2.1⟩) :: (1002, ⟨88, 8, dl (lenc Msg.pd i.2.2.1)⟩) :: (1003, ⟨51, 5, dl (lenc Cal.pd i.2.2.2)⟩) :: t)) h ?_ ?_
  ·intro _ hj_10
   refine sd mo fun K k => ?_
   obtain ⟨e2, ⟨f_11, f_12, f_13, f_14⟩, hj_10⟩ := idx_bind hj_10
   iterate 8 refine dd ?_
   refine DOps.nil (by kernel_rfl) (k _ ?_)
   refine sg fun K k => ?_
   iterate 3 refine oo ?_
   refine oo ?_ (by intro K k; simp (disch := omega) only [go_sem, nelB_at (S := Pst.bs) f_13, ↓reduceIte]; exact k)
   refine AOps.nil (k _ ?_)
   refine cd hj_10 (fun hj_10 => ?_) (fun hj_10 => ?_)
   ·refine AWp.reg ?_
    iterate 3 refine oo ?_
    refine AOps.sub (τ := ⟨[(50, .ptr 0 0 0), (51, .ptr 1001 ((e1.To).toNat) 0), (52, .d (.agg [(.int .i64 e1.Kind), (.int .i64 e1.From), (.int .i64 e1.To), (.int .i64 e1.Turn), (.int .i64 e1.Stamp.No), (.int .i64 e1.Stamp.Post), (.int .i64 e1.Stamp.Turn), (.int .i64 e1.Value)]))], (dynBH (blks Pst.bs r1.2.posts) ([(0, ⟨67, 4, [.agg [.slc 1001 0 r1.2.posts.length, .slc 1002 0 ((delT r1.2.messages i1 (IntKind.i64.wrap (i1 + 1))).length), .slc 1003 0 r1.2.calls.length, .d (.int .i64 (IntKind.i64.wrap (r1.2.clock + 1)))]]⟩), (1001, ⟨84, 7, nelB Pst.bs r1.2.posts⟩), (1002, ⟨88, 8, dl (lenc Msg.pd (delT r1.2.messages i1 (IntKind.i64.wrap (i1 + 1))))⟩), (1003, ⟨51, 5, dl (lenc Cal.pd r1.2.calls)⟩)])), [], none⟩) sbB ?_
    obtain ⟨r2, hx_16, hj_10⟩ := bind_some hj_10
    refine clB (S := Pst.bs) [(0, 0), (1001, 1001), (1002, 1002), (1003, 1003)] [1001, 1002, 1003] [51] (m_post_Net_take_h_ok (⟨r1.2.posts, (delT r1.2.messages i1 (IntKind.i64.wrap (i1 + 1))), r1.2.calls, (IntKind.i64.wrap (r1.2.clock + 1))⟩ : Net) e1.To e1 _ hx_16) ?_
    refine AOps.nil ?_
    cases hj_10; exact sbB
   ·refine AWp.skip ?_
    cases hj_10; exact sbB
  ·rintro ⟨c1, L1, L2, L3⟩ h; dsimp only at h ⊢
   refine sg fun K k => ?_
   refine oo ?_
   refine AOps.nil (k _ ?_)
   refine AWp.ret ?_
   cases h; exact rtO
end Go.Pv.Try

namespace Go.Pv.Try
open Go.Proofs Go.Pv
set_option maxHeartbeats 4000000 in
theorem m_post_Net_Settle_h_ok (o1 : Net) (limit1 : Int) (r : (Int × Int × Net)) (h : m_post_Net_Settle_h o1 limit1 = some r) : ObjFn Try.prog G 17 [.ptr 0 0 0, .d (.int .i64 limit1)] (dynBH (blks Pst.bs o1.posts) ([(0, ⟨67, 4, [.agg [.slc 1001 0 o1.posts.length, .slc 1002 0 o1.messages.length, .slc 1003 0 o1.calls.length, .d (.int .i64 o1.clock)]]⟩), (1001, ⟨84, 7, nelB Pst.bs o1.posts⟩), (1002, ⟨88, 8, dl (lenc Msg.pd o1.messages)⟩), (1003, ⟨51, 5, dl (lenc Cal.pd o1.calls)⟩)])) (.tuple [.d (.int .i64 r.1), .d (.int .i64 r.2.1)]) (dynBH (blks Pst.bs r.2.2.posts) ([(0, ⟨67, 4, [.agg [.slc 1001 0 r.2.2.posts.length, .slc 1002 0 r.2.2.messages.length, .slc 1003 0 r.2.2.calls.length, .d (.int .i64 r.2.2.clock)]]⟩), (1001, ⟨84, 7, nelB Pst.bs r.2.2.posts⟩), (1002, ⟨88, 8, dl (lenc Msg.pd r.2.2.messages)⟩), (1003, ⟨51, 5, dl (lenc Cal.pd r.2.2.calls)⟩)])) := by
 unfold m_post_Net_Settle_h at h
 refine ObjFn.pf Try.func17 Try.ntmps17 ?_
 refine sg fun K k => ?_
 iterate 2 refine oo ?_
 refine AOps.nil (k _ ?_)
 refine AWp.seq fun _ K_1 => ?_
 refine AWp.block ?_
 refine sg fun K k => ?_
 refine oo ?_
 obtain ⟨r1, hx_2, h⟩ := bind_some h
 refine clB (S := Pst.bs) [(0, 0), (1001, 1001), (1002, 1002), (1003, 1003)] [1001, 1002, 1003] [] (m_post_Net_ok_h_ok o1 _ hx_2) ?_
 iterate 2 refine oo ?_
 refine AOps.nil (k _ ?_)
 refine cd h (fun h => ?_) (fun h => ?_)
 ·refine sg fun K k => ?_
  iterate 2 refine oo ?_
  refine AOps.nil (k _ ?_)
  refine AWp.ret ?_
  cases h; exact rtO
 ·refine sg fun K k => ?_
  iterate 3 refine oo ?_
  refine ctH 3 [0, 1] [0, 1001, 1002, 1003] (fun  t => (17, .d (.bool ((decide (limit1 < 0)) || (decide (100000 < limit1))))) :: t) (fun  t => dynBH (blks Pst.bs r1.2.posts) (t)) ?_ ?_
  ·rcases bt (decide (limit1 < 0)) with hg_5 | hg_5
   ·rw [hg_5]
    iterate 3 refine oo ?_
    refine AOps.nil ?_
    exact sbB
   ·rw [hg_5]
    iterate 3 refine oo ?_
    refine AOps.nil ?_
    exact sbB
  refine oo ?_
  refine AOps.nil (k _ ?_)
  refine cd h (fun h => ?_) (fun h => ?_)
  ·refine sg fun K k => ?_
   iterate 2 refine oo ?_
   refine AOps.nil (k _ ?_)
   refine AWp.ret ?_
   cases h; exact rtO
  ·refine AWp.skip ?_
   refine K_1 _ ?_
   refine sg fun K k => ?_
   refine oo ?_
   refine AOps.nil (k _ ?_)
   refine jn (α := (Int × Int × (List Pst) × (List Msg) × (List Cal))) [] [] (fun i t => (6, .d (.int .i64 i.1)) :: t) (fun i t => dynBH (blks Pst.bs i.2.2.1) ((0, ⟨67, 4, [.agg [.slc 1001 0 i.2.2.1.length, .slc 1002 0 i.2.2.2.1.length, .slc 1003 0 i.2.2.2.2.length, .d (.int .i64 i.2.1)]]⟩) :: (1001, ⟨84, 7, nelB Pst.bs i.2.2.1⟩) :: (1002, ⟨88, 8, dl (lenc Msg.pd i.2.2.2.1)⟩) :: (1003, ⟨51, 5, dl (lenc Cal.pd i.2.2.2.2)⟩) :: t)) h ?_ ?_
   ·intro _ hj_8
    refine AWp.block ?_
    obtain ⟨x_13, hl_10, h2_11⟩ := bind_some hj_8
    refine lp (S := (Int × Int × (List Pst) × (List Msg) × (List Cal))) [1] [] (fun i t => (0, .ptr 0 0 0) :: (6, .d (.int .i64 i.1)) :: t) (fun i t => dynBH (blks Pst.bs i.2.2.1) ((0, ⟨67, 4, [.agg [.slc 1001 0 i.2.2.1.length, .slc 1002 0 i.2.2.2.1.length, .slc 1003 0 i.2.2.2.2.length, .d (.int .i64 i.2.1)]]⟩) :: (1001, ⟨84, 7, nelB Pst.bs i.2.2.1⟩) :: (1002, ⟨88, 8, dl (lenc Msg.pd i.2.2.2.1)⟩) :: (1003, ⟨51, 5, dl (lenc Cal.pd i.2.2.2.2)⟩) :: t)) hl_10 ?_ ?_; exact sbB; clear hl_10
    rintro ⟨n2, c2, L4, L5, L6⟩ _ hb_12; unfold m_post_Net_Settle_h_l1 at hb_12; try dsimp only at hb_12
    try dsimp only
    refine AWp.seq fun _ K_15 => ?_
    refine sg fun K k => ?_
    iterate 4 refine oo ?_
    refine ctH 7 [0, 1, 6] [0, 1001, 1002, 1003] (fun  t => (28, .d (.bool ((decide (n2 < limit1)) && (decide (0 < (L5.length : Int)))))) :: t) (fun  t => dynBH (blks Pst.bs L4) (t)) ?_ ?_
    ·rcases bt (decide (n2 < limit1)) with hg_17 | hg_17
     ·rw [hg_17]
      iterate 7 refine oo ?_
      refine AOps.nil ?_
      exact sbB
     ·rw [hg_17]
      iterate 7 refine oo ?_
      refine AOps.nil ?_
      exact sbB
    refine AOps.nil (k _ ?_)
    refine cd hb_12 (fun hb_12 => ?_) (fun hb_12 => ?_)
    ·refine AWp.skip ?_
     refine K_15 _ ?_
     refine AWp.block ?_
     refine sg fun K k => ?_
     refine oo ?_
     obtain ⟨r2, hx_19, hb_12⟩ := bind_some hb_12
     refine clB (S := Pst.bs) [(0, 0), (1001, 1001), (1002, 1002), (1003, 1003)] [1001, 1002, 1003] [] (m_post_Net_Deliver_h_ok (⟨L4, L5, L6, c2⟩ : Net) 0 _ hx_19) ?_
     refine AOps.nil (k _ ?_)
     refine AWp.reg ?_
     iterate 3 refine oo ?_
     refine AOps.nil ?_
     exact ln hb_12 sbB
    ·refine AWp.exit ?_
     refine lx hb_12 fun hx => ?_; cases hx; try dsimp only at h2_11
     cases h2_11; exact sbB
   ·rintro ⟨n1, c1, L1, L2, L3⟩ h; dsimp only at h ⊢
    refine sg fun K k => ?_
    iterate 3 refine oo ?_
    refine AOps.nil (k _ ?_)
    refine AWp.ret ?_
    cases h; exact rtO
end Go.Pv.Try

namespace Go.Pv.Try
open Go.Proofs Go.Pv
theorem m_post_Net_Read_h_ok (o1 : Net) (no1 : Int) (r : (Int × Net)) (h : m_post_Net_Read_h o1 no1 = some r) : ObjFn Try.prog G 18 [.ptr 0 0 0, .d (.int .i64 no1)] (dynBH (blks Pst.bs o1.posts) ([(0, ⟨67, 4, [.agg [.slc 1001 0 o1.posts.length, .slc 1002 0 o1.messages.length, .slc 1003 0 o1.calls.length, .d (.int .i64 o1.clock)]]⟩), (1001, ⟨84, 7, nelB Pst.bs o1.posts⟩), (1002, ⟨88, 8, dl (lenc Msg.pd o1.messages)⟩), (1003, ⟨51, 5, dl (lenc Cal.pd o1.calls)⟩)])) (.d (.int .i64 r.1)) (dynBH (blks Pst.bs r.2.posts) ([(0, ⟨67, 4, [.agg [.slc 1001 0 r.2.posts.length, .slc 1002 0 r.2.messages.length, .slc 1003 0 r.2.calls.length, .d (.int .i64 r.2.clock)]]⟩), (1001, ⟨84, 7, nelB Pst.bs r.2.posts⟩), (1002, ⟨88, 8, dl (lenc Msg.pd r.2.messages)⟩), (1003, ⟨51, 5, dl (lenc Cal.pd r.2.calls)⟩)])) := by
 unfold m_post_Net_Read_h at h
 refine ObjFn.pf Try.func18 Try.ntmps18 ?_
 refine sg fun K k => ?_
 refine oo ?_
 refine AOps.nil (k _ ?_)
 refine AWp.seq fun _ K_1 => ?_
 refine sg fun K k => ?_
 iterate 2 refine oo ?_
 obtain ⟨r1, hx_2, h⟩ := bind_some h
 refine clB (S := Pst.bs) [(0, 0), (1001, 1001), (1002, 1002), (1003, 1003)] [1001, 1002, 1003] [] (m_post_Net_at_h_ok o1 no1 _ hx_2) ?_
 refine oo ?_
 refine AOps.nil (k _ ?_)
 refine sg fun K k => ?_
 iterate 2 refine oo ?_
 refine AOps.nil (k _ ?_)
 refine cd h (fun h => ?_) (fun h => ?_)
 ·refine sg fun K k => ?_
  iterate 2 refine oo ?_
  refine AOps.nil (k _ ?_)
  refine AWp.ret ?_
  cases h; exact rtO
 ·refine AWp.skip ?_
  refine K_1 _ ?_
  refine sg fun K k => ?_
  iterate 2 refine oo ?_
  obtain ⟨r2, hx_4, h⟩ := bind_some h
  refine clB (S := Pst.bs) [(0, 0), (1001, 1001), (1002, 1002), (1003, 1003)] [1001, 1002, 1003] [] (m_post_Net_begin_h_ok r1.2 no1 false 0 _ hx_4) ?_
  refine oo ?_
  refine AOps.nil (k _ ?_)
  refine AWp.ret ?_
  cases h; exact rtO
end Go.Pv.Try

namespace Go.Pv.Try
open Go.Proofs Go.Pv
theorem m_post_Net_Calls_h_ok (o1 : Net) (r : ((List Cal) × Net)) (h : m_post_Net_Calls_h o1 = some r) : ObjFn Try.prog G 19 [.ptr 0 0 0] (dynBH (blks Pst.bs o1.posts) ([(0, ⟨67, 4, [.agg [.slc 1001 0 o1.posts.length, .slc 1002 0 o1.messages.length, .slc 1003 0 o1.calls.length, .d (.int .i64 o1.clock)]]⟩), (1001, ⟨84, 7, nelB Pst.bs o1.posts⟩), (1002, ⟨88, 8, dl (lenc Msg.pd o1.messages)⟩), (1003, ⟨51, 5, dl (lenc Cal.pd o1.calls)⟩)])) (.slc 1004 0 r.1.length) (dynBH (blks Pst.bs r.2.posts) ([(0, ⟨67, 4, [.agg [.slc 1001 0 r.2.posts.length, .slc 1002 0 r.2.messages.length, .slc 1003 0 r.2.calls.length, .d (.int .i64 r.2.clock)]]⟩), (1001, ⟨84, 7, nelB Pst.bs r.2.posts⟩), (1002, ⟨88, 8, dl (lenc Msg.pd r.2.messages)⟩), (1003, ⟨51, 5, dl (lenc Cal.pd r.2.calls)⟩), (1004, ⟨51, 5, dl (lenc Cal.pd r.1)⟩)])) := by
 unfold m_post_Net_Calls_h at h
 refine ObjFn.pf Try.func19 Try.ntmps19 ?_
 refine sg fun K k => ?_
 refine oo ?_
 refine AOps.nil (k _ ?_)
 refine AWp.seq fun _ K_1 => ?_
 refine sg fun K k => ?_
 refine oo ?_
 obtain ⟨r1, hx_2, h⟩ := bind_some h
 refine clB (S := Pst.bs) [(0, 0), (1001, 1001), (1002, 1002), (1003, 1003)] [1001, 1002, 1003] [] (m_post_Net_ok_h_ok o1 _ hx_2) ?_
 refine oo ?_
 refine AOps.nil (k _ ?_)
 refine cd h (fun h => ?_) (fun h => ?_)
 ·refine sg fun K k => ?_
  refine oo ?_
  refine AOps.nil (k _ ?_)
  refine AWp.sub (Sub.void 2 51 5 1004 (by rfl) (dyBR rfl) (by decide) (by decide)) ?_
  simp (disch := decide) only [eput, hput, hput_dynBH, reduceCtorEq, ↓reduceIte, Nat.reduceAdd, Nat.reduceMul, Nat.reduceLT, Nat.reduceLeDiff, Nat.reduceEqDiff, Nat.reduceBEq, Int.reduceToNat]
  refine AWp.ret ?_
  cases h; exact rtO
 ·refine AWp.skip ?_
  refine K_1 _ ?_
  refine sg fun K k => ?_
  obtain ⟨hg_4, h⟩ := guardO_some h
  iterate 4 refine oo ?_
  refine clL 1003 1004 (lend_50 r1.2.calls hg_4) ?_
  refine oo ?_
  refine AOps.nil (k _ ?_)
  refine AWp.ret ?_
  cases h; exact rtO
end Go.Pv.Try

namespace Go.Pv.Try
open Go.Proofs Go.Pv
set_option maxHeartbeats 4000000 in
theorem m_cocketlaw09_alive_ok (r : Bool) (h : m_cocketlaw09_alive = some r) : PureFn Try.prog G 20 [] (.d (.bool r)) := by
 unfold m_cocketlaw09_alive at h
 refine pf Try.func20 Try.ntmps20 ?_
 refine sg fun K k => ?_
 refine oo ?_
 refine AOps.nil (k _ ?_)
 refine sg fun K k => ?_
 obtain ⟨r1, hx_1, h⟩ := bind_some h
 rcases optB_case h with ⟨hw_2, h⟩ | ⟨t1, hw_2, h⟩
 ·refine clB (S := Pst.bs) (L := []) (L' := []) [] [] [] (m_post_New_h_none 3 r1 hx_1 hw_2) (hrow := trivial) ?_
  iterate 5 refine oo ?_
  refine AOps.nil (k _ ?_)
  refine AWp.seq fun _ K_3 => ?_
  refine sg fun K k => ?_
  iterate 3 refine oo ?_
  rcases bt (decide (¬r1.2 = 0)) with hg_4 | hg_4
  ·rw [hg_4]
   rw [hg_4, cond_true] at h
   iterate 14 refine oo ?_
   refine AOps.nil (k _ ?_)
   refine cdt ?_
   refine sg fun K k => ?_
   refine oo ?_
   refine AOps.nil (k _ ?_)
   refine AWp.ret ?_
   cases h; exact rt
  ·rw [hg_4]
   rw [hg_4, cond_false] at h
   iterate 14 refine oo ?_
   refine AOps.nil (k _ ?_)
   refine cdt ?_
   refine sg fun K k => ?_
   refine oo ?_
   refine AOps.nil (k _ ?_)
   refine AWp.ret ?_
   cases h; exact rt
 ·refine clB (S := Pst.bs) (L := []) (L' := t1.posts) [(1000, 1000), (1001, 1001), (1002, 1002), (1003, 1003)] [] [] (m_post_New_h_some 3 r1 hx_1 t1 hw_2) (hrow := trivial) ?_
  iterate 5 refine oo ?_
  refine AOps.nil (k _ ?_)
  refine AWp.seq fun _ K_5 => ?_
  refine sg fun K k => ?_
  iterate 3 refine oo ?_
  rcases bt (decide (¬r1.2 = 0)) with hg_6 | hg_6
  ·rw [hg_6]
   rw [hg_6, cond_true] at h
   iterate 14 refine oo ?_
   refine AOps.nil (k _ ?_)
   refine cdt ?_
   refine sg fun K k => ?_
   refine oo ?_
   refine AOps.nil (k _ ?_)
   refine AWp.ret ?_
   cases h; exact rt
  ·rw [hg_6]
   rw [hg_6, cond_false] at h
   iterate 5 refine oo ?_
   obtain ⟨r2, hx_7, h⟩ := bind_some h
   refine clB (S := Pst.bs) [(0, 1000), (1001, 1001), (1002, 1002), (1003, 1003)] [1001, 1002, 1003] [] (m_post_Net_Write_h_ok t1 0 7 _ hx_7) ?_
   iterate 3 refine oo ?_
   rcases bt (decide (¬r2.1 = 0)) with hg_8 | hg_8
   ·rw [hg_8]
    rw [hg_8, cond_true] at h
    iterate 5 refine oo ?_
    refine AOps.nil (k _ ?_)
    refine cdt ?_
    refine sg fun K k => ?_
    refine oo ?_
    refine AOps.nil (k _ ?_)
    refine AWp.ret ?_
    cases h; exact rt
   ·rw [hg_8]
    rw [hg_8, cond_false] at h
    refine oo ?_
    obtain ⟨r3, hx_9, h⟩ := bind_some h
    refine clB (S := Pst.bs) [(0, 1000), (1001, 1001), (1002, 1002), (1003, 1003), (1004, 1004)] [1001, 1002, 1003] [] (m_post_Net_Messages_h_ok r2.2 _ hx_9) ?_
    iterate 3 refine oo ?_
    refine AOps.nil (k _ ?_)
    refine cd h (fun h => ?_) (fun h => ?_)
    ·refine sg fun K k => ?_
     refine oo ?_
     refine AOps.nil (k _ ?_)
     refine AWp.ret ?_
     cases h; exact rt
    ·refine AWp.skip ?_
     refine K_5 _ ?_
     refine sg fun K k => ?_
     refine oo ?_
     obtain ⟨r4, hx_11, h⟩ := bind_some h
     refine clB (S := Pst.bs) [(0, 1000), (1001, 1001), (1002, 1002), (1003, 1003)] [1001, 1002, 1003] [] (m_post_Net_Settle_h_ok r3.2 100 _ hx_11) ?_
     iterate 5 refine oo ?_
     refine AOps.nil (k _ ?_)
     refine AWp.seq fun _ K_12 => ?_
     refine sg fun K k => ?_
     iterate 3 refine oo ?_
     rcases bt (decide (¬r4.2.1 = 0)) with hg_13 | hg_13
     ·rw [hg_13]
      rw [hg_13, cond_true] at h
      iterate 8 refine oo ?_
      refine AOps.nil (k _ ?_)
      refine cdt ?_
      refine sg fun K k => ?_
      refine oo ?_
      refine AOps.nil (k _ ?_)
      refine AWp.ret ?_
      cases h; exact rt
     ·rw [hg_13]
      rw [hg_13, cond_false] at h
      iterate 4 refine oo ?_
      rcases bt (decide (¬r4.1 = 12)) with hg_14 | hg_14
      ·rw [hg_14]
       rw [hg_14, cond_true] at h
       iterate 4 refine oo ?_
       refine AOps.nil (k _ ?_)
       refine cdt ?_
       refine sg fun K k => ?_
       refine oo ?_
       refine AOps.nil (k _ ?_)
       refine AWp.ret ?_
       cases h; exact rt
      ·rw [hg_14]
       rw [hg_14, cond_false] at h
       refine oo ?_
       obtain ⟨r5, hx_15, h⟩ := bind_some h
       refine clB (S := Pst.bs) [(0, 1000), (1001, 1001), (1002, 1002), (1003, 1003)] [1001, 1002, 1003] [] (m_post_Net_Read_h_ok r4.2.2 1 _ hx_15) ?_
       iterate 2 refine oo ?_
       refine AOps.nil (k _ ?_)
       refine cd h (fun h => ?_) (fun h => ?_)
       ·refine sg fun K k => ?_
        refine oo ?_
        refine AOps.nil (k _ ?_)
        refine AWp.ret ?_
        cases h; exact rt
       ·refine AWp.skip ?_
        refine K_12 _ ?_
        refine sg fun K k => ?_
        refine oo ?_
        obtain ⟨r6, hx_17, h⟩ := bind_some h
        refine clB (S := Pst.bs) [(0, 1000), (1001, 1001), (1002, 1002), (1003, 1003)] [1001, 1002, 1003] [] (m_post_Net_Settle_h_ok r5.2 100 _ hx_17) ?_
        iterate 4 refine oo ?_
        refine AOps.nil (k _ ?_)
        refine sg fun K k => ?_
        refine oo ?_
        obtain ⟨r7, hx_18, h⟩ := bind_some h
        refine clB (S := Pst.bs) [(0, 1000), (1001, 1001), (1002, 1002), (1003, 1003), (1004, 1005)] [1001, 1002, 1003] [] (m_post_Net_Calls_h_ok r6.2.2 _ hx_18) ?_
        refine oo ?_
        refine AOps.nil (k _ ?_)
        refine sd mo fun K k => ?_
        iterate 3 refine dd ?_
        rcases bt (decide (r6.2.1 = 0)) with hg_19 | hg_19
        ·rw [hg_19]
         rw [hg_19, cond_true] at h
         iterate 5 refine dd ?_
         rcases bt (decide ((r7.1.length : Int) = 2)) with hg_20 | hg_20
         ·rw [hg_20]
          rw [hg_20, cond_true] at h
          obtain ⟨e1, ⟨f_21, f_22, f_23, f_24⟩, h⟩ := idx_bind h
          try simp only [Int.reduceToNat] at f_23 f_24
          iterate 3 refine dd ?_
          refine dd ?_ (by intro K k; simp (disch := omega) only [go_sem, f_23, ↓reduceIte]; exact k)
          iterate 2 refine dd ?_
          rcases bt e1.Write with hg_25 | hg_25
          ·rw [hg_25]
           rw [hg_25, cond_true] at h
           iterate 3 refine dd ?_
           refine dd ?_ (by intro K k; simp (disch := omega) only [go_sem, f_23, ↓reduceIte]; exact k)
           iterate 3 refine dd ?_
           rcases bt (decide (e1.Start = 1)) with hg_26 | hg_26
           ·rw [hg_26]
            rw [hg_26, cond_true] at h
            obtain ⟨e2, ⟨f_27, f_28, f_29, f_30⟩, h⟩ := idx_bind h
            try simp only [Int.reduceToNat] at f_29 f_30
            iterate 3 refine dd ?_
            refine dd ?_ (by intro K k; simp (disch := omega) only [go_sem, f_29, ↓reduceIte]; exact k)
            iterate 3 refine dd ?_
            rcases bt (decide (e2.Value = 7)) with hg_31 | hg_31
            ·rw [hg_31]
             rw [hg_31, cond_true] at h
             iterate 3 refine dd ?_
             refine dd ?_ (by intro K k; simp (disch := omega) only [go_sem, f_29, ↓reduceIte]; exact k)
             iterate 3 refine dd ?_
             refine dd ?_ (by intro K k; simp (disch := omega) only [go_sem, f_29, ↓reduceIte]; exact k)
             iterate 3 refine dd ?_
             refine DOps.nil (by kernel_rfl) (k _ ?_)
             refine AWp.ret ?_
             cases h; exact rt
            ·rw [hg_31]
             rw [hg_31, cond_false] at h
             iterate 11 refine dd ?_
             refine DOps.nil (by kernel_rfl) (k _ ?_)
             refine AWp.ret ?_
             cases h; exact rt
           ·rw [hg_26]
            rw [hg_26, cond_false] at h
            iterate 18 refine dd ?_
            refine DOps.nil (by kernel_rfl) (k _ ?_)
            refine AWp.ret ?_
            cases h; exact rt
          ·rw [hg_25]
           rw [hg_25, cond_false] at h
           iterate 25 refine dd ?_
           refine DOps.nil (by kernel_rfl) (k _ ?_)
           refine AWp.ret ?_
           cases h; exact rt
         ·rw [hg_20]
          rw [hg_20, cond_false] at h
          iterate 31 refine dd ?_
          refine DOps.nil (by kernel_rfl) (k _ ?_)
          refine AWp.ret ?_
          cases h; exact rt
        ·rw [hg_19]
         rw [hg_19, cond_false] at h
         iterate 36 refine dd ?_
         refine DOps.nil (by kernel_rfl) (k _ ?_)
         refine AWp.ret ?_
         cases h; exact rt
end Go.Pv.Try

namespace Go.Pv.Try
open Go.Proofs Go.Pv
theorem m_post_Net_ok_h_3_ok (r : Bool) (h : m_post_Net_ok_h_3 = some r) : ObjFn Try.prog G 49 [.d .nilptr] [] (.d (.bool false)) [] := by
 unfold m_post_Net_ok_h_3 at h
 refine ObjFn.pf Try.func49 Try.ntmps49 ?_
 refine sg fun K k => ?_
 refine oo ?_
 refine AOps.nil (k _ ?_)
 refine sg fun K k => ?_
 iterate 10 refine oo ?_
 refine AOps.nil (k _ ?_)
 refine AWp.ret ?_
 cases h; exact rtO
end Go.Pv.Try

namespace Go.Pv.Try
open Go.Proofs Go.Pv
theorem m_post_Net_Settle_h_3_ok (limit1 : Int) (r : (Int × Int)) (h : m_post_Net_Settle_h_3 limit1 = some r) : ObjFn Try.prog G 17 [.d .nilptr, .d (.int .i64 limit1)] [] (.tuple [.d (.int .i64 0), .d (.int .i64 1)]) [] := by
 unfold m_post_Net_Settle_h_3 at h
 refine ObjFn.pf Try.func17 Try.ntmps17 ?_
 refine sg fun K k => ?_
 iterate 2 refine oo ?_
 refine AOps.nil (k _ ?_)
 refine AWp.seq fun _ K_1 => ?_
 refine AWp.block ?_
 refine sg fun K k => ?_
 refine oo ?_
 obtain ⟨r1, hx_2, h⟩ := bind_some h
 refine clU [] [] (m_post_Net_ok_h_3_ok _ hx_2) ?_
 iterate 2 refine oo ?_
 refine AOps.nil (k _ ?_)
 refine cdt ?_
 refine sg fun K k => ?_
 iterate 2 refine oo ?_
 refine AOps.nil (k _ ?_)
 refine AWp.ret ?_
 cases h; exact rtO
end Go.Pv.Try

namespace Go.Pv.Try
open Go.Proofs Go.Pv
theorem m_post_Net_at_h_3_ok (no1 : Int) (r : Int) (h : m_post_Net_at_h_3 no1 = some r) : ObjFn Try.prog G 47 [.d .nilptr, .d (.int .i64 no1)] [] (.d (.int .i64 1)) [] := by
 unfold m_post_Net_at_h_3 at h
 refine ObjFn.pf Try.func47 Try.ntmps47 ?_
 refine sg fun K k => ?_
 refine oo ?_
 refine AOps.nil (k _ ?_)
 refine AWp.seq fun _ K_1 => ?_
 refine AWp.block ?_
 refine sg fun K k => ?_
 refine oo ?_
 obtain ⟨r1, hx_2, h⟩ := bind_some h
 refine clU [] [] (m_post_Net_ok_h_3_ok _ hx_2) ?_
 iterate 2 refine oo ?_
 refine AOps.nil (k _ ?_)
 refine cdt ?_
 refine sg fun K k => ?_
 refine oo ?_
 refine AOps.nil (k _ ?_)
 refine AWp.ret ?_
 cases h; exact rtO
end Go.Pv.Try

namespace Go.Pv.Try
open Go.Proofs Go.Pv
theorem m_post_Net_Kept_h_2_ok (no1 : Int) (r : (Stamp × Int × Int)) (h : m_post_Net_Kept_h_2 no1 = some r) : ObjFn Try.prog G 27 [.d .nilptr, .d (.int .i64 no1)] [] (.tuple [.d (.agg [(.int .i64 r.1.No), (.int .i64 r.1.Post), (.int .i64 r.1.Turn)]), .d (.int .i64 0), .d (.int .i64 1)]) [] := by
 unfold m_post_Net_Kept_h_2 at h
 refine ObjFn.pf Try.func27 Try.ntmps27 ?_
 refine sg fun K k => ?_
 iterate 3 refine oo ?_
 refine AOps.nil (k _ ?_)
 refine AWp.seq fun _ K_1 => ?_
 refine sg fun K k => ?_
 iterate 2 refine oo ?_
 obtain ⟨r1, hx_2, h⟩ := bind_some h
 refine clU [] [] (m_post_Net_at_h_3_ok no1 _ hx_2) ?_
 refine oo ?_
 refine AOps.nil (k _ ?_)
 refine sg fun K k => ?_
 iterate 2 refine oo ?_
 refine AOps.nil (k _ ?_)
 refine cdt ?_
 refine sg fun K k => ?_
 iterate 5 refine oo ?_
 refine AOps.nil (k _ ?_)
 refine AWp.ret ?_
 cases h; exact rtO
end Go.Pv.Try

namespace Go.Pv.Try
open Go.Proofs Go.Pv
theorem m_post_Net_Busy_h_2_ok (no1 : Int) (r : (Bool × Int)) (h : m_post_Net_Busy_h_2 no1 = some r) : ObjFn Try.prog G 24 [.d .nilptr, .d (.int .i64 no1)] [] (.tuple [.d (.bool false), .d (.int .i64 1)]) [] := by
 unfold m_post_Net_Busy_h_2 at h
 refine ObjFn.pf Try.func24 Try.ntmps24 ?_
 refine sg fun K k => ?_
 iterate 2 refine oo ?_
 refine AOps.nil (k _ ?_)
 refine AWp.seq fun _ K_1 => ?_
 refine sg fun K k => ?_
 iterate 2 refine oo ?_
 obtain ⟨r1, hx_2, h⟩ := bind_some h
 refine clU [] [] (m_post_Net_at_h_3_ok no1 _ hx_2) ?_
 refine oo ?_
 refine AOps.nil (k _ ?_)
 refine sg fun K k => ?_
 iterate 2 refine oo ?_
 refine AOps.nil (k _ ?_)
 refine cdt ?_
 refine sg fun K k => ?_
 iterate 3 refine oo ?_
 refine AOps.nil (k _ ?_)
 refine AWp.ret ?_
 cases h; exact rtO
end Go.Pv.Try

namespace Go.Pv.Try
open Go.Proofs Go.Pv
theorem m_post_Net_Write_h_3_ok (no1 : Int) (value1 : Int) (r : Int) (h : m_post_Net_Write_h_3 no1 value1 = some r) : ObjFn Try.prog G 16 [.d .nilptr, .d (.int .i64 no1), .d (.int .i64 value1)] [] (.d (.int .i64 1)) [] := by
 unfold m_post_Net_Write_h_3 at h
 refine ObjFn.pf Try.func16 Try.ntmps16 ?_
 refine sg fun K k => ?_
 refine oo ?_
 refine AOps.nil (k _ ?_)
 refine AWp.seq fun _ K_1 => ?_
 refine sg fun K k => ?_
 iterate 2 refine oo ?_
 obtain ⟨r1, hx_2, h⟩ := bind_some h
 refine clU [] [] (m_post_Net_at_h_3_ok no1 _ hx_2) ?_
 refine oo ?_
 refine AOps.nil (k _ ?_)
 refine sg fun K k => ?_
 iterate 2 refine oo ?_
 refine AOps.nil (k _ ?_)
 refine cdt ?_
 refine sg fun K k => ?_
 iterate 2 refine oo ?_
 refine AOps.nil (k _ ?_)
 refine AWp.ret ?_
 cases h; exact rtO
end Go.Pv.Try

namespace Go.Pv.Try
open Go.Proofs Go.Pv
theorem m_post_Net_Read_h_3_ok (no1 : Int) (r : Int) (h : m_post_Net_Read_h_3 no1 = some r) : ObjFn Try.prog G 18 [.d .nilptr, .d (.int .i64 no1)] [] (.d (.int .i64 1)) [] := by
 unfold m_post_Net_Read_h_3 at h
 refine ObjFn.pf Try.func18 Try.ntmps18 ?_
 refine sg fun K k => ?_
 refine oo ?_
 refine AOps.nil (k _ ?_)
 refine AWp.seq fun _ K_1 => ?_
 refine sg fun K k => ?_
 iterate 2 refine oo ?_
 obtain ⟨r1, hx_2, h⟩ := bind_some h
 refine clU [] [] (m_post_Net_at_h_3_ok no1 _ hx_2) ?_
 refine oo ?_
 refine AOps.nil (k _ ?_)
 refine sg fun K k => ?_
 iterate 2 refine oo ?_
 refine AOps.nil (k _ ?_)
 refine cdt ?_
 refine sg fun K k => ?_
 iterate 2 refine oo ?_
 refine AOps.nil (k _ ?_)
 refine AWp.ret ?_
 cases h; exact rtO
end Go.Pv.Try

namespace Go.Pv.Try
open Go.Proofs Go.Pv
theorem m_post_Net_message_h_3_ok (i1 : Int) (r : Int) (h : m_post_Net_message_h_3 i1 = some r) : ObjFn Try.prog G 51 [.d .nilptr, .d (.int .i64 i1)] [] (.d (.int .i64 1)) [] := by
 unfold m_post_Net_message_h_3 at h
 refine ObjFn.pf Try.func51 Try.ntmps51 ?_
 refine sg fun K k => ?_
 refine oo ?_
 refine AOps.nil (k _ ?_)
 refine AWp.seq fun _ K_1 => ?_
 refine AWp.block ?_
 refine sg fun K k => ?_
 refine oo ?_
 obtain ⟨r1, hx_2, h⟩ := bind_some h
 refine clU [] [] (m_post_Net_ok_h_3_ok _ hx_2) ?_
 iterate 2 refine oo ?_
 refine AOps.nil (k _ ?_)
 refine cdt ?_
 refine sg fun K k => ?_
 refine oo ?_
 refine AOps.nil (k _ ?_)
 refine AWp.ret ?_
 cases h; exact rtO
end Go.Pv.Try

namespace Go.Pv.Try
open Go.Proofs Go.Pv
theorem m_post_Net_Deliver_h_3_ok (i1 : Int) (r : Int) (h : m_post_Net_Deliver_h_3 i1 = some r) : ObjFn Try.prog G 23 [.d .nilptr, .d (.int .i64 i1)] [] (.d (.int .i64 1)) [] := by
 unfold m_post_Net_Deliver_h_3 at h
 refine ObjFn.pf Try.func23 Try.ntmps23 ?_
 refine sg fun K k => ?_
 refine oo ?_
 refine AOps.nil (k _ ?_)
 refine AWp.seq fun _ K_1 => ?_
 refine sg fun K k => ?_
 iterate 2 refine oo ?_
 obtain ⟨r1, hx_2, h⟩ := bind_some h
 refine clU [] [] (m_post_Net_message_h_3_ok i1 _ hx_2) ?_
 refine oo ?_
 refine AOps.nil (k _ ?_)
 refine sg fun K k => ?_
 iterate 2 refine oo ?_
 refine AOps.nil (k _ ?_)
 refine cdt ?_
 refine sg fun K k => ?_
 iterate 2 refine oo ?_
 refine AOps.nil (k _ ?_)
 refine AWp.ret ?_
 cases h; exact rtO
end Go.Pv.Try

namespace Go.Pv.Try
open Go.Proofs Go.Pv
theorem m_post_Net_Drop_h_2_ok (i1 : Int) (r : Int) (h : m_post_Net_Drop_h_2 i1 = some r) : ObjFn Try.prog G 25 [.d .nilptr, .d (.int .i64 i1)] [] (.d (.int .i64 1)) [] := by
 unfold m_post_Net_Drop_h_2 at h
 refine ObjFn.pf Try.func25 Try.ntmps25 ?_
 refine sg fun K k => ?_
 refine oo ?_
 refine AOps.nil (k _ ?_)
 refine AWp.seq fun _ K_1 => ?_
 refine sg fun K k => ?_
 iterate 2 refine oo ?_
 obtain ⟨r1, hx_2, h⟩ := bind_some h
 refine clU [] [] (m_post_Net_message_h_3_ok i1 _ hx_2) ?_
 refine oo ?_
 refine AOps.nil (k _ ?_)
 refine sg fun K k => ?_
 iterate 2 refine oo ?_
 refine AOps.nil (k _ ?_)
 refine cdt ?_
 refine sg fun K k => ?_
 iterate 2 refine oo ?_
 refine AOps.nil (k _ ?_)
 refine AWp.ret ?_
 cases h; exact rtO
end Go.Pv.Try

namespace Go.Pv.Try
open Go.Proofs Go.Pv
theorem m_post_Net_Repeat_h_2_ok (i1 : Int) (r : Int) (h : m_post_Net_Repeat_h_2 i1 = some r) : ObjFn Try.prog G 21 [.d .nilptr, .d (.int .i64 i1)] [] (.d (.int .i64 1)) [] := by
 unfold m_post_Net_Repeat_h_2 at h
 refine ObjFn.pf Try.func21 Try.ntmps21 ?_
 refine sg fun K k => ?_
 refine oo ?_
 refine AOps.nil (k _ ?_)
 refine AWp.seq fun _ K_1 => ?_
 refine sg fun K k => ?_
 iterate 2 refine oo ?_
 obtain ⟨r1, hx_2, h⟩ := bind_some h
 refine clU [] [] (m_post_Net_message_h_3_ok i1 _ hx_2) ?_
 refine oo ?_
 refine AOps.nil (k _ ?_)
 refine sg fun K k => ?_
 iterate 2 refine oo ?_
 refine AOps.nil (k _ ?_)
 refine cdt ?_
 refine sg fun K k => ?_
 iterate 2 refine oo ?_
 refine AOps.nil (k _ ?_)
 refine AWp.ret ?_
 cases h; exact rtO
end Go.Pv.Try

namespace Go.Pv.Try
open Go.Proofs Go.Pv
theorem m_post_Net_turn_h_2_ok (no1 : Int) (up1 : Bool) (r : Int) (h : m_post_Net_turn_h_2 no1 up1 = some r) : ObjFn Try.prog G 67 [.d .nilptr, .d (.int .i64 no1), .d (.bool up1)] [] (.d (.int .i64 1)) [] := by
 unfold m_post_Net_turn_h_2 at h
 refine ObjFn.pf Try.func67 Try.ntmps67 ?_
 refine sg fun K k => ?_
 refine oo ?_
 refine AOps.nil (k _ ?_)
 refine AWp.seq fun _ K_1 => ?_
 refine sg fun K k => ?_
 iterate 2 refine oo ?_
 obtain ⟨r1, hx_2, h⟩ := bind_some h
 refine clU [] [] (m_post_Net_at_h_3_ok no1 _ hx_2) ?_
 refine oo ?_
 refine AOps.nil (k _ ?_)
 refine sg fun K k => ?_
 iterate 2 refine oo ?_
 refine AOps.nil (k _ ?_)
 refine cdt ?_
 refine sg fun K k => ?_
 iterate 2 refine oo ?_
 refine AOps.nil (k _ ?_)
 refine AWp.ret ?_
 cases h; exact rtO
end Go.Pv.Try

namespace Go.Pv.Try
open Go.Proofs Go.Pv
theorem m_post_Net_Crash_h_2_ok (no1 : Int) (r : Int) (h : m_post_Net_Crash_h_2 no1 = some r) : ObjFn Try.prog G 34 [.d .nilptr, .d (.int .i64 no1)] [] (.d (.int .i64 1)) [] := by
 unfold m_post_Net_Crash_h_2 at h
 refine ObjFn.pf Try.func34 Try.ntmps34 ?_
 refine sg fun K k => ?_
 refine oo ?_
 refine AOps.nil (k _ ?_)
 refine sg fun K k => ?_
 iterate 2 refine oo ?_
 obtain ⟨r1, hx_1, h⟩ := bind_some h
 refine clU [] [] (m_post_Net_turn_h_2_ok no1 false _ hx_1) ?_
 refine oo ?_
 refine AOps.nil (k _ ?_)
 refine AWp.ret ?_
 cases h; exact rtO
end Go.Pv.Try

namespace Go.Pv.Try
open Go.Proofs Go.Pv
theorem m_post_Net_Start_h_2_ok (no1 : Int) (r : Int) (h : m_post_Net_Start_h_2 no1 = some r) : ObjFn Try.prog G 35 [.d .nilptr, .d (.int .i64 no1)] [] (.d (.int .i64 1)) [] := by
 unfold m_post_Net_Start_h_2 at h
 refine ObjFn.pf Try.func35 Try.ntmps35 ?_
 refine sg fun K k => ?_
 refine oo ?_
 refine AOps.nil (k _ ?_)
 refine sg fun K k => ?_
 iterate 2 refine oo ?_
 obtain ⟨r1, hx_1, h⟩ := bind_some h
 refine clU [] [] (m_post_Net_turn_h_2_ok no1 true _ hx_1) ?_
 refine oo ?_
 refine AOps.nil (k _ ?_)
 refine AWp.ret ?_
 cases h; exact rtO
end Go.Pv.Try

namespace Go.Pv.Try
open Go.Proofs Go.Pv
theorem m_post_Net_Messages_h_3_ok (r : (List Msg)) (h : m_post_Net_Messages_h_3 = some r) : ObjFn Try.prog G 22 [.d .nilptr] [] (.slc 1000 0 r.length) [(1000, ⟨88, 8, dl (lenc Msg.pd r)⟩)] := by
 unfold m_post_Net_Messages_h_3 at h
 refine ObjFn.pf Try.func22 Try.ntmps22 ?_
 refine sg fun K k => ?_
 refine oo ?_
 refine AOps.nil (k _ ?_)
 refine AWp.seq fun _ K_1 => ?_
 refine sg fun K k => ?_
 refine oo ?_
 obtain ⟨r1, hx_2, h⟩ := bind_some h
 refine clU [] [] (m_post_Net_ok_h_3_ok _ hx_2) ?_
 refine oo ?_
 refine AOps.nil (k _ ?_)
 refine cdt ?_
 refine sg fun K k => ?_
 refine oo ?_
 refine AOps.nil (k _ ?_)
 refine AWp.sub (Sub.void 2 88 8 1000 (by rfl) (by rfl) (by decide) (by decide)) ?_
 simp only [eput, hput, reduceCtorEq, ↓reduceIte, Nat.reduceAdd, Nat.reduceMul, Nat.reduceLT, Nat.reduceLeDiff, Nat.reduceEqDiff, Nat.reduceBEq, Int.reduceToNat]
 refine AWp.ret ?_
 cases h; exact rtO
end Go.Pv.Try

namespace Go.Pv.Try
open Go.Proofs Go.Pv
theorem m_post_Net_Calls_h_3_ok (r : (List Cal)) (h : m_post_Net_Calls_h_3 = some r) : ObjFn Try.prog G 19 [.d .nilptr] [] (.slc 1000 0 r.length) [(1000, ⟨51, 5, dl (lenc Cal.pd r)⟩)] := by
 unfold m_post_Net_Calls_h_3 at h
 refine ObjFn.pf Try.func19 Try.ntmps19 ?_
 refine sg fun K k => ?_
 refine oo ?_
 refine AOps.nil (k _ ?_)
 refine AWp.seq fun _ K_1 => ?_
 refine sg fun K k => ?_
 refine oo ?_
 obtain ⟨r1, hx_2, h⟩ := bind_some h
 refine clU [] [] (m_post_Net_ok_h_3_ok _ hx_2) ?_
 refine oo ?_
 refine AOps.nil (k _ ?_)
 refine cdt ?_
 refine sg fun K k => ?_
 refine oo ?_
 refine AOps.nil (k _ ?_)
 refine AWp.sub (Sub.void 2 51 5 1000 (by rfl) (by rfl) (by decide) (by decide)) ?_
 simp only [eput, hput, reduceCtorEq, ↓reduceIte, Nat.reduceAdd, Nat.reduceMul, Nat.reduceLT, Nat.reduceLeDiff, Nat.reduceEqDiff, Nat.reduceBEq, Int.reduceToNat]
 refine AWp.ret ?_
 cases h; exact rtO
end Go.Pv.Try

namespace Go.Pv.Try
open Go.Proofs Go.Pv
theorem m_post_Net_Copy_h_2_ok (r : (Option Net)) (h : m_post_Net_Copy_h_2 = some r) : ObjFn Try.prog G 33 [.d .nilptr] [] (.d .nilptr) [] := by
 unfold m_post_Net_Copy_h_2 at h
 refine ObjFn.pf Try.func33 Try.ntmps33 ?_
 refine sg fun K k => ?_
 refine oo ?_
 refine AOps.nil (k _ ?_)
 refine AWp.seq fun _ K_1 => ?_
 refine sg fun K k => ?_
 refine oo ?_
 obtain ⟨r1, hx_2, h⟩ := bind_some h
 refine clU [] [] (m_post_Net_ok_h_3_ok _ hx_2) ?_
 refine oo ?_
 refine AOps.nil (k _ ?_)
 refine cdt ?_
 refine sg fun K k => ?_
 refine oo ?_
 refine AOps.nil (k _ ?_)
 refine AWp.ret ?_
 cases h; exact rtO
end Go.Pv.Try

namespace Go.Pv.Try
open Go.Proofs Go.Pv
set_option maxHeartbeats 4000000 in
theorem m_cocketlaw09_PostNobody_ok (a1 : Act) (plain1 : Bool) (r : Bool) (h : m_cocketlaw09_PostNobody a1 plain1 = some r) : PureFn Try.prog G 8 [.d (.agg [(.int .u8 a1.Kind), (.int .i64 a1.A), (.int .i64 a1.B)]), .d (.bool plain1)] (.d (.bool r)) := by
 unfold m_cocketlaw09_PostNobody at h
 refine pf Try.func8 Try.ntmps8 ?_
 refine sg fun K k => ?_
 iterate 2 refine oo ?_
 refine AOps.nil (k _ ?_)
 refine sg fun K k => ?_
 refine oo ?_
 refine AOps.nil (k _ ?_)
 refine AWp.seq fun _ K_1 => ?_
 refine sg fun K k => ?_
 refine oo ?_
 refine AOps.nil (k _ ?_)
 refine cd h (fun h => ?_) (fun h => ?_)
 ·refine AWp.reg ?_
  iterate 3 refine oo ?_
  refine AOps.nil ?_
  refine K_1 _ ?_
  refine sg fun K k => ?_
  iterate 3 refine oo ?_
  obtain ⟨r1, hx_3, h⟩ := bind_some h
  refine clU [(0, 1001)] [] (m_post_Net_Settle_h_2_ok 0 a1.A _ hx_3) ?_
  iterate 5 refine oo ?_
  refine AOps.nil (k _ ?_)
  refine sg fun K k => ?_
  iterate 3 refine oo ?_
  obtain ⟨r2, hx_4, h⟩ := bind_some h
  refine clU [(0, 1001)] [] (m_post_Net_Kept_h_ok r1.2.2 a1.A _ hx_4) ?_
  iterate 8 refine oo ?_
  refine AOps.nil (k _ ?_)
  refine sg fun K k => ?_
  iterate 3 refine oo ?_
  obtain ⟨r3, hx_5, h⟩ := bind_some h
  refine clU [(0, 1001)] [] (m_post_Net_Busy_h_ok r2.2.2.2 a1.A _ hx_5) ?_
  iterate 5 refine oo ?_
  refine AOps.nil (k _ ?_)
  refine AWp.seq fun _ K_6 => ?_
  refine sg fun K k => ?_
  iterate 17 refine oo ?_
  refine ox ?_ (by intro K k; simp (disch := omega) only [go_sem, fsl46, ↓reduceIte]; exact k)
  iterate 2 refine oo ?_
  refine ct 3 [2, 5, 11] [1000, 1001] (fun  t => (60, .d (.bool (!((r2.1.No == 0) && ((r2.1.Post == 0) && (r2.1.Turn == 0)))))) :: t) ?_ ?_
  ·rcases bt (!((r2.1.No == 0) && ((r2.1.Post == 0) && (r2.1.Turn == 0)))) with hg_8 | hg_8
   ·rw [hg_8]
    iterate 3 refine oo ?_
    refine AOps.nil ?_
    exact sb
   ·rw [hg_8]
    iterate 3 refine oo ?_
    refine AOps.nil ?_
    exact sb
  refine oo ?_
  refine ct 2 [2, 5] [1000, 1001] (fun  t => (63, .d (.bool (!((r2.1.No == 0) && ((r2.1.Post == 0) && (r2.1.Turn == 0)))))) :: t) ?_ ?_
  ·rcases bt (!((r2.1.No == 0) && ((r2.1.Post == 0) && (r2.1.Turn == 0)))) with hg_10 | hg_10
   ·rw [hg_10]
    iterate 2 refine oo ?_
    refine AOps.nil ?_
    exact sb
   ·rw [hg_10]
    iterate 2 refine oo ?_
    refine AOps.nil ?_
    exact sb
  refine AOps.nil (k _ ?_)
  refine cd h (fun h => ?_) (fun h => ?_)
  ·refine sg fun K k => ?_
   refine oo ?_
   refine AOps.nil (k _ ?_)
   refine AWp.ret ?_
   cases h; exact rt
  ·refine AWp.skip ?_
   refine K_6 _ ?_
   refine AWp.seq fun _ K_12 => ?_
   refine sg fun K k => ?_
   iterate 5 refine oo ?_
   obtain ⟨r4, hx_13, h⟩ := bind_some h
   refine clU [(0, 1001)] [] (m_post_Net_Write_h_2_ok r3.2.2 a1.A a1.B _ hx_13) ?_
   iterate 5 refine oo ?_
   obtain ⟨r5, hx_14, h⟩ := bind_some h
   refine clU [(0, 1001)] [] (m_post_Net_Read_h_2_ok r4.2 a1.A _ hx_14) ?_
   iterate 6 refine oo ?_
   obtain ⟨r6, hx_15, h⟩ := bind_some h
   refine clU [(0, 1001)] [] (m_post_Net_Deliver_h_2_ok r5.2 a1.A _ hx_15) ?_
   iterate 6 refine oo ?_
   obtain ⟨r7, hx_16, h⟩ := bind_some h
   refine clU [(0, 1001)] [] (m_post_Net_Drop_h_ok r6.2 a1.A _ hx_16) ?_
   iterate 6 refine oo ?_
   obtain ⟨r8, hx_17, h⟩ := bind_some h
   refine clU [(0, 1001)] [] (m_post_Net_Repeat_h_ok r7.2 a1.A _ hx_17) ?_
   iterate 2 refine oo ?_
   refine AOps.nil (k _ ?_)
   refine cdf ?_
   refine AWp.skip ?_
   refine K_12 _ ?_
   refine sg fun K k => ?_
   iterate 3 refine oo ?_
   obtain ⟨r9, hx_18, h⟩ := bind_some h
   refine clU [(0, 1001)] [] (m_post_Net_Crash_h_ok r8.2 a1.A _ hx_18) ?_
   iterate 5 refine oo ?_
   obtain ⟨r10, hx_19, h⟩ := bind_some h
   refine clU [(0, 1001)] [] (m_post_Net_Start_h_ok r9.2 a1.A _ hx_19) ?_
   iterate 4 refine oo ?_
   obtain ⟨r11, hx_20, h⟩ := bind_some h
   refine clW (M := []) [(0, 1001), (1000, 1002)] [] [] (m_post_Net_Messages_h_2_ok r10.2 _ hx_20) ?_
   iterate 4 refine oo ?_
   rcases bt (decide ((r11.1.length : Int) = 0)) with hg_21 | hg_21
   ·rw [hg_21]
    rw [hg_21, cond_true] at h
    refine oo ?_
    obtain ⟨r12, hx_22, h⟩ := bind_some h
    refine clW (M := []) [(0, 1001), (1000, 1003)] [] [] (m_post_Net_Calls_h_2_ok r11.2 _ hx_22) ?_
    iterate 4 refine oo ?_
    rcases bt (decide ((r12.1.length : Int) = 0)) with hg_23 | hg_23
    ·rw [hg_23]
     rw [hg_23, cond_true] at h
     refine oo ?_
     obtain ⟨r13, hx_24, h⟩ := bind_some h
     refine clU [(0, 1001)] [] (m_post_Net_Copy_h_ok r12.2 _ hx_24) ?_
     iterate 3 refine oo ?_
     obtain ⟨r14, hx_25, h⟩ := bind_some h
     refine cl (m_cocketlaw09_alive_ok _ hx_25) ?_
     iterate 2 refine oo ?_
     refine AOps.nil (k _ ?_)
     refine AWp.ret ?_
     cases h; exact rt
    ·rw [hg_23]
     rw [hg_23, cond_false] at h
     iterate 8 refine oo ?_
     refine AOps.nil (k _ ?_)
     refine AWp.ret ?_
     cases h; exact rt
   ·rw [hg_21]
    rw [hg_21, cond_false] at h
    iterate 14 refine oo ?_
    refine AOps.nil (k _ ?_)
    refine AWp.ret ?_
    cases h; exact rt
 ·refine AWp.skip ?_
  refine K_1 _ ?_
  refine sg fun K k => ?_
  iterate 3 refine oo ?_
  obtain ⟨r15, hx_26, h⟩ := bind_some h
  refine clU [] [] (m_post_Net_Settle_h_3_ok a1.A _ hx_26) ?_
  iterate 5 refine oo ?_
  refine AOps.nil (k _ ?_)
  refine sg fun K k => ?_
  iterate 3 refine oo ?_
  obtain ⟨r16, hx_27, h⟩ := bind_some h
  refine clU [] [] (m_post_Net_Kept_h_2_ok a1.A _ hx_27) ?_
  iterate 8 refine oo ?_
  refine AOps.nil (k _ ?_)
  refine sg fun K k => ?_
  iterate 3 refine oo ?_
  obtain ⟨r17, hx_28, h⟩ := bind_some h
  refine clU [] [] (m_post_Net_Busy_h_2_ok a1.A _ hx_28) ?_
  iterate 5 refine oo ?_
  refine AOps.nil (k _ ?_)
  refine AWp.seq fun _ K_29 => ?_
  refine sg fun K k => ?_
  iterate 17 refine oo ?_
  refine ox ?_ (by intro K k; simp (disch := omega) only [go_sem, fsl46, ↓reduceIte]; exact k)
  iterate 2 refine oo ?_
  refine ct 3 [2, 5, 11] [1000] (fun  t => (60, .d (.bool (!((r16.1.No == 0) && ((r16.1.Post == 0) && (r16.1.Turn == 0)))))) :: t) ?_ ?_
  ·rcases bt (!((r16.1.No == 0) && ((r16.1.Post == 0) && (r16.1.Turn == 0)))) with hg_31 | hg_31
   ·rw [hg_31]
    iterate 3 refine oo ?_
    refine AOps.nil ?_
    exact sb
   ·rw [hg_31]
    iterate 3 refine oo ?_
    refine AOps.nil ?_
    exact sb
  refine oo ?_
  refine ct 2 [2, 5] [1000] (fun  t => (63, .d (.bool (!((r16.1.No == 0) && ((r16.1.Post == 0) && (r16.1.Turn == 0)))))) :: t) ?_ ?_
  ·rcases bt (!((r16.1.No == 0) && ((r16.1.Post == 0) && (r16.1.Turn == 0)))) with hg_33 | hg_33
   ·rw [hg_33]
    iterate 2 refine oo ?_
    refine AOps.nil ?_
    exact sb
   ·rw [hg_33]
    iterate 2 refine oo ?_
    refine AOps.nil ?_
    exact sb
  refine AOps.nil (k _ ?_)
  refine cd h (fun h => ?_) (fun h => ?_)
  ·refine sg fun K k => ?_
   refine oo ?_
   refine AOps.nil (k _ ?_)
   refine AWp.ret ?_
   cases h; exact rt
  ·refine AWp.skip ?_
   refine K_29 _ ?_
   refine AWp.seq fun _ K_35 => ?_
   refine sg fun K k => ?_
   iterate 5 refine oo ?_
   obtain ⟨r18, hx_36, h⟩ := bind_some h
   refine clU [] [] (m_post_Net_Write_h_3_ok a1.A a1.B _ hx_36) ?_
   iterate 5 refine oo ?_
   obtain ⟨r19, hx_37, h⟩ := bind_some h
   refine clU [] [] (m_post_Net_Read_h_3_ok a1.A _ hx_37) ?_
   iterate 6 refine oo ?_
   obtain ⟨r20, hx_38, h⟩ := bind_some h
   refine clU [] [] (m_post_Net_Deliver_h_3_ok a1.A _ hx_38) ?_
   iterate 6 refine oo ?_
   obtain ⟨r21, hx_39, h⟩ := bind_some h
   refine clU [] [] (m_post_Net_Drop_h_2_ok a1.A _ hx_39) ?_
   iterate 6 refine oo ?_
   obtain ⟨r22, hx_40, h⟩ := bind_some h
   refine clU [] [] (m_post_Net_Repeat_h_2_ok a1.A _ hx_40) ?_
   iterate 2 refine oo ?_
   refine AOps.nil (k _ ?_)
   refine cdf ?_
   refine AWp.skip ?_
   refine K_35 _ ?_
   refine sg fun K k => ?_
   iterate 3 refine oo ?_
   obtain ⟨r23, hx_41, h⟩ := bind_some h
   refine clU [] [] (m_post_Net_Crash_h_2_ok a1.A _ hx_41) ?_
   iterate 5 refine oo ?_
   obtain ⟨r24, hx_42, h⟩ := bind_some h
   refine clU [] [] (m_post_Net_Start_h_2_ok a1.A _ hx_42) ?_
   iterate 4 refine oo ?_
   obtain ⟨r25, hx_43, h⟩ := bind_some h
   refine clW (M := []) [(1000, 1001)] [] [] (m_post_Net_Messages_h_3_ok _ hx_43) ?_
   iterate 4 refine oo ?_
   rcases bt (decide ((r25.length : Int) = 0)) with hg_44 | hg_44
   ·rw [hg_44]
    rw [hg_44, cond_true] at h
    refine oo ?_
    obtain ⟨r26, hx_45, h⟩ := bind_some h
    refine clW (M := []) [(1000, 1002)] [] [] (m_post_Net_Calls_h_3_ok _ hx_45) ?_
    iterate 4 refine oo ?_
    rcases bt (decide ((r26.length : Int) = 0)) with hg_46 | hg_46
    ·rw [hg_46]
     rw [hg_46, cond_true] at h
     refine oo ?_
     obtain ⟨r27, hx_47, h⟩ := bind_some h
     refine clU [] [] (m_post_Net_Copy_h_2_ok _ hx_47) ?_
     iterate 3 refine oo ?_
     obtain ⟨r28, hx_48, h⟩ := bind_some h
     refine cl (m_cocketlaw09_alive_ok _ hx_48) ?_
     iterate 2 refine oo ?_
     refine AOps.nil (k _ ?_)
     refine AWp.ret ?_
     cases h; exact rt
    ·rw [hg_46]
     rw [hg_46, cond_false] at h
     iterate 8 refine oo ?_
     refine AOps.nil (k _ ?_)
     refine AWp.ret ?_
     cases h; exact rt
   ·rw [hg_44]
    rw [hg_44, cond_false] at h
    iterate 14 refine oo ?_
    refine AOps.nil (k _ ?_)
    refine AWp.ret ?_
    cases h; exact rt
end Go.Pv.Try

