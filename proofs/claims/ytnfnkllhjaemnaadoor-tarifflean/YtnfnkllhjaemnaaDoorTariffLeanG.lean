/- TariffLean answers true for every input, as its tied card says: under the conditions of the card (Rows, Cards, Tie), no more. Part 7 of 8: by one AI agent and its programs; no person has read it. -/
import Derived.Test.YtnfnkllhjaemnaaDoorTariffLeanA
import Derived.Test.YtnfnkllhjaemnaaDoorTariffLeanB
import Derived.Test.YtnfnkllhjaemnaaDoorTariffLeanC
import Derived.Test.YtnfnkllhjaemnaaDoorTariffLeanD
import Derived.Test.YtnfnkllhjaemnaaDoorTariffLeanE
import Derived.Test.YtnfnkllhjaemnaaDoorTariffLeanF
set_option linter.unusedSimpArgs false
set_option linter.unusedVariables false
set_option linter.all false

namespace Go.Pv.Tryd
open Go.Proofs Go.Pv
set_option maxHeartbeats 4000000 in
theorem m_tariff_walker_find_1_h_f95_f94_ok (n : Nat) : ∀ (o1 : Walker) (o2 : (List Rule)) (o3 : (List Rule)) (m1 : (List (Arr3_Int × Bool))) (mark1 : Int) (a1 : Int) (b1 : Int) (r : ((List Int) × Bool × (List (Arr3_Int × Bool)))) (h : m_tariff_walker_find_1_h_f95_f94 n o1 o2 o3 m1 mark1 a1 b1 = some r), ObjFn Tryd.prog G 79 [.d (.int .i64 mark1), .d (.int .u32 a1), .d (.int .u32 b1), .ptr 0 0 0, .ptr 1 0 0, .ptr 2 0 0, .ptr 3 0 0] [(0, ⟨72, 3, [.d (.agg [(.int .i64 o1.k), (.imm 2 (lenc Rule.pd o1.s)), (.imm 2 (lenc Rule.pd o1.t))])]⟩), (1, ⟨74, 1, [.func (.func 95) [.dptr 1 [(.fn (.func 94))] 0 0, .dptr 1 [(.imm 2 (lenc Rule.pd o2))] 0 0, .dptr 1 [(.imm 2 (lenc Rule.pd o3))] 0 0]]⟩), (2, ⟨117, 1, [.mp 4]⟩), (3, ⟨118, 1, [.func (.func 79) [.ptr 0 0 0, .ptr 1 0 0, .ptr 2 0 0, .ptr 3 0 0]]⟩), (4, ⟨117, 0, mels Arr3_Int.pd PD.bool m1⟩)] (.tuple [.d (.imm 1 (lenc (PD.int .i64) r.1)), .d (.bool r.2.1)]) [(0, ⟨72, 3, [.d (.agg [(.int .i64 o1.k), (.imm 2 (lenc Rule.pd o1.s)), (.imm 2 (lenc Rule.pd o1.t))])]⟩), (1, ⟨74, 1, [.func (.func 95) [.dptr 1 [(.fn (.func 94))] 0 0, .dptr 1 [(.imm 2 (lenc Rule.pd o2))] 0 0, .dptr 1 [(.imm 2 (lenc Rule.pd o3))] 0 0]]⟩), (2, ⟨117, 1, [.mp 4]⟩), (3, ⟨118, 1, [.func (.func 79) [.ptr 0 0 0, .ptr 1 0 0, .ptr 2 0 0, .ptr 3 0 0]]⟩), (4, ⟨117, 0, mels Arr3_Int.pd PD.bool r.2.2⟩)] := by
 induction n with
 | zero => intro o1 o2 o3 m1 mark1 a1 b1 r h; cases h
 | succ n ih =>
  intro o1 o2 o3 m1 mark1 a1 b1 r h
  replace h : m_tariff_walker_find_1_h_f95_f94_b (m_tariff_walker_find_1_h_f95_f94 n) o1 o2 o3 m1 mark1 a1 b1 = some r := h
  unfold m_tariff_walker_find_1_h_f95_f94_b at h
  refine ObjFn.pf Tryd.func79 Tryd.ntmps79 ?_
  refine sg fun K k => ?_
  iterate 2 refine oo ?_
  refine AOps.nil (k _ ?_)
  refine AWp.seq fun _ K_1 => ?_
  refine sg fun K k => ?_
  iterate 4 refine oo ?_
  refine AOps.nil (k _ ?_)
  refine cd h (fun h => ?_) (fun h => ?_)
  ·refine sd mo fun K k => ?_
   iterate 2 refine dd ?_
   obtain ⟨r1, hx_3, h⟩ := bind_some h
   refine dcl (m_tariff_set_first_ok a1 _ hx_3) ?_
   refine dd ?_
   obtain ⟨r2, hx_4, h⟩ := bind_some h
   refine dcl (m_tariff_set_first_ok b1 _ hx_4) ?_
   refine DOps.stop (by kernel_rfl) ?_
   obtain ⟨r3, hx_5, h⟩ := bind_some h
   refine clC (m_tariff_differ_2_f94_ok r1 r2 o2 o3 _ hx_5) ?_
   iterate 2 refine oo ?_
   refine AOps.nil (k _ ?_)
   refine AWp.sub (τ := ⟨[(10, .d (.imm 1 (lenc (PD.int .i64) []))), (11, .d (.bool r3))], [(0, ⟨72, 3, [.d (.agg [(.int .i64 o1.k), (.imm 2 (lenc Rule.pd o1.s)), (.imm 2 (lenc Rule.pd o1.t))])]⟩), (1, ⟨74, 1, [.func (.func 95) [.dptr 1 [(.fn (.func 94))] 0 0, .dptr 1 [(.imm 2 (lenc Rule.pd o2))] 0 0, .dptr 1 [(.imm 2 (lenc Rule.pd o3))] 0 0]]⟩), (2, ⟨117, 1, [.mp 4]⟩), (3, ⟨118, 1, [.func (.func 79) [.ptr 0 0 0, .ptr 1 0 0, .ptr 2 0 0, .ptr 3 0 0]]⟩), (4, ⟨117, 0, mels Arr3_Int.pd PD.bool m1⟩)], [], none⟩) sc ?_
   refine AWp.ret ?_
   cases h; exact rtO
  ·refine AWp.skip ?_
   refine K_1 _ ?_
   refine sg fun K k => ?_
   iterate 8 refine oo ?_
   refine AOps.nil (k _ ?_)
   refine AWp.seq fun _ K_6 => ?_
   refine sg fun K k => ?_
   iterate 2 refine oo ?_
   refine oml (k := (⟨mark1, (IntKind.i64.wrap a1), (IntKind.i64.wrap b1)⟩ : Arr3_Int)) (L := m1) (v0 := false) (encV := PD.bool) KE121 MU117 ty4 MZ4 (fun _ _ => .bool _) ?_
   refine AOps.nil (k _ ?_)
   refine cd h (fun h => ?_) (fun h => ?_)
   ·refine sg fun K k => ?_
    iterate 2 refine oo ?_
    refine AOps.nil (k _ ?_)
    refine AWp.sub (τ := ⟨[(10, .d (.imm 1 (lenc (PD.int .i64) []))), (11, .d (.bool false))], [(0, ⟨72, 3, [.d (.agg [(.int .i64 o1.k), (.imm 2 (lenc Rule.pd o1.s)), (.imm 2 (lenc Rule.pd o1.t))])]⟩), (1, ⟨74, 1, [.func (.func 95) [.dptr 1 [(.fn (.func 94))] 0 0, .dptr 1 [(.imm 2 (lenc Rule.pd o2))] 0 0, .dptr 1 [(.imm 2 (lenc Rule.pd o3))] 0 0]]⟩), (2, ⟨117, 1, [.mp 4]⟩), (3, ⟨118, 1, [.func (.func 79) [.ptr 0 0 0, .ptr 1 0 0, .ptr 2 0 0, .ptr 3 0 0]]⟩), (4, ⟨117, 0, mels Arr3_Int.pd PD.bool m1⟩)], [], none⟩) sc ?_
    refine AWp.ret ?_
    cases h; exact rtO
   ·refine AWp.skip ?_
    refine K_6 _ ?_
    refine sg fun K k => ?_
    refine oo ?_
    refine AOps.nil (k _ ?_)
    refine jm (ι := (List (Arr3_Int × Bool))) [5, 12] [0, 1, 3, 1000] (fun i t => t) (fun i t => (2, ⟨117, 1, [.mp 4]⟩) :: (4, ⟨117, 0, mels Arr3_Int.pd PD.bool i⟩) :: t) .inl h ?_ ?_
    ·intro _ hj_9 h
     refine sg fun K k => ?_
     iterate 5 refine oo ?_
     refine ol ?_
     obtain ⟨r4, hx_10, hj_9⟩ := bind_some hj_9
     refine cl (m_tariff_cuts_ok mark1 [o1.s, o1.t] _ hx_10) ?_
     iterate 2 refine oo ?_
     refine AOps.nil (k _ ?_)
     refine AWp.block ?_
     obtain ⟨x_15, hl_12, h2_13⟩ := bind_some hj_9
     refine lp (S := (Int × Int × (List (Arr3_Int × Bool)))) [0, 1, 2, 3, 5, 6, 12, 43, 44] [0, 1, 3, 1000] (fun i t => (13, .d (.int .i64 i.1)) :: (45, .d (.int .i64 i.2.1)) :: t) (fun i t => (2, ⟨117, 1, [.mp 4]⟩) :: (4, ⟨117, 0, mels Arr3_Int.pd PD.bool i.2.2⟩) :: t) hl_12 ?_ ?_; exact sb; clear hl_12
     rintro ⟨from1, v1, M2⟩ _ hb_14; unfold m_tariff_walker_find_1_h_f95_f94_l1 at hb_14; try dsimp only at hb_14
     try dsimp only
     refine sg fun K k => ?_
     refine oo ?_
     refine AOps.nil (k _ ?_)
     refine AWp.seq fun _ K_17 => ?_
     refine cd hb_14 (fun hb_14 => ?_) (fun hb_14 => ?_)
     ·refine AWp.skip ?_
      refine K_17 _ ?_
      refine AWp.seq fun _ K_19 => ?_
      refine AWp.block ?_
      refine sg fun K k => ?_
      obtain ⟨e1, ⟨f_20, f_21, f_22, f_23⟩, hb_14⟩ := idx_bind hb_14
      refine oo ?_
      refine oo ?_ (by intro K k; simp (disch := omega) only [go_sem, f_22, ↓reduceIte]; exact k)
      refine oo ?_
      refine AOps.nil (k _ ?_)
      refine AWp.seq fun _ K_24 => ?_
      refine sd mo fun K k => ?_
      iterate 8 refine dd ?_
      obtain ⟨r5, hx_25, hb_14⟩ := bind_some hb_14
      refine dcl (m_tariff_fits_ok o1.s mark1 from1 _ hx_25) ?_
      iterate 6 refine dd ?_
      obtain ⟨r6, hx_26, hb_14⟩ := bind_some hb_14
      refine dcl (m_tariff_fits_ok o1.t mark1 from1 _ hx_26) ?_
      refine dd ?_
      refine DOps.bar (by kernel_rfl) ?_
      refine BOps.hard (by kernel_rfl) ?_
      obtain ⟨r7, hx_27, hb_14⟩ := bind_some hb_14
      refine clU [(0, 0), (1, 1), (2, 2), (3, 3), (4, 4)] [] (ih o1 o2 o3 M2 (IntKind.i64.wrap (mark1 + 1)) (IntKind.u32.wrap ↑(BitVec.ofInt IntKind.u32.bits a1 &&& BitVec.ofInt IntKind.u32.bits r5).toNat) (IntKind.u32.wrap ↑(BitVec.ofInt IntKind.u32.bits b1 &&& BitVec.ofInt IntKind.u32.bits r6).toNat) _ hx_27) ?_
      refine AOps.nil ?_
      refine BOps.draw [] trivial (Nat.le_of_ble_eq_true rfl) ?_
      iterate 5 refine dd ?_
      refine DOps.nil (by kernel_rfl) (k _ ?_)
      refine sg fun K k => ?_
      refine oo ?_
      refine AOps.nil (k _ ?_)
      refine cd hb_14 (fun hb_14 => ?_) (fun hb_14 => ?_)
      ·refine sg fun K k => ?_
       obtain ⟨hg_29, hb_14⟩ := guardO_some hb_14
       iterate 6 refine oo ?_
       refine AOps.nil (k _ ?_)
       refine AWp.sub (τ := ⟨[(10, .d (.imm 1 (lenc (PD.int .i64) ([from1] ++ r7.1)))), (11, .d (.bool true))], [(0, ⟨72, 3, [.d (.agg [(.int .i64 o1.k), (.imm 2 (lenc Rule.pd o1.s)), (.imm 2 (lenc Rule.pd o1.t))])]⟩), (1, ⟨74, 1, [.func (.func 95) [.dptr 1 [(.fn (.func 94))] 0 0, .dptr 1 [(.imm 2 (lenc Rule.pd o2))] 0 0, .dptr 1 [(.imm 2 (lenc Rule.pd o3))] 0 0]]⟩), (2, ⟨117, 1, [.mp 4]⟩), (3, ⟨118, 1, [.func (.func 79) [.ptr 0 0 0, .ptr 1 0 0, .ptr 2 0 0, .ptr 3 0 0]]⟩), (4, ⟨117, 0, mels Arr3_Int.pd PD.bool r7.2.2⟩)], [], none⟩) sc ?_
       refine AWp.ret ?_
       refine lx hb_14 fun hx => ?_; cases hx; try dsimp only at h2_13
       cases h2_13; try dsimp only at h
       cases h; exact rtO
      ·refine AWp.skip ?_
       refine K_24 _ ?_
       refine AWp.reg ?_
       iterate 2 refine oo ?_
       refine AOps.nil ?_
       refine K_19 _ ?_
       refine AWp.reg ?_
       iterate 2 refine oo ?_
       refine AOps.nil ?_
       exact ln hb_14 sb
     ·refine AWp.exit ?_
      refine lx hb_14 fun hx => ?_; cases hx; try dsimp only at h2_13
      exact ln h2_13 sb
    ·rintro M1 h; dsimp only at h ⊢
     refine sg fun K k => ?_
     iterate 2 refine oo ?_
     refine oms (k := (⟨mark1, (IntKind.i64.wrap a1), (IntKind.i64.wrap b1)⟩ : Arr3_Int)) (L := M1) (v := true) (encV := PD.bool) KE121 MU117 ?_
     refine AOps.nil (k _ ?_)
     refine sg fun K k => ?_
     iterate 2 refine oo ?_
     refine AOps.nil (k _ ?_)
     refine AWp.sub (τ := ⟨[(10, .d (.imm 1 (lenc (PD.int .i64) []))), (11, .d (.bool false))], [(0, ⟨72, 3, [.d (.agg [(.int .i64 o1.k), (.imm 2 (lenc Rule.pd o1.s)), (.imm 2 (lenc Rule.pd o1.t))])]⟩), (1, ⟨74, 1, [.func (.func 95) [.dptr 1 [(.fn (.func 94))] 0 0, .dptr 1 [(.imm 2 (lenc Rule.pd o2))] 0 0, .dptr 1 [(.imm 2 (lenc Rule.pd o3))] 0 0]]⟩), (2, ⟨117, 1, [.mp 4]⟩), (3, ⟨118, 1, [.func (.func 79) [.ptr 0 0 0, .ptr 1 0 0, .ptr 2 0 0, .ptr 3 0 0]]⟩), (4, ⟨117, 0, mels Arr3_Int.pd PD.bool (mset (⟨mark1, (IntKind.i64.wrap a1), (IntKind.i64.wrap b1)⟩ : Arr3_Int) true M1)⟩)], [], none⟩) sc ?_
     refine AWp.ret ?_
     cases h; exact rtO
end Go.Pv.Tryd

namespace Go.Pv.Tryd
open Go.Proofs Go.Pv
theorem m_tariff_walker_find_f95_f94_ok (w1 : Walker) (wanted1 : (List Rule)) (wanted2 : (List Rule)) (r : ((List Int) × Bool)) (h : m_tariff_walker_find_f95_f94 w1 wanted1 wanted2 = some r) : PureFn Tryd.prog G 49 [.d (.agg [(.int .i64 w1.k), (.imm 2 (lenc Rule.pd w1.s)), (.imm 2 (lenc Rule.pd w1.t))]), .func (.func 95) [.dptr 1 [(.fn (.func 94))] 0 0, .dptr 1 [(.imm 2 (lenc Rule.pd wanted1))] 0 0, .dptr 1 [(.imm 2 (lenc Rule.pd wanted2))] 0 0]] (.tuple [.d (.imm 1 (lenc (PD.int .i64) r.1)), .d (.bool r.2)]) := by
 unfold m_tariff_walker_find_f95_f94 at h
 refine pf Tryd.func49 Tryd.ntmps49 ?_
 refine sg fun K k => ?_
 iterate 4 refine oo ?_
 refine AOps.nil (k _ ?_)
 refine sg fun K k => ?_
 refine omk (α := Arr3_Int) (β := Bool) Arr3_Int.pd PD.bool 1002 ?_
 iterate 2 refine oo ?_
 refine AOps.nil (k _ ?_)
 refine sg fun K k => ?_
 refine oo ?_
 refine AOps.nil (k _ ?_)
 refine sg fun K k => ?_
 iterate 2 refine oo ?_
 refine AOps.nil (k _ ?_)
 refine sd mo fun K k => ?_
 iterate 3 refine dd ?_
 obtain ⟨r1, hx_1, h⟩ := bind_some h
 refine dcl (m_tariff_all_ok w1.s _ hx_1) ?_
 iterate 2 refine dd ?_
 obtain ⟨r2, hx_2, h⟩ := bind_some h
 refine dcl (m_tariff_all_ok w1.t _ hx_2) ?_
 refine DOps.bar (by kernel_rfl) ?_
 refine BOps.hard (by kernel_rfl) ?_
 obtain ⟨r3, hx_3, h⟩ := bind_some h
 refine clU [(0, 1000), (1, 1001), (2, 1003), (3, 1004), (4, 1002)] [] (m_tariff_walker_find_1_h_f95_f94_ok 100 w1 wanted1 wanted2 [] 0 r1 r2 _ hx_3) ?_
 refine AOps.nil ?_
 refine BOps.draw [] trivial (Nat.le_of_ble_eq_true rfl) ?_
 iterate 4 refine dd ?_
 refine DOps.nil (by kernel_rfl) (k _ ?_)
 refine AWp.ret ?_
 cases h; exact rt
end Go.Pv.Tryd

namespace Go.Pv.Tryd
open Go.Proofs Go.Pv
theorem m_tariff_differ_ok (k1 : Int) (s1 : (List Rule)) (t1 : (List Rule)) (r : ((List Int) × Bool)) (h : m_tariff_differ k1 s1 t1 = some r) : PureFn Tryd.prog G 61 [.d (.int .i64 k1), .d (.imm 2 (lenc Rule.pd s1)), .d (.imm 2 (lenc Rule.pd t1))] (.tuple [.d (.imm 1 (lenc (PD.int .i64) r.1)), .d (.bool r.2)]) := by
 unfold m_tariff_differ at h
 refine pf Tryd.func61 Tryd.ntmps61 ?_
 refine sg fun K k => ?_
 iterate 4 refine oo ?_
 refine AOps.nil (k _ ?_)
 refine sg fun K k => ?_
 iterate 2 refine oo ?_
 refine AOps.nil (k _ ?_)
 refine sg fun K k => ?_
 iterate 5 refine oo ?_
 refine AOps.sub (τ := ⟨[(12, .d (.agg [(.int .i64 k1), (.imm 2 (lenc Rule.pd s1)), (.imm 2 (lenc Rule.pd t1))])), (13, .func (.func 95) [.dptr 1 [(.fn (.func 94))] 0 0, .dptr 1 [(.imm 2 (lenc Rule.pd s1))] 0 0, .dptr 1 [(.imm 2 (lenc Rule.pd t1))] 0 0])], [], [], none⟩) sc ?_
 obtain ⟨r1, hx_1, h⟩ := bind_some h
 refine clC (m_tariff_walker_find_f95_f94_ok (⟨k1, s1, t1⟩ : Walker) s1 t1 _ hx_1) ?_
 iterate 4 refine oo ?_
 refine AOps.nil (k _ ?_)
 refine AWp.ret ?_
 cases h; exact rt
end Go.Pv.Tryd

namespace Go.Pv.Tryd
open Go.Proofs Go.Pv
set_option maxHeartbeats 4000000 in
theorem m_tariff_Lean_ok (k1 : Int) (t1 : (List Rule)) (r : ((List Rule) × Int)) (h : m_tariff_Lean k1 t1 = some r) : PureFn Tryd.prog G 41 [.d (.int .i64 k1), .d (.imm 2 (lenc Rule.pd t1))] (.tuple [.d (.imm 2 (lenc Rule.pd r.1)), .d (.int .i64 r.2)]) := by
 unfold m_tariff_Lean at h
 refine pf Tryd.func41 Tryd.ntmps41 ?_
 refine sg fun K k => ?_
 iterate 2 refine oo ?_
 refine AOps.nil (k _ ?_)
 refine AWp.seq fun _ K_1 => ?_
 refine sg fun K k => ?_
 iterate 2 refine oo ?_
 refine ol ?_
 obtain ⟨r1, hx_2, h⟩ := bind_some h
 refine cl (m_tariff_checked_ok k1 [t1] _ hx_2) ?_
 refine oo ?_
 refine AOps.nil (k _ ?_)
 refine sg fun K k => ?_
 iterate 2 refine oo ?_
 refine AOps.nil (k _ ?_)
 refine cd h (fun h => ?_) (fun h => ?_)
 ·refine sg fun K k => ?_
  iterate 3 refine oo ?_
  refine AOps.nil (k _ ?_)
  refine AWp.ret ?_
  cases h; exact rt
 ·refine AWp.skip ?_
  refine K_1 _ ?_
  refine sg fun K k => ?_
  refine oo ?_
  refine AOps.nil (k _ ?_)
  refine AWp.sub (Sub.void 7 56 2 1000 (by rfl) (by rfl) (by decide) (by decide)) ?_
  simp only [eput, hput, reduceCtorEq, ↓reduceIte, Nat.reduceAdd, Nat.reduceMul, Nat.reduceLT, Nat.reduceLeDiff, Nat.reduceEqDiff, Nat.reduceBEq, Int.reduceToNat]
  refine jn (α := (List Rule)) [0] [] (fun i t => (7, .slc 1000 0 i.length) :: t) (fun i t => (1000, ⟨56, 2, dl (lenc Rule.pd i)⟩) :: t) h ?_ ?_
  ·intro _ hj_5
   refine sg fun K k => ?_
   iterate 3 refine oo ?_
   refine AOps.nil (k _ ?_)
   refine AWp.block ?_
   obtain ⟨x_10, hl_7, h2_8⟩ := bind_some hj_5
   refine lp (S := (Int × (List Rule))) [0, 21, 22] [] (fun i t => (7, .slc 1000 0 i.2.length) :: (23, .d (.int .i64 i.1)) :: t) (fun i t => (1000, ⟨56, 2, dl (lenc Rule.pd i.2)⟩) :: t) hl_7 ?_ ?_; exact sb; clear hl_7
   rintro ⟨v1, L2⟩ _ hb_9; unfold m_tariff_Lean_l1 at hb_9; try dsimp only at hb_9
   try dsimp only
   refine sg fun K k => ?_
   refine oo ?_
   refine AOps.nil (k _ ?_)
   refine AWp.seq fun _ K_12 => ?_
   refine cd hb_9 (fun hb_9 => ?_) (fun hb_9 => ?_)
   ·refine AWp.skip ?_
    refine K_12 _ ?_
    refine AWp.seq fun _ K_14 => ?_
    refine AWp.block ?_
    refine sg fun K k => ?_
    obtain ⟨e1, ⟨f_15, f_16, f_17, f_18⟩, hb_9⟩ := idx_bind hb_9
    refine oo ?_
    refine oo ?_ (by intro K k; simp (disch := omega) only [go_sem, f_17, ↓reduceIte]; exact k)
    iterate 2 refine oo ?_
    refine AOps.nil (k _ ?_)
    refine AWp.draw mo [] trivial ?_
    iterate 3 refine dd ?_
    obtain ⟨r2, hx_19, hb_9⟩ := bind_some hb_9
    refine dcl (RowFn.pure (clone_73 e1.Bands _ hx_19)) ?_
    iterate 3 refine dd ?_
    refine ddl ?_
    refine DOps.stop (by kernel_rfl) ?_
    obtain ⟨hg_20, hb_9⟩ := guardO_some hb_9
    iterate 2 refine oo ?_
    refine AOps.nil ?_
    refine K_14 _ ?_
    refine AWp.reg ?_
    iterate 2 refine oo ?_
    refine AOps.nil ?_
    exact ln hb_9 sb
   ·refine AWp.exit ?_
    refine lx hb_9 fun hx => ?_; cases hx; try dsimp only at h2_8
    cases h2_8; exact sb
  ·rintro L1 h; dsimp only at h ⊢
   refine jn (α := (List Rule)) [] [] (fun i t => (7, .d (.imm 2 (lenc Rule.pd i))) :: t) (fun i t => t) h ?_ ?_
   ·intro _ hj_22
    refine sg fun K k => ?_
    iterate 4 refine oo ?_
    refine AOps.nil (k _ ?_)
    refine AWp.block ?_
    obtain ⟨x_27, hl_24, h2_25⟩ := bind_some hj_22
    refine lp (S := ((List Rule) × Int)) [0] [] (fun i t => (7, .d (.imm 2 (lenc Rule.pd i.1))) :: (10, .d (.int .i64 i.2)) :: t) (fun i t => t) hl_24 ?_ ?_; exact sc; clear hl_24
    rintro ⟨out2, i1⟩ _ hb_26; unfold m_tariff_Lean_l2 at hb_26; try dsimp only at hb_26
    try dsimp only
    refine AWp.seq fun _ K_29 => ?_
    refine sg fun K k => ?_
    iterate 2 refine oo ?_
    refine AOps.nil (k _ ?_)
    refine cd hb_26 (fun hb_26 => ?_) (fun hb_26 => ?_)
    ·refine AWp.skip ?_
     refine K_29 _ ?_
     refine jn (α := (List Rule)) [0, 10] [] (fun i t => (7, .d (.imm 2 (lenc Rule.pd i))) :: t) (fun i t => t) hb_26 ?_ ?_
     ·intro _ hj_32
      refine AWp.block ?_
      refine sg fun K k => ?_
      refine oo ?_
      obtain ⟨r3, hx_33, hj_32⟩ := bind_some hj_32
      refine clRow 1000 (clone_75 out2 _ hx_33) ?_
      obtain ⟨hg_34, hj_32⟩ := guardO_some hj_32
      iterate 3 refine oo ?_
      refine clH 1000 (delete_hand r3 i1 (IntKind.i64.wrap (i1 + 1)) hg_34) ?_
      refine AOps.sub (τ := ⟨[(0, .d (.int .i64 k1)), (7, .d (.imm 2 (lenc Rule.pd out2))), (10, .d (.int .i64 i1)), (49, .d (.imm 2 (lenc Rule.pd (List.take (delN r3 i1 (IntKind.i64.wrap (i1 + 1))) (delP r3 i1 (IntKind.i64.wrap (i1 + 1)))))))], [], [], none⟩) sct ?_
      refine oo ?_
      refine AOps.nil (k _ ?_)
      refine sg fun K k => ?_
      iterate 3 refine oo ?_
      obtain ⟨r4, hx_35, hj_32⟩ := bind_some hj_32
      refine cl (m_tariff_differ_ok k1 out2 (List.take (delN r3 i1 (IntKind.i64.wrap (i1 + 1))) (delP r3 i1 (IntKind.i64.wrap (i1 + 1)))) _ hx_35) ?_
      iterate 5 refine oo ?_
      refine AOps.nil (k _ ?_)
      refine sg fun K k => ?_
      iterate 2 refine oo ?_
      refine AOps.nil (k _ ?_)
      refine cd hj_32 (fun hj_32 => ?_) (fun hj_32 => ?_)
      ·refine AWp.reg ?_
       iterate 2 refine oo ?_
       refine AOps.nil ?_
       cases hj_32; exact sb
      ·refine AWp.skip ?_
       cases hj_32; exact sb
     ·rintro out3 hb_26; dsimp only at hb_26 ⊢
      refine AWp.reg ?_
      iterate 3 refine oo ?_
      refine AOps.nil ?_
      exact ln hb_26 sb
    ·refine AWp.exit ?_
     refine lx hb_26 fun hx => ?_; cases hx; try dsimp only at h2_25
     cases h2_25; exact sb
   ·rintro out1 h; dsimp only at h ⊢
    refine sg fun K k => ?_
    iterate 3 refine oo ?_
    refine AOps.nil (k _ ?_)
    refine AWp.ret ?_
    cases h; exact rt
end Go.Pv.Tryd

namespace Go.Pv.Tryd
open Go.Proofs Go.Pv
set_option maxHeartbeats 4000000 in
theorem m_cocketlaw02_rules_ok (a1 : (List Rule)) (b1 : (List Rule)) (r : Bool) (h : m_cocketlaw02_rules a1 b1 = some r) : PureFn Tryd.prog G 24 [.d (.imm 2 (lenc Rule.pd a1)), .d (.imm 2 (lenc Rule.pd b1))] (.d (.bool r)) := by
 unfold m_cocketlaw02_rules at h
 refine pf Tryd.func24 Tryd.ntmps24 ?_
 refine sg fun K k => ?_
 refine oo ?_
 refine AOps.nil (k _ ?_)
 refine AWp.seq fun _ K_1 => ?_
 refine sg fun K k => ?_
 iterate 5 refine oo ?_
 refine AOps.nil (k _ ?_)
 refine cd h (fun h => ?_) (fun h => ?_)
 ·refine sg fun K k => ?_
  refine oo ?_
  refine AOps.nil (k _ ?_)
  refine AWp.ret ?_
  cases h; exact rt
 ·refine AWp.skip ?_
  refine K_1 _ ?_
  refine jm (ι := Unit) [] [] (fun i t => t) (fun i t => t) .inl h ?_ ?_
  ·intro _ hj_4 h
   refine sg fun K k => ?_
   refine oo ?_
   refine AOps.nil (k _ ?_)
   refine AWp.block ?_
   obtain ⟨x_9, hl_6, h2_7⟩ := bind_some hj_4
   refine lp (S := Int) [0, 1] [] (fun i t => (5, .d (.int .i64 i)) :: t) (fun i t => t) hl_6 ?_ ?_; exact sb; clear hl_6
   rintro i1 _ hb_8; unfold m_cocketlaw02_rules_l1 at hb_8; try dsimp only at hb_8
   try dsimp only
   refine AWp.seq fun _ K_11 => ?_
   refine sg fun K k => ?_
   iterate 4 refine oo ?_
   refine AOps.nil (k _ ?_)
   refine cd hb_8 (fun hb_8 => ?_) (fun hb_8 => ?_)
   ·refine AWp.skip ?_
    refine K_11 _ ?_
    refine jm (ι := Unit) [0, 1, 5] [] (fun i t => t) (fun i t => t) .inl hb_8 ?_ ?_
    ·intro _ hj_14 hb_8
     refine AWp.block ?_
     refine AWp.seq fun _ K_15 => ?_
     refine sd mo fun K k => ?_
     obtain ⟨e1, ⟨f_16, f_17, f_18, f_19⟩, hj_14⟩ := idx_bind hj_14
     iterate 4 refine dd ?_
     refine dd ?_ (by intro K k; simp (disch := omega) only [go_sem, f_18, ↓reduceIte]; exact k)
     obtain ⟨e2, ⟨f_20, f_21, f_22, f_23⟩, hj_14⟩ := idx_bind hj_14
     iterate 4 refine dd ?_
     refine dd ?_ (by intro K k; simp (disch := omega) only [go_sem, f_22, ↓reduceIte]; exact k)
     iterate 2 refine dd ?_
     rcases bt (decide (¬e1.Code = e2.Code)) with hg_24 | hg_24
     ·rw [hg_24]
      rw [hg_24, cond_true] at hj_14
      iterate 14 refine dd ?_
      refine DOps.nil (by kernel_rfl) (k _ ?_)
      refine cdt ?_
      refine sg fun K k => ?_
      refine oo ?_
      refine AOps.nil (k _ ?_)
      refine AWp.ret ?_
      cases hj_14; try dsimp only at hb_8
      refine lx hb_8 fun hx => ?_; cases hx; try dsimp only at h2_7
      cases h2_7; try dsimp only at h
      cases h; exact rt
     ·rw [hg_24]
      rw [hg_24, cond_false] at hj_14
      iterate 4 refine dd ?_
      refine dd ?_ (by intro K k; simp (disch := omega) only [go_sem, f_18, ↓reduceIte]; exact k)
      iterate 5 refine dd ?_
      refine dd ?_ (by intro K k; simp (disch := omega) only [go_sem, f_22, ↓reduceIte]; exact k)
      iterate 3 refine dd ?_
      refine DOps.nil (by kernel_rfl) (k _ ?_)
      refine cd hj_14 (fun hj_14 => ?_) (fun hj_14 => ?_)
      ·refine sg fun K k => ?_
       refine oo ?_
       refine AOps.nil (k _ ?_)
       refine AWp.ret ?_
       cases hj_14; try dsimp only at hb_8
       refine lx hb_8 fun hx => ?_; cases hx; try dsimp only at h2_7
       cases h2_7; try dsimp only at h
       cases h; exact rt
      ·refine AWp.skip ?_
       refine K_15 _ ?_
       refine sg fun K k => ?_
       refine oo ?_
       refine AOps.nil (k _ ?_)
       refine AWp.block ?_
       obtain ⟨x_61, hl_58, h2_59⟩ := bind_some hj_14
       refine lp (S := Int) [0, 1, 5, 30, 31, 32, 33, 34, 35, 36, 37, 38, 39, 40, 41, 42] [] (fun i t => (6, .d (.int .i64 i)) :: t) (fun i t => t) hl_58 ?_ ?_; exact sb; clear hl_58
       rintro k2 _ hb_60; unfold m_cocketlaw02_rules_l3 at hb_60; try dsimp only at hb_60
       try dsimp only
       refine AWp.seq fun _ K_63 => ?_
       refine sg fun K k => ?_
       obtain ⟨e8, ⟨f_64, f_65, f_66, f_67⟩, hb_60⟩ := idx_bind hb_60
       iterate 5 refine oo ?_
       refine oo ?_ (by intro K k; simp (disch := omega) only [go_sem, f_66, ↓reduceIte]; exact k)
       iterate 2 refine oo ?_
       refine AOps.nil (k _ ?_)
       refine cd hb_60 (fun hb_60 => ?_) (fun hb_60 => ?_)
       ·refine AWp.skip ?_
        refine K_63 _ ?_
        refine AWp.seq fun _ K_69 => ?_
        refine AWp.block ?_
        refine sd mo fun K k => ?_
        obtain ⟨e9, ⟨f_70, f_71, f_72, f_73⟩, hb_60⟩ := idx_bind hb_60
        iterate 4 refine dd ?_
        refine dd ?_ (by intro K k; simp (disch := omega) only [go_sem, f_72, ↓reduceIte]; exact k)
        obtain ⟨e10, ⟨f_74, f_75, f_76, f_77⟩, hb_60⟩ := idx_bind hb_60
        iterate 2 refine dd ?_
        refine dd ?_ (by intro K k; simp (disch := omega) only [go_sem, f_76, ↓reduceIte]; exact k)
        obtain ⟨e11, ⟨f_78, f_79, f_80, f_81⟩, hb_60⟩ := idx_bind hb_60
        iterate 4 refine dd ?_
        refine dd ?_ (by intro K k; simp (disch := omega) only [go_sem, f_80, ↓reduceIte]; exact k)
        obtain ⟨e12, ⟨f_82, f_83, f_84, f_85⟩, hb_60⟩ := idx_bind hb_60
        iterate 2 refine dd ?_
        refine dd ?_ (by intro K k; simp (disch := omega) only [go_sem, f_84, ↓reduceIte]; exact k)
        refine ddx ?_ (by intro K k; simp (disch := omega) only [go_sem, fsl61, ↓reduceIte]; exact k)
        refine DOps.nil (by kernel_rfl) (k _ ?_)
        refine cd hb_60 (fun hb_60 => ?_) (fun hb_60 => ?_)
        ·refine sg fun K k => ?_
         refine oo ?_
         refine AOps.nil (k _ ?_)
         refine AWp.ret ?_
         refine lx hb_60 fun hx => ?_; cases hx; try dsimp only at h2_59
         cases h2_59; try dsimp only at hb_8
         refine lx hb_8 fun hx => ?_; cases hx; try dsimp only at h2_7
         cases h2_7; try dsimp only at h
         cases h; exact rt
        ·refine AWp.skip ?_
         refine K_69 _ ?_
         refine AWp.reg ?_
         iterate 3 refine oo ?_
         refine AOps.nil ?_
         exact ln hb_60 sb
       ·refine AWp.exit ?_
        refine lx hb_60 fun hx => ?_; cases hx; try dsimp only at h2_59
        exact ln h2_59 sb
    ·rintro _ hb_8; dsimp only at hb_8 ⊢
     refine AWp.reg ?_
     iterate 3 refine oo ?_
     refine AOps.nil ?_
     exact ln hb_8 sb
   ·refine AWp.exit ?_
    refine lx hb_8 fun hx => ?_; cases hx; try dsimp only at h2_7
    exact ln h2_7 sb
  ·rintro _ h; dsimp only at h ⊢
   refine sg fun K k => ?_
   refine oo ?_
   refine AOps.nil (k _ ?_)
   refine AWp.ret ?_
   cases h; exact rt
end Go.Pv.Tryd

namespace Go.Pv.Tryd
open Go.Proofs Go.Pv
theorem m_tariff_Differ_ok (k1 : Int) (s1 : (List Rule)) (t1 : (List Rule)) (r : ((List Int) × Int)) (h : m_tariff_Differ k1 s1 t1 = some r) : PureFn Tryd.prog G 32 [.d (.int .i64 k1), .d (.imm 2 (lenc Rule.pd s1)), .d (.imm 2 (lenc Rule.pd t1))] (.tuple [.d (.imm 1 (lenc (PD.int .i64) r.1)), .d (.int .i64 r.2)]) := by
 unfold m_tariff_Differ at h
 refine pf Tryd.func32 Tryd.ntmps32 ?_
 refine sg fun K k => ?_
 iterate 2 refine oo ?_
 refine AOps.nil (k _ ?_)
 refine AWp.seq fun _ K_1 => ?_
 refine sg fun K k => ?_
 iterate 3 refine oo ?_
 refine ol ?_
 obtain ⟨r1, hx_2, h⟩ := bind_some h
 refine cl (m_tariff_checked_ok k1 [s1, t1] _ hx_2) ?_
 refine oo ?_
 refine AOps.nil (k _ ?_)
 refine sg fun K k => ?_
 iterate 2 refine oo ?_
 refine AOps.nil (k _ ?_)
 refine cd h (fun h => ?_) (fun h => ?_)
 ·refine sg fun K k => ?_
  iterate 3 refine oo ?_
  refine AOps.nil (k _ ?_)
  refine AWp.ret ?_
  cases h; exact rt
 ·refine AWp.skip ?_
  refine K_1 _ ?_
  refine sg fun K k => ?_
  iterate 3 refine oo ?_
  obtain ⟨r2, hx_4, h⟩ := bind_some h
  refine cl (m_tariff_differ_ok k1 s1 t1 _ hx_4) ?_
  iterate 2 refine oo ?_
  obtain ⟨r3, hx_5, h⟩ := bind_some h
  refine cl (m_tariff_found_ok r2.1 r2.2 _ hx_5) ?_
  iterate 4 refine oo ?_
  refine AOps.nil (k _ ?_)
  refine AWp.ret ?_
  cases h; exact rt
end Go.Pv.Tryd

namespace Go.Pv.Tryd
open Go.Proofs Go.Pv
set_option maxHeartbeats 4000000 in
theorem m_cocketlaw02_TariffLean_ok (k1 : Int) (t1 : (List Rule)) (r : Bool) (h : m_cocketlaw02_TariffLean k1 t1 = some r) : PureFn Tryd.prog G 15 [.d (.int .i64 k1), .d (.imm 2 (lenc Rule.pd t1))] (.d (.bool r)) := by
 unfold m_cocketlaw02_TariffLean at h
 refine pf Tryd.func15 Tryd.ntmps15 ?_
 refine sg fun K k => ?_
 refine oo ?_
 refine AOps.nil (k _ ?_)
 refine AWp.seq fun _ K_1 => ?_
 refine sg fun K k => ?_
 iterate 2 refine oo ?_
 obtain ⟨r1, hx_2, h⟩ := bind_some h
 refine cl (m_cocketlaw02_few_ok k1 t1 _ hx_2) ?_
 refine oo ?_
 refine AOps.nil (k _ ?_)
 refine cd h (fun h => ?_) (fun h => ?_)
 ·refine sg fun K k => ?_
  obtain ⟨r2, hx_4, h⟩ := bind_some h
  refine cl (m_cocketlaw02_alive_ok _ hx_4) ?_
  refine oo ?_
  refine AOps.nil (k _ ?_)
  refine AWp.ret ?_
  cases h; exact rt
 ·refine AWp.skip ?_
  refine K_1 _ ?_
  refine sg fun K k => ?_
  iterate 2 refine oo ?_
  obtain ⟨r3, hx_5, h⟩ := bind_some h
  refine cl (m_tariff_Lean_ok k1 t1 _ hx_5) ?_
  iterate 5 refine oo ?_
  refine AOps.nil (k _ ?_)
  refine AWp.seq fun _ K_6 => ?_
  refine sg fun K k => ?_
  iterate 2 refine oo ?_
  refine AOps.nil (k _ ?_)
  refine cd h (fun h => ?_) (fun h => ?_)
  ·refine sg fun K k => ?_
   iterate 4 refine oo ?_
   obtain ⟨b1, hc_8, h⟩ := bind_some h
   refine ct 2 [] [] (fun  t => (33, .d (.bool b1)) :: t) ?_ ?_
   ·rcases bt (decide ((r3.1.length : Int) = 0)) with hg_10 | hg_10
    ·rw [hg_10]
     rw [hg_10, cond_true] at hc_8
     obtain ⟨r4, hx_9, hc_8⟩ := bind_some hc_8
     refine cl (m_cocketlaw02_alive_ok _ hx_9) ?_
     refine oo ?_
     refine AOps.nil ?_
     cases hc_8
     exact sb
    ·rw [hg_10]
     rw [hg_10, cond_false] at hc_8
     iterate 2 refine oo ?_
     refine AOps.nil ?_
     cases hc_8
     exact sb
   refine oo ?_
   refine AOps.nil (k _ ?_)
   refine AWp.ret ?_
   cases h; exact rt
  ·refine AWp.skip ?_
   refine K_6 _ ?_
   refine sg fun K k => ?_
   refine oo ?_
   refine AOps.nil (k _ ?_)
   refine jm (ι := Unit) [0, 1, 5] [] (fun i t => t) (fun i t => t) .inl h ?_ ?_
   ·intro _ hj_12 h
    refine sg fun K k => ?_
    refine oo ?_
    refine AOps.nil (k _ ?_)
    refine AWp.block ?_
    obtain ⟨x_17, hl_14, h2_15⟩ := bind_some hj_12
    refine lp (S := (Int × Int)) [0, 1, 5] [] (fun i t => (7, .d (.int .i64 i.1)) :: (8, .d (.int .i64 i.2)) :: t) (fun i t => t) hl_14 ?_ ?_; exact sb; clear hl_14
    rintro ⟨at1, i1⟩ _ hb_16; unfold m_cocketlaw02_TariffLean_l1 at hb_16; try dsimp only at hb_16
    try dsimp only
    refine AWp.seq fun _ K_19 => ?_
    refine sg fun K k => ?_
    iterate 4 refine oo ?_
    refine AOps.nil (k _ ?_)
    refine cd hb_16 (fun hb_16 => ?_) (fun hb_16 => ?_)
    ·refine AWp.skip ?_
     refine K_19 _ ?_
     refine jm (ι := Int) [0, 1, 5, 8] [] (fun i t => (7, .d (.int .i64 i)) :: t) (fun i t => t) .inl hb_16 ?_ ?_
     ·intro _ hj_22 hb_16
      refine AWp.block ?_
      refine jn (α := Int) [0, 1, 5, 8] [] (fun i t => (7, .d (.int .i64 i)) :: t) (fun i t => t) hj_22 ?_ ?_
      ·intro _ hj_24
       refine AWp.block ?_
       obtain ⟨x_29, hl_26, h2_27⟩ := bind_some hj_24
       refine lp (S := Int) [0, 1, 5, 8] [] (fun i t => (7, .d (.int .i64 i)) :: t) (fun i t => t) hl_26 ?_ ?_; exact sb; clear hl_26
       rintro at4 _ hb_28; unfold m_cocketlaw02_TariffLean_l2 at hb_28; try dsimp only at hb_28
       try dsimp only
       refine AWp.seq fun _ K_31 => ?_
       refine sd mo fun K k => ?_
       iterate 5 refine dd ?_
       rcases bt (decide (at4 < (t1.length : Int))) with hg_32 | hg_32
       ·rw [hg_32]
        rw [hg_32, cond_true] at hb_28
        obtain ⟨hg_33, hb_28⟩ := guardO_some hb_28
        obtain ⟨hg_34, hb_28⟩ := guardO_some hb_28
        iterate 10 refine dd ?_
        obtain ⟨r5, hx_35, hb_28⟩ := bind_some hb_28
        refine dcl (m_cocketlaw02_rules_ok ((t1.drop (at4).toNat).take (((IntKind.i64.wrap (at4 + 1)) : Int) - at4).toNat) ((r3.1.drop (i1).toNat).take (((IntKind.i64.wrap (i1 + 1)) : Int) - i1).toNat) _ hx_35) ?_
        iterate 2 refine dd ?_
        refine DOps.nil (by kernel_rfl) (k _ ?_)
        refine cd hb_28 (fun hb_28 => ?_) (fun hb_28 => ?_)
        ·refine AWp.skip ?_
         refine K_31 _ ?_
         refine AWp.block ?_
         refine AWp.reg ?_
         iterate 3 refine oo ?_
         refine AOps.nil ?_
         exact ln hb_28 sb
        ·refine AWp.exit ?_
         refine lx hb_28 fun hx => ?_; cases hx; try dsimp only at h2_27
         cases h2_27; exact sb
       ·rw [hg_32]
        rw [hg_32, cond_false] at hb_28
        iterate 13 refine dd ?_
        refine DOps.nil (by kernel_rfl) (k _ ?_)
        refine cdf ?_
        refine AWp.exit ?_
        refine lx hb_28 fun hx => ?_; cases hx; try dsimp only at h2_27
        cases h2_27; exact sb
      ·rintro at3 hj_22; dsimp only at hj_22 ⊢
       refine AWp.seq fun _ K_38 => ?_
       refine sg fun K k => ?_
       iterate 4 refine oo ?_
       refine AOps.nil (k _ ?_)
       refine cd hj_22 (fun hj_22 => ?_) (fun hj_22 => ?_)
       ·refine sg fun K k => ?_
        refine oo ?_
        refine AOps.nil (k _ ?_)
        refine AWp.ret ?_
        cases hj_22; try dsimp only at hb_16
        refine lx hb_16 fun hx => ?_; cases hx; try dsimp only at h2_15
        cases h2_15; try dsimp only at h
        cases h; exact rt
       ·refine AWp.skip ?_
        refine K_38 _ ?_
        refine AWp.reg ?_
        iterate 3 refine oo ?_
        refine AOps.nil ?_
        exact ln hj_22 sb
     ·rintro at2 hb_16; dsimp only at hb_16 ⊢
      refine AWp.reg ?_
      iterate 3 refine oo ?_
      refine AOps.nil ?_
      exact ln hb_16 sb
    ·refine AWp.exit ?_
     refine lx hb_16 fun hx => ?_; cases hx; try dsimp only at h2_15
     exact ln h2_15 sb
   ·rintro _ h; dsimp only at h ⊢
    refine sg fun K k => ?_
    iterate 3 refine oo ?_
    obtain ⟨r6, hx_40, h⟩ := bind_some h
    refine cl (m_tariff_Differ_ok k1 r3.1 t1 _ hx_40) ?_
    iterate 5 refine oo ?_
    refine AOps.nil (k _ ?_)
    refine sg fun K k => ?_
    iterate 2 refine oo ?_
    obtain ⟨r7, hx_41, h⟩ := bind_some h
    refine cl (m_tariff_Dead_ok k1 r3.1 _ hx_41) ?_
    iterate 5 refine oo ?_
    refine AOps.nil (k _ ?_)
    refine sg fun K k => ?_
    iterate 2 refine oo ?_
    obtain ⟨r8, hx_42, h⟩ := bind_some h
    refine cl (m_tariff_Lean_ok k1 r3.1 _ hx_42) ?_
    iterate 5 refine oo ?_
    refine AOps.nil (k _ ?_)
    refine sg fun K k => ?_
    iterate 3 refine oo ?_
    refine ct 3 [5, 11, 13, 14] [] (fun  t => (90, .d (.bool ((decide (r6.2 = 10)) && (decide (r7.2 = 0))))) :: t) ?_ ?_
    ·rcases bt (decide (r6.2 = 10)) with hg_44 | hg_44
     ·rw [hg_44]
      iterate 3 refine oo ?_
      refine AOps.nil ?_
      exact sb
     ·rw [hg_44]
      iterate 3 refine oo ?_
      refine AOps.nil ?_
      exact sb
    refine oo ?_
    refine ct 4 [5, 13, 14] [] (fun  t => (95, .d (.bool (((decide (r6.2 = 10)) && (decide (r7.2 = 0))) && (decide ((r7.1.length : Int) = 0))))) :: t) ?_ ?_
    ·rcases bt ((decide (r6.2 = 10)) && (decide (r7.2 = 0))) with hg_46 | hg_46
     ·rw [hg_46]
      iterate 4 refine oo ?_
      refine AOps.nil ?_
      exact sb
     ·rw [hg_46]
      iterate 4 refine oo ?_
      refine AOps.nil ?_
      exact sb
    refine oo ?_
    refine ct 3 [5, 13] [] (fun  t => (99, .d (.bool ((((decide (r6.2 = 10)) && (decide (r7.2 = 0))) && (decide ((r7.1.length : Int) = 0))) && (decide (r8.2 = 0))))) :: t) ?_ ?_
    ·rcases bt (((decide (r6.2 = 10)) && (decide (r7.2 = 0))) && (decide ((r7.1.length : Int) = 0))) with hg_48 | hg_48
     ·rw [hg_48]
      iterate 3 refine oo ?_
      refine AOps.nil ?_
      exact sb
     ·rw [hg_48]
      iterate 3 refine oo ?_
      refine AOps.nil ?_
      exact sb
    refine oo ?_
    obtain ⟨b2, hc_49, h⟩ := bind_some h
    refine ct 4 [] [] (fun  t => (104, .d (.bool b2)) :: t) ?_ ?_
    ·rcases bt ((((decide (r6.2 = 10)) && (decide (r7.2 = 0))) && (decide ((r7.1.length : Int) = 0))) && (decide (r8.2 = 0))) with hg_51 | hg_51
     ·rw [hg_51]
      rw [hg_51, cond_true] at hc_49
      iterate 2 refine oo ?_
      obtain ⟨r9, hx_50, hc_49⟩ := bind_some hc_49
      refine cl (m_cocketlaw02_rules_ok r8.1 r3.1 _ hx_50) ?_
      refine oo ?_
      refine AOps.nil ?_
      cases hc_49
      exact sb
     ·rw [hg_51]
      rw [hg_51, cond_false] at hc_49
      iterate 4 refine oo ?_
      refine AOps.nil ?_
      cases hc_49
      exact sb
    refine oo ?_
    obtain ⟨b3, hc_52, h⟩ := bind_some h
    refine ct 2 [] [] (fun  t => (107, .d (.bool b3)) :: t) ?_ ?_
    ·rcases bt b2 with hg_54 | hg_54
     ·rw [hg_54]
      rw [hg_54, cond_true] at hc_52
      obtain ⟨r10, hx_53, hc_52⟩ := bind_some hc_52
      refine cl (m_cocketlaw02_alive_ok _ hx_53) ?_
      refine oo ?_
      refine AOps.nil ?_
      cases hc_52
      exact sb
     ·rw [hg_54]
      rw [hg_54, cond_false] at hc_52
      iterate 2 refine oo ?_
      refine AOps.nil ?_
      cases hc_52
      exact sb
    refine oo ?_
    refine AOps.nil (k _ ?_)
    refine AWp.ret ?_
    cases h; exact rt
end Go.Pv.Tryd

